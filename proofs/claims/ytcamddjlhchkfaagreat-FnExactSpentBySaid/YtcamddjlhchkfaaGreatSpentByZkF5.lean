/- What functions of the program compute, each as a plain function, and that they do. Conditions: as each theorem states them. -/
import Derived.Test.YtcamddjlhchkfaaGreatSpentByZkF4
namespace Go.Proofs.YtcamddjlhchkfaaGreat.Zk
open Go Go.RowKit Go.IntWalk Go.Proofs
set_option linter.unusedVariables false
set_option linter.unusedSimpArgs false
set_option maxRecDepth 100000
set_option maxHeartbeats 4000000
def slices_Index_impl_Ref.l0 (x0 : List Ref) (x1 : Ref) : Nat → Int → Option (Int ⊕ Unit)
  | 0, _ => none
  | k + 1, a3424 => (bif (decide (a3424 < (x0.length : Int))) then (chk (idxOk a3424 x0.length) (bif ((x1.fTx == ((gt x0 a3424).fTx)) && (x1.fAt == ((gt x0 a3424).fAt))) then some (.inl a3424) else slices_Index_impl_Ref.l0 x0 x1 k (wrap64 (a3424 + 1)))) else some (.inr ()))
theorem slices_Index_impl_Ref.l0_z (x0 : List Ref) (x1 : Ref) (a3424 : Int) : slices_Index_impl_Ref.l0 x0 x1 0 a3424 = none := rfl
theorem slices_Index_impl_Ref.l0_s (x0 : List Ref) (x1 : Ref) (k : Nat) (a3424 : Int) : slices_Index_impl_Ref.l0 x0 x1 (k + 1) a3424 = (bif (decide (a3424 < (x0.length : Int))) then (chk (idxOk a3424 x0.length) (bif ((x1.fTx == ((gt x0 a3424).fTx)) && (x1.fAt == ((gt x0 a3424).fAt))) then some (.inl a3424) else slices_Index_impl_Ref.l0 x0 x1 k (wrap64 (a3424 + 1)))) else some (.inr ())) := rfl
def slices_Index_impl_Ref.f (k : Nat) (x0 : List Ref) (x1 : Ref) : Option Int := ((slices_Index_impl_Ref.l0 x0 x1 k 0).bind fun o3418 => thn o3418 (fun r => some r) (fun _ => some (-1)))
theorem slices_Index_impl_Ref.calls {k : Nat} {x0 : List Ref} {x1 : Ref} {p0 : Value} {w : World} (hp0 : RdS kRef w p0 x0) {r : Int} (H : slices_Index_impl_Ref.f k x0 x1 = some r) :
    Calls Tryz.prog 117 ([p0, .agg #[(.int .i64 x1.fTx), (.int .i64 x1.fAt)]] : List Value).toArray w (fun e w_ => ∃ v, e = .returned v ∧ v = (.int .i64 r) ∧ Mem w [] w_ []) := by
  have HM := Mem.start w
  refine calls_run (N := 19) Tryz.func117 rfl rfl rfl rfl ?_
  unfold slices_Index_impl_Ref.f at H
  refine run_seq ?_
  refine run_region rfl ?_
  refine ops_does rfl (guard_none rfl) rfl rfl (does_box (cs := [.int .i64 x1.fTx, .int .i64 x1.fAt]) rfl rfl rfl HM) ?_
  rintro _ w3404 ⟨b3401, rfl, HM⟩
  refine ops_ex rfl (guard_none rfl) rfl rfl (ex_assign rfl rfl) ?_
  refine ops_nil ?_
  refine at_then ?_
  obtain ⟨o3418, ho3419, H⟩ := bind_some H
  refine run_mid (fun ρ_ w_ => Sum.inr () = o3418 ∧ ρ_ = [] ∧ Mem w [] w_ []) ?_ ?_
  · skip
    refine run_seq ?_
    refine run_region rfl ?_
    refine ops_ex rfl (guard_none rfl) rfl rfl (ex_move rfl rfl) ?_
    refine ops_ex rfl (guard_none rfl) rfl rfl (ex_len (d := kRef) (xs := x0) rfl rfl Tryz.underlying34 hp0) ?_
    refine ops_ex rfl (guard_none rfl) rfl rfl (ex_move rfl rfl) ?_
    refine ops_nil ?_
    refine at_then ?_
    refine run_block ?_
    refine run_loop (fun k_ ρ_ w_ => ∃ a3424 : Int, slices_Index_impl_Ref.l0 x0 x1 k_ a3424 = some o3418 ∧ ρ_ = [(0, p0), (3, .pointer (some ⟨b3401, 0, none⟩)), (7, .int .i64 (x0.length : Int)), (8, .int .i64 a3424)] ∧ Mem w [] w_ [box b3401 56 [.int .i64 x1.fTx, .int .i64 x1.fAt]]) k (ρ1 := [(0, p0), (3, .pointer (some ⟨b3401, 0, none⟩)), (7, .int .i64 (x0.length : Int)), (8, .int .i64 0)]) ⟨_, ho3419, rfl, HM⟩ (Sub.cons rfl (Sub.cons rfl (Sub.cons rfl (Sub.cons rfl Sub.nil)))) ?_
    clear HM ho3419
    rintro k3429 _ w3430 ⟨a3424, ho3419, rfl, HM⟩
    obtain _ | k3429 := k3429
    · exact nomatch ((slices_Index_impl_Ref.l0_z x0 x1 a3424).symm.trans ho3419)
    replace ho3419 := (slices_Index_impl_Ref.l0_s x0 x1 k3429 a3424).symm.trans ho3419
    refine run_seq ?_
    refine run_region rfl ?_
    refine ops_ex rfl (guard_none rfl) rfl rfl (ex_lss rfl rfl rfl) ?_
    refine ops_nil ?_
    refine at_then ?_
    refine run_seq ?_
    refine run_cond (b := (decide (a3424 < (x0.length : Int)))) rfl (fun hb3431 => ?_) (fun hb3431 => ?_)
    · replace ho3419 := cond_t hb3431 ho3419
      refine run_skip ?_
      refine at_then ?_
      refine run_seq ?_
      refine run_block ?_
      refine run_seq ?_
      refine run_region rfl ?_
      refine ops_ex rfl (guard_none rfl) rfl rfl (ex_move rfl rfl) ?_
      refine ops_ex rfl (guard_none rfl) rfl rfl (ex_assign rfl rfl) ?_
      refine ops_nil ?_
      refine at_then ?_
      refine run_seq ?_
      obtain ⟨e3432, ho3419⟩ := chk_some ho3419
      refine run_drawf (fun w_ => Mem w [] w_ [box b3401 56 [.int .i64 x1.fTx, .int .i64 x1.fAt]]) [(0, true), (1, true), (2, true), (3, true), (4, true), (5, true)] mixed rfl rfl (by kernel_rfl) ?_
      replace HM := HM.grow (fr_drew _)
      have hS := Mem.suf (M := []) HM
      refine drwp_take rfl (guard_none rfl) rfl rfl (fun w_ hS_ => (ex_loadN (cs := [(.int .i64 x1.fTx), (.int .i64 x1.fAt)]) rfl rfl Tryz.underlying56 rfl tsz56 rfl ((hS_.box_at 0 rfl).sub 0 2 rfl))) hS ?_
      refine drwp_take rfl (guard_none rfl) rfl rfl (fun w_ hS_ => (ex_move rfl rfl)) hS ?_
      refine drwp_take rfl (guard_none rfl) rfl rfl (fun w_ hS_ => (ex_move rfl rfl)) hS ?_
      have hc3433 : CellsAt _ (sb p0) (so p0 + (a3424).toNat * 2) [(.int .i64 ((gt x0 a3424).fTx)), (.int .i64 ((gt x0 a3424).fAt))] := rd_plain hp0 e3432
      refine drwp_take rfl (guard_none rfl) rfl rfl (fun w_ hS_ => (ex_indexAddr (d := kRef) rfl rfl rfl Tryz.underlying34 tsz56 hp0 (idx_lo e3432) (idx_hi e3432))) hS ?_
      refine drwp_take rfl (guard_none rfl) rfl rfl (fun w_ hS_ => (ex_loadN (cs := [(.int .i64 ((gt x0 a3424).fTx)), (.int .i64 ((gt x0 a3424).fAt))]) rfl rfl Tryz.underlying56 rfl tsz56 rfl ((hS_.at_ hc3433).sub 0 2 rfl))) hS ?_
      refine drwp_take rfl (guard_none rfl) rfl rfl (fun w_ hS_ => (ex_aeql rfl rfl rfl (by kernel_rfl) (eqs56 _ _ _ _ _))) hS ?_
      refine drwp_done ?_
      refine at_then ?_
      refine run_cond (b := ((x1.fTx == ((gt x0 a3424).fTx)) && (x1.fAt == ((gt x0 a3424).fAt)))) rfl (fun hb3434 => ?_) (fun hb3434 => ?_)
      · replace ho3419 := cond_t hb3434 ho3419
        refine run_seq ?_
        refine run_region rfl ?_
        refine ops_ex rfl (guard_none rfl) rfl rfl (ex_move rfl rfl) ?_
        refine ops_ex rfl (guard_none rfl) rfl rfl (ex_assign rfl rfl) ?_
        refine ops_nil ?_
        refine at_then ?_
        refine run_ret ?_
        refine at_block_ret ?_
        refine at_then_ret ?_
        refine at_then_ret ?_
        refine at_block_ret ?_
        refine at_then_ret ?_
        replace HM := (HM.front 0 rfl rfl).drop
        have hR := Option.some.inj ho3419
        subst hR
        have hT := thn_inl H
        have hR := Option.some.inj hT
        subst hR
        exact at_ret1 rfl rfl ⟨_, rfl, rfl, HM⟩
      · replace ho3419 := cond_f hb3434 ho3419
        refine run_skip ?_
        refine at_block ?_
        refine at_then ?_
        refine run_region rfl ?_
        refine ops_ex rfl (guard_none rfl) rfl rfl (ex_add rfl rfl rfl) ?_
        refine ops_ex rfl (guard_none rfl) rfl rfl (ex_move rfl rfl) ?_
        refine ops_nil ?_
        exact at_again k3429 (ρ1 := [(0, p0), (3, .pointer (some ⟨b3401, 0, none⟩)), (7, .int .i64 (x0.length : Int)), (8, .int .i64 (wrap64 (a3424 + 1)))]) (Nat.lt_succ_self _) ⟨_, ho3419, rfl, HM⟩ (Sub.cons rfl (Sub.cons rfl (Sub.cons rfl (Sub.cons rfl Sub.nil))))
    · replace ho3419 := cond_f hb3431 ho3419
      refine run_exit ?_
      refine at_then_exit ?_
      refine at_then_exit ?_
      refine at_block_exit ?_
      replace HM := (HM.front 0 rfl rfl).drop
      exact at_mid (ρ' := []) ⟨(Option.some.inj ho3419), rfl, HM⟩ Sub.nil
  · rintro _ w3435 ⟨rfl, rfl, HM⟩
    replace H := (thn_inr H)
    refine run_seq ?_
    refine run_region rfl ?_
    refine ops_ex rfl (guard_none rfl) rfl rfl (ex_assign rfl rfl) ?_
    refine ops_nil ?_
    refine at_then ?_
    refine run_ret ?_
    have hR := Option.some.inj H
    subst hR
    exact at_ret1 rfl rfl ⟨_, rfl, rfl, HM⟩

def slices_Contains_impl_Ref.f (k : Nat) (x0 : List Ref) (x1 : Ref) : Option Bool := ((slices_Index_impl_Ref.f k x0 x1).bind fun t3442 => some (decide (0 ≤ t3442)))
theorem slices_Contains_impl_Ref.calls {k : Nat} {x0 : List Ref} {x1 : Ref} {p0 : Value} {w : World} (hp0 : RdS kRef w p0 x0) {r : Bool} (H : slices_Contains_impl_Ref.f k x0 x1 = some r) :
    Calls Tryz.prog 82 ([p0, .agg #[(.int .i64 x1.fTx), (.int .i64 x1.fAt)]] : List Value).toArray w (fun e w_ => ∃ v, e = .returned v ∧ v = (.bool r) ∧ Mem w [] w_ []) := by
  have HM := Mem.start w
  refine calls_run (N := 9) Tryz.func82 rfl rfl rfl rfl ?_
  unfold slices_Contains_impl_Ref.f at H
  refine run_seq ?_
  refine run_region rfl ?_
  refine ops_does rfl (guard_none rfl) rfl rfl (does_box (cs := [.int .i64 x1.fTx, .int .i64 x1.fAt]) rfl rfl rfl HM) ?_
  rintro _ w3441 ⟨b3438, rfl, HM⟩
  refine ops_ex rfl (guard_none rfl) rfl rfl (ex_assign rfl rfl) ?_
  refine ops_nil ?_
  refine at_then ?_
  refine run_seq ?_
  obtain ⟨t3442, h3443, H⟩ := bind_some H
  refine run_region rfl ?_
  refine ops_ex rfl (guard_none rfl) rfl rfl (ex_move rfl rfl) ?_
  refine ops_ex rfl (guard_none rfl) rfl rfl (ex_loadN (cs := [(.int .i64 x1.fTx), (.int .i64 x1.fAt)]) rfl rfl Tryz.underlying56 rfl tsz56 rfl ((HM.box_at 0 rfl).sub 0 2 rfl)) ?_
  refine ops_does rfl (guard_none rfl) rfl rfl (does_callk rfl callok117 rfl (slices_Index_impl_Ref.calls (x0 := x0) (x1 := x1) (HM.rd hp0) h3443)) ?_
  rintro _ w3444 ⟨rfl, hn⟩
  replace HM : Mem w [] w3444 [box b3438 56 [.int .i64 x1.fTx, .int .i64 x1.fAt]] := HM.call hn
  refine ops_ex rfl (guard_none rfl) rfl rfl (ex_geq rfl rfl rfl) ?_
  refine ops_ex rfl (guard_none rfl) rfl rfl (ex_assign rfl rfl) ?_
  refine ops_nil ?_
  refine at_then ?_
  refine run_ret ?_
  replace HM := (HM.front 0 rfl rfl).drop
  have hR := Option.some.inj H
  subst hR
  exact at_ret1 rfl rfl ⟨_, rfl, rfl, HM⟩

def impl_outFault.f (k : Nat) (x0 : Out) : Option Int := ((impl_within.f k x0.fValue 1 1000000).bind fun t3509 => (bif !t3509 then some 3 else ((impl_RuleFault.f k x0.fRule).bind fun t3513 => some t3513)))
theorem impl_outFault.calls {k : Nat} {x0 : Out} {p0_0 : Value} {w : World} (hp0_0 : RdS kInt w p0_0 x0.fRule.fKeys) {r : Int} (H : impl_outFault.f k x0 = some r) :
    Calls Tryz.prog 83 ([.agg #[(.int .i64 x0.fValue), p0_0, (.int .i64 x0.fRule.fNeed), (.int .i64 x0.fRule.fAfter)]] : List Value).toArray w (fun e w_ => ∃ v, e = .returned v ∧ v = (.int .i64 r) ∧ Mem w [] w_ []) := by
  have HM := Mem.start w
  refine calls_run (N := 10) Tryz.func83 rfl rfl rfl rfl ?_
  unfold impl_outFault.f at H
  refine run_seq ?_
  refine run_region rfl ?_
  refine ops_does rfl (guard_none rfl) rfl rfl (does_box (cs := [.int .i64 x0.fValue, p0_0, .int .i64 x0.fRule.fNeed, .int .i64 x0.fRule.fAfter]) rfl rfl rfl HM) ?_
  rintro _ w3508 ⟨b3505, rfl, HM⟩
  refine ops_ex rfl (guard_none rfl) rfl rfl (ex_assign rfl rfl) ?_
  refine ops_nil ?_
  refine at_then ?_
  refine run_seq ?_
  refine run_seq ?_
  obtain ⟨t3509, h3510, H⟩ := bind_some H
  refine run_region rfl ?_
  refine ops_ex rfl (guard_none rfl) rfl rfl (ex_fieldAddr (off' := 0) rfl rfl Tryz.underlying75 rfl tsz2 rfl) ?_
  refine ops_ex rfl (guard_none rfl) rfl rfl (ex_load1 rfl rfl Tryz.underlying2 rfl ((HM.box_at 0 rfl) 0 _ rfl)) ?_
  refine ops_does rfl (guard_none rfl) rfl rfl (does_callk rfl callok66 rfl (impl_within.calls (x0 := x0.fValue) (x1 := 1) (x2 := 1000000) h3510)) ?_
  rintro _ w3511 ⟨rfl, hn⟩
  replace HM : Mem w [] w3511 [box b3505 75 [.int .i64 x0.fValue, p0_0, .int .i64 x0.fRule.fNeed, .int .i64 x0.fRule.fAfter]] := HM.call hn
  refine ops_ex rfl (guard_none rfl) rfl rfl (ex_not rfl rfl) ?_
  refine ops_nil ?_
  refine at_then ?_
  refine run_cond (b := !t3509) rfl (fun hb3512 => ?_) (fun hb3512 => ?_)
  · replace H := cond_t hb3512 H
    refine run_seq ?_
    refine run_region rfl ?_
    refine ops_ex rfl (guard_none rfl) rfl rfl (ex_assign rfl rfl) ?_
    refine ops_nil ?_
    refine at_then ?_
    refine run_ret ?_
    refine at_then_ret ?_
    replace HM := (HM.front 0 rfl rfl).drop
    have hR := Option.some.inj H
    subst hR
    exact at_ret1 rfl rfl ⟨_, rfl, rfl, HM⟩
  · replace H := cond_f hb3512 H
    refine run_skip ?_
    refine at_then ?_
    refine run_seq ?_
    obtain ⟨t3513, h3514, H⟩ := bind_some H
    refine run_region rfl ?_
    refine ops_ex rfl (guard_none rfl) rfl rfl (ex_fieldAddr (off' := 1) rfl rfl Tryz.underlying75 rfl tsz73 rfl) ?_
    refine ops_ex rfl (guard_none rfl) rfl rfl (ex_loadN (cs := [p0_0, (.int .i64 x0.fRule.fNeed), (.int .i64 x0.fRule.fAfter)]) rfl rfl Tryz.underlying73 rfl tsz73 rfl ((HM.box_at 0 rfl).sub 1 3 rfl)) ?_
    refine ops_does rfl (guard_none rfl) rfl rfl (does_callk rfl callok67 rfl (impl_RuleFault.calls (x0 := x0.fRule) (HM.rd hp0_0) h3514)) ?_
    rintro _ w3515 ⟨rfl, hn⟩
    replace HM : Mem w [] w3515 [box b3505 75 [.int .i64 x0.fValue, p0_0, .int .i64 x0.fRule.fNeed, .int .i64 x0.fRule.fAfter]] := HM.call hn
    refine ops_ex rfl (guard_none rfl) rfl rfl (ex_assign rfl rfl) ?_
    refine ops_nil ?_
    refine at_then ?_
    refine run_ret ?_
    replace HM := (HM.front 0 rfl rfl).drop
    have hR := Option.some.inj H
    subst hR
    exact at_ret1 rfl rfl ⟨_, rfl, rfl, HM⟩

def impl_TxFault.l0 (x0 : Tx) : Nat → Int → Option (Int ⊕ Unit)
  | 0, _ => none
  | k + 1, a3667 => (bif (decide (a3667 < (x0.fIns.length : Int))) then (chk (idxOk a3667 x0.fIns.length) ((impl_isRef.f k (gt x0.fIns a3667)).bind fun t3700 => (bif !t3700 then some (.inl 3) else (chk (cutOk a3667 x0.fIns.length) ((slices_Contains_impl_Ref.f k (x0.fIns.take (a3667).toNat) (gt x0.fIns a3667)).bind fun t3708 => (bif t3708 then some (.inl 7) else impl_TxFault.l0 x0 k (wrap64 (a3667 + 1)))))))) else some (.inr ()))
theorem impl_TxFault.l0_z (x0 : Tx) (a3667 : Int) : impl_TxFault.l0 x0 0 a3667 = none := rfl
theorem impl_TxFault.l0_s (x0 : Tx) (k : Nat) (a3667 : Int) : impl_TxFault.l0 x0 (k + 1) a3667 = (bif (decide (a3667 < (x0.fIns.length : Int))) then (chk (idxOk a3667 x0.fIns.length) ((impl_isRef.f k (gt x0.fIns a3667)).bind fun t3700 => (bif !t3700 then some (.inl 3) else (chk (cutOk a3667 x0.fIns.length) ((slices_Contains_impl_Ref.f k (x0.fIns.take (a3667).toNat) (gt x0.fIns a3667)).bind fun t3708 => (bif t3708 then some (.inl 7) else impl_TxFault.l0 x0 k (wrap64 (a3667 + 1)))))))) else some (.inr ())) := rfl
def impl_TxFault.l1 (x0 : Tx) : Nat → Int → Option (Int ⊕ Unit)
  | 0, _ => none
  | k + 1, a3760 => (bif (decide (a3760 < (x0.fOuts.length : Int))) then (chk (idxOk a3760 x0.fOuts.length) ((impl_outFault.f k (gt x0.fOuts a3760)).bind fun t3784 => (bif (t3784 != 0) then some (.inl t3784) else impl_TxFault.l1 x0 k (wrap64 (a3760 + 1))))) else some (.inr ()))
theorem impl_TxFault.l1_z (x0 : Tx) (a3760 : Int) : impl_TxFault.l1 x0 0 a3760 = none := rfl
theorem impl_TxFault.l1_s (x0 : Tx) (k : Nat) (a3760 : Int) : impl_TxFault.l1 x0 (k + 1) a3760 = (bif (decide (a3760 < (x0.fOuts.length : Int))) then (chk (idxOk a3760 x0.fOuts.length) ((impl_outFault.f k (gt x0.fOuts a3760)).bind fun t3784 => (bif (t3784 != 0) then some (.inl t3784) else impl_TxFault.l1 x0 k (wrap64 (a3760 + 1))))) else some (.inr ())) := rfl
def impl_TxFault.f (k : Nat) (x0 : Tx) : Option Int := ((impl_within.f k x0.fKind 0 2).bind fun t3564 => (bif ((!t3564) || ((x0.fKind == 0) != (x0.fMember == 0))) then some 1 else ((bif (x0.fMember != 0) then impl_isKey.f k x0.fMember else some default).bind fun t3571 => (bif ((x0.fMember != 0) && (!t3571)) then some 3 else ((impl_TxFault_1.f k (x0.fIns.length : Int)).bind fun t3578 => ((bif (!t3578) then impl_TxFault_1.f k (x0.fOuts.length : Int) else some default).bind fun t3580 => (bif (t3578 || t3580) then some 2 else ((impl_TxFault.l0 x0 k 0).bind fun o3646 => thn o3646 (fun r => some r) (fun _ => ((impl_TxFault.l1 x0 k 0).bind fun o3747 => thn o3747 (fun r => some r) (fun _ => (chk (!(x0.fKind == 1) || (idxOk (0 : Int) x0.fOuts.length)) (bif ((x0.fKind == 1) && (decide (((gt x0.fOuts (0 : Int)).fValue) < 100))) then some 8 else some 0)))))))))))))
theorem impl_TxFault.calls {k : Nat} {x0 : Tx} {p0_0 : Value} {p0_1 : Value} {w : World} (hp0_0 : RdS kRef w p0_0 x0.fIns) (hp0_1 : RdS kOut w p0_1 x0.fOuts) {r : Int} (H : impl_TxFault.f k x0 = some r) :
    Calls Tryz.prog 38 ([.agg #[(.int .i64 x0.fKind), (.int .i64 x0.fMember), p0_0, p0_1]] : List Value).toArray w (fun e w_ => ∃ v, e = .returned v ∧ v = (.int .i64 r) ∧ Mem w [] w_ []) := by
  have HM := Mem.start w
  refine calls_run (N := 88) Tryz.func38 rfl rfl rfl rfl ?_
  unfold impl_TxFault.f at H
  refine run_seq ?_
  refine run_region rfl ?_
  refine ops_does rfl (guard_none rfl) rfl rfl (does_box (cs := [.int .i64 x0.fKind, .int .i64 x0.fMember, p0_0, p0_1]) rfl rfl rfl HM) ?_
  rintro _ w3552 ⟨b3549, rfl, HM⟩
  refine ops_ex rfl (guard_none rfl) rfl rfl (ex_assign rfl rfl) ?_
  refine ops_nil ?_
  refine at_then ?_
  refine run_seq ?_
  refine run_region rfl ?_
  refine ops_ex rfl (guard_none rfl) rfl rfl (ex_assign rfl rfl) ?_
  refine ops_nil ?_
  refine at_then ?_
  refine run_seq ?_
  refine run_block ?_
  refine run_seq ?_
  obtain ⟨t3564, h3565, H⟩ := bind_some H
  refine run_meet (fun ρ_ w_ => ρ_ = [(1, .pointer (some ⟨b3549, 0, none⟩)), (3, .func (.func 80) #[] #[]), (9, .bool ((!t3564) || ((x0.fKind == 0) != (x0.fMember == 0))))] ∧ Mem w [] w_ [box b3549 37 [.int .i64 x0.fKind, .int .i64 x0.fMember, p0_0, p0_1]]) ?_ ?_
  · skip
    refine run_region rfl ?_
    refine ops_ex rfl (guard_none rfl) rfl rfl (ex_fieldAddr (off' := 0) rfl rfl Tryz.underlying37 rfl tsz2 rfl) ?_
    refine ops_ex rfl (guard_none rfl) rfl rfl (ex_load1 rfl rfl Tryz.underlying2 rfl ((HM.box_at 0 rfl) 0 _ rfl)) ?_
    refine ops_does rfl (guard_none rfl) rfl rfl (does_callk rfl callok66 rfl (impl_within.calls (x0 := x0.fKind) (x1 := 0) (x2 := 2) h3565)) ?_
    rintro _ w3566 ⟨rfl, hn⟩
    replace HM : Mem w [] w3566 [box b3549 37 [.int .i64 x0.fKind, .int .i64 x0.fMember, p0_0, p0_1]] := HM.call hn
    refine ops_ex rfl (guard_none rfl) rfl rfl (ex_not rfl rfl) ?_
    refine ops_ex rfl (guard_none rfl) rfl rfl (ex_move rfl rfl) ?_
    refine bool_cases (!t3564) (fun hg3567 => ?_) (fun hg3567 => ?_)
    · skip
      refine ops_off rfl (guard_off rfl rfl rfl hg3567) rfl rfl ?_
      refine ops_off rfl (guard_off rfl rfl rfl hg3567) rfl rfl ?_
      refine ops_off rfl (guard_off rfl rfl rfl hg3567) rfl rfl ?_
      refine ops_off rfl (guard_off rfl rfl rfl hg3567) rfl rfl ?_
      refine ops_off rfl (guard_off rfl rfl rfl hg3567) rfl rfl ?_
      refine ops_off rfl (guard_off rfl rfl rfl hg3567) rfl rfl ?_
      refine ops_off rfl (guard_off rfl rfl rfl hg3567) rfl rfl ?_
      have hg3568 : ((!t3564) || ((x0.fKind == 0) != (x0.fMember == 0))) = true := by simp only [hg3567, Bool.and_true, Bool.true_and, Bool.and_false, Bool.false_and, Bool.or_true, Bool.true_or, Bool.or_false, Bool.false_or, Bool.not_true, Bool.not_false, Bool.not_not]
      refine ops_ex (v := .bool ((!t3564) || ((x0.fKind == 0) != (x0.fMember == 0)))) rfl (guard_none rfl) rfl rfl (ex_por_t rfl rfl hg3567) ?_
      refine ops_ex rfl (guard_none rfl) rfl rfl (ex_assign rfl rfl) ?_
      refine ops_nil ?_
      exact at_meet [(1, .pointer (some ⟨b3549, 0, none⟩)), (3, .func (.func 80) #[] #[]), (9, .bool ((!t3564) || ((x0.fKind == 0) != (x0.fMember == 0))))] ⟨rfl, HM⟩ (Sub.cons rfl (Sub.cons rfl (Sub.cons rfl Sub.nil)))
    · skip
      refine ops_ex rfl (guard_on rfl rfl rfl hg3567) rfl rfl (ex_fieldAddr (off' := 0) rfl rfl Tryz.underlying37 rfl tsz2 rfl) ?_
      refine ops_ex rfl (guard_on rfl rfl rfl hg3567) rfl rfl (ex_load1 rfl rfl Tryz.underlying2 rfl ((HM.box_at 0 rfl) 0 _ rfl)) ?_
      refine ops_ex rfl (guard_on rfl rfl rfl hg3567) rfl rfl (ex_eql rfl rfl rfl) ?_
      refine ops_ex rfl (guard_on rfl rfl rfl hg3567) rfl rfl (ex_fieldAddr (off' := 1) rfl rfl Tryz.underlying37 rfl tsz2 rfl) ?_
      refine ops_ex rfl (guard_on rfl rfl rfl hg3567) rfl rfl (ex_load1 rfl rfl Tryz.underlying2 rfl ((HM.box_at 0 rfl) 1 _ rfl)) ?_
      refine ops_ex rfl (guard_on rfl rfl rfl hg3567) rfl rfl (ex_eql rfl rfl rfl) ?_
      refine ops_ex rfl (guard_on rfl rfl rfl hg3567) rfl rfl (ex_bneq rfl rfl rfl Tryz.underlying4) ?_
      refine ops_ex (v := .bool ((!t3564) || ((x0.fKind == 0) != (x0.fMember == 0)))) rfl (guard_none rfl) rfl rfl (ex_por_f rfl rfl hg3567 rfl) ?_
      refine ops_ex rfl (guard_none rfl) rfl rfl (ex_assign rfl rfl) ?_
      refine ops_nil ?_
      exact at_meet [(1, .pointer (some ⟨b3549, 0, none⟩)), (3, .func (.func 80) #[] #[]), (9, .bool ((!t3564) || ((x0.fKind == 0) != (x0.fMember == 0))))] ⟨rfl, HM⟩ (Sub.cons rfl (Sub.cons rfl (Sub.cons rfl Sub.nil)))
  · rintro _ w3569 ⟨rfl, HM⟩
    refine at_then ?_
    refine run_cond (b := ((!t3564) || ((x0.fKind == 0) != (x0.fMember == 0)))) rfl (fun hb3570 => ?_) (fun hb3570 => ?_)
    · replace H := cond_t hb3570 H
      refine run_seq ?_
      refine run_region rfl ?_
      refine ops_ex rfl (guard_none rfl) rfl rfl (ex_assign rfl rfl) ?_
      refine ops_nil ?_
      refine at_then ?_
      refine run_ret ?_
      refine at_block_ret ?_
      refine at_then_ret ?_
      replace HM := (HM.front 0 rfl rfl).drop
      have hR := Option.some.inj H
      subst hR
      exact at_ret1 rfl rfl ⟨_, rfl, rfl, HM⟩
    · replace H := cond_f hb3570 H
      refine run_seq ?_
      obtain ⟨t3571, h3572, H⟩ := bind_some H
      refine run_meet (fun ρ_ w_ => ρ_ = [(1, .pointer (some ⟨b3549, 0, none⟩)), (3, .func (.func 80) #[] #[]), (23, .bool ((x0.fMember != 0) && (!t3571)))] ∧ Mem w [] w_ [box b3549 37 [.int .i64 x0.fKind, .int .i64 x0.fMember, p0_0, p0_1]]) ?_ ?_
      · skip
        refine run_region rfl ?_
        refine ops_ex rfl (guard_none rfl) rfl rfl (ex_fieldAddr (off' := 1) rfl rfl Tryz.underlying37 rfl tsz2 rfl) ?_
        refine ops_ex rfl (guard_none rfl) rfl rfl (ex_load1 rfl rfl Tryz.underlying2 rfl ((HM.box_at 0 rfl) 1 _ rfl)) ?_
        refine ops_ex rfl (guard_none rfl) rfl rfl (ex_neq rfl rfl rfl) ?_
        refine ops_ex rfl (guard_none rfl) rfl rfl (ex_move rfl rfl) ?_
        refine bool_cases (x0.fMember != 0) (fun hg3573 => ?_) (fun hg3573 => ?_)
        · skip
          refine ops_ex rfl (guard_on rfl rfl rfl hg3573) rfl rfl (ex_fieldAddr (off' := 1) rfl rfl Tryz.underlying37 rfl tsz2 rfl) ?_
          refine ops_ex rfl (guard_on rfl rfl rfl hg3573) rfl rfl (ex_load1 rfl rfl Tryz.underlying2 rfl ((HM.box_at 0 rfl) 1 _ rfl)) ?_
          refine ops_does rfl (guard_on rfl rfl rfl hg3573) rfl rfl (does_callk rfl callok81 rfl (impl_isKey.calls (x0 := x0.fMember) (cond_t hg3573 h3572))) ?_
          rintro _ w3574 ⟨rfl, hn⟩
          replace HM : Mem w [] w3574 [box b3549 37 [.int .i64 x0.fKind, .int .i64 x0.fMember, p0_0, p0_1]] := HM.call hn
          refine ops_ex rfl (guard_on rfl rfl rfl hg3573) rfl rfl (ex_not rfl rfl) ?_
          refine ops_ex (v := .bool ((x0.fMember != 0) && (!t3571))) rfl (guard_none rfl) rfl rfl (ex_pand_t rfl rfl hg3573 rfl) ?_
          refine ops_ex rfl (guard_none rfl) rfl rfl (ex_assign rfl rfl) ?_
          refine ops_nil ?_
          exact at_meet [(1, .pointer (some ⟨b3549, 0, none⟩)), (3, .func (.func 80) #[] #[]), (23, .bool ((x0.fMember != 0) && (!t3571)))] ⟨rfl, HM⟩ (Sub.cons rfl (Sub.cons rfl (Sub.cons rfl Sub.nil)))
        · skip
          refine ops_off rfl (guard_off rfl rfl rfl hg3573) rfl rfl ?_
          refine ops_off rfl (guard_off rfl rfl rfl hg3573) rfl rfl ?_
          refine ops_off rfl (guard_off rfl rfl rfl hg3573) rfl rfl ?_
          refine ops_off rfl (guard_off rfl rfl rfl hg3573) rfl rfl ?_
          have hg3575 : ((x0.fMember != 0) && (!t3571)) = false := by simp only [hg3573, Bool.and_true, Bool.true_and, Bool.and_false, Bool.false_and, Bool.or_true, Bool.true_or, Bool.or_false, Bool.false_or, Bool.not_true, Bool.not_false, Bool.not_not]
          refine ops_ex (v := .bool ((x0.fMember != 0) && (!t3571))) rfl (guard_none rfl) rfl rfl (ex_pand_f rfl rfl hg3573) ?_
          refine ops_ex rfl (guard_none rfl) rfl rfl (ex_assign rfl rfl) ?_
          refine ops_nil ?_
          exact at_meet [(1, .pointer (some ⟨b3549, 0, none⟩)), (3, .func (.func 80) #[] #[]), (23, .bool ((x0.fMember != 0) && (!t3571)))] ⟨rfl, HM⟩ (Sub.cons rfl (Sub.cons rfl (Sub.cons rfl Sub.nil)))
      · rintro _ w3576 ⟨rfl, HM⟩
        refine at_then ?_
        refine run_cond (b := ((x0.fMember != 0) && (!t3571))) rfl (fun hb3577 => ?_) (fun hb3577 => ?_)
        · replace H := cond_t hb3577 H
          refine run_seq ?_
          refine run_region rfl ?_
          refine ops_ex rfl (guard_none rfl) rfl rfl (ex_assign rfl rfl) ?_
          refine ops_nil ?_
          refine at_then ?_
          refine run_ret ?_
          refine at_block_ret ?_
          refine at_then_ret ?_
          replace HM := (HM.front 0 rfl rfl).drop
          have hR := Option.some.inj H
          subst hR
          exact at_ret1 rfl rfl ⟨_, rfl, rfl, HM⟩
        · replace H := cond_f hb3577 H
          refine run_seq ?_
          obtain ⟨t3578, h3579, H⟩ := bind_some H
          obtain ⟨t3580, h3581, H⟩ := bind_some H
          refine run_meet (fun ρ_ w_ => ρ_ = [(1, .pointer (some ⟨b3549, 0, none⟩)), (33, .bool (t3578 || t3580))] ∧ Mem w [] w_ [box b3549 37 [.int .i64 x0.fKind, .int .i64 x0.fMember, p0_0, p0_1]]) ?_ ?_
          · skip
            refine run_region rfl ?_
            refine ops_ex rfl (guard_none rfl) rfl rfl (ex_move rfl rfl) ?_
            refine ops_ex rfl (guard_none rfl) rfl rfl (ex_fieldAddr (off' := 2) rfl rfl Tryz.underlying37 rfl tsz34 rfl) ?_
            refine ops_ex rfl (guard_none rfl) rfl rfl (ex_load1 rfl rfl Tryz.underlying34 rfl ((HM.box_at 0 rfl) 2 _ rfl)) ?_
            refine ops_ex rfl (guard_none rfl) rfl rfl (ex_len (d := kRef) (xs := x0.fIns) rfl rfl Tryz.underlying34 hp0_0) ?_
            refine ops_does rfl (guard_none rfl) rfl rfl (does_callvk rfl callok80 rfl rfl rfl (impl_TxFault_1.calls (x0 := (x0.fIns.length : Int)) h3579)) ?_
            rintro _ w3582 ⟨rfl, hn⟩
            replace HM : Mem w [] w3582 [box b3549 37 [.int .i64 x0.fKind, .int .i64 x0.fMember, p0_0, p0_1]] := HM.call hn
            refine ops_ex rfl (guard_none rfl) rfl rfl (ex_move rfl rfl) ?_
            refine bool_cases t3578 (fun hg3583 => ?_) (fun hg3583 => ?_)
            · skip
              refine ops_off rfl (guard_off rfl rfl rfl hg3583) rfl rfl ?_
              refine ops_off rfl (guard_off rfl rfl rfl hg3583) rfl rfl ?_
              refine ops_off rfl (guard_off rfl rfl rfl hg3583) rfl rfl ?_
              refine ops_off rfl (guard_off rfl rfl rfl hg3583) rfl rfl ?_
              refine ops_off rfl (guard_off rfl rfl rfl hg3583) rfl rfl ?_
              have hg3584 : (t3578 || t3580) = true := by simp only [hg3583, Bool.and_true, Bool.true_and, Bool.and_false, Bool.false_and, Bool.or_true, Bool.true_or, Bool.or_false, Bool.false_or, Bool.not_true, Bool.not_false, Bool.not_not]
              refine ops_ex (v := .bool (t3578 || t3580)) rfl (guard_none rfl) rfl rfl (ex_por_t rfl rfl hg3583) ?_
              refine ops_ex rfl (guard_none rfl) rfl rfl (ex_assign rfl rfl) ?_
              refine ops_nil ?_
              exact at_meet [(1, .pointer (some ⟨b3549, 0, none⟩)), (33, .bool (t3578 || t3580))] ⟨rfl, HM⟩ (Sub.cons rfl (Sub.cons rfl Sub.nil))
            · skip
              refine ops_ex rfl (guard_on rfl rfl rfl hg3583) rfl rfl (ex_move rfl rfl) ?_
              refine ops_ex rfl (guard_on rfl rfl rfl hg3583) rfl rfl (ex_fieldAddr (off' := 3) rfl rfl Tryz.underlying37 rfl tsz35 rfl) ?_
              refine ops_ex rfl (guard_on rfl rfl rfl hg3583) rfl rfl (ex_load1 rfl rfl Tryz.underlying35 rfl ((HM.box_at 0 rfl) 3 _ rfl)) ?_
              refine ops_ex rfl (guard_on rfl rfl rfl hg3583) rfl rfl (ex_len (d := kOut) (xs := x0.fOuts) rfl rfl Tryz.underlying35 hp0_1) ?_
              refine ops_does rfl (guard_on rfl rfl rfl hg3583) rfl rfl (does_callvk rfl callok80 rfl rfl rfl (impl_TxFault_1.calls (x0 := (x0.fOuts.length : Int)) (cond_t (not_mk hg3583) h3581))) ?_
              rintro _ w3585 ⟨rfl, hn⟩
              replace HM : Mem w [] w3585 [box b3549 37 [.int .i64 x0.fKind, .int .i64 x0.fMember, p0_0, p0_1]] := HM.call hn
              refine ops_ex (v := .bool (t3578 || t3580)) rfl (guard_none rfl) rfl rfl (ex_por_f rfl rfl hg3583 rfl) ?_
              refine ops_ex rfl (guard_none rfl) rfl rfl (ex_assign rfl rfl) ?_
              refine ops_nil ?_
              exact at_meet [(1, .pointer (some ⟨b3549, 0, none⟩)), (33, .bool (t3578 || t3580))] ⟨rfl, HM⟩ (Sub.cons rfl (Sub.cons rfl Sub.nil))
          · rintro _ w3586 ⟨rfl, HM⟩
            refine at_then ?_
            refine run_cond (b := (t3578 || t3580)) rfl (fun hb3587 => ?_) (fun hb3587 => ?_)
            · replace H := cond_t hb3587 H
              refine run_seq ?_
              refine run_region rfl ?_
              refine ops_ex rfl (guard_none rfl) rfl rfl (ex_assign rfl rfl) ?_
              refine ops_nil ?_
              refine at_then ?_
              refine run_ret ?_
              refine at_block_ret ?_
              refine at_then_ret ?_
              replace HM := (HM.front 0 rfl rfl).drop
              have hR := Option.some.inj H
              subst hR
              exact at_ret1 rfl rfl ⟨_, rfl, rfl, HM⟩
            · replace H := cond_f hb3587 H
              refine run_skip ?_
              refine at_block ?_
              refine at_then ?_
              obtain ⟨o3646, ho3647, H⟩ := bind_some H
              refine run_mid (fun ρ_ w_ => Sum.inr () = o3646 ∧ ρ_ = [(1, .pointer (some ⟨b3549, 0, none⟩))] ∧ Mem w [] w_ [box b3549 37 [.int .i64 x0.fKind, .int .i64 x0.fMember, p0_0, p0_1]]) ?_ ?_
              · skip
                refine run_seq ?_
                refine run_region rfl ?_
                refine ops_ex rfl (guard_none rfl) rfl rfl (ex_fieldAddr (off' := 2) rfl rfl Tryz.underlying37 rfl tsz34 rfl) ?_
                refine ops_ex rfl (guard_none rfl) rfl rfl (ex_load1 rfl rfl Tryz.underlying34 rfl ((HM.box_at 0 rfl) 2 _ rfl)) ?_
                refine ops_ex rfl (guard_none rfl) rfl rfl (ex_len (d := kRef) (xs := x0.fIns) rfl rfl Tryz.underlying34 hp0_0) ?_
                refine ops_ex rfl (guard_none rfl) rfl rfl (ex_move rfl rfl) ?_
                refine ops_nil ?_
                refine at_then ?_
                refine run_block ?_
                refine run_loop (fun k_ ρ_ w_ => ∃ a3667 : Int, impl_TxFault.l0 x0 k_ a3667 = some o3646 ∧ ρ_ = [(1, .pointer (some ⟨b3549, 0, none⟩)), (47, p0_0), (48, .int .i64 (x0.fIns.length : Int)), (49, .int .i64 a3667)] ∧ Mem w [] w_ [box b3549 37 [.int .i64 x0.fKind, .int .i64 x0.fMember, p0_0, p0_1]]) k (ρ1 := [(1, .pointer (some ⟨b3549, 0, none⟩)), (47, p0_0), (48, .int .i64 (x0.fIns.length : Int)), (49, .int .i64 0)]) ⟨_, ho3647, rfl, HM⟩ (Sub.cons rfl (Sub.cons rfl (Sub.cons rfl (Sub.cons rfl Sub.nil)))) ?_
                clear HM ho3647
                rintro k3687 _ w3688 ⟨a3667, ho3647, rfl, HM⟩
                obtain _ | k3687 := k3687
                · exact nomatch ((impl_TxFault.l0_z x0 a3667).symm.trans ho3647)
                replace ho3647 := (impl_TxFault.l0_s x0 k3687 a3667).symm.trans ho3647
                refine run_seq ?_
                refine run_region rfl ?_
                refine ops_ex rfl (guard_none rfl) rfl rfl (ex_lss rfl rfl rfl) ?_
                refine ops_nil ?_
                refine at_then ?_
                refine run_seq ?_
                refine run_cond (b := (decide (a3667 < (x0.fIns.length : Int)))) rfl (fun hb3689 => ?_) (fun hb3689 => ?_)
                · replace ho3647 := cond_t hb3689 ho3647
                  refine run_skip ?_
                  refine at_then ?_
                  refine run_seq ?_
                  refine run_block ?_
                  refine run_seq ?_
                  obtain ⟨e3690, ho3647⟩ := chk_some ho3647
                  refine run_region rfl ?_
                  refine ops_ex rfl (guard_none rfl) rfl rfl (ex_move rfl rfl) ?_
                  have hc3691 : CellsAt _ (sb p0_0) (so p0_0 + (a3667).toNat * 2) [(.int .i64 ((gt x0.fIns a3667).fTx)), (.int .i64 ((gt x0.fIns a3667).fAt))] := rd_plain hp0_0 e3690
                  refine ops_ex rfl (guard_none rfl) rfl rfl (ex_indexAddr (d := kRef) rfl rfl rfl Tryz.underlying34 tsz56 hp0_0 (idx_lo e3690) (idx_hi e3690)) ?_
                  refine ops_ex rfl (guard_none rfl) rfl rfl (ex_loadN (cs := [(.int .i64 ((gt x0.fIns a3667).fTx)), (.int .i64 ((gt x0.fIns a3667).fAt))]) rfl rfl Tryz.underlying56 rfl tsz56 rfl ((HM.at_ hc3691).sub 0 2 rfl)) ?_
                  refine ops_does rfl (guard_none rfl) rfl rfl (does_alloc (cs := [.int .i64 0, .int .i64 0]) rfl tz56 rfl HM) ?_
                  rintro _ w3695 ⟨b3692, rfl, HM⟩
                  refine ops_ex rfl (guard_none rfl) rfl rfl (ex_assign rfl rfl) ?_
                  refine ops_doesS rfl (guard_none rfl) rfl (does_store (vs := [.int .i64 ((gt x0.fIns a3667).fTx), .int .i64 ((gt x0.fIns a3667).fAt)]) (cs' := [.int .i64 ((gt x0.fIns a3667).fTx), .int .i64 ((gt x0.fIns a3667).fAt)]) rfl rfl rfl rfl tsz56 (Ones.int (Ones.int Ones.nil)) rfl rfl HM) ?_
                  rintro w3696 HM
                  refine ops_nil ?_
                  refine at_then ?_
                  refine run_seq ?_
                  refine run_seq ?_
                  obtain ⟨t3700, h3701, ho3647⟩ := bind_some ho3647
                  refine run_region rfl ?_
                  refine ops_ex rfl (guard_none rfl) rfl rfl (ex_loadN (cs := [(.int .i64 ((gt x0.fIns a3667).fTx)), (.int .i64 ((gt x0.fIns a3667).fAt))]) rfl rfl Tryz.underlying56 rfl tsz56 rfl ((HM.box_at 0 rfl).sub 0 2 rfl)) ?_
                  refine ops_does rfl (guard_none rfl) rfl rfl (does_callk rfl callok64 rfl (impl_isRef.calls (x0 := (gt x0.fIns a3667)) h3701)) ?_
                  rintro _ w3702 ⟨rfl, hn⟩
                  replace HM : Mem w [] w3702 [box b3692 56 [.int .i64 ((gt x0.fIns a3667).fTx), .int .i64 ((gt x0.fIns a3667).fAt)], box b3549 37 [.int .i64 x0.fKind, .int .i64 x0.fMember, p0_0, p0_1]] := HM.call hn
                  refine ops_ex rfl (guard_none rfl) rfl rfl (ex_not rfl rfl) ?_
                  refine ops_nil ?_
                  refine at_then ?_
                  refine run_cond (b := !t3700) rfl (fun hb3703 => ?_) (fun hb3703 => ?_)
                  · replace ho3647 := cond_t hb3703 ho3647
                    refine run_seq ?_
                    refine run_region rfl ?_
                    refine ops_ex rfl (guard_none rfl) rfl rfl (ex_assign rfl rfl) ?_
                    refine ops_nil ?_
                    refine at_then ?_
                    refine run_ret ?_
                    refine at_then_ret ?_
                    refine at_block_ret ?_
                    refine at_then_ret ?_
                    refine at_then_ret ?_
                    refine at_block_ret ?_
                    refine at_then_ret ?_
                    replace HM := (HM.front 0 rfl rfl).drop
                    replace HM := (HM.front 0 rfl rfl).drop
                    have hR := Option.some.inj ho3647
                    subst hR
                    have hT := thn_inl H
                    have hR := Option.some.inj hT
                    subst hR
                    exact at_ret1 rfl rfl ⟨_, rfl, rfl, HM⟩
                  · replace ho3647 := cond_f hb3703 ho3647
                    refine run_skip ?_
                    refine at_then ?_
                    refine run_seq ?_
                    obtain ⟨e3704, ho3647⟩ := chk_some ho3647
                    obtain ⟨t3708, h3709, ho3647⟩ := bind_some ho3647
                    refine run_drawf (fun w_ => Mem w [] w_ [box b3692 56 [.int .i64 ((gt x0.fIns a3667).fTx), .int .i64 ((gt x0.fIns a3667).fAt)], box b3549 37 [.int .i64 x0.fKind, .int .i64 x0.fMember, p0_0, p0_1]]) [(0, true), (1, true), (2, true), (3, true), (4, true), (5, false)] mixed rfl rfl (by kernel_rfl) ?_
                    replace HM := HM.grow (fr_drew _)
                    have hS := Mem.suf (M := []) HM
                    refine drwp_take rfl (guard_none rfl) rfl rfl (fun w_ hS_ => (ex_fieldAddr (off' := 2) rfl rfl Tryz.underlying37 rfl tsz34 rfl)) hS ?_
                    refine drwp_take rfl (guard_none rfl) rfl rfl (fun w_ hS_ => (ex_load1 rfl rfl Tryz.underlying34 rfl ((hS_.box_at 1 rfl) 2 _ rfl))) hS ?_
                    refine drwp_take rfl (guard_none rfl) rfl rfl (fun w_ hS_ => (ex_move rfl rfl)) hS ?_
                    refine drwp_takeE rfl (guard_none rfl) rfl rfl (ex_cutH kRef rfl rfl rfl Tryz.underlying34 tsz56 hp0_0 e3704) hS ?_
                    rintro u3705 hr3707
                    refine drwp_take rfl (guard_none rfl) rfl rfl (fun w_ hS_ => (ex_loadN (cs := [(.int .i64 ((gt x0.fIns a3667).fTx)), (.int .i64 ((gt x0.fIns a3667).fAt))]) rfl rfl Tryz.underlying56 rfl tsz56 rfl ((hS_.box_at 0 rfl).sub 0 2 rfl))) hS ?_
                    refine drwp_one rfl (guard_none rfl) rfl rfl (does_callk rfl callok82 rfl (slices_Contains_impl_Ref.calls (x0 := x0.fIns.take (a3667).toNat) (x1 := (gt x0.fIns a3667)) (HM.rd hr3707) h3709)) ?_
                    rintro _ w3710 ⟨rfl, hn⟩
                    replace HM : Mem w [] w3710 [box b3692 56 [.int .i64 ((gt x0.fIns a3667).fTx), .int .i64 ((gt x0.fIns a3667).fAt)], box b3549 37 [.int .i64 x0.fKind, .int .i64 x0.fMember, p0_0, p0_1]] := HM.call hn
                    refine ⟨Mem.suf (M := []) HM, ?_⟩
                    have hS := Mem.suf (M := []) HM
                    refine drwp_done ?_
                    refine at_then ?_
                    refine run_cond (b := t3708) rfl (fun hb3711 => ?_) (fun hb3711 => ?_)
                    · replace ho3647 := cond_t hb3711 ho3647
                      refine run_seq ?_
                      refine run_region rfl ?_
                      refine ops_ex rfl (guard_none rfl) rfl rfl (ex_assign rfl rfl) ?_
                      refine ops_nil ?_
                      refine at_then ?_
                      refine run_ret ?_
                      refine at_block_ret ?_
                      refine at_then_ret ?_
                      refine at_then_ret ?_
                      refine at_block_ret ?_
                      refine at_then_ret ?_
                      replace HM := (HM.front 0 rfl rfl).drop
                      replace HM := (HM.front 0 rfl rfl).drop
                      have hR := Option.some.inj ho3647
                      subst hR
                      have hT := thn_inl H
                      have hR := Option.some.inj hT
                      subst hR
                      exact at_ret1 rfl rfl ⟨_, rfl, rfl, HM⟩
                    · replace ho3647 := cond_f hb3711 ho3647
                      refine run_skip ?_
                      refine at_block ?_
                      refine at_then ?_
                      refine run_region rfl ?_
                      refine ops_ex rfl (guard_none rfl) rfl rfl (ex_add rfl rfl rfl) ?_
                      refine ops_ex rfl (guard_none rfl) rfl rfl (ex_move rfl rfl) ?_
                      refine ops_nil ?_
                      replace HM := (HM.front 0 rfl rfl).drop
                      exact at_again k3687 (ρ1 := [(1, .pointer (some ⟨b3549, 0, none⟩)), (47, p0_0), (48, .int .i64 (x0.fIns.length : Int)), (49, .int .i64 (wrap64 (a3667 + 1)))]) (Nat.lt_succ_self _) ⟨_, ho3647, rfl, HM⟩ (Sub.cons rfl (Sub.cons rfl (Sub.cons rfl (Sub.cons rfl Sub.nil))))
                · replace ho3647 := cond_f hb3689 ho3647
                  refine run_exit ?_
                  refine at_then_exit ?_
                  refine at_then_exit ?_
                  refine at_block_exit ?_
                  exact at_mid (ρ' := [(1, .pointer (some ⟨b3549, 0, none⟩))]) ⟨(Option.some.inj ho3647), rfl, HM⟩ (Sub.cons rfl Sub.nil)
              · rintro _ w3712 ⟨rfl, rfl, HM⟩
                replace H := (thn_inr H)
                obtain ⟨o3747, ho3748, H⟩ := bind_some H
                refine run_mid (fun ρ_ w_ => Sum.inr () = o3747 ∧ ρ_ = [(1, .pointer (some ⟨b3549, 0, none⟩))] ∧ Mem w [] w_ [box b3549 37 [.int .i64 x0.fKind, .int .i64 x0.fMember, p0_0, p0_1]]) ?_ ?_
                · skip
                  refine run_seq ?_
                  refine run_region rfl ?_
                  refine ops_ex rfl (guard_none rfl) rfl rfl (ex_fieldAddr (off' := 3) rfl rfl Tryz.underlying37 rfl tsz35 rfl) ?_
                  refine ops_ex rfl (guard_none rfl) rfl rfl (ex_load1 rfl rfl Tryz.underlying35 rfl ((HM.box_at 0 rfl) 3 _ rfl)) ?_
                  refine ops_ex rfl (guard_none rfl) rfl rfl (ex_len (d := kOut) (xs := x0.fOuts) rfl rfl Tryz.underlying35 hp0_1) ?_
                  refine ops_ex rfl (guard_none rfl) rfl rfl (ex_move rfl rfl) ?_
                  refine ops_nil ?_
                  refine at_then ?_
                  refine run_block ?_
                  refine run_loop (fun k_ ρ_ w_ => ∃ a3760 : Int, impl_TxFault.l1 x0 k_ a3760 = some o3747 ∧ ρ_ = [(1, .pointer (some ⟨b3549, 0, none⟩)), (65, p0_1), (66, .int .i64 (x0.fOuts.length : Int)), (67, .int .i64 a3760)] ∧ Mem w [] w_ [box b3549 37 [.int .i64 x0.fKind, .int .i64 x0.fMember, p0_0, p0_1]]) k (ρ1 := [(1, .pointer (some ⟨b3549, 0, none⟩)), (65, p0_1), (66, .int .i64 (x0.fOuts.length : Int)), (67, .int .i64 0)]) ⟨_, ho3748, rfl, HM⟩ (Sub.cons rfl (Sub.cons rfl (Sub.cons rfl (Sub.cons rfl Sub.nil)))) ?_
                  clear HM ho3748
                  rintro k3772 _ w3773 ⟨a3760, ho3748, rfl, HM⟩
                  obtain _ | k3772 := k3772
                  · exact nomatch ((impl_TxFault.l1_z x0 a3760).symm.trans ho3748)
                  replace ho3748 := (impl_TxFault.l1_s x0 k3772 a3760).symm.trans ho3748
                  refine run_seq ?_
                  refine run_region rfl ?_
                  refine ops_ex rfl (guard_none rfl) rfl rfl (ex_lss rfl rfl rfl) ?_
                  refine ops_nil ?_
                  refine at_then ?_
                  refine run_seq ?_
                  refine run_cond (b := (decide (a3760 < (x0.fOuts.length : Int)))) rfl (fun hb3774 => ?_) (fun hb3774 => ?_)
                  · replace ho3748 := cond_t hb3774 ho3748
                    refine run_skip ?_
                    refine at_then ?_
                    refine run_seq ?_
                    refine run_block ?_
                    refine run_seq ?_
                    obtain ⟨e3775, ho3748⟩ := chk_some ho3748
                    refine run_region rfl ?_
                    obtain ⟨kv3777, hc3776, hk3778⟩ : ∃ u, CellsAt _ (sb p0_1) (so p0_1 + (a3760).toNat * 4) [(.int .i64 ((gt x0.fOuts a3760).fValue)), u, (.int .i64 ((gt x0.fOuts a3760).fRule.fNeed)), (.int .i64 ((gt x0.fOuts a3760).fRule.fAfter))] ∧ RdS kInt _ u ((gt x0.fOuts a3760).fRule.fKeys) := rd_with1 hp0_1 e3775
                    refine ops_ex rfl (guard_none rfl) rfl rfl (ex_indexAddr (d := kOut) rfl rfl rfl Tryz.underlying35 tsz75 hp0_1 (idx_lo e3775) (idx_hi e3775)) ?_
                    refine ops_ex rfl (guard_none rfl) rfl rfl (ex_loadN (cs := [(.int .i64 ((gt x0.fOuts a3760).fValue)), kv3777, (.int .i64 ((gt x0.fOuts a3760).fRule.fNeed)), (.int .i64 ((gt x0.fOuts a3760).fRule.fAfter))]) rfl rfl Tryz.underlying75 rfl tsz75 rfl ((HM.at_ hc3776).sub 0 4 rfl)) ?_
                    refine ops_does rfl (guard_none rfl) rfl rfl (does_alloc (cs := [.int .i64 0, .slice none 0 0, .int .i64 0, .int .i64 0]) rfl tz75 rfl HM) ?_
                    rintro _ w3782 ⟨b3779, rfl, HM⟩
                    refine ops_doesS rfl (guard_none rfl) rfl (does_store (vs := [.int .i64 ((gt x0.fOuts a3760).fValue), kv3777, .int .i64 ((gt x0.fOuts a3760).fRule.fNeed), .int .i64 ((gt x0.fOuts a3760).fRule.fAfter)]) (cs' := [.int .i64 ((gt x0.fOuts a3760).fValue), kv3777, .int .i64 ((gt x0.fOuts a3760).fRule.fNeed), .int .i64 ((gt x0.fOuts a3760).fRule.fAfter)]) rfl rfl rfl rfl tsz75 (Ones.int (Ones.rd hk3778 (Ones.int (Ones.int Ones.nil)))) rfl rfl HM) ?_
                    rintro w3783 HM
                    refine ops_nil ?_
                    refine at_then ?_
                    refine run_seq ?_
                    obtain ⟨t3784, h3785, ho3748⟩ := bind_some ho3748
                    refine run_region rfl ?_
                    refine ops_ex rfl (guard_none rfl) rfl rfl (ex_loadN (cs := [(.int .i64 ((gt x0.fOuts a3760).fValue)), kv3777, (.int .i64 ((gt x0.fOuts a3760).fRule.fNeed)), (.int .i64 ((gt x0.fOuts a3760).fRule.fAfter))]) rfl rfl Tryz.underlying75 rfl tsz75 rfl ((HM.box_at 0 rfl).sub 0 4 rfl)) ?_
                    refine ops_does rfl (guard_none rfl) rfl rfl (does_callk rfl callok83 rfl (impl_outFault.calls (x0 := (gt x0.fOuts a3760)) (HM.rd hk3778) h3785)) ?_
                    rintro _ w3786 ⟨rfl, hn⟩
                    replace HM : Mem w [] w3786 [box b3779 75 [.int .i64 ((gt x0.fOuts a3760).fValue), kv3777, .int .i64 ((gt x0.fOuts a3760).fRule.fNeed), .int .i64 ((gt x0.fOuts a3760).fRule.fAfter)], box b3549 37 [.int .i64 x0.fKind, .int .i64 x0.fMember, p0_0, p0_1]] := HM.call hn
                    refine ops_ex rfl (guard_none rfl) rfl rfl (ex_assign rfl rfl) ?_
                    refine ops_nil ?_
                    refine at_then ?_
                    refine run_seq ?_
                    refine run_region rfl ?_
                    refine ops_ex rfl (guard_none rfl) rfl rfl (ex_move rfl rfl) ?_
                    refine ops_ex rfl (guard_none rfl) rfl rfl (ex_neq rfl rfl rfl) ?_
                    refine ops_nil ?_
                    refine at_then ?_
                    refine run_cond (b := (t3784 != 0)) rfl (fun hb3787 => ?_) (fun hb3787 => ?_)
                    · replace ho3748 := cond_t hb3787 ho3748
                      refine run_seq ?_
                      refine run_region rfl ?_
                      refine ops_ex rfl (guard_none rfl) rfl rfl (ex_move rfl rfl) ?_
                      refine ops_ex rfl (guard_none rfl) rfl rfl (ex_assign rfl rfl) ?_
                      refine ops_nil ?_
                      refine at_then ?_
                      refine run_ret ?_
                      refine at_block_ret ?_
                      refine at_then_ret ?_
                      refine at_then_ret ?_
                      refine at_block_ret ?_
                      refine at_then_ret ?_
                      replace HM := (HM.front 0 rfl rfl).drop
                      replace HM := (HM.front 0 rfl rfl).drop
                      have hR := Option.some.inj ho3748
                      subst hR
                      have hT := thn_inl H
                      have hR := Option.some.inj hT
                      subst hR
                      exact at_ret1 rfl rfl ⟨_, rfl, rfl, HM⟩
                    · replace ho3748 := cond_f hb3787 ho3748
                      refine run_skip ?_
                      refine at_block ?_
                      refine at_then ?_
                      refine run_region rfl ?_
                      refine ops_ex rfl (guard_none rfl) rfl rfl (ex_add rfl rfl rfl) ?_
                      refine ops_ex rfl (guard_none rfl) rfl rfl (ex_move rfl rfl) ?_
                      refine ops_nil ?_
                      replace HM := (HM.front 0 rfl rfl).drop
                      exact at_again k3772 (ρ1 := [(1, .pointer (some ⟨b3549, 0, none⟩)), (65, p0_1), (66, .int .i64 (x0.fOuts.length : Int)), (67, .int .i64 (wrap64 (a3760 + 1)))]) (Nat.lt_succ_self _) ⟨_, ho3748, rfl, HM⟩ (Sub.cons rfl (Sub.cons rfl (Sub.cons rfl (Sub.cons rfl Sub.nil))))
                  · replace ho3748 := cond_f hb3774 ho3748
                    refine run_exit ?_
                    refine at_then_exit ?_
                    refine at_then_exit ?_
                    refine at_block_exit ?_
                    exact at_mid (ρ' := [(1, .pointer (some ⟨b3549, 0, none⟩))]) ⟨(Option.some.inj ho3748), rfl, HM⟩ (Sub.cons rfl Sub.nil)
                · rintro _ w3788 ⟨rfl, rfl, HM⟩
                  replace H := (thn_inr H)
                  refine run_seq ?_
                  refine run_seq ?_
                  obtain ⟨e3789, H⟩ := chk_some H
                  refine run_meet (fun ρ_ w_ => ρ_ = [(87, .bool ((x0.fKind == 1) && (decide (((gt x0.fOuts (0 : Int)).fValue) < 100))))] ∧ Mem w [] w_ []) ?_ ?_
                  · skip
                    refine run_region rfl ?_
                    refine ops_ex rfl (guard_none rfl) rfl rfl (ex_fieldAddr (off' := 0) rfl rfl Tryz.underlying37 rfl tsz2 rfl) ?_
                    refine ops_ex rfl (guard_none rfl) rfl rfl (ex_load1 rfl rfl Tryz.underlying2 rfl ((HM.box_at 0 rfl) 0 _ rfl)) ?_
                    refine ops_ex rfl (guard_none rfl) rfl rfl (ex_eql rfl rfl rfl) ?_
                    refine ops_ex rfl (guard_none rfl) rfl rfl (ex_move rfl rfl) ?_
                    refine bool_cases (x0.fKind == 1) (fun hg3793 => ?_) (fun hg3793 => ?_)
                    · skip
                      refine ops_ex rfl (guard_on rfl rfl rfl hg3793) rfl rfl (ex_fieldAddr (off' := 3) rfl rfl Tryz.underlying37 rfl tsz35 rfl) ?_
                      refine ops_ex rfl (guard_on rfl rfl rfl hg3793) rfl rfl (ex_load1 rfl rfl Tryz.underlying35 rfl ((HM.box_at 0 rfl) 3 _ rfl)) ?_
                      obtain ⟨kv3791, hc3790, hk3792⟩ : ∃ u, CellsAt _ (sb p0_1) (so p0_1 + ((0 : Int)).toNat * 4) [(.int .i64 ((gt x0.fOuts (0 : Int)).fValue)), u, (.int .i64 ((gt x0.fOuts (0 : Int)).fRule.fNeed)), (.int .i64 ((gt x0.fOuts (0 : Int)).fRule.fAfter))] ∧ RdS kInt _ u ((gt x0.fOuts (0 : Int)).fRule.fKeys) := rd_with1 hp0_1 (or_t e3789 hg3793)
                      refine ops_ex rfl (guard_on rfl rfl rfl hg3793) rfl rfl (ex_indexAddr (d := kOut) rfl rfl rfl Tryz.underlying35 tsz75 hp0_1 (idx_lo (or_t e3789 hg3793)) (idx_hi (or_t e3789 hg3793))) ?_
                      refine ops_ex rfl (guard_on rfl rfl rfl hg3793) rfl rfl (ex_fieldAddr (off' := so p0_1 + ((0 : Int)).toNat * 4) rfl rfl Tryz.underlying75 rfl tsz2 rfl) ?_
                      refine ops_ex rfl (guard_on rfl rfl rfl hg3793) rfl rfl (ex_load1 rfl rfl Tryz.underlying2 rfl ((HM.at_ hc3790) 0 _ rfl)) ?_
                      refine ops_ex rfl (guard_on rfl rfl rfl hg3793) rfl rfl (ex_lss rfl rfl rfl) ?_
                      refine ops_ex (v := .bool ((x0.fKind == 1) && (decide (((gt x0.fOuts (0 : Int)).fValue) < 100)))) rfl (guard_none rfl) rfl rfl (ex_pand_t rfl rfl hg3793 rfl) ?_
                      refine ops_nil ?_
                      replace HM := (HM.front 0 rfl rfl).drop
                      exact at_meet [(87, .bool ((x0.fKind == 1) && (decide (((gt x0.fOuts (0 : Int)).fValue) < 100))))] ⟨rfl, HM⟩ (Sub.cons rfl Sub.nil)
                    · skip
                      refine ops_off rfl (guard_off rfl rfl rfl hg3793) rfl rfl ?_
                      refine ops_off rfl (guard_off rfl rfl rfl hg3793) rfl rfl ?_
                      refine ops_off rfl (guard_off rfl rfl rfl hg3793) rfl rfl ?_
                      refine ops_off rfl (guard_off rfl rfl rfl hg3793) rfl rfl ?_
                      refine ops_off rfl (guard_off rfl rfl rfl hg3793) rfl rfl ?_
                      refine ops_off rfl (guard_off rfl rfl rfl hg3793) rfl rfl ?_
                      have hg3794 : ((x0.fKind == 1) && (decide (((gt x0.fOuts (0 : Int)).fValue) < 100))) = false := by simp only [hg3793, Bool.and_true, Bool.true_and, Bool.and_false, Bool.false_and, Bool.or_true, Bool.true_or, Bool.or_false, Bool.false_or, Bool.not_true, Bool.not_false, Bool.not_not]
                      refine ops_ex (v := .bool ((x0.fKind == 1) && (decide (((gt x0.fOuts (0 : Int)).fValue) < 100)))) rfl (guard_none rfl) rfl rfl (ex_pand_f rfl rfl hg3793) ?_
                      refine ops_nil ?_
                      replace HM := (HM.front 0 rfl rfl).drop
                      exact at_meet [(87, .bool ((x0.fKind == 1) && (decide (((gt x0.fOuts (0 : Int)).fValue) < 100))))] ⟨rfl, HM⟩ (Sub.cons rfl Sub.nil)
                  · rintro _ w3795 ⟨rfl, HM⟩
                    refine at_then ?_
                    refine run_cond (b := ((x0.fKind == 1) && (decide (((gt x0.fOuts (0 : Int)).fValue) < 100)))) rfl (fun hb3796 => ?_) (fun hb3796 => ?_)
                    · replace H := cond_t hb3796 H
                      refine run_seq ?_
                      refine run_region rfl ?_
                      refine ops_ex rfl (guard_none rfl) rfl rfl (ex_assign rfl rfl) ?_
                      refine ops_nil ?_
                      refine at_then ?_
                      refine run_ret ?_
                      refine at_then_ret ?_
                      have hR := Option.some.inj H
                      subst hR
                      exact at_ret1 rfl rfl ⟨_, rfl, rfl, HM⟩
                    · replace H := cond_f hb3796 H
                      refine run_skip ?_
                      refine at_then ?_
                      refine run_seq ?_
                      refine run_region rfl ?_
                      refine ops_ex rfl (guard_none rfl) rfl rfl (ex_assign rfl rfl) ?_
                      refine ops_nil ?_
                      refine at_then ?_
                      refine run_ret ?_
                      have hR := Option.some.inj H
                      subst hR
                      exact at_ret1 rfl rfl ⟨_, rfl, rfl, HM⟩

def impl_findCoin_1.f (k : Nat) (x0 : Coin) (x1 : Ref) : Option Int := ((impl_compareRefs.f k x0.fRef x1).bind fun t3843 => some t3843)
theorem impl_findCoin_1.calls {k : Nat} {x0 : Coin} {x1 : Ref} {p0_0 : Value} {w : World} (hp0_0 : RdS kInt w p0_0 x0.fOut.fRule.fKeys) {r : Int} (H : impl_findCoin_1.f k x0 x1 = some r) :
    Calls Tryz.prog 106 ([.agg #[(.int .i64 x0.fRef.fTx), (.int .i64 x0.fRef.fAt), (.int .i64 x0.fOut.fValue), p0_0, (.int .i64 x0.fOut.fRule.fNeed), (.int .i64 x0.fOut.fRule.fAfter), (.int .i64 x0.fHeight), (.bool x0.fMined)], .agg #[(.int .i64 x1.fTx), (.int .i64 x1.fAt)]] : List Value).toArray w (fun e w_ => ∃ v, e = .returned v ∧ v = (.int .i64 r) ∧ Mem w [] w_ []) := by
  have HM := Mem.start w
  refine calls_run (N := 9) Tryz.func106 rfl rfl rfl rfl ?_
  unfold impl_findCoin_1.f at H
  refine run_seq ?_
  refine run_region rfl ?_
  refine ops_does rfl (guard_none rfl) rfl rfl (does_box (cs := [.int .i64 x0.fRef.fTx, .int .i64 x0.fRef.fAt, .int .i64 x0.fOut.fValue, p0_0, .int .i64 x0.fOut.fRule.fNeed, .int .i64 x0.fOut.fRule.fAfter, .int .i64 x0.fHeight, .bool x0.fMined]) rfl rfl rfl HM) ?_
  rintro _ w3841 ⟨b3835, rfl, HM⟩
  refine ops_does rfl (guard_none rfl) rfl rfl (does_box (cs := [.int .i64 x1.fTx, .int .i64 x1.fAt]) rfl rfl rfl HM) ?_
  rintro _ w3842 ⟨b3838, rfl, HM⟩
  refine ops_ex rfl (guard_none rfl) rfl rfl (ex_assign rfl rfl) ?_
  refine ops_nil ?_
  refine at_then ?_
  refine run_seq ?_
  obtain ⟨t3843, h3844, H⟩ := bind_some H
  refine run_region rfl ?_
  refine ops_ex rfl (guard_none rfl) rfl rfl (ex_fieldAddr (off' := 0) rfl rfl Tryz.underlying77 rfl tsz56 rfl) ?_
  refine ops_ex rfl (guard_none rfl) rfl rfl (ex_loadN (cs := [(.int .i64 x0.fRef.fTx), (.int .i64 x0.fRef.fAt)]) rfl rfl Tryz.underlying56 rfl tsz56 rfl ((HM.box_at 1 rfl).sub 0 2 rfl)) ?_
  refine ops_ex rfl (guard_none rfl) rfl rfl (ex_loadN (cs := [(.int .i64 x1.fTx), (.int .i64 x1.fAt)]) rfl rfl Tryz.underlying56 rfl tsz56 rfl ((HM.box_at 0 rfl).sub 0 2 rfl)) ?_
  refine ops_does rfl (guard_none rfl) rfl rfl (does_callk rfl callok68 rfl (impl_compareRefs.calls (x0 := x0.fRef) (x1 := x1) h3844)) ?_
  rintro _ w3845 ⟨rfl, hn⟩
  replace HM : Mem w [] w3845 [box b3838 56 [.int .i64 x1.fTx, .int .i64 x1.fAt], box b3835 77 [.int .i64 x0.fRef.fTx, .int .i64 x0.fRef.fAt, .int .i64 x0.fOut.fValue, p0_0, .int .i64 x0.fOut.fRule.fNeed, .int .i64 x0.fOut.fRule.fAfter, .int .i64 x0.fHeight, .bool x0.fMined]] := HM.call hn
  refine ops_ex rfl (guard_none rfl) rfl rfl (ex_assign rfl rfl) ?_
  refine ops_nil ?_
  refine at_then ?_
  refine run_ret ?_
  replace HM := (HM.front 0 rfl rfl).drop
  replace HM := (HM.front 0 rfl rfl).drop
  have hR := Option.some.inj H
  subst hR
  exact at_ret1 rfl rfl ⟨_, rfl, rfl, HM⟩

def slices_BinarySearchFunc_impl_Coin.l0 (x0 : List Coin) (x1 : Ref) : Nat → Int → Int → Option Int
  | 0, _, _ => none
  | k + 1, a3923, a3924 => (bif (decide (a3923 < a3924)) then (chk (decide (0 ≤ (1 : Int)) && decide ((1 : Int) ≤ IntKind.u64.bits)) (chk (idxOk (wrap64 ((IntKind.u64.wrap (wrap64 (a3923 + a3924))) / 2 ^ ((1 : Int)).toNat)) x0.length) ((impl_findCoin_1.f k (gt x0 (wrap64 ((IntKind.u64.wrap (wrap64 (a3923 + a3924))) / 2 ^ ((1 : Int)).toNat))) x1).bind fun t3942 => (bif (decide (t3942 < 0)) then slices_BinarySearchFunc_impl_Coin.l0 x0 x1 k (wrap64 ((wrap64 ((IntKind.u64.wrap (wrap64 (a3923 + a3924))) / 2 ^ ((1 : Int)).toNat)) + 1)) a3924 else slices_BinarySearchFunc_impl_Coin.l0 x0 x1 k a3923 (wrap64 ((IntKind.u64.wrap (wrap64 (a3923 + a3924))) / 2 ^ ((1 : Int)).toNat)))))) else some a3923)
theorem slices_BinarySearchFunc_impl_Coin.l0_z (x0 : List Coin) (x1 : Ref) (a3923 : Int) (a3924 : Int) : slices_BinarySearchFunc_impl_Coin.l0 x0 x1 0 a3923 a3924 = none := rfl
theorem slices_BinarySearchFunc_impl_Coin.l0_s (x0 : List Coin) (x1 : Ref) (k : Nat) (a3923 : Int) (a3924 : Int) : slices_BinarySearchFunc_impl_Coin.l0 x0 x1 (k + 1) a3923 a3924 = (bif (decide (a3923 < a3924)) then (chk (decide (0 ≤ (1 : Int)) && decide ((1 : Int) ≤ IntKind.u64.bits)) (chk (idxOk (wrap64 ((IntKind.u64.wrap (wrap64 (a3923 + a3924))) / 2 ^ ((1 : Int)).toNat)) x0.length) ((impl_findCoin_1.f k (gt x0 (wrap64 ((IntKind.u64.wrap (wrap64 (a3923 + a3924))) / 2 ^ ((1 : Int)).toNat))) x1).bind fun t3942 => (bif (decide (t3942 < 0)) then slices_BinarySearchFunc_impl_Coin.l0 x0 x1 k (wrap64 ((wrap64 ((IntKind.u64.wrap (wrap64 (a3923 + a3924))) / 2 ^ ((1 : Int)).toNat)) + 1)) a3924 else slices_BinarySearchFunc_impl_Coin.l0 x0 x1 k a3923 (wrap64 ((IntKind.u64.wrap (wrap64 (a3923 + a3924))) / 2 ^ ((1 : Int)).toNat)))))) else some a3923) := rfl
def slices_BinarySearchFunc_impl_Coin.f (k : Nat) (x0 : List Coin) (x1 : Ref) : Option (Int × Bool) := ((slices_BinarySearchFunc_impl_Coin.l0 x0 x1 k 0 (x0.length : Int)).bind (fun a3911 => (chk (!(decide (a3911 < (x0.length : Int))) || (idxOk a3911 x0.length)) ((bif (decide (a3911 < (x0.length : Int))) then impl_findCoin_1.f k (gt x0 a3911) x1 else some default).bind fun t3951 => some (a3911, ((decide (a3911 < (x0.length : Int))) && (t3951 == 0)))))))
theorem slices_BinarySearchFunc_impl_Coin.calls {k : Nat} {x0 : List Coin} {x1 : Ref} {p0 : Value} {w : World} (hp0 : RdS kCoin w p0 x0) {r : Int × Bool} (H : slices_BinarySearchFunc_impl_Coin.f k x0 x1 = some r) :
    Calls Tryz.prog 105 ([p0, .agg #[(.int .i64 x1.fTx), (.int .i64 x1.fAt)], .func (.func 106) #[] #[]] : List Value).toArray w (fun e w_ => ∃ v, e = .returned v ∧ v = (.tuple #[.int .i64 r.1, .bool r.2]) ∧ Mem w [] w_ []) := by
  have HM := Mem.start w
  refine calls_run (N := 49) Tryz.func105 rfl rfl rfl rfl ?_
  unfold slices_BinarySearchFunc_impl_Coin.f at H
  refine run_seq ?_
  refine run_region rfl ?_
  refine ops_does rfl (guard_none rfl) rfl rfl (does_box (cs := [.int .i64 x1.fTx, .int .i64 x1.fAt]) rfl rfl rfl HM) ?_
  rintro _ w3881 ⟨b3878, rfl, HM⟩
  refine ops_ex rfl (guard_none rfl) rfl rfl (ex_assign rfl rfl) ?_
  refine ops_ex rfl (guard_none rfl) rfl rfl (ex_assign rfl rfl) ?_
  refine ops_nil ?_
  refine at_then ?_
  refine run_seq ?_
  refine run_region rfl ?_
  refine ops_ex rfl (guard_none rfl) rfl rfl (ex_move rfl rfl) ?_
  refine ops_ex rfl (guard_none rfl) rfl rfl (ex_len (d := kCoin) (xs := x0) rfl rfl Tryz.underlying29 hp0) ?_
  refine ops_ex rfl (guard_none rfl) rfl rfl (ex_assign rfl rfl) ?_
  refine ops_nil ?_
  refine at_then ?_
  refine run_seq ?_
  refine run_region rfl ?_
  refine ops_ex rfl (guard_none rfl) rfl rfl (ex_move rfl rfl) ?_
  refine ops_ex rfl (guard_none rfl) rfl rfl (ex_assign rfl rfl) ?_
  refine ops_ex rfl (guard_none rfl) rfl rfl (ex_assign rfl rfl) ?_
  refine ops_nil ?_
  refine at_then ?_
  obtain ⟨o3912, ho3913, H⟩ := bind_some H
  refine run_mid (fun ρ_ w_ => ∃ a3911 : Int, a3911 = o3912 ∧ ρ_ = [(0, p0), (2, .func (.func 106) #[] #[]), (4, .pointer (some ⟨b3878, 0, none⟩)), (8, .int .i64 (x0.length : Int)), (9, .int .i64 a3911)] ∧ Mem w [] w_ [box b3878 56 [.int .i64 x1.fTx, .int .i64 x1.fAt]]) ?_ ?_
  · clear H
    refine run_block ?_
    refine run_loop (fun k_ ρ_ w_ => ∃ a3923 : Int, ∃ a3924 : Int, slices_BinarySearchFunc_impl_Coin.l0 x0 x1 k_ a3923 a3924 = some o3912 ∧ ρ_ = [(0, p0), (2, .func (.func 106) #[] #[]), (4, .pointer (some ⟨b3878, 0, none⟩)), (8, .int .i64 (x0.length : Int)), (9, .int .i64 a3923), (10, .int .i64 a3924)] ∧ Mem w [] w_ [box b3878 56 [.int .i64 x1.fTx, .int .i64 x1.fAt]]) k (ρ1 := [(0, p0), (2, .func (.func 106) #[] #[]), (4, .pointer (some ⟨b3878, 0, none⟩)), (8, .int .i64 (x0.length : Int)), (9, .int .i64 0), (10, .int .i64 (x0.length : Int))]) ⟨_, _, ho3913, rfl, HM⟩ (Sub.cons rfl (Sub.cons rfl (Sub.cons rfl (Sub.cons rfl (Sub.cons rfl (Sub.cons rfl Sub.nil)))))) ?_
    clear HM ho3913
    rintro k3934 _ w3935 ⟨a3923, a3924, ho3913, rfl, HM⟩
    obtain _ | k3934 := k3934
    · exact nomatch ((slices_BinarySearchFunc_impl_Coin.l0_z x0 x1 a3923 a3924).symm.trans ho3913)
    replace ho3913 := (slices_BinarySearchFunc_impl_Coin.l0_s x0 x1 k3934 a3923 a3924).symm.trans ho3913
    refine run_seq ?_
    refine run_seq ?_
    refine run_region rfl ?_
    refine ops_ex rfl (guard_none rfl) rfl rfl (ex_move rfl rfl) ?_
    refine ops_ex rfl (guard_none rfl) rfl rfl (ex_move rfl rfl) ?_
    refine ops_ex rfl (guard_none rfl) rfl rfl (ex_lss rfl rfl rfl) ?_
    refine ops_nil ?_
    refine at_then ?_
    refine run_cond (b := (decide (a3923 < a3924))) rfl (fun hb3936 => ?_) (fun hb3936 => ?_)
    · replace ho3913 := cond_t hb3936 ho3913
      refine run_skip ?_
      refine at_then ?_
      refine run_block ?_
      refine run_seq ?_
      obtain ⟨e3937, ho3913⟩ := chk_some ho3913
      refine run_region rfl ?_
      refine ops_ex rfl (guard_none rfl) rfl rfl (ex_move rfl rfl) ?_
      refine ops_ex rfl (guard_none rfl) rfl rfl (ex_move rfl rfl) ?_
      refine ops_ex rfl (guard_none rfl) rfl rfl (ex_add rfl rfl rfl) ?_
      refine ops_ex rfl (guard_none rfl) rfl rfl (ex_conv rfl rfl (by rw [Tryz.underlying3]; rfl) Tryz.underlying177) ?_
      refine ops_ex rfl (guard_none rfl) rfl rfl (ex_shr rfl rfl rfl e3937) ?_
      refine ops_ex rfl (guard_none rfl) rfl rfl (ex_conv64 rfl rfl (by rw [Tryz.underlying177]; rfl) Tryz.underlying3) ?_
      refine ops_ex rfl (guard_none rfl) rfl rfl (ex_assign rfl rfl) ?_
      refine ops_nil ?_
      refine at_then ?_
      refine run_seq ?_
      obtain ⟨e3938, ho3913⟩ := chk_some ho3913
      obtain ⟨t3942, h3943, ho3913⟩ := bind_some ho3913
      refine run_drawf (fun w_ => Mem w [] w_ [box b3878 56 [.int .i64 x1.fTx, .int .i64 x1.fAt]]) [(0, true), (1, true), (2, true), (3, true), (4, true), (5, true), (6, false), (7, true)] mixed rfl rfl (by kernel_rfl) ?_
      replace HM := HM.grow (fr_drew _)
      have hS := Mem.suf (M := []) HM
      refine drwp_take rfl (guard_none rfl) rfl rfl (fun w_ hS_ => (ex_move rfl rfl)) hS ?_
      refine drwp_take rfl (guard_none rfl) rfl rfl (fun w_ hS_ => (ex_move rfl rfl)) hS ?_
      refine drwp_take rfl (guard_none rfl) rfl rfl (fun w_ hS_ => (ex_move rfl rfl)) hS ?_
      obtain ⟨kv3940, hc3939, hk3941⟩ : ∃ u, CellsAt _ (sb p0) (so p0 + (wrap64 ((IntKind.u64.wrap (wrap64 (a3923 + a3924))) / 2 ^ ((1 : Int)).toNat)).toNat * 8) [(.int .i64 ((gt x0 (wrap64 ((IntKind.u64.wrap (wrap64 (a3923 + a3924))) / 2 ^ ((1 : Int)).toNat))).fRef.fTx)), (.int .i64 ((gt x0 (wrap64 ((IntKind.u64.wrap (wrap64 (a3923 + a3924))) / 2 ^ ((1 : Int)).toNat))).fRef.fAt)), (.int .i64 ((gt x0 (wrap64 ((IntKind.u64.wrap (wrap64 (a3923 + a3924))) / 2 ^ ((1 : Int)).toNat))).fOut.fValue)), u, (.int .i64 ((gt x0 (wrap64 ((IntKind.u64.wrap (wrap64 (a3923 + a3924))) / 2 ^ ((1 : Int)).toNat))).fOut.fRule.fNeed)), (.int .i64 ((gt x0 (wrap64 ((IntKind.u64.wrap (wrap64 (a3923 + a3924))) / 2 ^ ((1 : Int)).toNat))).fOut.fRule.fAfter)), (.int .i64 ((gt x0 (wrap64 ((IntKind.u64.wrap (wrap64 (a3923 + a3924))) / 2 ^ ((1 : Int)).toNat))).fHeight)), (.bool ((gt x0 (wrap64 ((IntKind.u64.wrap (wrap64 (a3923 + a3924))) / 2 ^ ((1 : Int)).toNat))).fMined))] ∧ RdS kInt _ u ((gt x0 (wrap64 ((IntKind.u64.wrap (wrap64 (a3923 + a3924))) / 2 ^ ((1 : Int)).toNat))).fOut.fRule.fKeys) := rd_with1 hp0 e3938
      refine drwp_take rfl (guard_none rfl) rfl rfl (fun w_ hS_ => (ex_indexAddr (d := kCoin) rfl rfl rfl Tryz.underlying29 tsz77 hp0 (idx_lo e3938) (idx_hi e3938))) hS ?_
      refine drwp_take rfl (guard_none rfl) rfl rfl (fun w_ hS_ => (ex_loadN (cs := [(.int .i64 ((gt x0 (wrap64 ((IntKind.u64.wrap (wrap64 (a3923 + a3924))) / 2 ^ ((1 : Int)).toNat))).fRef.fTx)), (.int .i64 ((gt x0 (wrap64 ((IntKind.u64.wrap (wrap64 (a3923 + a3924))) / 2 ^ ((1 : Int)).toNat))).fRef.fAt)), (.int .i64 ((gt x0 (wrap64 ((IntKind.u64.wrap (wrap64 (a3923 + a3924))) / 2 ^ ((1 : Int)).toNat))).fOut.fValue)), kv3940, (.int .i64 ((gt x0 (wrap64 ((IntKind.u64.wrap (wrap64 (a3923 + a3924))) / 2 ^ ((1 : Int)).toNat))).fOut.fRule.fNeed)), (.int .i64 ((gt x0 (wrap64 ((IntKind.u64.wrap (wrap64 (a3923 + a3924))) / 2 ^ ((1 : Int)).toNat))).fOut.fRule.fAfter)), (.int .i64 ((gt x0 (wrap64 ((IntKind.u64.wrap (wrap64 (a3923 + a3924))) / 2 ^ ((1 : Int)).toNat))).fHeight)), (.bool ((gt x0 (wrap64 ((IntKind.u64.wrap (wrap64 (a3923 + a3924))) / 2 ^ ((1 : Int)).toNat))).fMined))]) rfl rfl Tryz.underlying77 rfl tsz77 rfl ((hS_.at_ hc3939).sub 0 8 rfl))) hS ?_
      refine drwp_take rfl (guard_none rfl) rfl rfl (fun w_ hS_ => (ex_loadN (cs := [(.int .i64 x1.fTx), (.int .i64 x1.fAt)]) rfl rfl Tryz.underlying56 rfl tsz56 rfl ((hS_.box_at 0 rfl).sub 0 2 rfl))) hS ?_
      refine drwp_one rfl (guard_none rfl) rfl rfl (does_callvk rfl callok106 rfl rfl rfl (impl_findCoin_1.calls (x0 := (gt x0 (wrap64 ((IntKind.u64.wrap (wrap64 (a3923 + a3924))) / 2 ^ ((1 : Int)).toNat)))) (x1 := x1) (HM.rd hk3941) h3943)) ?_
      rintro _ w3944 ⟨rfl, hn⟩
      replace HM : Mem w [] w3944 [box b3878 56 [.int .i64 x1.fTx, .int .i64 x1.fAt]] := HM.call hn
      refine ⟨Mem.suf (M := []) HM, ?_⟩
      have hS := Mem.suf (M := []) HM
      refine drwp_take rfl (guard_none rfl) rfl rfl (fun w_ hS_ => (ex_lss rfl rfl rfl)) hS ?_
      refine drwp_done ?_
      refine at_then ?_
      refine run_cond (b := (decide (t3942 < 0))) rfl (fun hb3945 => ?_) (fun hb3945 => ?_)
      · replace ho3913 := cond_t hb3945 ho3913
        refine run_region rfl ?_
        refine ops_ex rfl (guard_none rfl) rfl rfl (ex_move rfl rfl) ?_
        refine ops_ex rfl (guard_none rfl) rfl rfl (ex_add rfl rfl rfl) ?_
        refine ops_ex rfl (guard_none rfl) rfl rfl (ex_assign rfl rfl) ?_
        refine ops_nil ?_
        refine at_block ?_
        exact at_again k3934 (ρ1 := [(0, p0), (2, .func (.func 106) #[] #[]), (4, .pointer (some ⟨b3878, 0, none⟩)), (8, .int .i64 (x0.length : Int)), (9, .int .i64 (wrap64 ((wrap64 ((IntKind.u64.wrap (wrap64 (a3923 + a3924))) / 2 ^ ((1 : Int)).toNat)) + 1))), (10, .int .i64 a3924)]) (Nat.lt_succ_self _) ⟨_, _, ho3913, rfl, HM⟩ (Sub.cons rfl (Sub.cons rfl (Sub.cons rfl (Sub.cons rfl (Sub.cons rfl (Sub.cons rfl Sub.nil))))))
      · replace ho3913 := cond_f hb3945 ho3913
        refine run_region rfl ?_
        refine ops_ex rfl (guard_none rfl) rfl rfl (ex_move rfl rfl) ?_
        refine ops_ex rfl (guard_none rfl) rfl rfl (ex_assign rfl rfl) ?_
        refine ops_nil ?_
        refine at_block ?_
        exact at_again k3934 (ρ1 := [(0, p0), (2, .func (.func 106) #[] #[]), (4, .pointer (some ⟨b3878, 0, none⟩)), (8, .int .i64 (x0.length : Int)), (9, .int .i64 a3923), (10, .int .i64 (wrap64 ((IntKind.u64.wrap (wrap64 (a3923 + a3924))) / 2 ^ ((1 : Int)).toNat)))]) (Nat.lt_succ_self _) ⟨_, _, ho3913, rfl, HM⟩ (Sub.cons rfl (Sub.cons rfl (Sub.cons rfl (Sub.cons rfl (Sub.cons rfl (Sub.cons rfl Sub.nil))))))
    · replace ho3913 := cond_f hb3936 ho3913
      refine run_exit ?_
      refine at_then_exit ?_
      refine at_then_exit ?_
      refine at_block_exit ?_
      exact at_mid (ρ' := [(0, p0), (2, .func (.func 106) #[] #[]), (4, .pointer (some ⟨b3878, 0, none⟩)), (8, .int .i64 (x0.length : Int)), (9, .int .i64 a3923)]) ⟨_, (Option.some.inj ho3913), rfl, HM⟩ (Sub.cons rfl (Sub.cons rfl (Sub.cons rfl (Sub.cons rfl (Sub.cons rfl Sub.nil)))))
  · rintro _ w3946 ⟨a3911, rfl, rfl, HM⟩
    refine run_seq ?_
    obtain ⟨e3947, H⟩ := chk_some H
    obtain ⟨t3951, h3952, H⟩ := bind_some H
    refine run_meet (fun ρ_ w_ => ρ_ = [(6, .int .i64 a3911), (7, .bool ((decide (a3911 < (x0.length : Int))) && (t3951 == 0)))] ∧ Mem w [] w_ []) ?_ ?_
    · skip
      refine run_drawf (fun w_ => Mem w [] w_ [box b3878 56 [.int .i64 x1.fTx, .int .i64 x1.fAt]]) [(0, true), (1, true), (2, true), (3, true), (4, true), (5, true), (6, true), (7, true), (8, true), (9, true), (10, true), (11, false), (12, true), (13, true), (14, true), (15, true)] mixed rfl rfl (by kernel_rfl) ?_
      replace HM := HM.grow (fr_drew _)
      have hS := Mem.suf (M := []) HM
      refine drwp_take rfl (guard_none rfl) rfl rfl (fun w_ hS_ => (ex_move rfl rfl)) hS ?_
      refine drwp_take rfl (guard_none rfl) rfl rfl (fun w_ hS_ => (ex_move rfl rfl)) hS ?_
      refine drwp_take rfl (guard_none rfl) rfl rfl (fun w_ hS_ => (ex_move rfl rfl)) hS ?_
      refine drwp_take rfl (guard_none rfl) rfl rfl (fun w_ hS_ => (ex_lss rfl rfl rfl)) hS ?_
      refine drwp_take rfl (guard_none rfl) rfl rfl (fun w_ hS_ => (ex_move rfl rfl)) hS ?_
      refine bool_cases (decide (a3911 < (x0.length : Int))) (fun hg3953 => ?_) (fun hg3953 => ?_)
      · skip
        refine drwp_take rfl (guard_on rfl rfl rfl hg3953) rfl rfl (fun w_ hS_ => (ex_move rfl rfl)) hS ?_
        refine drwp_take rfl (guard_on rfl rfl rfl hg3953) rfl rfl (fun w_ hS_ => (ex_move rfl rfl)) hS ?_
        refine drwp_take rfl (guard_on rfl rfl rfl hg3953) rfl rfl (fun w_ hS_ => (ex_move rfl rfl)) hS ?_
        obtain ⟨kv3949, hc3948, hk3950⟩ : ∃ u, CellsAt _ (sb p0) (so p0 + (a3911).toNat * 8) [(.int .i64 ((gt x0 a3911).fRef.fTx)), (.int .i64 ((gt x0 a3911).fRef.fAt)), (.int .i64 ((gt x0 a3911).fOut.fValue)), u, (.int .i64 ((gt x0 a3911).fOut.fRule.fNeed)), (.int .i64 ((gt x0 a3911).fOut.fRule.fAfter)), (.int .i64 ((gt x0 a3911).fHeight)), (.bool ((gt x0 a3911).fMined))] ∧ RdS kInt _ u ((gt x0 a3911).fOut.fRule.fKeys) := rd_with1 hp0 (or_t e3947 hg3953)
        refine drwp_take rfl (guard_on rfl rfl rfl hg3953) rfl rfl (fun w_ hS_ => (ex_indexAddr (d := kCoin) rfl rfl rfl Tryz.underlying29 tsz77 hp0 (idx_lo (or_t e3947 hg3953)) (idx_hi (or_t e3947 hg3953)))) hS ?_
        refine drwp_take rfl (guard_on rfl rfl rfl hg3953) rfl rfl (fun w_ hS_ => (ex_loadN (cs := [(.int .i64 ((gt x0 a3911).fRef.fTx)), (.int .i64 ((gt x0 a3911).fRef.fAt)), (.int .i64 ((gt x0 a3911).fOut.fValue)), kv3949, (.int .i64 ((gt x0 a3911).fOut.fRule.fNeed)), (.int .i64 ((gt x0 a3911).fOut.fRule.fAfter)), (.int .i64 ((gt x0 a3911).fHeight)), (.bool ((gt x0 a3911).fMined))]) rfl rfl Tryz.underlying77 rfl tsz77 rfl ((hS_.at_ hc3948).sub 0 8 rfl))) hS ?_
        refine drwp_take rfl (guard_on rfl rfl rfl hg3953) rfl rfl (fun w_ hS_ => (ex_loadN (cs := [(.int .i64 x1.fTx), (.int .i64 x1.fAt)]) rfl rfl Tryz.underlying56 rfl tsz56 rfl ((hS_.box_at 0 rfl).sub 0 2 rfl))) hS ?_
        refine drwp_one rfl (guard_on rfl rfl rfl hg3953) rfl rfl (does_callvk rfl callok106 rfl rfl rfl (impl_findCoin_1.calls (x0 := (gt x0 a3911)) (x1 := x1) (HM.rd hk3950) (cond_t hg3953 h3952))) ?_
        rintro _ w3954 ⟨rfl, hn⟩
        replace HM : Mem w [] w3954 [box b3878 56 [.int .i64 x1.fTx, .int .i64 x1.fAt]] := HM.call hn
        refine ⟨Mem.suf (M := []) HM, ?_⟩
        have hS := Mem.suf (M := []) HM
        refine drwp_take rfl (guard_on rfl rfl rfl hg3953) rfl rfl (fun w_ hS_ => (ex_eql rfl rfl rfl)) hS ?_
        refine drwp_take (v := .bool ((decide (a3911 < (x0.length : Int))) && (t3951 == 0))) rfl (guard_none rfl) rfl rfl (fun w_ hS_ => (ex_pand_t rfl rfl hg3953 rfl)) hS ?_
        refine drwp_take rfl (guard_none rfl) rfl rfl (fun w_ hS_ => (ex_assign rfl rfl)) hS ?_
        refine drwp_take rfl (guard_none rfl) rfl rfl (fun w_ hS_ => (ex_assign rfl rfl)) hS ?_
        refine drwp_done ?_
        replace HM := (HM.front 0 rfl rfl).drop
        exact at_meet [(6, .int .i64 a3911), (7, .bool ((decide (a3911 < (x0.length : Int))) && (t3951 == 0)))] ⟨rfl, HM⟩ (Sub.cons rfl (Sub.cons rfl Sub.nil))
      · skip
        refine drwp_off rfl (guard_off rfl rfl rfl hg3953) rfl rfl hS ?_
        refine drwp_off rfl (guard_off rfl rfl rfl hg3953) rfl rfl hS ?_
        refine drwp_off rfl (guard_off rfl rfl rfl hg3953) rfl rfl hS ?_
        refine drwp_off rfl (guard_off rfl rfl rfl hg3953) rfl rfl hS ?_
        refine drwp_off rfl (guard_off rfl rfl rfl hg3953) rfl rfl hS ?_
        refine drwp_off rfl (guard_off rfl rfl rfl hg3953) rfl rfl hS ?_
        refine drwp_off1 rfl (guard_off rfl rfl rfl hg3953) rfl rfl ⟨hS, ?_⟩
        refine drwp_off rfl (guard_off rfl rfl rfl hg3953) rfl rfl hS ?_
        have hg3955 : ((decide (a3911 < (x0.length : Int))) && (t3951 == 0)) = false := by simp only [hg3953, Bool.and_true, Bool.true_and, Bool.and_false, Bool.false_and, Bool.or_true, Bool.true_or, Bool.or_false, Bool.false_or, Bool.not_true, Bool.not_false, Bool.not_not]
        refine drwp_take (v := .bool ((decide (a3911 < (x0.length : Int))) && (t3951 == 0))) rfl (guard_none rfl) rfl rfl (fun w_ hS_ => (ex_pand_f rfl rfl hg3953)) hS ?_
        refine drwp_take rfl (guard_none rfl) rfl rfl (fun w_ hS_ => (ex_assign rfl rfl)) hS ?_
        refine drwp_take rfl (guard_none rfl) rfl rfl (fun w_ hS_ => (ex_assign rfl rfl)) hS ?_
        refine drwp_done ?_
        replace HM := (HM.front 0 rfl rfl).drop
        exact at_meet [(6, .int .i64 a3911), (7, .bool ((decide (a3911 < (x0.length : Int))) && (t3951 == 0)))] ⟨rfl, HM⟩ (Sub.cons rfl (Sub.cons rfl Sub.nil))
    · rintro _ w3956 ⟨rfl, HM⟩
      refine at_then ?_
      refine run_ret ?_
      have hR := Option.some.inj H
      subst hR
      exact at_ret2 rfl rfl rfl ⟨_, rfl, rfl, HM⟩
end Go.Proofs.YtcamddjlhchkfaaGreat.Zk
