/- What functions of the program compute, each as a plain function, and that they do. Conditions: as each theorem states them. -/
import Derived.Test.YtbbcabpnkdilgaaFnMembersZkF4
namespace Go.Proofs.Ytbbcabpnkdilgaa.Zk
open Go Go.RowKit Go.IntWalk Go.Proofs
set_option linter.unusedVariables false
set_option linter.unusedSimpArgs false
set_option maxRecDepth 100000
set_option maxHeartbeats 4000000
def impl_TxFault_1.f (k : Nat) (x0 : Int) : Option Bool := some ((decide (x0 < 1)) || (decide (4 < x0)))
theorem impl_TxFault_1.calls {k : Nat} {x0 : Int}  {w : World}  {r : Bool} (H : impl_TxFault_1.f k x0 = some r) :
    Calls Try.prog 106 ([.int .i64 x0] : List Value).toArray w (fun e w_ => ∃ v, e = .returned v ∧ v = (.bool r) ∧ Mem w [] w_ []) := by
  have HM := Mem.start w
  refine calls_run (N := 9) Try.func106 rfl rfl rfl rfl ?_
  unfold impl_TxFault_1.f at H
  refine run_seq ?_
  refine run_region rfl ?_
  refine ox rfl rfl rfl rfl (ex_assign rfl rfl) ?_
  refine ops_nil (at_then (run_seq ?_))
  refine run_meet (fun ρ_ w_ => ρ_ = [(2, .bool ((decide (x0 < 1)) || (decide (4 < x0))))] ∧ Mem w [] w_ []) ?_ ?_
  · skip
    refine run_region rfl ?_
    refine ox rfl rfl rfl rfl (ex_move rfl rfl) ?_
    refine ox rfl rfl rfl rfl (ex_lss rfl rfl rfl) ?_
    refine ox rfl rfl rfl rfl (ex_move rfl rfl) ?_
    refine bool_cases (decide (x0 < 1)) (fun hg3452 => ?_) (fun hg3452 => ?_)
    · skip
      refine ops_off rfl (guard_off rfl rfl rfl hg3452) rfl rfl ?_
      refine ops_off rfl (guard_off rfl rfl rfl hg3452) rfl rfl ?_
      have hg3453 : ((decide (x0 < 1)) || (decide (4 < x0))) = true := by simp only [hg3452, Bool.and_true, Bool.true_and, Bool.and_false, Bool.false_and, Bool.or_true, Bool.true_or, Bool.or_false, Bool.false_or, Bool.not_true, Bool.not_false, Bool.not_not]
      refine ops_ex (v := .bool ((decide (x0 < 1)) || (decide (4 < x0)))) rfl (guard_none rfl) rfl rfl (ex_por_t rfl rfl hg3452) ?_
      refine ox rfl rfl rfl rfl (ex_assign rfl rfl) ?_
      refine ops_nil ?_
      exact at_meet [(2, .bool ((decide (x0 < 1)) || (decide (4 < x0))))] ⟨rfl, HM⟩ (Sub.cons rfl Sub.nil)
    · skip
      refine ops_ex rfl (guard_on rfl rfl rfl hg3452) rfl rfl (ex_move rfl rfl) ?_
      refine ops_ex rfl (guard_on rfl rfl rfl hg3452) rfl rfl (ex_gtr rfl rfl rfl) ?_
      refine ops_ex (v := .bool ((decide (x0 < 1)) || (decide (4 < x0)))) rfl (guard_none rfl) rfl rfl (ex_por_f rfl rfl hg3452 rfl) ?_
      refine ox rfl rfl rfl rfl (ex_assign rfl rfl) ?_
      refine ops_nil ?_
      exact at_meet [(2, .bool ((decide (x0 < 1)) || (decide (4 < x0))))] ⟨rfl, HM⟩ (Sub.cons rfl Sub.nil)
  · rintro _ w3454 ⟨rfl, HM⟩
    refine at_then ?_
    refine run_ret ?_
    have hR := Option.some.inj H
    subst hR
    exact at_ret1 rfl rfl ⟨_, rfl, rfl, HM⟩

def slices_Index_impl_Ref.l0 (x0 : List Ref) (x1 : Ref) : Nat → Int → Option (Int ⊕ Unit)
  | 0, _ => none
  | k + 1, a3531 => (bif (decide (a3531 < (x0.length : Int))) then (chk (idxOk a3531 x0.length) (bif ((x1.fTx == ((gt x0 a3531).fTx)) && (x1.fAt == ((gt x0 a3531).fAt))) then some (.inl a3531) else slices_Index_impl_Ref.l0 x0 x1 k (wrap64 (a3531 + 1)))) else some (.inr ()))
theorem slices_Index_impl_Ref.l0_z (x0 : List Ref) (x1 : Ref) (a3531 : Int) : slices_Index_impl_Ref.l0 x0 x1 0 a3531 = none := rfl
theorem slices_Index_impl_Ref.l0_s (x0 : List Ref) (x1 : Ref) (k : Nat) (a3531 : Int) : slices_Index_impl_Ref.l0 x0 x1 (k + 1) a3531 = (bif (decide (a3531 < (x0.length : Int))) then (chk (idxOk a3531 x0.length) (bif ((x1.fTx == ((gt x0 a3531).fTx)) && (x1.fAt == ((gt x0 a3531).fAt))) then some (.inl a3531) else slices_Index_impl_Ref.l0 x0 x1 k (wrap64 (a3531 + 1)))) else some (.inr ())) := rfl
def slices_Index_impl_Ref.f (k : Nat) (x0 : List Ref) (x1 : Ref) : Option Int := ((slices_Index_impl_Ref.l0 x0 x1 k 0).bind fun o3525 => thn o3525 (fun r => some r) (fun _ => some (-1)))
theorem slices_Index_impl_Ref.calls {k : Nat} {x0 : List Ref} {x1 : Ref} {p0 : Value} {w : World} (hp0 : RdS kRef w p0 x0) {r : Int} (H : slices_Index_impl_Ref.f k x0 x1 = some r) :
    Calls Try.prog 148 ([p0, .agg #[(.int .i64 x1.fTx), (.int .i64 x1.fAt)]] : List Value).toArray w (fun e w_ => ∃ v, e = .returned v ∧ v = (.int .i64 r) ∧ Mem w [] w_ []) := by
  have HM := Mem.start w
  refine calls_run (N := 19) Try.func148 rfl rfl rfl rfl ?_
  unfold slices_Index_impl_Ref.f at H
  refine run_seq ?_
  refine run_region rfl ?_
  refine od rfl rfl rfl rfl (does_box (cs := [.int .i64 x1.fTx, .int .i64 x1.fAt]) rfl rfl rfl HM) ?_
  rintro _ w3511 ⟨b3508, rfl, HM⟩
  refine ox rfl rfl rfl rfl (ex_assign rfl rfl) ?_
  refine ops_nil (at_then ?_)
  obtain ⟨o3525, ho3526, H⟩ := bind_some H
  refine run_mid (fun ρ_ w_ => Sum.inr () = o3525 ∧ ρ_ = [] ∧ Mem w [] w_ []) ?_ ?_
  · skip
    refine run_seq ?_
    refine run_region rfl ?_
    refine ox rfl rfl rfl rfl (ex_move rfl rfl) ?_
    refine ox rfl rfl rfl rfl (ex_len (d := kRef) (xs := x0) rfl rfl Try.underlying25 hp0) ?_
    refine ox rfl rfl rfl rfl (ex_move rfl rfl) ?_
    refine ops_nil (at_then ?_)
    refine run_block ?_
    refine run_loop (fun k_ ρ_ w_ => ∃ a3531 : Int, slices_Index_impl_Ref.l0 x0 x1 k_ a3531 = some o3525 ∧ ρ_ = [(0, p0), (3, .pointer (some ⟨b3508, 0, none⟩)), (7, .int .i64 (x0.length : Int)), (8, .int .i64 a3531)] ∧ Mem w [] w_ [box b3508 36 [.int .i64 x1.fTx, .int .i64 x1.fAt]]) k (ρ1 := [(0, p0), (3, .pointer (some ⟨b3508, 0, none⟩)), (7, .int .i64 (x0.length : Int)), (8, .int .i64 0)]) ⟨_, ho3526, rfl, HM⟩ (Sub.cons rfl (Sub.cons rfl (Sub.cons rfl (Sub.cons rfl Sub.nil)))) ?_
    clear HM ho3526
    rintro k3536 _ w3537 ⟨a3531, ho3526, rfl, HM⟩
    obtain _ | k3536 := k3536
    · exact nomatch ((slices_Index_impl_Ref.l0_z x0 x1 a3531).symm.trans ho3526)
    replace ho3526 := (slices_Index_impl_Ref.l0_s x0 x1 k3536 a3531).symm.trans ho3526
    refine run_seq ?_
    refine run_region rfl ?_
    refine ox rfl rfl rfl rfl (ex_lss rfl rfl rfl) ?_
    refine ops_nil (at_then (run_seq ?_))
    refine run_cond (b := (decide (a3531 < (x0.length : Int)))) rfl (fun hb3538 => ?_) (fun hb3538 => ?_)
    · replace ho3526 := cond_t hb3538 ho3526
      refine run_skip ?_
      refine at_then ?_
      refine run_seq ?_
      refine run_block ?_
      refine run_seq ?_
      refine run_region rfl ?_
      refine ox rfl rfl rfl rfl (ex_move rfl rfl) ?_
      refine ox rfl rfl rfl rfl (ex_assign rfl rfl) ?_
      refine ops_nil (at_then (run_seq ?_))
      obtain ⟨e3539, ho3526⟩ := chk_some ho3526
      refine run_drawf (fun w_ => Mem w [] w_ [box b3508 36 [.int .i64 x1.fTx, .int .i64 x1.fAt]]) [(0, true), (1, true), (2, true), (3, true), (4, true), (5, true)] mixed rfl rfl (by kernel_rfl) ?_
      replace HM := HM.grow (fr_drew _)
      have hS := Mem.suf (M := []) HM
      refine drwp_take rfl (guard_none rfl) rfl rfl (fun w_ hS_ => (ex_loadN (cs := [(.int .i64 x1.fTx), (.int .i64 x1.fAt)]) rfl rfl Try.underlying36 rfl tsz36 rfl ((hS_.box_at 0 rfl).sub 0 2 rfl))) hS ?_
      refine dp rfl rfl rfl rfl (ex_move rfl rfl) hS ?_
      refine dp rfl rfl rfl rfl (ex_move rfl rfl) hS ?_
      have hc3540 : CellsAt _ (sb p0) (so p0 + (a3531).toNat * 2) [(.int .i64 ((gt x0 a3531).fTx)), (.int .i64 ((gt x0 a3531).fAt))] := rd_plain hp0 e3539
      refine dp rfl rfl rfl rfl (ex_indexAddr (d := kRef) rfl rfl rfl Try.underlying25 tsz36 hp0 (idx_lo e3539) (idx_hi e3539)) hS ?_
      refine drwp_take rfl (guard_none rfl) rfl rfl (fun w_ hS_ => (ex_loadN (cs := [(.int .i64 ((gt x0 a3531).fTx)), (.int .i64 ((gt x0 a3531).fAt))]) rfl rfl Try.underlying36 rfl tsz36 rfl ((hS_.at_ hc3540).sub 0 2 rfl))) hS ?_
      refine dp rfl rfl rfl rfl (ex_aeql rfl rfl rfl (by kernel_rfl) (eqs36 _ _ _ _ _)) hS ?_
      refine drwp_done ?_
      refine at_then ?_
      refine run_cond (b := ((x1.fTx == ((gt x0 a3531).fTx)) && (x1.fAt == ((gt x0 a3531).fAt)))) rfl (fun hb3541 => ?_) (fun hb3541 => ?_)
      · replace ho3526 := cond_t hb3541 ho3526
        refine run_seq ?_
        refine run_region rfl ?_
        refine ox rfl rfl rfl rfl (ex_move rfl rfl) ?_
        refine ox rfl rfl rfl rfl (ex_assign rfl rfl) ?_
        refine ops_nil (at_then ?_)
        refine run_ret ?_
        refine at_block_ret ?_
        refine at_then_ret ?_
        refine at_then_ret ?_
        refine at_block_ret ?_
        refine at_then_ret ?_
        replace HM := (HM.front 0 rfl rfl).drop
        have hR := Option.some.inj ho3526
        subst hR
        have hT := thn_inl H
        have hR := Option.some.inj hT
        subst hR
        exact at_ret1 rfl rfl ⟨_, rfl, rfl, HM⟩
      · replace ho3526 := cond_f hb3541 ho3526
        refine run_skip ?_
        refine at_block ?_
        refine at_then ?_
        refine run_region rfl ?_
        refine ox rfl rfl rfl rfl (ex_add rfl rfl rfl) ?_
        refine ox rfl rfl rfl rfl (ex_move rfl rfl) ?_
        refine ops_nil ?_
        exact at_again k3536 (ρ1 := [(0, p0), (3, .pointer (some ⟨b3508, 0, none⟩)), (7, .int .i64 (x0.length : Int)), (8, .int .i64 (wrap64 (a3531 + 1)))]) (Nat.lt_succ_self _) ⟨_, ho3526, rfl, HM⟩ (Sub.cons rfl (Sub.cons rfl (Sub.cons rfl (Sub.cons rfl Sub.nil))))
    · replace ho3526 := cond_f hb3538 ho3526
      refine run_exit ?_
      refine at_then_exit ?_
      refine at_then_exit ?_
      refine at_block_exit ?_
      replace HM := (HM.front 0 rfl rfl).drop
      exact at_mid (ρ' := []) ⟨(Option.some.inj ho3526), rfl, HM⟩ Sub.nil
  · rintro _ w3542 ⟨rfl, rfl, HM⟩
    replace H := (thn_inr H)
    refine run_seq ?_
    refine run_region rfl ?_
    refine ox rfl rfl rfl rfl (ex_assign rfl rfl) ?_
    refine ops_nil (at_then ?_)
    refine run_ret ?_
    have hR := Option.some.inj H
    subst hR
    exact at_ret1 rfl rfl ⟨_, rfl, rfl, HM⟩

def slices_Contains_impl_Ref.f (k : Nat) (x0 : List Ref) (x1 : Ref) : Option Bool := ((slices_Index_impl_Ref.f k x0 x1).bind fun t3549 => some (decide (0 ≤ t3549)))
theorem slices_Contains_impl_Ref.calls {k : Nat} {x0 : List Ref} {x1 : Ref} {p0 : Value} {w : World} (hp0 : RdS kRef w p0 x0) {r : Bool} (H : slices_Contains_impl_Ref.f k x0 x1 = some r) :
    Calls Try.prog 107 ([p0, .agg #[(.int .i64 x1.fTx), (.int .i64 x1.fAt)]] : List Value).toArray w (fun e w_ => ∃ v, e = .returned v ∧ v = (.bool r) ∧ Mem w [] w_ []) := by
  have HM := Mem.start w
  refine calls_run (N := 9) Try.func107 rfl rfl rfl rfl ?_
  unfold slices_Contains_impl_Ref.f at H
  refine run_seq ?_
  refine run_region rfl ?_
  refine od rfl rfl rfl rfl (does_box (cs := [.int .i64 x1.fTx, .int .i64 x1.fAt]) rfl rfl rfl HM) ?_
  rintro _ w3548 ⟨b3545, rfl, HM⟩
  refine ox rfl rfl rfl rfl (ex_assign rfl rfl) ?_
  refine ops_nil (at_then (run_seq ?_))
  obtain ⟨t3549, h3550, H⟩ := bind_some H
  refine run_region rfl ?_
  refine ox rfl rfl rfl rfl (ex_move rfl rfl) ?_
  refine ox rfl rfl rfl rfl (ex_loadN (cs := [(.int .i64 x1.fTx), (.int .i64 x1.fAt)]) rfl rfl Try.underlying36 rfl tsz36 rfl ((HM.box_at 0 rfl).sub 0 2 rfl)) ?_
  refine od rfl rfl rfl rfl (does_callk rfl callok148 rfl (slices_Index_impl_Ref.calls (x0 := x0) (x1 := x1) (HM.rd hp0) h3550)) ?_
  rintro _ w3551 ⟨rfl, hn⟩
  replace HM : Mem w [] w3551 [box b3545 36 [.int .i64 x1.fTx, .int .i64 x1.fAt]] := HM.call hn
  refine ox rfl rfl rfl rfl (ex_geq rfl rfl rfl) ?_
  refine ox rfl rfl rfl rfl (ex_assign rfl rfl) ?_
  refine ops_nil (at_then ?_)
  refine run_ret ?_
  replace HM := (HM.front 0 rfl rfl).drop
  have hR := Option.some.inj H
  subst hR
  exact at_ret1 rfl rfl ⟨_, rfl, rfl, HM⟩

def impl_areKeys_1.f (k : Nat) (x0 : Int) : Option Bool := ((impl_isKey.f k x0).bind fun t3621 => some (!t3621))
theorem impl_areKeys_1.calls {k : Nat} {x0 : Int}  {w : World}  {r : Bool} (H : impl_areKeys_1.f k x0 = some r) :
    Calls Try.prog 158 ([.int .i64 x0] : List Value).toArray w (fun e w_ => ∃ v, e = .returned v ∧ v = (.bool r) ∧ Mem w [] w_ []) := by
  have HM := Mem.start w
  refine calls_run (N := 6) Try.func158 rfl rfl rfl rfl ?_
  unfold impl_areKeys_1.f at H
  refine run_seq ?_
  refine run_region rfl ?_
  refine ox rfl rfl rfl rfl (ex_assign rfl rfl) ?_
  refine ops_nil (at_then (run_seq ?_))
  obtain ⟨t3621, h3622, H⟩ := bind_some H
  refine run_region rfl ?_
  refine ox rfl rfl rfl rfl (ex_move rfl rfl) ?_
  refine od rfl rfl rfl rfl (does_callk rfl callok62 rfl (impl_isKey.calls (x0 := x0) h3622)) ?_
  rintro _ w3623 ⟨rfl, hn⟩
  replace HM : Mem w [] w3623 [] := HM.call hn
  refine ox rfl rfl rfl rfl (ex_not rfl rfl) ?_
  refine ox rfl rfl rfl rfl (ex_assign rfl rfl) ?_
  refine ops_nil (at_then ?_)
  refine run_ret ?_
  have hR := Option.some.inj H
  subst hR
  exact at_ret1 rfl rfl ⟨_, rfl, rfl, HM⟩

def slices_IndexFunc_int64.l0 (x0 : List Int) : Nat → Int → Option (Int ⊕ Unit)
  | 0, _ => none
  | k + 1, a3669 => (bif (decide (a3669 < (x0.length : Int))) then (chk (idxOk a3669 x0.length) ((impl_areKeys_1.f k (gt x0 a3669)).bind fun t3681 => (bif t3681 then some (.inl a3669) else slices_IndexFunc_int64.l0 x0 k (wrap64 (a3669 + 1))))) else some (.inr ()))
theorem slices_IndexFunc_int64.l0_z (x0 : List Int) (a3669 : Int) : slices_IndexFunc_int64.l0 x0 0 a3669 = none := rfl
theorem slices_IndexFunc_int64.l0_s (x0 : List Int) (k : Nat) (a3669 : Int) : slices_IndexFunc_int64.l0 x0 (k + 1) a3669 = (bif (decide (a3669 < (x0.length : Int))) then (chk (idxOk a3669 x0.length) ((impl_areKeys_1.f k (gt x0 a3669)).bind fun t3681 => (bif t3681 then some (.inl a3669) else slices_IndexFunc_int64.l0 x0 k (wrap64 (a3669 + 1))))) else some (.inr ())) := rfl
def slices_IndexFunc_int64.f (k : Nat) (x0 : List Int) : Option Int := ((slices_IndexFunc_int64.l0 x0 k 0).bind fun o3661 => thn o3661 (fun r => some r) (fun _ => some (-1)))
theorem slices_IndexFunc_int64.calls {k : Nat} {x0 : List Int} {p0 : Value} {w : World} (hp0 : RdS kInt w p0 x0) {r : Int} (H : slices_IndexFunc_int64.f k x0 = some r) :
    Calls Try.prog 168 ([p0, .func (.func 158) #[] #[]] : List Value).toArray w (fun e w_ => ∃ v, e = .returned v ∧ v = (.int .i64 r) ∧ Mem w [] w_ []) := by
  have HM := Mem.start w
  refine calls_run (N := 19) Try.func168 rfl rfl rfl rfl ?_
  unfold slices_IndexFunc_int64.f at H
  refine run_seq ?_
  refine run_region rfl ?_
  refine ox rfl rfl rfl rfl (ex_assign rfl rfl) ?_
  refine ops_nil (at_then ?_)
  obtain ⟨o3661, ho3662, H⟩ := bind_some H
  refine run_mid (fun ρ_ w_ => Sum.inr () = o3661 ∧ ρ_ = [] ∧ Mem w [] w_ []) ?_ ?_
  · skip
    refine run_seq ?_
    refine run_region rfl ?_
    refine ox rfl rfl rfl rfl (ex_move rfl rfl) ?_
    refine ox rfl rfl rfl rfl (ex_len (d := kInt) (xs := x0) rfl rfl Try.underlying39 hp0) ?_
    refine ox rfl rfl rfl rfl (ex_move rfl rfl) ?_
    refine ops_nil (at_then ?_)
    refine run_block ?_
    refine run_loop (fun k_ ρ_ w_ => ∃ a3669 : Int, slices_IndexFunc_int64.l0 x0 k_ a3669 = some o3661 ∧ ρ_ = [(0, p0), (1, .func (.func 158) #[] #[]), (7, .int .i64 (x0.length : Int)), (8, .int .i64 a3669)] ∧ Mem w [] w_ []) k (ρ1 := [(0, p0), (1, .func (.func 158) #[] #[]), (7, .int .i64 (x0.length : Int)), (8, .int .i64 0)]) ⟨_, ho3662, rfl, HM⟩ (Sub.cons rfl (Sub.cons rfl (Sub.cons rfl (Sub.cons rfl Sub.nil)))) ?_
    clear HM ho3662
    rintro k3676 _ w3677 ⟨a3669, ho3662, rfl, HM⟩
    obtain _ | k3676 := k3676
    · exact nomatch ((slices_IndexFunc_int64.l0_z x0 a3669).symm.trans ho3662)
    replace ho3662 := (slices_IndexFunc_int64.l0_s x0 k3676 a3669).symm.trans ho3662
    refine run_seq ?_
    refine run_region rfl ?_
    refine ox rfl rfl rfl rfl (ex_lss rfl rfl rfl) ?_
    refine ops_nil (at_then (run_seq ?_))
    refine run_cond (b := (decide (a3669 < (x0.length : Int)))) rfl (fun hb3678 => ?_) (fun hb3678 => ?_)
    · replace ho3662 := cond_t hb3678 ho3662
      refine run_skip ?_
      refine at_then ?_
      refine run_seq ?_
      refine run_block ?_
      refine run_seq ?_
      refine run_region rfl ?_
      refine ox rfl rfl rfl rfl (ex_move rfl rfl) ?_
      refine ox rfl rfl rfl rfl (ex_assign rfl rfl) ?_
      refine ops_nil (at_then (run_seq ?_))
      obtain ⟨e3679, ho3662⟩ := chk_some ho3662
      obtain ⟨t3681, h3682, ho3662⟩ := bind_some ho3662
      refine run_region rfl ?_
      refine ox rfl rfl rfl rfl (ex_move rfl rfl) ?_
      refine ox rfl rfl rfl rfl (ex_move rfl rfl) ?_
      refine ox rfl rfl rfl rfl (ex_move rfl rfl) ?_
      have hc3680 : CellsAt _ (sb p0) (so p0 + (a3669).toNat * 1) [(.int .i64 (gt x0 a3669))] := rd_plain hp0 e3679
      refine ox rfl rfl rfl rfl (ex_indexAddr (d := kInt) rfl rfl rfl Try.underlying39 tsz2 hp0 (idx_lo e3679) (idx_hi e3679)) ?_
      refine ox rfl rfl rfl rfl (ex_load1 rfl rfl Try.underlying2 rfl ((HM.at_ hc3680) 0 _ rfl)) ?_
      refine od rfl rfl rfl rfl (does_callvk rfl callok158 rfl rfl rfl (impl_areKeys_1.calls (x0 := (gt x0 a3669)) h3682)) ?_
      rintro _ w3683 ⟨rfl, hn⟩
      replace HM : Mem w [] w3683 [] := HM.call hn
      refine ops_nil (at_then ?_)
      refine run_cond (b := t3681) rfl (fun hb3684 => ?_) (fun hb3684 => ?_)
      · replace ho3662 := cond_t hb3684 ho3662
        refine run_seq ?_
        refine run_region rfl ?_
        refine ox rfl rfl rfl rfl (ex_move rfl rfl) ?_
        refine ox rfl rfl rfl rfl (ex_assign rfl rfl) ?_
        refine ops_nil (at_then ?_)
        refine run_ret ?_
        refine at_block_ret ?_
        refine at_then_ret ?_
        refine at_then_ret ?_
        refine at_block_ret ?_
        refine at_then_ret ?_
        have hR := Option.some.inj ho3662
        subst hR
        have hT := thn_inl H
        have hR := Option.some.inj hT
        subst hR
        exact at_ret1 rfl rfl ⟨_, rfl, rfl, HM⟩
      · replace ho3662 := cond_f hb3684 ho3662
        refine run_skip ?_
        refine at_block ?_
        refine at_then ?_
        refine run_region rfl ?_
        refine ox rfl rfl rfl rfl (ex_add rfl rfl rfl) ?_
        refine ox rfl rfl rfl rfl (ex_move rfl rfl) ?_
        refine ops_nil ?_
        exact at_again k3676 (ρ1 := [(0, p0), (1, .func (.func 158) #[] #[]), (7, .int .i64 (x0.length : Int)), (8, .int .i64 (wrap64 (a3669 + 1)))]) (Nat.lt_succ_self _) ⟨_, ho3662, rfl, HM⟩ (Sub.cons rfl (Sub.cons rfl (Sub.cons rfl (Sub.cons rfl Sub.nil))))
    · replace ho3662 := cond_f hb3678 ho3662
      refine run_exit ?_
      refine at_then_exit ?_
      refine at_then_exit ?_
      refine at_block_exit ?_
      exact at_mid (ρ' := []) ⟨(Option.some.inj ho3662), rfl, HM⟩ Sub.nil
  · rintro _ w3685 ⟨rfl, rfl, HM⟩
    replace H := (thn_inr H)
    refine run_seq ?_
    refine run_region rfl ?_
    refine ox rfl rfl rfl rfl (ex_assign rfl rfl) ?_
    refine ops_nil (at_then ?_)
    refine run_ret ?_
    have hR := Option.some.inj H
    subst hR
    exact at_ret1 rfl rfl ⟨_, rfl, rfl, HM⟩

def slices_ContainsFunc_int64.f (k : Nat) (x0 : List Int) : Option Bool := ((slices_IndexFunc_int64.f k x0).bind fun t3688 => some (decide (0 ≤ t3688)))
theorem slices_ContainsFunc_int64.calls {k : Nat} {x0 : List Int} {p0 : Value} {w : World} (hp0 : RdS kInt w p0 x0) {r : Bool} (H : slices_ContainsFunc_int64.f k x0 = some r) :
    Calls Try.prog 157 ([p0, .func (.func 158) #[] #[]] : List Value).toArray w (fun e w_ => ∃ v, e = .returned v ∧ v = (.bool r) ∧ Mem w [] w_ []) := by
  have HM := Mem.start w
  refine calls_run (N := 9) Try.func157 rfl rfl rfl rfl ?_
  unfold slices_ContainsFunc_int64.f at H
  refine run_seq ?_
  refine run_region rfl ?_
  refine ox rfl rfl rfl rfl (ex_assign rfl rfl) ?_
  refine ops_nil (at_then (run_seq ?_))
  obtain ⟨t3688, h3689, H⟩ := bind_some H
  refine run_region rfl ?_
  refine ox rfl rfl rfl rfl (ex_move rfl rfl) ?_
  refine ox rfl rfl rfl rfl (ex_move rfl rfl) ?_
  refine od rfl rfl rfl rfl (does_callk rfl callok168 rfl (slices_IndexFunc_int64.calls (x0 := x0) (HM.rd hp0) h3689)) ?_
  rintro _ w3690 ⟨rfl, hn⟩
  replace HM : Mem w [] w3690 [] := HM.call hn
  refine ox rfl rfl rfl rfl (ex_geq rfl rfl rfl) ?_
  refine ox rfl rfl rfl rfl (ex_assign rfl rfl) ?_
  refine ops_nil (at_then ?_)
  refine run_ret ?_
  have hR := Option.some.inj H
  subst hR
  exact at_ret1 rfl rfl ⟨_, rfl, rfl, HM⟩

def impl_areKeys.f (k : Nat) (x0 : List Int) : Option Bool := ((slices_ContainsFunc_int64.f k x0).bind fun t3693 => some (!t3693))
theorem impl_areKeys.calls {k : Nat} {x0 : List Int} {p0 : Value} {w : World} (hp0 : RdS kInt w p0 x0) {r : Bool} (H : impl_areKeys.f k x0 = some r) :
    Calls Try.prog 140 ([p0] : List Value).toArray w (fun e w_ => ∃ v, e = .returned v ∧ v = (.bool r) ∧ Mem w [] w_ []) := by
  have HM := Mem.start w
  refine calls_run (N := 6) Try.func140 rfl rfl rfl rfl ?_
  unfold impl_areKeys.f at H
  refine run_seq ?_
  refine run_region rfl ?_
  refine ox rfl rfl rfl rfl (ex_assign rfl rfl) ?_
  refine ops_nil (at_then (run_seq ?_))
  obtain ⟨t3693, h3694, H⟩ := bind_some H
  refine run_region rfl ?_
  refine ox rfl rfl rfl rfl (ex_move rfl rfl) ?_
  refine od rfl rfl rfl rfl (does_callk rfl callok157 rfl (slices_ContainsFunc_int64.calls (x0 := x0) (HM.rd hp0) h3694)) ?_
  rintro _ w3695 ⟨rfl, hn⟩
  replace HM : Mem w [] w3695 [] := HM.call hn
  refine ox rfl rfl rfl rfl (ex_not rfl rfl) ?_
  refine ox rfl rfl rfl rfl (ex_assign rfl rfl) ?_
  refine ops_nil (at_then ?_)
  refine run_ret ?_
  have hR := Option.some.inj H
  subst hR
  exact at_ret1 rfl rfl ⟨_, rfl, rfl, HM⟩

def impl_isHeight.f (k : Nat) (x0 : Int) : Option Bool := ((impl_within.f k x0 0 999).bind fun t3702 => some t3702)
theorem impl_isHeight.calls {k : Nat} {x0 : Int}  {w : World}  {r : Bool} (H : impl_isHeight.f k x0 = some r) :
    Calls Try.prog 88 ([.int .i64 x0] : List Value).toArray w (fun e w_ => ∃ v, e = .returned v ∧ v = (.bool r) ∧ Mem w [] w_ []) := by
  have HM := Mem.start w
  refine calls_run (N := 5) Try.func88 rfl rfl rfl rfl ?_
  unfold impl_isHeight.f at H
  refine run_seq ?_
  refine run_region rfl ?_
  refine ox rfl rfl rfl rfl (ex_assign rfl rfl) ?_
  refine ops_nil (at_then (run_seq ?_))
  obtain ⟨t3702, h3703, H⟩ := bind_some H
  refine run_region rfl ?_
  refine ox rfl rfl rfl rfl (ex_move rfl rfl) ?_
  refine od rfl rfl rfl rfl (does_callk rfl callok89 rfl (impl_within.calls (x0 := x0) (x1 := 0) (x2 := 999) h3703)) ?_
  rintro _ w3704 ⟨rfl, hn⟩
  replace HM : Mem w [] w3704 [] := HM.call hn
  refine ox rfl rfl rfl rfl (ex_assign rfl rfl) ?_
  refine ops_nil (at_then ?_)
  refine run_ret ?_
  have hR := Option.some.inj H
  subst hR
  exact at_ret1 rfl rfl ⟨_, rfl, rfl, HM⟩

def impl_isRising.l0 (x0 : List Int) : Nat → Int → Option (Bool ⊕ Unit)
  | 0, _ => none
  | k + 1, a3756 => (bif (decide (a3756 < (x0.length : Int))) then (chk (idxOk a3756 x0.length) (chk (idxOk (wrap64 (a3756 - 1)) x0.length) (bif (decide ((gt x0 a3756) ≤ (gt x0 (wrap64 (a3756 - 1))))) then some (.inl false) else impl_isRising.l0 x0 k (wrap64 (a3756 + 1))))) else some (.inr ()))
theorem impl_isRising.l0_z (x0 : List Int) (a3756 : Int) : impl_isRising.l0 x0 0 a3756 = none := rfl
theorem impl_isRising.l0_s (x0 : List Int) (k : Nat) (a3756 : Int) : impl_isRising.l0 x0 (k + 1) a3756 = (bif (decide (a3756 < (x0.length : Int))) then (chk (idxOk a3756 x0.length) (chk (idxOk (wrap64 (a3756 - 1)) x0.length) (bif (decide ((gt x0 a3756) ≤ (gt x0 (wrap64 (a3756 - 1))))) then some (.inl false) else impl_isRising.l0 x0 k (wrap64 (a3756 + 1))))) else some (.inr ())) := rfl
def impl_isRising.f (k : Nat) (x0 : List Int) : Option Bool := ((impl_isRising.l0 x0 k 1).bind fun o3748 => thn o3748 (fun r => some r) (fun _ => some true))
theorem impl_isRising.calls {k : Nat} {x0 : List Int} {p0 : Value} {w : World} (hp0 : RdS kInt w p0 x0) {r : Bool} (H : impl_isRising.f k x0 = some r) :
    Calls Try.prog 141 ([p0] : List Value).toArray w (fun e w_ => ∃ v, e = .returned v ∧ v = (.bool r) ∧ Mem w [] w_ []) := by
  have HM := Mem.start w
  refine calls_run (N := 20) Try.func141 rfl rfl rfl rfl ?_
  unfold impl_isRising.f at H
  refine run_seq ?_
  refine run_region rfl ?_
  refine ox rfl rfl rfl rfl (ex_assign rfl rfl) ?_
  refine ops_nil (at_then ?_)
  obtain ⟨o3748, ho3749, H⟩ := bind_some H
  refine run_mid (fun ρ_ w_ => Sum.inr () = o3748 ∧ ρ_ = [] ∧ Mem w [] w_ []) ?_ ?_
  · skip
    refine run_seq ?_
    refine run_region rfl ?_
    refine ox rfl rfl rfl rfl (ex_assign rfl rfl) ?_
    refine ops_nil (at_then ?_)
    refine run_block ?_
    refine run_loop (fun k_ ρ_ w_ => ∃ a3756 : Int, impl_isRising.l0 x0 k_ a3756 = some o3748 ∧ ρ_ = [(0, p0), (3, .int .i64 a3756)] ∧ Mem w [] w_ []) k (ρ1 := [(0, p0), (3, .int .i64 1)]) ⟨_, ho3749, rfl, HM⟩ (Sub.cons rfl (Sub.cons rfl Sub.nil)) ?_
    clear HM ho3749
    rintro k3763 _ w3764 ⟨a3756, ho3749, rfl, HM⟩
    obtain _ | k3763 := k3763
    · exact nomatch ((impl_isRising.l0_z x0 a3756).symm.trans ho3749)
    replace ho3749 := (impl_isRising.l0_s x0 k3763 a3756).symm.trans ho3749
    refine run_seq ?_
    refine run_seq ?_
    refine run_region rfl ?_
    refine ox rfl rfl rfl rfl (ex_move rfl rfl) ?_
    refine ox rfl rfl rfl rfl (ex_move rfl rfl) ?_
    refine ox rfl rfl rfl rfl (ex_len (d := kInt) (xs := x0) rfl rfl Try.underlying39 hp0) ?_
    refine ox rfl rfl rfl rfl (ex_lss rfl rfl rfl) ?_
    refine ops_nil (at_then ?_)
    refine run_cond (b := (decide (a3756 < (x0.length : Int)))) rfl (fun hb3765 => ?_) (fun hb3765 => ?_)
    · replace ho3749 := cond_t hb3765 ho3749
      refine run_skip ?_
      refine at_then ?_
      refine run_seq ?_
      refine run_block ?_
      refine run_seq ?_
      obtain ⟨e3766, ho3749⟩ := chk_some ho3749
      obtain ⟨e3768, ho3749⟩ := chk_some ho3749
      refine run_drawf (fun w_ => Mem w [] w_ []) [(0, true), (1, true), (2, true), (3, true), (4, true), (5, true), (6, true), (7, true), (8, true), (9, true)] mixed rfl rfl (by kernel_rfl) ?_
      replace HM := HM.grow (fr_drew _)
      have hS := Mem.suf (M := []) HM
      refine dp rfl rfl rfl rfl (ex_move rfl rfl) hS ?_
      refine dp rfl rfl rfl rfl (ex_move rfl rfl) hS ?_
      have hc3767 : CellsAt _ (sb p0) (so p0 + (a3756).toNat * 1) [(.int .i64 (gt x0 a3756))] := rd_plain hp0 e3766
      refine dp rfl rfl rfl rfl (ex_indexAddr (d := kInt) rfl rfl rfl Try.underlying39 tsz2 hp0 (idx_lo e3766) (idx_hi e3766)) hS ?_
      refine drwp_take rfl (guard_none rfl) rfl rfl (fun w_ hS_ => (ex_load1 rfl rfl Try.underlying2 rfl ((hS_.at_ hc3767) 0 _ rfl))) hS ?_
      refine dp rfl rfl rfl rfl (ex_move rfl rfl) hS ?_
      refine dp rfl rfl rfl rfl (ex_move rfl rfl) hS ?_
      refine dp rfl rfl rfl rfl (ex_sub rfl rfl rfl) hS ?_
      have hc3769 : CellsAt _ (sb p0) (so p0 + (wrap64 (a3756 - 1)).toNat * 1) [(.int .i64 (gt x0 (wrap64 (a3756 - 1))))] := rd_plain hp0 e3768
      refine dp rfl rfl rfl rfl (ex_indexAddr (d := kInt) rfl rfl rfl Try.underlying39 tsz2 hp0 (idx_lo e3768) (idx_hi e3768)) hS ?_
      refine drwp_take rfl (guard_none rfl) rfl rfl (fun w_ hS_ => (ex_load1 rfl rfl Try.underlying2 rfl ((hS_.at_ hc3769) 0 _ rfl))) hS ?_
      refine dp rfl rfl rfl rfl (ex_leq rfl rfl rfl) hS ?_
      refine drwp_done ?_
      refine at_then ?_
      refine run_cond (b := (decide ((gt x0 a3756) ≤ (gt x0 (wrap64 (a3756 - 1)))))) rfl (fun hb3770 => ?_) (fun hb3770 => ?_)
      · replace ho3749 := cond_t hb3770 ho3749
        refine run_seq ?_
        refine run_region rfl ?_
        refine ox rfl rfl rfl rfl (ex_assign rfl rfl) ?_
        refine ops_nil (at_then ?_)
        refine run_ret ?_
        refine at_block_ret ?_
        refine at_then_ret ?_
        refine at_then_ret ?_
        refine at_block_ret ?_
        refine at_then_ret ?_
        have hR := Option.some.inj ho3749
        subst hR
        have hT := thn_inl H
        have hR := Option.some.inj hT
        subst hR
        exact at_ret1 rfl rfl ⟨_, rfl, rfl, HM⟩
      · replace ho3749 := cond_f hb3770 ho3749
        refine run_skip ?_
        refine at_block ?_
        refine at_then ?_
        refine run_region rfl ?_
        refine ox rfl rfl rfl rfl (ex_move rfl rfl) ?_
        refine ox rfl rfl rfl rfl (ex_add rfl rfl rfl) ?_
        refine ox rfl rfl rfl rfl (ex_assign rfl rfl) ?_
        refine ops_nil ?_
        exact at_again k3763 (ρ1 := [(0, p0), (3, .int .i64 (wrap64 (a3756 + 1)))]) (Nat.lt_succ_self _) ⟨_, ho3749, rfl, HM⟩ (Sub.cons rfl (Sub.cons rfl Sub.nil))
    · replace ho3749 := cond_f hb3765 ho3749
      refine run_exit ?_
      refine at_then_exit ?_
      refine at_then_exit ?_
      refine at_block_exit ?_
      exact at_mid (ρ' := []) ⟨(Option.some.inj ho3749), rfl, HM⟩ Sub.nil
  · rintro _ w3771 ⟨rfl, rfl, HM⟩
    replace H := (thn_inr H)
    refine run_seq ?_
    refine run_region rfl ?_
    refine ox rfl rfl rfl rfl (ex_assign rfl rfl) ?_
    refine ops_nil (at_then ?_)
    refine run_ret ?_
    have hR := Option.some.inj H
    subst hR
    exact at_ret1 rfl rfl ⟨_, rfl, rfl, HM⟩

def impl_RuleFault.f (k : Nat) (x0 : Rule) : Option Int := ((impl_within.f k (x0.fKeys.length : Int) 1 3).bind fun t3779 => (bif !t3779 then some 2 else ((impl_areKeys.f k x0.fKeys).bind fun t3783 => ((bif (!(!t3783)) then impl_within.f k x0.fNeed 1 (x0.fKeys.length : Int) else some default).bind fun t3785 => ((bif (!((!t3783) || (!t3785))) then impl_isHeight.f k x0.fAfter else some default).bind fun t3787 => (bif (((!t3783) || (!t3785)) || (!t3787)) then some 3 else ((impl_isRising.f k x0.fKeys).bind fun t3799 => (bif !t3799 then some 1 else some 0))))))))
theorem impl_RuleFault.calls {k : Nat} {x0 : Rule} {p0_0 : Value} {w : World} (hp0_0 : RdS kInt w p0_0 x0.fKeys) {r : Int} (H : impl_RuleFault.f k x0 = some r) :
    Calls Try.prog 90 ([.agg #[p0_0, (.int .i64 x0.fNeed), (.int .i64 x0.fAfter)]] : List Value).toArray w (fun e w_ => ∃ v, e = .returned v ∧ v = (.int .i64 r) ∧ Mem w [] w_ []) := by
  have HM := Mem.start w
  refine calls_run (N := 34) Try.func90 rfl rfl rfl rfl ?_
  unfold impl_RuleFault.f at H
  refine run_seq ?_
  refine run_region rfl ?_
  refine od rfl rfl rfl rfl (does_box (cs := [p0_0, .int .i64 x0.fNeed, .int .i64 x0.fAfter]) rfl rfl rfl HM) ?_
  rintro _ w3778 ⟨b3775, rfl, HM⟩
  refine ox rfl rfl rfl rfl (ex_assign rfl rfl) ?_
  refine ops_nil (at_then (run_seq ?_))
  refine run_region rfl ?_
  refine ox rfl rfl rfl rfl (ex_fieldAddr (off' := 0) rfl rfl Try.underlying67 rfl tsz39 rfl) ?_
  refine ox rfl rfl rfl rfl (ex_load1 rfl rfl Try.underlying39 rfl ((HM.box_at 0 rfl) 0 _ rfl)) ?_
  refine ox rfl rfl rfl rfl (ex_len (d := kInt) (xs := x0.fKeys) rfl rfl Try.underlying39 hp0_0) ?_
  refine ox rfl rfl rfl rfl (ex_assign rfl rfl) ?_
  refine ops_nil (at_then (run_seq ?_))
  refine run_block ?_
  refine run_seq ?_
  obtain ⟨t3779, h3780, H⟩ := bind_some H
  refine run_region rfl ?_
  refine ox rfl rfl rfl rfl (ex_move rfl rfl) ?_
  refine od rfl rfl rfl rfl (does_callk rfl callok89 rfl (impl_within.calls (x0 := (x0.fKeys.length : Int)) (x1 := 1) (x2 := 3) h3780)) ?_
  rintro _ w3781 ⟨rfl, hn⟩
  replace HM : Mem w [] w3781 [box b3775 67 [p0_0, .int .i64 x0.fNeed, .int .i64 x0.fAfter]] := HM.call hn
  refine ox rfl rfl rfl rfl (ex_not rfl rfl) ?_
  refine ox rfl rfl rfl rfl (ex_assign rfl rfl) ?_
  refine ops_nil (at_then ?_)
  refine run_cond (b := !t3779) rfl (fun hb3782 => ?_) (fun hb3782 => ?_)
  · replace H := cond_t hb3782 H
    refine run_seq ?_
    refine run_region rfl ?_
    refine ox rfl rfl rfl rfl (ex_assign rfl rfl) ?_
    refine ops_nil (at_then ?_)
    refine run_ret ?_
    refine at_block_ret ?_
    refine at_then_ret ?_
    replace HM := (HM.front 0 rfl rfl).drop
    have hR := Option.some.inj H
    subst hR
    exact at_ret1 rfl rfl ⟨_, rfl, rfl, HM⟩
  · replace H := cond_f hb3782 H
    refine run_seq ?_
    obtain ⟨t3783, h3784, H⟩ := bind_some H
    obtain ⟨t3785, h3786, H⟩ := bind_some H
    obtain ⟨t3787, h3788, H⟩ := bind_some H
    refine run_meet (fun ρ_ w_ => ρ_ = [(1, .pointer (some ⟨b3775, 0, none⟩)), (11, .bool (((!t3783) || (!t3785)) || (!t3787)))] ∧ Mem w [] w_ [box b3775 67 [p0_0, .int .i64 x0.fNeed, .int .i64 x0.fAfter]]) ?_ ?_
    · skip
      refine run_region rfl ?_
      refine ox rfl rfl rfl rfl (ex_fieldAddr (off' := 0) rfl rfl Try.underlying67 rfl tsz39 rfl) ?_
      refine ox rfl rfl rfl rfl (ex_load1 rfl rfl Try.underlying39 rfl ((HM.box_at 0 rfl) 0 _ rfl)) ?_
      refine od rfl rfl rfl rfl (does_callk rfl callok140 rfl (impl_areKeys.calls (x0 := x0.fKeys) (HM.rd hp0_0) h3784)) ?_
      rintro _ w3789 ⟨rfl, hn⟩
      replace HM : Mem w [] w3789 [box b3775 67 [p0_0, .int .i64 x0.fNeed, .int .i64 x0.fAfter]] := HM.call hn
      refine ox rfl rfl rfl rfl (ex_not rfl rfl) ?_
      refine ox rfl rfl rfl rfl (ex_move rfl rfl) ?_
      refine bool_cases (!t3783) (fun hg3790 => ?_) (fun hg3790 => ?_)
      · skip
        refine ops_off rfl (guard_off rfl rfl rfl hg3790) rfl rfl ?_
        refine ops_off rfl (guard_off rfl rfl rfl hg3790) rfl rfl ?_
        refine ops_off rfl (guard_off rfl rfl rfl hg3790) rfl rfl ?_
        refine ops_off rfl (guard_off rfl rfl rfl hg3790) rfl rfl ?_
        refine ops_off rfl (guard_off rfl rfl rfl hg3790) rfl rfl ?_
        have hg3791 : ((!t3783) || (!t3785)) = true := by simp only [hg3790, Bool.and_true, Bool.true_and, Bool.and_false, Bool.false_and, Bool.or_true, Bool.true_or, Bool.or_false, Bool.false_or, Bool.not_true, Bool.not_false, Bool.not_not]
        refine ops_ex (v := .bool ((!t3783) || (!t3785))) rfl (guard_none rfl) rfl rfl (ex_por_t rfl rfl hg3790) ?_
        refine ox rfl rfl rfl rfl (ex_move rfl rfl) ?_
        refine ops_off rfl (guard_off rfl rfl rfl hg3791) rfl rfl ?_
        refine ops_off rfl (guard_off rfl rfl rfl hg3791) rfl rfl ?_
        refine ops_off rfl (guard_off rfl rfl rfl hg3791) rfl rfl ?_
        refine ops_off rfl (guard_off rfl rfl rfl hg3791) rfl rfl ?_
        have hg3792 : (((!t3783) || (!t3785)) || (!t3787)) = true := by simp only [hg3791, Bool.and_true, Bool.true_and, Bool.and_false, Bool.false_and, Bool.or_true, Bool.true_or, Bool.or_false, Bool.false_or, Bool.not_true, Bool.not_false, Bool.not_not]
        refine ops_ex (v := .bool (((!t3783) || (!t3785)) || (!t3787))) rfl (guard_none rfl) rfl rfl (ex_por_t rfl rfl hg3791) ?_
        refine ox rfl rfl rfl rfl (ex_assign rfl rfl) ?_
        refine ops_nil ?_
        exact at_meet [(1, .pointer (some ⟨b3775, 0, none⟩)), (11, .bool (((!t3783) || (!t3785)) || (!t3787)))] ⟨rfl, HM⟩ (Sub.cons rfl (Sub.cons rfl Sub.nil))
      · skip
        refine ops_ex rfl (guard_on rfl rfl rfl hg3790) rfl rfl (ex_fieldAddr (off' := 1) rfl rfl Try.underlying67 rfl tsz2 rfl) ?_
        refine ops_ex rfl (guard_on rfl rfl rfl hg3790) rfl rfl (ex_load1 rfl rfl Try.underlying2 rfl ((HM.box_at 0 rfl) 1 _ rfl)) ?_
        refine ops_ex rfl (guard_on rfl rfl rfl hg3790) rfl rfl (ex_move rfl rfl) ?_
        refine ops_does rfl (guard_on rfl rfl rfl hg3790) rfl rfl (does_callk rfl callok89 rfl (impl_within.calls (x0 := x0.fNeed) (x1 := 1) (x2 := (x0.fKeys.length : Int)) (cond_t (not_mk hg3790) h3786))) ?_
        rintro _ w3793 ⟨rfl, hn⟩
        replace HM : Mem w [] w3793 [box b3775 67 [p0_0, .int .i64 x0.fNeed, .int .i64 x0.fAfter]] := HM.call hn
        refine ops_ex rfl (guard_on rfl rfl rfl hg3790) rfl rfl (ex_not rfl rfl) ?_
        refine ops_ex (v := .bool ((!t3783) || (!t3785))) rfl (guard_none rfl) rfl rfl (ex_por_f rfl rfl hg3790 rfl) ?_
        refine ox rfl rfl rfl rfl (ex_move rfl rfl) ?_
        refine bool_cases ((!t3783) || (!t3785)) (fun hg3794 => ?_) (fun hg3794 => ?_)
        · skip
          refine ops_off rfl (guard_off rfl rfl rfl hg3794) rfl rfl ?_
          refine ops_off rfl (guard_off rfl rfl rfl hg3794) rfl rfl ?_
          refine ops_off rfl (guard_off rfl rfl rfl hg3794) rfl rfl ?_
          refine ops_off rfl (guard_off rfl rfl rfl hg3794) rfl rfl ?_
          have hg3795 : (((!t3783) || (!t3785)) || (!t3787)) = true := by simp only [hg3794, Bool.and_true, Bool.true_and, Bool.and_false, Bool.false_and, Bool.or_true, Bool.true_or, Bool.or_false, Bool.false_or, Bool.not_true, Bool.not_false, Bool.not_not]
          refine ops_ex (v := .bool (((!t3783) || (!t3785)) || (!t3787))) rfl (guard_none rfl) rfl rfl (ex_por_t rfl rfl hg3794) ?_
          refine ox rfl rfl rfl rfl (ex_assign rfl rfl) ?_
          refine ops_nil ?_
          exact at_meet [(1, .pointer (some ⟨b3775, 0, none⟩)), (11, .bool (((!t3783) || (!t3785)) || (!t3787)))] ⟨rfl, HM⟩ (Sub.cons rfl (Sub.cons rfl Sub.nil))
        · skip
          refine ops_ex rfl (guard_on rfl rfl rfl hg3794) rfl rfl (ex_fieldAddr (off' := 2) rfl rfl Try.underlying67 rfl tsz2 rfl) ?_
          refine ops_ex rfl (guard_on rfl rfl rfl hg3794) rfl rfl (ex_load1 rfl rfl Try.underlying2 rfl ((HM.box_at 0 rfl) 2 _ rfl)) ?_
          refine ops_does rfl (guard_on rfl rfl rfl hg3794) rfl rfl (does_callk rfl callok88 rfl (impl_isHeight.calls (x0 := x0.fAfter) (cond_t (not_mk hg3794) h3788))) ?_
          rintro _ w3796 ⟨rfl, hn⟩
          replace HM : Mem w [] w3796 [box b3775 67 [p0_0, .int .i64 x0.fNeed, .int .i64 x0.fAfter]] := HM.call hn
          refine ops_ex rfl (guard_on rfl rfl rfl hg3794) rfl rfl (ex_not rfl rfl) ?_
          refine ops_ex (v := .bool (((!t3783) || (!t3785)) || (!t3787))) rfl (guard_none rfl) rfl rfl (ex_por_f rfl rfl hg3794 rfl) ?_
          refine ox rfl rfl rfl rfl (ex_assign rfl rfl) ?_
          refine ops_nil ?_
          exact at_meet [(1, .pointer (some ⟨b3775, 0, none⟩)), (11, .bool (((!t3783) || (!t3785)) || (!t3787)))] ⟨rfl, HM⟩ (Sub.cons rfl (Sub.cons rfl Sub.nil))
    · rintro _ w3797 ⟨rfl, HM⟩
      refine at_then ?_
      refine run_cond (b := (((!t3783) || (!t3785)) || (!t3787))) rfl (fun hb3798 => ?_) (fun hb3798 => ?_)
      · replace H := cond_t hb3798 H
        refine run_seq ?_
        refine run_region rfl ?_
        refine ox rfl rfl rfl rfl (ex_assign rfl rfl) ?_
        refine ops_nil (at_then ?_)
        refine run_ret ?_
        refine at_block_ret ?_
        refine at_then_ret ?_
        replace HM := (HM.front 0 rfl rfl).drop
        have hR := Option.some.inj H
        subst hR
        exact at_ret1 rfl rfl ⟨_, rfl, rfl, HM⟩
      · replace H := cond_f hb3798 H
        refine run_seq ?_
        obtain ⟨t3799, h3800, H⟩ := bind_some H
        refine run_region rfl ?_
        refine ox rfl rfl rfl rfl (ex_fieldAddr (off' := 0) rfl rfl Try.underlying67 rfl tsz39 rfl) ?_
        refine ox rfl rfl rfl rfl (ex_load1 rfl rfl Try.underlying39 rfl ((HM.box_at 0 rfl) 0 _ rfl)) ?_
        refine od rfl rfl rfl rfl (does_callk rfl callok141 rfl (impl_isRising.calls (x0 := x0.fKeys) (HM.rd hp0_0) h3800)) ?_
        rintro _ w3801 ⟨rfl, hn⟩
        replace HM : Mem w [] w3801 [box b3775 67 [p0_0, .int .i64 x0.fNeed, .int .i64 x0.fAfter]] := HM.call hn
        refine ox rfl rfl rfl rfl (ex_not rfl rfl) ?_
        refine ox rfl rfl rfl rfl (ex_assign rfl rfl) ?_
        refine ops_nil (at_then ?_)
        refine run_cond (b := !t3799) rfl (fun hb3802 => ?_) (fun hb3802 => ?_)
        · replace H := cond_t hb3802 H
          refine run_seq ?_
          refine run_region rfl ?_
          refine ox rfl rfl rfl rfl (ex_assign rfl rfl) ?_
          refine ops_nil (at_then ?_)
          refine run_ret ?_
          refine at_block_ret ?_
          refine at_then_ret ?_
          replace HM := (HM.front 0 rfl rfl).drop
          have hR := Option.some.inj H
          subst hR
          exact at_ret1 rfl rfl ⟨_, rfl, rfl, HM⟩
        · replace H := cond_f hb3802 H
          refine run_skip ?_
          refine at_block ?_
          refine at_then ?_
          refine run_seq ?_
          refine run_region rfl ?_
          refine ox rfl rfl rfl rfl (ex_assign rfl rfl) ?_
          refine ops_nil (at_then ?_)
          refine run_ret ?_
          replace HM := (HM.front 0 rfl rfl).drop
          have hR := Option.some.inj H
          subst hR
          exact at_ret1 rfl rfl ⟨_, rfl, rfl, HM⟩

def impl_outFault.f (k : Nat) (x0 : Out) : Option Int := ((impl_within.f k x0.fValue 1 1000000).bind fun t3809 => (bif !t3809 then some 3 else ((impl_RuleFault.f k x0.fRule).bind fun t3813 => some t3813)))
theorem impl_outFault.calls {k : Nat} {x0 : Out} {p0_0 : Value} {w : World} (hp0_0 : RdS kInt w p0_0 x0.fRule.fKeys) {r : Int} (H : impl_outFault.f k x0 = some r) :
    Calls Try.prog 108 ([.agg #[(.int .i64 x0.fValue), p0_0, (.int .i64 x0.fRule.fNeed), (.int .i64 x0.fRule.fAfter)]] : List Value).toArray w (fun e w_ => ∃ v, e = .returned v ∧ v = (.int .i64 r) ∧ Mem w [] w_ []) := by
  have HM := Mem.start w
  refine calls_run (N := 10) Try.func108 rfl rfl rfl rfl ?_
  unfold impl_outFault.f at H
  refine run_seq ?_
  refine run_region rfl ?_
  refine od rfl rfl rfl rfl (does_box (cs := [.int .i64 x0.fValue, p0_0, .int .i64 x0.fRule.fNeed, .int .i64 x0.fRule.fAfter]) rfl rfl rfl HM) ?_
  rintro _ w3808 ⟨b3805, rfl, HM⟩
  refine ox rfl rfl rfl rfl (ex_assign rfl rfl) ?_
  refine ops_nil (at_then (run_seq ?_))
  refine run_seq ?_
  obtain ⟨t3809, h3810, H⟩ := bind_some H
  refine run_region rfl ?_
  refine ox rfl rfl rfl rfl (ex_fieldAddr (off' := 0) rfl rfl Try.underlying69 rfl tsz2 rfl) ?_
  refine ox rfl rfl rfl rfl (ex_load1 rfl rfl Try.underlying2 rfl ((HM.box_at 0 rfl) 0 _ rfl)) ?_
  refine od rfl rfl rfl rfl (does_callk rfl callok89 rfl (impl_within.calls (x0 := x0.fValue) (x1 := 1) (x2 := 1000000) h3810)) ?_
  rintro _ w3811 ⟨rfl, hn⟩
  replace HM : Mem w [] w3811 [box b3805 69 [.int .i64 x0.fValue, p0_0, .int .i64 x0.fRule.fNeed, .int .i64 x0.fRule.fAfter]] := HM.call hn
  refine ox rfl rfl rfl rfl (ex_not rfl rfl) ?_
  refine ops_nil (at_then ?_)
  refine run_cond (b := !t3809) rfl (fun hb3812 => ?_) (fun hb3812 => ?_)
  · replace H := cond_t hb3812 H
    refine run_seq ?_
    refine run_region rfl ?_
    refine ox rfl rfl rfl rfl (ex_assign rfl rfl) ?_
    refine ops_nil (at_then ?_)
    refine run_ret ?_
    refine at_then_ret ?_
    replace HM := (HM.front 0 rfl rfl).drop
    have hR := Option.some.inj H
    subst hR
    exact at_ret1 rfl rfl ⟨_, rfl, rfl, HM⟩
  · replace H := cond_f hb3812 H
    refine run_skip ?_
    refine at_then ?_
    refine run_seq ?_
    obtain ⟨t3813, h3814, H⟩ := bind_some H
    refine run_region rfl ?_
    refine ox rfl rfl rfl rfl (ex_fieldAddr (off' := 1) rfl rfl Try.underlying69 rfl tsz67 rfl) ?_
    refine ox rfl rfl rfl rfl (ex_loadN (cs := [p0_0, (.int .i64 x0.fRule.fNeed), (.int .i64 x0.fRule.fAfter)]) rfl rfl Try.underlying67 rfl tsz67 rfl ((HM.box_at 0 rfl).sub 1 3 rfl)) ?_
    refine od rfl rfl rfl rfl (does_callk rfl callok90 rfl (impl_RuleFault.calls (x0 := x0.fRule) (HM.rd hp0_0) h3814)) ?_
    rintro _ w3815 ⟨rfl, hn⟩
    replace HM : Mem w [] w3815 [box b3805 69 [.int .i64 x0.fValue, p0_0, .int .i64 x0.fRule.fNeed, .int .i64 x0.fRule.fAfter]] := HM.call hn
    refine ox rfl rfl rfl rfl (ex_assign rfl rfl) ?_
    refine ops_nil (at_then ?_)
    refine run_ret ?_
    replace HM := (HM.front 0 rfl rfl).drop
    have hR := Option.some.inj H
    subst hR
    exact at_ret1 rfl rfl ⟨_, rfl, rfl, HM⟩

def impl_TxFault.l0 (x0 : Tx) : Nat → Int → Option (Int ⊕ Unit)
  | 0, _ => none
  | k + 1, a3967 => (bif (decide (a3967 < (x0.fIns.length : Int))) then (chk (idxOk a3967 x0.fIns.length) ((impl_isRef.f k (gt x0.fIns a3967)).bind fun t4000 => (bif !t4000 then some (.inl 3) else (chk (cutOk a3967 x0.fIns.length) ((slices_Contains_impl_Ref.f k (x0.fIns.take (a3967).toNat) (gt x0.fIns a3967)).bind fun t4008 => (bif t4008 then some (.inl 7) else impl_TxFault.l0 x0 k (wrap64 (a3967 + 1)))))))) else some (.inr ()))
theorem impl_TxFault.l0_z (x0 : Tx) (a3967 : Int) : impl_TxFault.l0 x0 0 a3967 = none := rfl
theorem impl_TxFault.l0_s (x0 : Tx) (k : Nat) (a3967 : Int) : impl_TxFault.l0 x0 (k + 1) a3967 = (bif (decide (a3967 < (x0.fIns.length : Int))) then (chk (idxOk a3967 x0.fIns.length) ((impl_isRef.f k (gt x0.fIns a3967)).bind fun t4000 => (bif !t4000 then some (.inl 3) else (chk (cutOk a3967 x0.fIns.length) ((slices_Contains_impl_Ref.f k (x0.fIns.take (a3967).toNat) (gt x0.fIns a3967)).bind fun t4008 => (bif t4008 then some (.inl 7) else impl_TxFault.l0 x0 k (wrap64 (a3967 + 1)))))))) else some (.inr ())) := rfl
def impl_TxFault.l1 (x0 : Tx) : Nat → Int → Option (Int ⊕ Unit)
  | 0, _ => none
  | k + 1, a4060 => (bif (decide (a4060 < (x0.fOuts.length : Int))) then (chk (idxOk a4060 x0.fOuts.length) ((impl_outFault.f k (gt x0.fOuts a4060)).bind fun t4084 => (bif (t4084 != 0) then some (.inl t4084) else impl_TxFault.l1 x0 k (wrap64 (a4060 + 1))))) else some (.inr ()))
theorem impl_TxFault.l1_z (x0 : Tx) (a4060 : Int) : impl_TxFault.l1 x0 0 a4060 = none := rfl
theorem impl_TxFault.l1_s (x0 : Tx) (k : Nat) (a4060 : Int) : impl_TxFault.l1 x0 (k + 1) a4060 = (bif (decide (a4060 < (x0.fOuts.length : Int))) then (chk (idxOk a4060 x0.fOuts.length) ((impl_outFault.f k (gt x0.fOuts a4060)).bind fun t4084 => (bif (t4084 != 0) then some (.inl t4084) else impl_TxFault.l1 x0 k (wrap64 (a4060 + 1))))) else some (.inr ())) := rfl
def impl_TxFault.f (k : Nat) (x0 : Tx) : Option Int := ((impl_within.f k x0.fKind 0 2).bind fun t3864 => (bif ((!t3864) || ((x0.fKind == 0) != (x0.fMember == 0))) then some 1 else ((bif (x0.fMember != 0) then impl_isKey.f k x0.fMember else some default).bind fun t3871 => (bif ((x0.fMember != 0) && (!t3871)) then some 3 else ((impl_TxFault_1.f k (x0.fIns.length : Int)).bind fun t3878 => ((bif (!t3878) then impl_TxFault_1.f k (x0.fOuts.length : Int) else some default).bind fun t3880 => (bif (t3878 || t3880) then some 2 else ((impl_TxFault.l0 x0 k 0).bind fun o3946 => thn o3946 (fun r => some r) (fun _ => ((impl_TxFault.l1 x0 k 0).bind fun o4047 => thn o4047 (fun r => some r) (fun _ => (chk (!(x0.fKind == 1) || (idxOk (0 : Int) x0.fOuts.length)) (bif ((x0.fKind == 1) && (decide (((gt x0.fOuts (0 : Int)).fValue) < 100))) then some 8 else some 0)))))))))))))
theorem impl_TxFault.calls {k : Nat} {x0 : Tx} {p0_0 : Value} {p0_1 : Value} {w : World} (hp0_0 : RdS kRef w p0_0 x0.fIns) (hp0_1 : RdS kOut w p0_1 x0.fOuts) {r : Int} (H : impl_TxFault.f k x0 = some r) :
    Calls Try.prog 54 ([.agg #[(.int .i64 x0.fKind), (.int .i64 x0.fMember), p0_0, p0_1]] : List Value).toArray w (fun e w_ => ∃ v, e = .returned v ∧ v = (.int .i64 r) ∧ Mem w [] w_ []) := by
  have HM := Mem.start w
  refine calls_run (N := 88) Try.func54 rfl rfl rfl rfl ?_
  unfold impl_TxFault.f at H
  refine run_seq ?_
  refine run_region rfl ?_
  refine od rfl rfl rfl rfl (does_box (cs := [.int .i64 x0.fKind, .int .i64 x0.fMember, p0_0, p0_1]) rfl rfl rfl HM) ?_
  rintro _ w3852 ⟨b3849, rfl, HM⟩
  refine ox rfl rfl rfl rfl (ex_assign rfl rfl) ?_
  refine ops_nil (at_then (run_seq ?_))
  refine run_region rfl ?_
  refine ox rfl rfl rfl rfl (ex_assign rfl rfl) ?_
  refine ops_nil (at_then (run_seq ?_))
  refine run_block ?_
  refine run_seq ?_
  obtain ⟨t3864, h3865, H⟩ := bind_some H
  refine run_meet (fun ρ_ w_ => ρ_ = [(1, .pointer (some ⟨b3849, 0, none⟩)), (3, .func (.func 106) #[] #[]), (9, .bool ((!t3864) || ((x0.fKind == 0) != (x0.fMember == 0))))] ∧ Mem w [] w_ [box b3849 28 [.int .i64 x0.fKind, .int .i64 x0.fMember, p0_0, p0_1]]) ?_ ?_
  · skip
    refine run_region rfl ?_
    refine ox rfl rfl rfl rfl (ex_fieldAddr (off' := 0) rfl rfl Try.underlying28 rfl tsz2 rfl) ?_
    refine ox rfl rfl rfl rfl (ex_load1 rfl rfl Try.underlying2 rfl ((HM.box_at 0 rfl) 0 _ rfl)) ?_
    refine od rfl rfl rfl rfl (does_callk rfl callok89 rfl (impl_within.calls (x0 := x0.fKind) (x1 := 0) (x2 := 2) h3865)) ?_
    rintro _ w3866 ⟨rfl, hn⟩
    replace HM : Mem w [] w3866 [box b3849 28 [.int .i64 x0.fKind, .int .i64 x0.fMember, p0_0, p0_1]] := HM.call hn
    refine ox rfl rfl rfl rfl (ex_not rfl rfl) ?_
    refine ox rfl rfl rfl rfl (ex_move rfl rfl) ?_
    refine bool_cases (!t3864) (fun hg3867 => ?_) (fun hg3867 => ?_)
    · skip
      refine ops_off rfl (guard_off rfl rfl rfl hg3867) rfl rfl ?_
      refine ops_off rfl (guard_off rfl rfl rfl hg3867) rfl rfl ?_
      refine ops_off rfl (guard_off rfl rfl rfl hg3867) rfl rfl ?_
      refine ops_off rfl (guard_off rfl rfl rfl hg3867) rfl rfl ?_
      refine ops_off rfl (guard_off rfl rfl rfl hg3867) rfl rfl ?_
      refine ops_off rfl (guard_off rfl rfl rfl hg3867) rfl rfl ?_
      refine ops_off rfl (guard_off rfl rfl rfl hg3867) rfl rfl ?_
      have hg3868 : ((!t3864) || ((x0.fKind == 0) != (x0.fMember == 0))) = true := by simp only [hg3867, Bool.and_true, Bool.true_and, Bool.and_false, Bool.false_and, Bool.or_true, Bool.true_or, Bool.or_false, Bool.false_or, Bool.not_true, Bool.not_false, Bool.not_not]
      refine ops_ex (v := .bool ((!t3864) || ((x0.fKind == 0) != (x0.fMember == 0)))) rfl (guard_none rfl) rfl rfl (ex_por_t rfl rfl hg3867) ?_
      refine ox rfl rfl rfl rfl (ex_assign rfl rfl) ?_
      refine ops_nil ?_
      exact at_meet [(1, .pointer (some ⟨b3849, 0, none⟩)), (3, .func (.func 106) #[] #[]), (9, .bool ((!t3864) || ((x0.fKind == 0) != (x0.fMember == 0))))] ⟨rfl, HM⟩ (Sub.cons rfl (Sub.cons rfl (Sub.cons rfl Sub.nil)))
    · skip
      refine ops_ex rfl (guard_on rfl rfl rfl hg3867) rfl rfl (ex_fieldAddr (off' := 0) rfl rfl Try.underlying28 rfl tsz2 rfl) ?_
      refine ops_ex rfl (guard_on rfl rfl rfl hg3867) rfl rfl (ex_load1 rfl rfl Try.underlying2 rfl ((HM.box_at 0 rfl) 0 _ rfl)) ?_
      refine ops_ex rfl (guard_on rfl rfl rfl hg3867) rfl rfl (ex_eql rfl rfl rfl) ?_
      refine ops_ex rfl (guard_on rfl rfl rfl hg3867) rfl rfl (ex_fieldAddr (off' := 1) rfl rfl Try.underlying28 rfl tsz2 rfl) ?_
      refine ops_ex rfl (guard_on rfl rfl rfl hg3867) rfl rfl (ex_load1 rfl rfl Try.underlying2 rfl ((HM.box_at 0 rfl) 1 _ rfl)) ?_
      refine ops_ex rfl (guard_on rfl rfl rfl hg3867) rfl rfl (ex_eql rfl rfl rfl) ?_
      refine ops_ex rfl (guard_on rfl rfl rfl hg3867) rfl rfl (ex_bneq rfl rfl rfl Try.underlying4) ?_
      refine ops_ex (v := .bool ((!t3864) || ((x0.fKind == 0) != (x0.fMember == 0)))) rfl (guard_none rfl) rfl rfl (ex_por_f rfl rfl hg3867 rfl) ?_
      refine ox rfl rfl rfl rfl (ex_assign rfl rfl) ?_
      refine ops_nil ?_
      exact at_meet [(1, .pointer (some ⟨b3849, 0, none⟩)), (3, .func (.func 106) #[] #[]), (9, .bool ((!t3864) || ((x0.fKind == 0) != (x0.fMember == 0))))] ⟨rfl, HM⟩ (Sub.cons rfl (Sub.cons rfl (Sub.cons rfl Sub.nil)))
  · rintro _ w3869 ⟨rfl, HM⟩
    refine at_then ?_
    refine run_cond (b := ((!t3864) || ((x0.fKind == 0) != (x0.fMember == 0)))) rfl (fun hb3870 => ?_) (fun hb3870 => ?_)
    · replace H := cond_t hb3870 H
      refine run_seq ?_
      refine run_region rfl ?_
      refine ox rfl rfl rfl rfl (ex_assign rfl rfl) ?_
      refine ops_nil (at_then ?_)
      refine run_ret ?_
      refine at_block_ret ?_
      refine at_then_ret ?_
      replace HM := (HM.front 0 rfl rfl).drop
      have hR := Option.some.inj H
      subst hR
      exact at_ret1 rfl rfl ⟨_, rfl, rfl, HM⟩
    · replace H := cond_f hb3870 H
      refine run_seq ?_
      obtain ⟨t3871, h3872, H⟩ := bind_some H
      refine run_meet (fun ρ_ w_ => ρ_ = [(1, .pointer (some ⟨b3849, 0, none⟩)), (3, .func (.func 106) #[] #[]), (23, .bool ((x0.fMember != 0) && (!t3871)))] ∧ Mem w [] w_ [box b3849 28 [.int .i64 x0.fKind, .int .i64 x0.fMember, p0_0, p0_1]]) ?_ ?_
      · skip
        refine run_region rfl ?_
        refine ox rfl rfl rfl rfl (ex_fieldAddr (off' := 1) rfl rfl Try.underlying28 rfl tsz2 rfl) ?_
        refine ox rfl rfl rfl rfl (ex_load1 rfl rfl Try.underlying2 rfl ((HM.box_at 0 rfl) 1 _ rfl)) ?_
        refine ox rfl rfl rfl rfl (ex_neq rfl rfl rfl) ?_
        refine ox rfl rfl rfl rfl (ex_move rfl rfl) ?_
        refine bool_cases (x0.fMember != 0) (fun hg3873 => ?_) (fun hg3873 => ?_)
        · skip
          refine ops_ex rfl (guard_on rfl rfl rfl hg3873) rfl rfl (ex_fieldAddr (off' := 1) rfl rfl Try.underlying28 rfl tsz2 rfl) ?_
          refine ops_ex rfl (guard_on rfl rfl rfl hg3873) rfl rfl (ex_load1 rfl rfl Try.underlying2 rfl ((HM.box_at 0 rfl) 1 _ rfl)) ?_
          refine ops_does rfl (guard_on rfl rfl rfl hg3873) rfl rfl (does_callk rfl callok62 rfl (impl_isKey.calls (x0 := x0.fMember) (cond_t hg3873 h3872))) ?_
          rintro _ w3874 ⟨rfl, hn⟩
          replace HM : Mem w [] w3874 [box b3849 28 [.int .i64 x0.fKind, .int .i64 x0.fMember, p0_0, p0_1]] := HM.call hn
          refine ops_ex rfl (guard_on rfl rfl rfl hg3873) rfl rfl (ex_not rfl rfl) ?_
          refine ops_ex (v := .bool ((x0.fMember != 0) && (!t3871))) rfl (guard_none rfl) rfl rfl (ex_pand_t rfl rfl hg3873 rfl) ?_
          refine ox rfl rfl rfl rfl (ex_assign rfl rfl) ?_
          refine ops_nil ?_
          exact at_meet [(1, .pointer (some ⟨b3849, 0, none⟩)), (3, .func (.func 106) #[] #[]), (23, .bool ((x0.fMember != 0) && (!t3871)))] ⟨rfl, HM⟩ (Sub.cons rfl (Sub.cons rfl (Sub.cons rfl Sub.nil)))
        · skip
          refine ops_off rfl (guard_off rfl rfl rfl hg3873) rfl rfl ?_
          refine ops_off rfl (guard_off rfl rfl rfl hg3873) rfl rfl ?_
          refine ops_off rfl (guard_off rfl rfl rfl hg3873) rfl rfl ?_
          refine ops_off rfl (guard_off rfl rfl rfl hg3873) rfl rfl ?_
          have hg3875 : ((x0.fMember != 0) && (!t3871)) = false := by simp only [hg3873, Bool.and_true, Bool.true_and, Bool.and_false, Bool.false_and, Bool.or_true, Bool.true_or, Bool.or_false, Bool.false_or, Bool.not_true, Bool.not_false, Bool.not_not]
          refine ops_ex (v := .bool ((x0.fMember != 0) && (!t3871))) rfl (guard_none rfl) rfl rfl (ex_pand_f rfl rfl hg3873) ?_
          refine ox rfl rfl rfl rfl (ex_assign rfl rfl) ?_
          refine ops_nil ?_
          exact at_meet [(1, .pointer (some ⟨b3849, 0, none⟩)), (3, .func (.func 106) #[] #[]), (23, .bool ((x0.fMember != 0) && (!t3871)))] ⟨rfl, HM⟩ (Sub.cons rfl (Sub.cons rfl (Sub.cons rfl Sub.nil)))
      · rintro _ w3876 ⟨rfl, HM⟩
        refine at_then ?_
        refine run_cond (b := ((x0.fMember != 0) && (!t3871))) rfl (fun hb3877 => ?_) (fun hb3877 => ?_)
        · replace H := cond_t hb3877 H
          refine run_seq ?_
          refine run_region rfl ?_
          refine ox rfl rfl rfl rfl (ex_assign rfl rfl) ?_
          refine ops_nil (at_then ?_)
          refine run_ret ?_
          refine at_block_ret ?_
          refine at_then_ret ?_
          replace HM := (HM.front 0 rfl rfl).drop
          have hR := Option.some.inj H
          subst hR
          exact at_ret1 rfl rfl ⟨_, rfl, rfl, HM⟩
        · replace H := cond_f hb3877 H
          refine run_seq ?_
          obtain ⟨t3878, h3879, H⟩ := bind_some H
          obtain ⟨t3880, h3881, H⟩ := bind_some H
          refine run_meet (fun ρ_ w_ => ρ_ = [(1, .pointer (some ⟨b3849, 0, none⟩)), (33, .bool (t3878 || t3880))] ∧ Mem w [] w_ [box b3849 28 [.int .i64 x0.fKind, .int .i64 x0.fMember, p0_0, p0_1]]) ?_ ?_
          · skip
            refine run_region rfl ?_
            refine ox rfl rfl rfl rfl (ex_move rfl rfl) ?_
            refine ox rfl rfl rfl rfl (ex_fieldAddr (off' := 2) rfl rfl Try.underlying28 rfl tsz25 rfl) ?_
            refine ox rfl rfl rfl rfl (ex_load1 rfl rfl Try.underlying25 rfl ((HM.box_at 0 rfl) 2 _ rfl)) ?_
            refine ox rfl rfl rfl rfl (ex_len (d := kRef) (xs := x0.fIns) rfl rfl Try.underlying25 hp0_0) ?_
            refine od rfl rfl rfl rfl (does_callvk rfl callok106 rfl rfl rfl (impl_TxFault_1.calls (x0 := (x0.fIns.length : Int)) h3879)) ?_
            rintro _ w3882 ⟨rfl, hn⟩
            replace HM : Mem w [] w3882 [box b3849 28 [.int .i64 x0.fKind, .int .i64 x0.fMember, p0_0, p0_1]] := HM.call hn
            refine ox rfl rfl rfl rfl (ex_move rfl rfl) ?_
            refine bool_cases t3878 (fun hg3883 => ?_) (fun hg3883 => ?_)
            · skip
              refine ops_off rfl (guard_off rfl rfl rfl hg3883) rfl rfl ?_
              refine ops_off rfl (guard_off rfl rfl rfl hg3883) rfl rfl ?_
              refine ops_off rfl (guard_off rfl rfl rfl hg3883) rfl rfl ?_
              refine ops_off rfl (guard_off rfl rfl rfl hg3883) rfl rfl ?_
              refine ops_off rfl (guard_off rfl rfl rfl hg3883) rfl rfl ?_
              have hg3884 : (t3878 || t3880) = true := by simp only [hg3883, Bool.and_true, Bool.true_and, Bool.and_false, Bool.false_and, Bool.or_true, Bool.true_or, Bool.or_false, Bool.false_or, Bool.not_true, Bool.not_false, Bool.not_not]
              refine ops_ex (v := .bool (t3878 || t3880)) rfl (guard_none rfl) rfl rfl (ex_por_t rfl rfl hg3883) ?_
              refine ox rfl rfl rfl rfl (ex_assign rfl rfl) ?_
              refine ops_nil ?_
              exact at_meet [(1, .pointer (some ⟨b3849, 0, none⟩)), (33, .bool (t3878 || t3880))] ⟨rfl, HM⟩ (Sub.cons rfl (Sub.cons rfl Sub.nil))
            · skip
              refine ops_ex rfl (guard_on rfl rfl rfl hg3883) rfl rfl (ex_move rfl rfl) ?_
              refine ops_ex rfl (guard_on rfl rfl rfl hg3883) rfl rfl (ex_fieldAddr (off' := 3) rfl rfl Try.underlying28 rfl tsz26 rfl) ?_
              refine ops_ex rfl (guard_on rfl rfl rfl hg3883) rfl rfl (ex_load1 rfl rfl Try.underlying26 rfl ((HM.box_at 0 rfl) 3 _ rfl)) ?_
              refine ops_ex rfl (guard_on rfl rfl rfl hg3883) rfl rfl (ex_len (d := kOut) (xs := x0.fOuts) rfl rfl Try.underlying26 hp0_1) ?_
              refine ops_does rfl (guard_on rfl rfl rfl hg3883) rfl rfl (does_callvk rfl callok106 rfl rfl rfl (impl_TxFault_1.calls (x0 := (x0.fOuts.length : Int)) (cond_t (not_mk hg3883) h3881))) ?_
              rintro _ w3885 ⟨rfl, hn⟩
              replace HM : Mem w [] w3885 [box b3849 28 [.int .i64 x0.fKind, .int .i64 x0.fMember, p0_0, p0_1]] := HM.call hn
              refine ops_ex (v := .bool (t3878 || t3880)) rfl (guard_none rfl) rfl rfl (ex_por_f rfl rfl hg3883 rfl) ?_
              refine ox rfl rfl rfl rfl (ex_assign rfl rfl) ?_
              refine ops_nil ?_
              exact at_meet [(1, .pointer (some ⟨b3849, 0, none⟩)), (33, .bool (t3878 || t3880))] ⟨rfl, HM⟩ (Sub.cons rfl (Sub.cons rfl Sub.nil))
          · rintro _ w3886 ⟨rfl, HM⟩
            refine at_then ?_
            refine run_cond (b := (t3878 || t3880)) rfl (fun hb3887 => ?_) (fun hb3887 => ?_)
            · replace H := cond_t hb3887 H
              refine run_seq ?_
              refine run_region rfl ?_
              refine ox rfl rfl rfl rfl (ex_assign rfl rfl) ?_
              refine ops_nil (at_then ?_)
              refine run_ret ?_
              refine at_block_ret ?_
              refine at_then_ret ?_
              replace HM := (HM.front 0 rfl rfl).drop
              have hR := Option.some.inj H
              subst hR
              exact at_ret1 rfl rfl ⟨_, rfl, rfl, HM⟩
            · replace H := cond_f hb3887 H
              refine run_skip ?_
              refine at_block ?_
              refine at_then ?_
              obtain ⟨o3946, ho3947, H⟩ := bind_some H
              refine run_mid (fun ρ_ w_ => Sum.inr () = o3946 ∧ ρ_ = [(1, .pointer (some ⟨b3849, 0, none⟩))] ∧ Mem w [] w_ [box b3849 28 [.int .i64 x0.fKind, .int .i64 x0.fMember, p0_0, p0_1]]) ?_ ?_
              · skip
                refine run_seq ?_
                refine run_region rfl ?_
                refine ox rfl rfl rfl rfl (ex_fieldAddr (off' := 2) rfl rfl Try.underlying28 rfl tsz25 rfl) ?_
                refine ox rfl rfl rfl rfl (ex_load1 rfl rfl Try.underlying25 rfl ((HM.box_at 0 rfl) 2 _ rfl)) ?_
                refine ox rfl rfl rfl rfl (ex_len (d := kRef) (xs := x0.fIns) rfl rfl Try.underlying25 hp0_0) ?_
                refine ox rfl rfl rfl rfl (ex_move rfl rfl) ?_
                refine ops_nil (at_then ?_)
                refine run_block ?_
                refine run_loop (fun k_ ρ_ w_ => ∃ a3967 : Int, impl_TxFault.l0 x0 k_ a3967 = some o3946 ∧ ρ_ = [(1, .pointer (some ⟨b3849, 0, none⟩)), (47, p0_0), (48, .int .i64 (x0.fIns.length : Int)), (49, .int .i64 a3967)] ∧ Mem w [] w_ [box b3849 28 [.int .i64 x0.fKind, .int .i64 x0.fMember, p0_0, p0_1]]) k (ρ1 := [(1, .pointer (some ⟨b3849, 0, none⟩)), (47, p0_0), (48, .int .i64 (x0.fIns.length : Int)), (49, .int .i64 0)]) ⟨_, ho3947, rfl, HM⟩ (Sub.cons rfl (Sub.cons rfl (Sub.cons rfl (Sub.cons rfl Sub.nil)))) ?_
                clear HM ho3947
                rintro k3987 _ w3988 ⟨a3967, ho3947, rfl, HM⟩
                obtain _ | k3987 := k3987
                · exact nomatch ((impl_TxFault.l0_z x0 a3967).symm.trans ho3947)
                replace ho3947 := (impl_TxFault.l0_s x0 k3987 a3967).symm.trans ho3947
                refine run_seq ?_
                refine run_region rfl ?_
                refine ox rfl rfl rfl rfl (ex_lss rfl rfl rfl) ?_
                refine ops_nil (at_then (run_seq ?_))
                refine run_cond (b := (decide (a3967 < (x0.fIns.length : Int)))) rfl (fun hb3989 => ?_) (fun hb3989 => ?_)
                · replace ho3947 := cond_t hb3989 ho3947
                  refine run_skip ?_
                  refine at_then ?_
                  refine run_seq ?_
                  refine run_block ?_
                  refine run_seq ?_
                  obtain ⟨e3990, ho3947⟩ := chk_some ho3947
                  refine run_region rfl ?_
                  refine ox rfl rfl rfl rfl (ex_move rfl rfl) ?_
                  have hc3991 : CellsAt _ (sb p0_0) (so p0_0 + (a3967).toNat * 2) [(.int .i64 ((gt x0.fIns a3967).fTx)), (.int .i64 ((gt x0.fIns a3967).fAt))] := rd_plain hp0_0 e3990
                  refine ox rfl rfl rfl rfl (ex_indexAddr (d := kRef) rfl rfl rfl Try.underlying25 tsz36 hp0_0 (idx_lo e3990) (idx_hi e3990)) ?_
                  refine ox rfl rfl rfl rfl (ex_loadN (cs := [(.int .i64 ((gt x0.fIns a3967).fTx)), (.int .i64 ((gt x0.fIns a3967).fAt))]) rfl rfl Try.underlying36 rfl tsz36 rfl ((HM.at_ hc3991).sub 0 2 rfl)) ?_
                  refine od rfl rfl rfl rfl (does_alloc (cs := [.int .i64 0, .int .i64 0]) rfl tz36 rfl HM) ?_
                  rintro _ w3995 ⟨b3992, rfl, HM⟩
                  refine ox rfl rfl rfl rfl (ex_assign rfl rfl) ?_
                  refine odS rfl rfl rfl (does_store (vs := [.int .i64 ((gt x0.fIns a3967).fTx), .int .i64 ((gt x0.fIns a3967).fAt)]) (cs' := [.int .i64 ((gt x0.fIns a3967).fTx), .int .i64 ((gt x0.fIns a3967).fAt)]) rfl rfl rfl rfl tsz36 (Ones.int (Ones.int Ones.nil)) rfl rfl HM) ?_
                  rintro w3996 HM
                  refine ops_nil (at_then (run_seq ?_))
                  refine run_seq ?_
                  obtain ⟨t4000, h4001, ho3947⟩ := bind_some ho3947
                  refine run_region rfl ?_
                  refine ox rfl rfl rfl rfl (ex_loadN (cs := [(.int .i64 ((gt x0.fIns a3967).fTx)), (.int .i64 ((gt x0.fIns a3967).fAt))]) rfl rfl Try.underlying36 rfl tsz36 rfl ((HM.box_at 0 rfl).sub 0 2 rfl)) ?_
                  refine od rfl rfl rfl rfl (does_callk rfl callok63 rfl (impl_isRef.calls (x0 := (gt x0.fIns a3967)) h4001)) ?_
                  rintro _ w4002 ⟨rfl, hn⟩
                  replace HM : Mem w [] w4002 [box b3992 36 [.int .i64 ((gt x0.fIns a3967).fTx), .int .i64 ((gt x0.fIns a3967).fAt)], box b3849 28 [.int .i64 x0.fKind, .int .i64 x0.fMember, p0_0, p0_1]] := HM.call hn
                  refine ox rfl rfl rfl rfl (ex_not rfl rfl) ?_
                  refine ops_nil (at_then ?_)
                  refine run_cond (b := !t4000) rfl (fun hb4003 => ?_) (fun hb4003 => ?_)
                  · replace ho3947 := cond_t hb4003 ho3947
                    refine run_seq ?_
                    refine run_region rfl ?_
                    refine ox rfl rfl rfl rfl (ex_assign rfl rfl) ?_
                    refine ops_nil (at_then ?_)
                    refine run_ret ?_
                    refine at_then_ret ?_
                    refine at_block_ret ?_
                    refine at_then_ret ?_
                    refine at_then_ret ?_
                    refine at_block_ret ?_
                    refine at_then_ret ?_
                    replace HM := (HM.front 0 rfl rfl).drop
                    replace HM := (HM.front 0 rfl rfl).drop
                    have hR := Option.some.inj ho3947
                    subst hR
                    have hT := thn_inl H
                    have hR := Option.some.inj hT
                    subst hR
                    exact at_ret1 rfl rfl ⟨_, rfl, rfl, HM⟩
                  · replace ho3947 := cond_f hb4003 ho3947
                    refine run_skip ?_
                    refine at_then ?_
                    refine run_seq ?_
                    obtain ⟨e4004, ho3947⟩ := chk_some ho3947
                    obtain ⟨t4008, h4009, ho3947⟩ := bind_some ho3947
                    refine run_drawf (fun w_ => Mem w [] w_ [box b3992 36 [.int .i64 ((gt x0.fIns a3967).fTx), .int .i64 ((gt x0.fIns a3967).fAt)], box b3849 28 [.int .i64 x0.fKind, .int .i64 x0.fMember, p0_0, p0_1]]) [(0, true), (1, true), (2, true), (3, true), (4, true), (5, false)] mixed rfl rfl (by kernel_rfl) ?_
                    replace HM := HM.grow (fr_drew _)
                    have hS := Mem.suf (M := []) HM
                    refine dp rfl rfl rfl rfl (ex_fieldAddr (off' := 2) rfl rfl Try.underlying28 rfl tsz25 rfl) hS ?_
                    refine drwp_take rfl (guard_none rfl) rfl rfl (fun w_ hS_ => (ex_load1 rfl rfl Try.underlying25 rfl ((hS_.box_at 1 rfl) 2 _ rfl))) hS ?_
                    refine dp rfl rfl rfl rfl (ex_move rfl rfl) hS ?_
                    refine drwp_takeE rfl (guard_none rfl) rfl rfl (ex_cutH kRef rfl rfl rfl Try.underlying25 tsz36 hp0_0 e4004) hS ?_
                    rintro u4005 hr4007
                    refine drwp_take rfl (guard_none rfl) rfl rfl (fun w_ hS_ => (ex_loadN (cs := [(.int .i64 ((gt x0.fIns a3967).fTx)), (.int .i64 ((gt x0.fIns a3967).fAt))]) rfl rfl Try.underlying36 rfl tsz36 rfl ((hS_.box_at 0 rfl).sub 0 2 rfl))) hS ?_
                    refine drwp_one rfl (guard_none rfl) rfl rfl (does_callk rfl callok107 rfl (slices_Contains_impl_Ref.calls (x0 := x0.fIns.take (a3967).toNat) (x1 := (gt x0.fIns a3967)) (HM.rd hr4007) h4009)) ?_
                    rintro _ w4010 ⟨rfl, hn⟩
                    replace HM : Mem w [] w4010 [box b3992 36 [.int .i64 ((gt x0.fIns a3967).fTx), .int .i64 ((gt x0.fIns a3967).fAt)], box b3849 28 [.int .i64 x0.fKind, .int .i64 x0.fMember, p0_0, p0_1]] := HM.call hn
                    have hS := Mem.suf (M := []) HM
                    refine ⟨hS, ?_⟩
                    refine drwp_done ?_
                    refine at_then ?_
                    refine run_cond (b := t4008) rfl (fun hb4011 => ?_) (fun hb4011 => ?_)
                    · replace ho3947 := cond_t hb4011 ho3947
                      refine run_seq ?_
                      refine run_region rfl ?_
                      refine ox rfl rfl rfl rfl (ex_assign rfl rfl) ?_
                      refine ops_nil (at_then ?_)
                      refine run_ret ?_
                      refine at_block_ret ?_
                      refine at_then_ret ?_
                      refine at_then_ret ?_
                      refine at_block_ret ?_
                      refine at_then_ret ?_
                      replace HM := (HM.front 0 rfl rfl).drop
                      replace HM := (HM.front 0 rfl rfl).drop
                      have hR := Option.some.inj ho3947
                      subst hR
                      have hT := thn_inl H
                      have hR := Option.some.inj hT
                      subst hR
                      exact at_ret1 rfl rfl ⟨_, rfl, rfl, HM⟩
                    · replace ho3947 := cond_f hb4011 ho3947
                      refine run_skip ?_
                      refine at_block ?_
                      refine at_then ?_
                      refine run_region rfl ?_
                      refine ox rfl rfl rfl rfl (ex_add rfl rfl rfl) ?_
                      refine ox rfl rfl rfl rfl (ex_move rfl rfl) ?_
                      refine ops_nil ?_
                      replace HM := (HM.front 0 rfl rfl).drop
                      exact at_again k3987 (ρ1 := [(1, .pointer (some ⟨b3849, 0, none⟩)), (47, p0_0), (48, .int .i64 (x0.fIns.length : Int)), (49, .int .i64 (wrap64 (a3967 + 1)))]) (Nat.lt_succ_self _) ⟨_, ho3947, rfl, HM⟩ (Sub.cons rfl (Sub.cons rfl (Sub.cons rfl (Sub.cons rfl Sub.nil))))
                · replace ho3947 := cond_f hb3989 ho3947
                  refine run_exit ?_
                  refine at_then_exit ?_
                  refine at_then_exit ?_
                  refine at_block_exit ?_
                  exact at_mid (ρ' := [(1, .pointer (some ⟨b3849, 0, none⟩))]) ⟨(Option.some.inj ho3947), rfl, HM⟩ (Sub.cons rfl Sub.nil)
              · rintro _ w4012 ⟨rfl, rfl, HM⟩
                replace H := (thn_inr H)
                obtain ⟨o4047, ho4048, H⟩ := bind_some H
                refine run_mid (fun ρ_ w_ => Sum.inr () = o4047 ∧ ρ_ = [(1, .pointer (some ⟨b3849, 0, none⟩))] ∧ Mem w [] w_ [box b3849 28 [.int .i64 x0.fKind, .int .i64 x0.fMember, p0_0, p0_1]]) ?_ ?_
                · skip
                  refine run_seq ?_
                  refine run_region rfl ?_
                  refine ox rfl rfl rfl rfl (ex_fieldAddr (off' := 3) rfl rfl Try.underlying28 rfl tsz26 rfl) ?_
                  refine ox rfl rfl rfl rfl (ex_load1 rfl rfl Try.underlying26 rfl ((HM.box_at 0 rfl) 3 _ rfl)) ?_
                  refine ox rfl rfl rfl rfl (ex_len (d := kOut) (xs := x0.fOuts) rfl rfl Try.underlying26 hp0_1) ?_
                  refine ox rfl rfl rfl rfl (ex_move rfl rfl) ?_
                  refine ops_nil (at_then ?_)
                  refine run_block ?_
                  refine run_loop (fun k_ ρ_ w_ => ∃ a4060 : Int, impl_TxFault.l1 x0 k_ a4060 = some o4047 ∧ ρ_ = [(1, .pointer (some ⟨b3849, 0, none⟩)), (65, p0_1), (66, .int .i64 (x0.fOuts.length : Int)), (67, .int .i64 a4060)] ∧ Mem w [] w_ [box b3849 28 [.int .i64 x0.fKind, .int .i64 x0.fMember, p0_0, p0_1]]) k (ρ1 := [(1, .pointer (some ⟨b3849, 0, none⟩)), (65, p0_1), (66, .int .i64 (x0.fOuts.length : Int)), (67, .int .i64 0)]) ⟨_, ho4048, rfl, HM⟩ (Sub.cons rfl (Sub.cons rfl (Sub.cons rfl (Sub.cons rfl Sub.nil)))) ?_
                  clear HM ho4048
                  rintro k4072 _ w4073 ⟨a4060, ho4048, rfl, HM⟩
                  obtain _ | k4072 := k4072
                  · exact nomatch ((impl_TxFault.l1_z x0 a4060).symm.trans ho4048)
                  replace ho4048 := (impl_TxFault.l1_s x0 k4072 a4060).symm.trans ho4048
                  refine run_seq ?_
                  refine run_region rfl ?_
                  refine ox rfl rfl rfl rfl (ex_lss rfl rfl rfl) ?_
                  refine ops_nil (at_then (run_seq ?_))
                  refine run_cond (b := (decide (a4060 < (x0.fOuts.length : Int)))) rfl (fun hb4074 => ?_) (fun hb4074 => ?_)
                  · replace ho4048 := cond_t hb4074 ho4048
                    refine run_skip ?_
                    refine at_then ?_
                    refine run_seq ?_
                    refine run_block ?_
                    refine run_seq ?_
                    obtain ⟨e4075, ho4048⟩ := chk_some ho4048
                    refine run_region rfl ?_
                    obtain ⟨kv4077, hc4076, hk4078⟩ : ∃ u, CellsAt _ (sb p0_1) (so p0_1 + (a4060).toNat * 4) [(.int .i64 ((gt x0.fOuts a4060).fValue)), u, (.int .i64 ((gt x0.fOuts a4060).fRule.fNeed)), (.int .i64 ((gt x0.fOuts a4060).fRule.fAfter))] ∧ RdS kInt _ u ((gt x0.fOuts a4060).fRule.fKeys) := rd_with1 hp0_1 e4075
                    refine ox rfl rfl rfl rfl (ex_indexAddr (d := kOut) rfl rfl rfl Try.underlying26 tsz69 hp0_1 (idx_lo e4075) (idx_hi e4075)) ?_
                    refine ox rfl rfl rfl rfl (ex_loadN (cs := [(.int .i64 ((gt x0.fOuts a4060).fValue)), kv4077, (.int .i64 ((gt x0.fOuts a4060).fRule.fNeed)), (.int .i64 ((gt x0.fOuts a4060).fRule.fAfter))]) rfl rfl Try.underlying69 rfl tsz69 rfl ((HM.at_ hc4076).sub 0 4 rfl)) ?_
                    refine od rfl rfl rfl rfl (does_alloc (cs := [.int .i64 0, .slice none 0 0, .int .i64 0, .int .i64 0]) rfl tz69 rfl HM) ?_
                    rintro _ w4082 ⟨b4079, rfl, HM⟩
                    refine odS rfl rfl rfl (does_store (vs := [.int .i64 ((gt x0.fOuts a4060).fValue), kv4077, .int .i64 ((gt x0.fOuts a4060).fRule.fNeed), .int .i64 ((gt x0.fOuts a4060).fRule.fAfter)]) (cs' := [.int .i64 ((gt x0.fOuts a4060).fValue), kv4077, .int .i64 ((gt x0.fOuts a4060).fRule.fNeed), .int .i64 ((gt x0.fOuts a4060).fRule.fAfter)]) rfl rfl rfl rfl tsz69 (Ones.int (Ones.rd hk4078 (Ones.int (Ones.int Ones.nil)))) rfl rfl HM) ?_
                    rintro w4083 HM
                    refine ops_nil (at_then (run_seq ?_))
                    obtain ⟨t4084, h4085, ho4048⟩ := bind_some ho4048
                    refine run_region rfl ?_
                    refine ox rfl rfl rfl rfl (ex_loadN (cs := [(.int .i64 ((gt x0.fOuts a4060).fValue)), kv4077, (.int .i64 ((gt x0.fOuts a4060).fRule.fNeed)), (.int .i64 ((gt x0.fOuts a4060).fRule.fAfter))]) rfl rfl Try.underlying69 rfl tsz69 rfl ((HM.box_at 0 rfl).sub 0 4 rfl)) ?_
                    refine od rfl rfl rfl rfl (does_callk rfl callok108 rfl (impl_outFault.calls (x0 := (gt x0.fOuts a4060)) (HM.rd hk4078) h4085)) ?_
                    rintro _ w4086 ⟨rfl, hn⟩
                    replace HM : Mem w [] w4086 [box b4079 69 [.int .i64 ((gt x0.fOuts a4060).fValue), kv4077, .int .i64 ((gt x0.fOuts a4060).fRule.fNeed), .int .i64 ((gt x0.fOuts a4060).fRule.fAfter)], box b3849 28 [.int .i64 x0.fKind, .int .i64 x0.fMember, p0_0, p0_1]] := HM.call hn
                    refine ox rfl rfl rfl rfl (ex_assign rfl rfl) ?_
                    refine ops_nil (at_then (run_seq ?_))
                    refine run_region rfl ?_
                    refine ox rfl rfl rfl rfl (ex_move rfl rfl) ?_
                    refine ox rfl rfl rfl rfl (ex_neq rfl rfl rfl) ?_
                    refine ops_nil (at_then ?_)
                    refine run_cond (b := (t4084 != 0)) rfl (fun hb4087 => ?_) (fun hb4087 => ?_)
                    · replace ho4048 := cond_t hb4087 ho4048
                      refine run_seq ?_
                      refine run_region rfl ?_
                      refine ox rfl rfl rfl rfl (ex_move rfl rfl) ?_
                      refine ox rfl rfl rfl rfl (ex_assign rfl rfl) ?_
                      refine ops_nil (at_then ?_)
                      refine run_ret ?_
                      refine at_block_ret ?_
                      refine at_then_ret ?_
                      refine at_then_ret ?_
                      refine at_block_ret ?_
                      refine at_then_ret ?_
                      replace HM := (HM.front 0 rfl rfl).drop
                      replace HM := (HM.front 0 rfl rfl).drop
                      have hR := Option.some.inj ho4048
                      subst hR
                      have hT := thn_inl H
                      have hR := Option.some.inj hT
                      subst hR
                      exact at_ret1 rfl rfl ⟨_, rfl, rfl, HM⟩
                    · replace ho4048 := cond_f hb4087 ho4048
                      refine run_skip ?_
                      refine at_block ?_
                      refine at_then ?_
                      refine run_region rfl ?_
                      refine ox rfl rfl rfl rfl (ex_add rfl rfl rfl) ?_
                      refine ox rfl rfl rfl rfl (ex_move rfl rfl) ?_
                      refine ops_nil ?_
                      replace HM := (HM.front 0 rfl rfl).drop
                      exact at_again k4072 (ρ1 := [(1, .pointer (some ⟨b3849, 0, none⟩)), (65, p0_1), (66, .int .i64 (x0.fOuts.length : Int)), (67, .int .i64 (wrap64 (a4060 + 1)))]) (Nat.lt_succ_self _) ⟨_, ho4048, rfl, HM⟩ (Sub.cons rfl (Sub.cons rfl (Sub.cons rfl (Sub.cons rfl Sub.nil))))
                  · replace ho4048 := cond_f hb4074 ho4048
                    refine run_exit ?_
                    refine at_then_exit ?_
                    refine at_then_exit ?_
                    refine at_block_exit ?_
                    exact at_mid (ρ' := [(1, .pointer (some ⟨b3849, 0, none⟩))]) ⟨(Option.some.inj ho4048), rfl, HM⟩ (Sub.cons rfl Sub.nil)
                · rintro _ w4088 ⟨rfl, rfl, HM⟩
                  replace H := (thn_inr H)
                  refine run_seq ?_
                  refine run_seq ?_
                  obtain ⟨e4089, H⟩ := chk_some H
                  refine run_meet (fun ρ_ w_ => ρ_ = [(87, .bool ((x0.fKind == 1) && (decide (((gt x0.fOuts (0 : Int)).fValue) < 100))))] ∧ Mem w [] w_ []) ?_ ?_
                  · skip
                    refine run_region rfl ?_
                    refine ox rfl rfl rfl rfl (ex_fieldAddr (off' := 0) rfl rfl Try.underlying28 rfl tsz2 rfl) ?_
                    refine ox rfl rfl rfl rfl (ex_load1 rfl rfl Try.underlying2 rfl ((HM.box_at 0 rfl) 0 _ rfl)) ?_
                    refine ox rfl rfl rfl rfl (ex_eql rfl rfl rfl) ?_
                    refine ox rfl rfl rfl rfl (ex_move rfl rfl) ?_
                    refine bool_cases (x0.fKind == 1) (fun hg4093 => ?_) (fun hg4093 => ?_)
                    · skip
                      refine ops_ex rfl (guard_on rfl rfl rfl hg4093) rfl rfl (ex_fieldAddr (off' := 3) rfl rfl Try.underlying28 rfl tsz26 rfl) ?_
                      refine ops_ex rfl (guard_on rfl rfl rfl hg4093) rfl rfl (ex_load1 rfl rfl Try.underlying26 rfl ((HM.box_at 0 rfl) 3 _ rfl)) ?_
                      obtain ⟨kv4091, hc4090, hk4092⟩ : ∃ u, CellsAt _ (sb p0_1) (so p0_1 + ((0 : Int)).toNat * 4) [(.int .i64 ((gt x0.fOuts (0 : Int)).fValue)), u, (.int .i64 ((gt x0.fOuts (0 : Int)).fRule.fNeed)), (.int .i64 ((gt x0.fOuts (0 : Int)).fRule.fAfter))] ∧ RdS kInt _ u ((gt x0.fOuts (0 : Int)).fRule.fKeys) := rd_with1 hp0_1 (or_t e4089 hg4093)
                      refine ops_ex rfl (guard_on rfl rfl rfl hg4093) rfl rfl (ex_indexAddr (d := kOut) rfl rfl rfl Try.underlying26 tsz69 hp0_1 (idx_lo (or_t e4089 hg4093)) (idx_hi (or_t e4089 hg4093))) ?_
                      refine ops_ex rfl (guard_on rfl rfl rfl hg4093) rfl rfl (ex_fieldAddr (off' := so p0_1 + ((0 : Int)).toNat * 4) rfl rfl Try.underlying69 rfl tsz2 rfl) ?_
                      refine ops_ex rfl (guard_on rfl rfl rfl hg4093) rfl rfl (ex_load1 rfl rfl Try.underlying2 rfl ((HM.at_ hc4090) 0 _ rfl)) ?_
                      refine ops_ex rfl (guard_on rfl rfl rfl hg4093) rfl rfl (ex_lss rfl rfl rfl) ?_
                      refine ops_ex (v := .bool ((x0.fKind == 1) && (decide (((gt x0.fOuts (0 : Int)).fValue) < 100)))) rfl (guard_none rfl) rfl rfl (ex_pand_t rfl rfl hg4093 rfl) ?_
                      refine ops_nil ?_
                      replace HM := (HM.front 0 rfl rfl).drop
                      exact at_meet [(87, .bool ((x0.fKind == 1) && (decide (((gt x0.fOuts (0 : Int)).fValue) < 100))))] ⟨rfl, HM⟩ (Sub.cons rfl Sub.nil)
                    · skip
                      refine ops_off rfl (guard_off rfl rfl rfl hg4093) rfl rfl ?_
                      refine ops_off rfl (guard_off rfl rfl rfl hg4093) rfl rfl ?_
                      refine ops_off rfl (guard_off rfl rfl rfl hg4093) rfl rfl ?_
                      refine ops_off rfl (guard_off rfl rfl rfl hg4093) rfl rfl ?_
                      refine ops_off rfl (guard_off rfl rfl rfl hg4093) rfl rfl ?_
                      refine ops_off rfl (guard_off rfl rfl rfl hg4093) rfl rfl ?_
                      have hg4094 : ((x0.fKind == 1) && (decide (((gt x0.fOuts (0 : Int)).fValue) < 100))) = false := by simp only [hg4093, Bool.and_true, Bool.true_and, Bool.and_false, Bool.false_and, Bool.or_true, Bool.true_or, Bool.or_false, Bool.false_or, Bool.not_true, Bool.not_false, Bool.not_not]
                      refine ops_ex (v := .bool ((x0.fKind == 1) && (decide (((gt x0.fOuts (0 : Int)).fValue) < 100)))) rfl (guard_none rfl) rfl rfl (ex_pand_f rfl rfl hg4093) ?_
                      refine ops_nil ?_
                      replace HM := (HM.front 0 rfl rfl).drop
                      exact at_meet [(87, .bool ((x0.fKind == 1) && (decide (((gt x0.fOuts (0 : Int)).fValue) < 100))))] ⟨rfl, HM⟩ (Sub.cons rfl Sub.nil)
                  · rintro _ w4095 ⟨rfl, HM⟩
                    refine at_then ?_
                    refine run_cond (b := ((x0.fKind == 1) && (decide (((gt x0.fOuts (0 : Int)).fValue) < 100)))) rfl (fun hb4096 => ?_) (fun hb4096 => ?_)
                    · replace H := cond_t hb4096 H
                      refine run_seq ?_
                      refine run_region rfl ?_
                      refine ox rfl rfl rfl rfl (ex_assign rfl rfl) ?_
                      refine ops_nil (at_then ?_)
                      refine run_ret ?_
                      refine at_then_ret ?_
                      have hR := Option.some.inj H
                      subst hR
                      exact at_ret1 rfl rfl ⟨_, rfl, rfl, HM⟩
                    · replace H := cond_f hb4096 H
                      refine run_skip ?_
                      refine at_then ?_
                      refine run_seq ?_
                      refine run_region rfl ?_
                      refine ox rfl rfl rfl rfl (ex_assign rfl rfl) ?_
                      refine ops_nil (at_then ?_)
                      refine run_ret ?_
                      have hR := Option.some.inj H
                      subst hR
                      exact at_ret1 rfl rfl ⟨_, rfl, rfl, HM⟩
end Go.Proofs.Ytbbcabpnkdilgaa.Zk
