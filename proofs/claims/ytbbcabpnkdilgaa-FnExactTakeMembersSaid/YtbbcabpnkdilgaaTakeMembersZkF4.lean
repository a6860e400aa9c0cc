/- What functions of the program compute, each as a plain function, and that they do. Conditions: as each theorem states them. -/
import Derived.Test.YtbbcabpnkdilgaaTakeMembersZkF3
namespace Go.Proofs.Ytbbcabpnkdilgaa.Zk
open Go Go.RowKit Go.IntWalk Go.Proofs
set_option linter.unusedVariables false
set_option linter.unusedSimpArgs false
set_option maxRecDepth 100000
set_option maxHeartbeats 4000000
def impl_TxFault_1.f (k : Nat) (x0 : Int) : Option Bool := some ((decide (x0 < 1)) || (decide (4 < x0)))
theorem impl_TxFault_1.calls {k : Nat} {x0 : Int}  {w : World}  {r : Bool} (H : impl_TxFault_1.f k x0 = some r) :
    Calls Try.prog 106 ([.int .i64 x0] : List Value).toArray w (fun e w_ => ∃ v, e = .returned v ∧ v = (.bool r) ∧ Mem w [] w_ []) := by
  have HM := Mem.start w
  refine calls_run (N := 9) Try.func106 rfl rfl rfl rfl ?_
  unfold impl_TxFault_1.f at H
  refine run_seq ?_
  refine run_region rfl ?_
  refine ox rfl rfl rfl rfl (ex_assign rfl rfl) ?_
  refine ops_nil (at_then (run_seq ?_))
  refine run_meet (fun ρ_ w_ => ρ_ = [(2, .bool ((decide (x0 < 1)) || (decide (4 < x0))))] ∧ Mem w [] w_ []) ?_ ?_
  · skip
    refine run_region rfl ?_
    refine ox rfl rfl rfl rfl (ex_move rfl rfl) ?_
    refine ox rfl rfl rfl rfl (ex_lss rfl rfl rfl) ?_
    refine ox rfl rfl rfl rfl (ex_move rfl rfl) ?_
    refine bool_cases (decide (x0 < 1)) (fun hg2911 => ?_) (fun hg2911 => ?_)
    · skip
      refine ops_off rfl (guard_off rfl rfl rfl hg2911) rfl rfl ?_
      refine ops_off rfl (guard_off rfl rfl rfl hg2911) rfl rfl ?_
      have hg2912 : ((decide (x0 < 1)) || (decide (4 < x0))) = true := by simp only [hg2911, Bool.and_true, Bool.true_and, Bool.and_false, Bool.false_and, Bool.or_true, Bool.true_or, Bool.or_false, Bool.false_or, Bool.not_true, Bool.not_false, Bool.not_not]
      refine ops_ex (v := .bool ((decide (x0 < 1)) || (decide (4 < x0)))) rfl (guard_none rfl) rfl rfl (ex_por_t rfl rfl hg2911) ?_
      refine ox rfl rfl rfl rfl (ex_assign rfl rfl) ?_
      refine ops_nil ?_
      exact at_meet [(2, .bool ((decide (x0 < 1)) || (decide (4 < x0))))] ⟨rfl, HM⟩ (Sub.cons rfl Sub.nil)
    · skip
      refine ops_ex rfl (guard_on rfl rfl rfl hg2911) rfl rfl (ex_move rfl rfl) ?_
      refine ops_ex rfl (guard_on rfl rfl rfl hg2911) rfl rfl (ex_gtr rfl rfl rfl) ?_
      refine ops_ex (v := .bool ((decide (x0 < 1)) || (decide (4 < x0)))) rfl (guard_none rfl) rfl rfl (ex_por_f rfl rfl hg2911 rfl) ?_
      refine ox rfl rfl rfl rfl (ex_assign rfl rfl) ?_
      refine ops_nil ?_
      exact at_meet [(2, .bool ((decide (x0 < 1)) || (decide (4 < x0))))] ⟨rfl, HM⟩ (Sub.cons rfl Sub.nil)
  · rintro _ w2913 ⟨rfl, HM⟩
    refine at_then ?_
    refine run_ret ?_
    have hR := Option.some.inj H
    subst hR
    exact at_ret1 rfl rfl ⟨_, rfl, rfl, HM⟩

def slices_Index_impl_Ref.l0 (x0 : List Ref) (x1 : Ref) : Nat → Int → Option (Int ⊕ Unit)
  | 0, _ => none
  | k + 1, a2990 => (bif (decide (a2990 < (x0.length : Int))) then (chk (idxOk a2990 x0.length) (bif ((x1.fTx == ((gt x0 a2990).fTx)) && (x1.fAt == ((gt x0 a2990).fAt))) then some (.inl a2990) else slices_Index_impl_Ref.l0 x0 x1 k (wrap64 (a2990 + 1)))) else some (.inr ()))
theorem slices_Index_impl_Ref.l0_z (x0 : List Ref) (x1 : Ref) (a2990 : Int) : slices_Index_impl_Ref.l0 x0 x1 0 a2990 = none := rfl
theorem slices_Index_impl_Ref.l0_s (x0 : List Ref) (x1 : Ref) (k : Nat) (a2990 : Int) : slices_Index_impl_Ref.l0 x0 x1 (k + 1) a2990 = (bif (decide (a2990 < (x0.length : Int))) then (chk (idxOk a2990 x0.length) (bif ((x1.fTx == ((gt x0 a2990).fTx)) && (x1.fAt == ((gt x0 a2990).fAt))) then some (.inl a2990) else slices_Index_impl_Ref.l0 x0 x1 k (wrap64 (a2990 + 1)))) else some (.inr ())) := rfl
def slices_Index_impl_Ref.f (k : Nat) (x0 : List Ref) (x1 : Ref) : Option Int := ((slices_Index_impl_Ref.l0 x0 x1 k 0).bind fun o2984 => thn o2984 (fun r => some r) (fun _ => some (-1)))
theorem slices_Index_impl_Ref.calls {k : Nat} {x0 : List Ref} {x1 : Ref} {p0 : Value} {w : World} (hp0 : RdS kRef w p0 x0) {r : Int} (H : slices_Index_impl_Ref.f k x0 x1 = some r) :
    Calls Try.prog 148 ([p0, .agg #[(.int .i64 x1.fTx), (.int .i64 x1.fAt)]] : List Value).toArray w (fun e w_ => ∃ v, e = .returned v ∧ v = (.int .i64 r) ∧ Mem w [] w_ []) := by
  have HM := Mem.start w
  refine calls_run (N := 19) Try.func148 rfl rfl rfl rfl ?_
  unfold slices_Index_impl_Ref.f at H
  refine run_seq ?_
  refine run_region rfl ?_
  refine od rfl rfl rfl rfl (does_box (cs := [.int .i64 x1.fTx, .int .i64 x1.fAt]) rfl rfl rfl HM) ?_
  rintro _ w2970 ⟨b2967, rfl, HM⟩
  refine ox rfl rfl rfl rfl (ex_assign rfl rfl) ?_
  refine ops_nil (at_then ?_)
  obtain ⟨o2984, ho2985, H⟩ := bind_some H
  refine run_mid (fun ρ_ w_ => Sum.inr () = o2984 ∧ ρ_ = [] ∧ Mem w [] w_ []) ?_ ?_
  · skip
    refine run_seq ?_
    refine run_region rfl ?_
    refine ox rfl rfl rfl rfl (ex_move rfl rfl) ?_
    refine ox rfl rfl rfl rfl (ex_len (d := kRef) (xs := x0) rfl rfl Try.underlying25 hp0) ?_
    refine ox rfl rfl rfl rfl (ex_move rfl rfl) ?_
    refine ops_nil (at_then ?_)
    refine run_block ?_
    refine run_loop (fun k_ ρ_ w_ => ∃ a2990 : Int, slices_Index_impl_Ref.l0 x0 x1 k_ a2990 = some o2984 ∧ ρ_ = [(0, p0), (3, .pointer (some ⟨b2967, 0, none⟩)), (7, .int .i64 (x0.length : Int)), (8, .int .i64 a2990)] ∧ Mem w [] w_ [box b2967 36 [.int .i64 x1.fTx, .int .i64 x1.fAt]]) k (ρ1 := [(0, p0), (3, .pointer (some ⟨b2967, 0, none⟩)), (7, .int .i64 (x0.length : Int)), (8, .int .i64 0)]) ⟨_, ho2985, rfl, HM⟩ (Sub.cons rfl (Sub.cons rfl (Sub.cons rfl (Sub.cons rfl Sub.nil)))) ?_
    clear HM ho2985
    rintro k2995 _ w2996 ⟨a2990, ho2985, rfl, HM⟩
    obtain _ | k2995 := k2995
    · exact nomatch ((slices_Index_impl_Ref.l0_z x0 x1 a2990).symm.trans ho2985)
    replace ho2985 := (slices_Index_impl_Ref.l0_s x0 x1 k2995 a2990).symm.trans ho2985
    refine run_seq ?_
    refine run_region rfl ?_
    refine ox rfl rfl rfl rfl (ex_lss rfl rfl rfl) ?_
    refine ops_nil (at_then (run_seq ?_))
    refine run_cond (b := (decide (a2990 < (x0.length : Int)))) rfl (fun hb2997 => ?_) (fun hb2997 => ?_)
    · replace ho2985 := cond_t hb2997 ho2985
      refine run_skip ?_
      refine at_then ?_
      refine run_seq ?_
      refine run_block ?_
      refine run_seq ?_
      refine run_region rfl ?_
      refine ox rfl rfl rfl rfl (ex_move rfl rfl) ?_
      refine ox rfl rfl rfl rfl (ex_assign rfl rfl) ?_
      refine ops_nil (at_then (run_seq ?_))
      obtain ⟨e2998, ho2985⟩ := chk_some ho2985
      refine run_drawf (fun w_ => Mem w [] w_ [box b2967 36 [.int .i64 x1.fTx, .int .i64 x1.fAt]]) [(0, true), (1, true), (2, true), (3, true), (4, true), (5, true)] mixed rfl rfl (by kernel_rfl) ?_
      replace HM := HM.grow (fr_drew _)
      have hS := Mem.suf (M := []) HM
      refine drwp_take rfl (guard_none rfl) rfl rfl (fun w_ hS_ => (ex_loadN (cs := [(.int .i64 x1.fTx), (.int .i64 x1.fAt)]) rfl rfl Try.underlying36 rfl tsz36 rfl ((hS_.box_at 0 rfl).sub 0 2 rfl))) hS ?_
      refine dp rfl rfl rfl rfl (ex_move rfl rfl) hS ?_
      refine dp rfl rfl rfl rfl (ex_move rfl rfl) hS ?_
      have hc2999 : CellsAt _ (sb p0) (so p0 + (a2990).toNat * 2) [(.int .i64 ((gt x0 a2990).fTx)), (.int .i64 ((gt x0 a2990).fAt))] := rd_plain hp0 e2998
      refine dp rfl rfl rfl rfl (ex_indexAddr (d := kRef) rfl rfl rfl Try.underlying25 tsz36 hp0 (idx_lo e2998) (idx_hi e2998)) hS ?_
      refine drwp_take rfl (guard_none rfl) rfl rfl (fun w_ hS_ => (ex_loadN (cs := [(.int .i64 ((gt x0 a2990).fTx)), (.int .i64 ((gt x0 a2990).fAt))]) rfl rfl Try.underlying36 rfl tsz36 rfl ((hS_.at_ hc2999).sub 0 2 rfl))) hS ?_
      refine dp rfl rfl rfl rfl (ex_aeql rfl rfl rfl (by kernel_rfl) (eqs36 _ _ _ _ _)) hS ?_
      refine drwp_done ?_
      refine at_then ?_
      refine run_cond (b := ((x1.fTx == ((gt x0 a2990).fTx)) && (x1.fAt == ((gt x0 a2990).fAt)))) rfl (fun hb3000 => ?_) (fun hb3000 => ?_)
      · replace ho2985 := cond_t hb3000 ho2985
        refine run_seq ?_
        refine run_region rfl ?_
        refine ox rfl rfl rfl rfl (ex_move rfl rfl) ?_
        refine ox rfl rfl rfl rfl (ex_assign rfl rfl) ?_
        refine ops_nil (at_then ?_)
        refine run_ret ?_
        refine at_block_ret ?_
        refine at_then_ret ?_
        refine at_then_ret ?_
        refine at_block_ret ?_
        refine at_then_ret ?_
        replace HM := (HM.front 0 rfl rfl).drop
        have hR := Option.some.inj ho2985
        subst hR
        have hT := thn_inl H
        have hR := Option.some.inj hT
        subst hR
        exact at_ret1 rfl rfl ⟨_, rfl, rfl, HM⟩
      · replace ho2985 := cond_f hb3000 ho2985
        refine run_skip ?_
        refine at_block ?_
        refine at_then ?_
        refine run_region rfl ?_
        refine ox rfl rfl rfl rfl (ex_add rfl rfl rfl) ?_
        refine ox rfl rfl rfl rfl (ex_move rfl rfl) ?_
        refine ops_nil ?_
        exact at_again k2995 (ρ1 := [(0, p0), (3, .pointer (some ⟨b2967, 0, none⟩)), (7, .int .i64 (x0.length : Int)), (8, .int .i64 (wrap64 (a2990 + 1)))]) (Nat.lt_succ_self _) ⟨_, ho2985, rfl, HM⟩ (Sub.cons rfl (Sub.cons rfl (Sub.cons rfl (Sub.cons rfl Sub.nil))))
    · replace ho2985 := cond_f hb2997 ho2985
      refine run_exit ?_
      refine at_then_exit ?_
      refine at_then_exit ?_
      refine at_block_exit ?_
      replace HM := (HM.front 0 rfl rfl).drop
      exact at_mid (ρ' := []) ⟨(Option.some.inj ho2985), rfl, HM⟩ Sub.nil
  · rintro _ w3001 ⟨rfl, rfl, HM⟩
    replace H := (thn_inr H)
    refine run_seq ?_
    refine run_region rfl ?_
    refine ox rfl rfl rfl rfl (ex_assign rfl rfl) ?_
    refine ops_nil (at_then ?_)
    refine run_ret ?_
    have hR := Option.some.inj H
    subst hR
    exact at_ret1 rfl rfl ⟨_, rfl, rfl, HM⟩

def slices_Contains_impl_Ref.f (k : Nat) (x0 : List Ref) (x1 : Ref) : Option Bool := ((slices_Index_impl_Ref.f k x0 x1).bind fun t3008 => some (decide (0 ≤ t3008)))
theorem slices_Contains_impl_Ref.calls {k : Nat} {x0 : List Ref} {x1 : Ref} {p0 : Value} {w : World} (hp0 : RdS kRef w p0 x0) {r : Bool} (H : slices_Contains_impl_Ref.f k x0 x1 = some r) :
    Calls Try.prog 107 ([p0, .agg #[(.int .i64 x1.fTx), (.int .i64 x1.fAt)]] : List Value).toArray w (fun e w_ => ∃ v, e = .returned v ∧ v = (.bool r) ∧ Mem w [] w_ []) := by
  have HM := Mem.start w
  refine calls_run (N := 9) Try.func107 rfl rfl rfl rfl ?_
  unfold slices_Contains_impl_Ref.f at H
  refine run_seq ?_
  refine run_region rfl ?_
  refine od rfl rfl rfl rfl (does_box (cs := [.int .i64 x1.fTx, .int .i64 x1.fAt]) rfl rfl rfl HM) ?_
  rintro _ w3007 ⟨b3004, rfl, HM⟩
  refine ox rfl rfl rfl rfl (ex_assign rfl rfl) ?_
  refine ops_nil (at_then (run_seq ?_))
  obtain ⟨t3008, h3009, H⟩ := bind_some H
  refine run_region rfl ?_
  refine ox rfl rfl rfl rfl (ex_move rfl rfl) ?_
  refine ox rfl rfl rfl rfl (ex_loadN (cs := [(.int .i64 x1.fTx), (.int .i64 x1.fAt)]) rfl rfl Try.underlying36 rfl tsz36 rfl ((HM.box_at 0 rfl).sub 0 2 rfl)) ?_
  refine od rfl rfl rfl rfl (does_callk rfl callok148 rfl (slices_Index_impl_Ref.calls (x0 := x0) (x1 := x1) (HM.rd hp0) h3009)) ?_
  rintro _ w3010 ⟨rfl, hn⟩
  replace HM : Mem w [] w3010 [box b3004 36 [.int .i64 x1.fTx, .int .i64 x1.fAt]] := HM.call hn
  refine ox rfl rfl rfl rfl (ex_geq rfl rfl rfl) ?_
  refine ox rfl rfl rfl rfl (ex_assign rfl rfl) ?_
  refine ops_nil (at_then ?_)
  refine run_ret ?_
  replace HM := (HM.front 0 rfl rfl).drop
  have hR := Option.some.inj H
  subst hR
  exact at_ret1 rfl rfl ⟨_, rfl, rfl, HM⟩

def impl_areKeys_1.f (k : Nat) (x0 : Int) : Option Bool := ((impl_isKey.f k x0).bind fun t3080 => some (!t3080))
theorem impl_areKeys_1.calls {k : Nat} {x0 : Int}  {w : World}  {r : Bool} (H : impl_areKeys_1.f k x0 = some r) :
    Calls Try.prog 158 ([.int .i64 x0] : List Value).toArray w (fun e w_ => ∃ v, e = .returned v ∧ v = (.bool r) ∧ Mem w [] w_ []) := by
  have HM := Mem.start w
  refine calls_run (N := 6) Try.func158 rfl rfl rfl rfl ?_
  unfold impl_areKeys_1.f at H
  refine run_seq ?_
  refine run_region rfl ?_
  refine ox rfl rfl rfl rfl (ex_assign rfl rfl) ?_
  refine ops_nil (at_then (run_seq ?_))
  obtain ⟨t3080, h3081, H⟩ := bind_some H
  refine run_region rfl ?_
  refine ox rfl rfl rfl rfl (ex_move rfl rfl) ?_
  refine od rfl rfl rfl rfl (does_callk rfl callok62 rfl (impl_isKey.calls (x0 := x0) h3081)) ?_
  rintro _ w3082 ⟨rfl, hn⟩
  replace HM : Mem w [] w3082 [] := HM.call hn
  refine ox rfl rfl rfl rfl (ex_not rfl rfl) ?_
  refine ox rfl rfl rfl rfl (ex_assign rfl rfl) ?_
  refine ops_nil (at_then ?_)
  refine run_ret ?_
  have hR := Option.some.inj H
  subst hR
  exact at_ret1 rfl rfl ⟨_, rfl, rfl, HM⟩

def slices_IndexFunc_int64.l0 (x0 : List Int) : Nat → Int → Option (Int ⊕ Unit)
  | 0, _ => none
  | k + 1, a3128 => (bif (decide (a3128 < (x0.length : Int))) then (chk (idxOk a3128 x0.length) ((impl_areKeys_1.f k (gt x0 a3128)).bind fun t3140 => (bif t3140 then some (.inl a3128) else slices_IndexFunc_int64.l0 x0 k (wrap64 (a3128 + 1))))) else some (.inr ()))
theorem slices_IndexFunc_int64.l0_z (x0 : List Int) (a3128 : Int) : slices_IndexFunc_int64.l0 x0 0 a3128 = none := rfl
theorem slices_IndexFunc_int64.l0_s (x0 : List Int) (k : Nat) (a3128 : Int) : slices_IndexFunc_int64.l0 x0 (k + 1) a3128 = (bif (decide (a3128 < (x0.length : Int))) then (chk (idxOk a3128 x0.length) ((impl_areKeys_1.f k (gt x0 a3128)).bind fun t3140 => (bif t3140 then some (.inl a3128) else slices_IndexFunc_int64.l0 x0 k (wrap64 (a3128 + 1))))) else some (.inr ())) := rfl
def slices_IndexFunc_int64.f (k : Nat) (x0 : List Int) : Option Int := ((slices_IndexFunc_int64.l0 x0 k 0).bind fun o3120 => thn o3120 (fun r => some r) (fun _ => some (-1)))
theorem slices_IndexFunc_int64.calls {k : Nat} {x0 : List Int} {p0 : Value} {w : World} (hp0 : RdS kInt w p0 x0) {r : Int} (H : slices_IndexFunc_int64.f k x0 = some r) :
    Calls Try.prog 168 ([p0, .func (.func 158) #[] #[]] : List Value).toArray w (fun e w_ => ∃ v, e = .returned v ∧ v = (.int .i64 r) ∧ Mem w [] w_ []) := by
  have HM := Mem.start w
  refine calls_run (N := 19) Try.func168 rfl rfl rfl rfl ?_
  unfold slices_IndexFunc_int64.f at H
  refine run_seq ?_
  refine run_region rfl ?_
  refine ox rfl rfl rfl rfl (ex_assign rfl rfl) ?_
  refine ops_nil (at_then ?_)
  obtain ⟨o3120, ho3121, H⟩ := bind_some H
  refine run_mid (fun ρ_ w_ => Sum.inr () = o3120 ∧ ρ_ = [] ∧ Mem w [] w_ []) ?_ ?_
  · skip
    refine run_seq ?_
    refine run_region rfl ?_
    refine ox rfl rfl rfl rfl (ex_move rfl rfl) ?_
    refine ox rfl rfl rfl rfl (ex_len (d := kInt) (xs := x0) rfl rfl Try.underlying39 hp0) ?_
    refine ox rfl rfl rfl rfl (ex_move rfl rfl) ?_
    refine ops_nil (at_then ?_)
    refine run_block ?_
    refine run_loop (fun k_ ρ_ w_ => ∃ a3128 : Int, slices_IndexFunc_int64.l0 x0 k_ a3128 = some o3120 ∧ ρ_ = [(0, p0), (1, .func (.func 158) #[] #[]), (7, .int .i64 (x0.length : Int)), (8, .int .i64 a3128)] ∧ Mem w [] w_ []) k (ρ1 := [(0, p0), (1, .func (.func 158) #[] #[]), (7, .int .i64 (x0.length : Int)), (8, .int .i64 0)]) ⟨_, ho3121, rfl, HM⟩ (Sub.cons rfl (Sub.cons rfl (Sub.cons rfl (Sub.cons rfl Sub.nil)))) ?_
    clear HM ho3121
    rintro k3135 _ w3136 ⟨a3128, ho3121, rfl, HM⟩
    obtain _ | k3135 := k3135
    · exact nomatch ((slices_IndexFunc_int64.l0_z x0 a3128).symm.trans ho3121)
    replace ho3121 := (slices_IndexFunc_int64.l0_s x0 k3135 a3128).symm.trans ho3121
    refine run_seq ?_
    refine run_region rfl ?_
    refine ox rfl rfl rfl rfl (ex_lss rfl rfl rfl) ?_
    refine ops_nil (at_then (run_seq ?_))
    refine run_cond (b := (decide (a3128 < (x0.length : Int)))) rfl (fun hb3137 => ?_) (fun hb3137 => ?_)
    · replace ho3121 := cond_t hb3137 ho3121
      refine run_skip ?_
      refine at_then ?_
      refine run_seq ?_
      refine run_block ?_
      refine run_seq ?_
      refine run_region rfl ?_
      refine ox rfl rfl rfl rfl (ex_move rfl rfl) ?_
      refine ox rfl rfl rfl rfl (ex_assign rfl rfl) ?_
      refine ops_nil (at_then (run_seq ?_))
      obtain ⟨e3138, ho3121⟩ := chk_some ho3121
      obtain ⟨t3140, h3141, ho3121⟩ := bind_some ho3121
      refine run_region rfl ?_
      refine ox rfl rfl rfl rfl (ex_move rfl rfl) ?_
      refine ox rfl rfl rfl rfl (ex_move rfl rfl) ?_
      refine ox rfl rfl rfl rfl (ex_move rfl rfl) ?_
      have hc3139 : CellsAt _ (sb p0) (so p0 + (a3128).toNat * 1) [(.int .i64 (gt x0 a3128))] := rd_plain hp0 e3138
      refine ox rfl rfl rfl rfl (ex_indexAddr (d := kInt) rfl rfl rfl Try.underlying39 tsz2 hp0 (idx_lo e3138) (idx_hi e3138)) ?_
      refine ox rfl rfl rfl rfl (ex_load1 rfl rfl Try.underlying2 rfl ((HM.at_ hc3139) 0 _ rfl)) ?_
      refine od rfl rfl rfl rfl (does_callvk rfl callok158 rfl rfl rfl (impl_areKeys_1.calls (x0 := (gt x0 a3128)) h3141)) ?_
      rintro _ w3142 ⟨rfl, hn⟩
      replace HM : Mem w [] w3142 [] := HM.call hn
      refine ops_nil (at_then ?_)
      refine run_cond (b := t3140) rfl (fun hb3143 => ?_) (fun hb3143 => ?_)
      · replace ho3121 := cond_t hb3143 ho3121
        refine run_seq ?_
        refine run_region rfl ?_
        refine ox rfl rfl rfl rfl (ex_move rfl rfl) ?_
        refine ox rfl rfl rfl rfl (ex_assign rfl rfl) ?_
        refine ops_nil (at_then ?_)
        refine run_ret ?_
        refine at_block_ret ?_
        refine at_then_ret ?_
        refine at_then_ret ?_
        refine at_block_ret ?_
        refine at_then_ret ?_
        have hR := Option.some.inj ho3121
        subst hR
        have hT := thn_inl H
        have hR := Option.some.inj hT
        subst hR
        exact at_ret1 rfl rfl ⟨_, rfl, rfl, HM⟩
      · replace ho3121 := cond_f hb3143 ho3121
        refine run_skip ?_
        refine at_block ?_
        refine at_then ?_
        refine run_region rfl ?_
        refine ox rfl rfl rfl rfl (ex_add rfl rfl rfl) ?_
        refine ox rfl rfl rfl rfl (ex_move rfl rfl) ?_
        refine ops_nil ?_
        exact at_again k3135 (ρ1 := [(0, p0), (1, .func (.func 158) #[] #[]), (7, .int .i64 (x0.length : Int)), (8, .int .i64 (wrap64 (a3128 + 1)))]) (Nat.lt_succ_self _) ⟨_, ho3121, rfl, HM⟩ (Sub.cons rfl (Sub.cons rfl (Sub.cons rfl (Sub.cons rfl Sub.nil))))
    · replace ho3121 := cond_f hb3137 ho3121
      refine run_exit ?_
      refine at_then_exit ?_
      refine at_then_exit ?_
      refine at_block_exit ?_
      exact at_mid (ρ' := []) ⟨(Option.some.inj ho3121), rfl, HM⟩ Sub.nil
  · rintro _ w3144 ⟨rfl, rfl, HM⟩
    replace H := (thn_inr H)
    refine run_seq ?_
    refine run_region rfl ?_
    refine ox rfl rfl rfl rfl (ex_assign rfl rfl) ?_
    refine ops_nil (at_then ?_)
    refine run_ret ?_
    have hR := Option.some.inj H
    subst hR
    exact at_ret1 rfl rfl ⟨_, rfl, rfl, HM⟩

def slices_ContainsFunc_int64.f (k : Nat) (x0 : List Int) : Option Bool := ((slices_IndexFunc_int64.f k x0).bind fun t3147 => some (decide (0 ≤ t3147)))
theorem slices_ContainsFunc_int64.calls {k : Nat} {x0 : List Int} {p0 : Value} {w : World} (hp0 : RdS kInt w p0 x0) {r : Bool} (H : slices_ContainsFunc_int64.f k x0 = some r) :
    Calls Try.prog 157 ([p0, .func (.func 158) #[] #[]] : List Value).toArray w (fun e w_ => ∃ v, e = .returned v ∧ v = (.bool r) ∧ Mem w [] w_ []) := by
  have HM := Mem.start w
  refine calls_run (N := 9) Try.func157 rfl rfl rfl rfl ?_
  unfold slices_ContainsFunc_int64.f at H
  refine run_seq ?_
  refine run_region rfl ?_
  refine ox rfl rfl rfl rfl (ex_assign rfl rfl) ?_
  refine ops_nil (at_then (run_seq ?_))
  obtain ⟨t3147, h3148, H⟩ := bind_some H
  refine run_region rfl ?_
  refine ox rfl rfl rfl rfl (ex_move rfl rfl) ?_
  refine ox rfl rfl rfl rfl (ex_move rfl rfl) ?_
  refine od rfl rfl rfl rfl (does_callk rfl callok168 rfl (slices_IndexFunc_int64.calls (x0 := x0) (HM.rd hp0) h3148)) ?_
  rintro _ w3149 ⟨rfl, hn⟩
  replace HM : Mem w [] w3149 [] := HM.call hn
  refine ox rfl rfl rfl rfl (ex_geq rfl rfl rfl) ?_
  refine ox rfl rfl rfl rfl (ex_assign rfl rfl) ?_
  refine ops_nil (at_then ?_)
  refine run_ret ?_
  have hR := Option.some.inj H
  subst hR
  exact at_ret1 rfl rfl ⟨_, rfl, rfl, HM⟩

def impl_areKeys.f (k : Nat) (x0 : List Int) : Option Bool := ((slices_ContainsFunc_int64.f k x0).bind fun t3152 => some (!t3152))
theorem impl_areKeys.calls {k : Nat} {x0 : List Int} {p0 : Value} {w : World} (hp0 : RdS kInt w p0 x0) {r : Bool} (H : impl_areKeys.f k x0 = some r) :
    Calls Try.prog 140 ([p0] : List Value).toArray w (fun e w_ => ∃ v, e = .returned v ∧ v = (.bool r) ∧ Mem w [] w_ []) := by
  have HM := Mem.start w
  refine calls_run (N := 6) Try.func140 rfl rfl rfl rfl ?_
  unfold impl_areKeys.f at H
  refine run_seq ?_
  refine run_region rfl ?_
  refine ox rfl rfl rfl rfl (ex_assign rfl rfl) ?_
  refine ops_nil (at_then (run_seq ?_))
  obtain ⟨t3152, h3153, H⟩ := bind_some H
  refine run_region rfl ?_
  refine ox rfl rfl rfl rfl (ex_move rfl rfl) ?_
  refine od rfl rfl rfl rfl (does_callk rfl callok157 rfl (slices_ContainsFunc_int64.calls (x0 := x0) (HM.rd hp0) h3153)) ?_
  rintro _ w3154 ⟨rfl, hn⟩
  replace HM : Mem w [] w3154 [] := HM.call hn
  refine ox rfl rfl rfl rfl (ex_not rfl rfl) ?_
  refine ox rfl rfl rfl rfl (ex_assign rfl rfl) ?_
  refine ops_nil (at_then ?_)
  refine run_ret ?_
  have hR := Option.some.inj H
  subst hR
  exact at_ret1 rfl rfl ⟨_, rfl, rfl, HM⟩

def impl_isHeight.f (k : Nat) (x0 : Int) : Option Bool := ((impl_within.f k x0 0 999).bind fun t3161 => some t3161)
theorem impl_isHeight.calls {k : Nat} {x0 : Int}  {w : World}  {r : Bool} (H : impl_isHeight.f k x0 = some r) :
    Calls Try.prog 88 ([.int .i64 x0] : List Value).toArray w (fun e w_ => ∃ v, e = .returned v ∧ v = (.bool r) ∧ Mem w [] w_ []) := by
  have HM := Mem.start w
  refine calls_run (N := 5) Try.func88 rfl rfl rfl rfl ?_
  unfold impl_isHeight.f at H
  refine run_seq ?_
  refine run_region rfl ?_
  refine ox rfl rfl rfl rfl (ex_assign rfl rfl) ?_
  refine ops_nil (at_then (run_seq ?_))
  obtain ⟨t3161, h3162, H⟩ := bind_some H
  refine run_region rfl ?_
  refine ox rfl rfl rfl rfl (ex_move rfl rfl) ?_
  refine od rfl rfl rfl rfl (does_callk rfl callok89 rfl (impl_within.calls (x0 := x0) (x1 := 0) (x2 := 999) h3162)) ?_
  rintro _ w3163 ⟨rfl, hn⟩
  replace HM : Mem w [] w3163 [] := HM.call hn
  refine ox rfl rfl rfl rfl (ex_assign rfl rfl) ?_
  refine ops_nil (at_then ?_)
  refine run_ret ?_
  have hR := Option.some.inj H
  subst hR
  exact at_ret1 rfl rfl ⟨_, rfl, rfl, HM⟩

def impl_isRising.l0 (x0 : List Int) : Nat → Int → Option (Bool ⊕ Unit)
  | 0, _ => none
  | k + 1, a3215 => (bif (decide (a3215 < (x0.length : Int))) then (chk (idxOk a3215 x0.length) (chk (idxOk (wrap64 (a3215 - 1)) x0.length) (bif (decide ((gt x0 a3215) ≤ (gt x0 (wrap64 (a3215 - 1))))) then some (.inl false) else impl_isRising.l0 x0 k (wrap64 (a3215 + 1))))) else some (.inr ()))
theorem impl_isRising.l0_z (x0 : List Int) (a3215 : Int) : impl_isRising.l0 x0 0 a3215 = none := rfl
theorem impl_isRising.l0_s (x0 : List Int) (k : Nat) (a3215 : Int) : impl_isRising.l0 x0 (k + 1) a3215 = (bif (decide (a3215 < (x0.length : Int))) then (chk (idxOk a3215 x0.length) (chk (idxOk (wrap64 (a3215 - 1)) x0.length) (bif (decide ((gt x0 a3215) ≤ (gt x0 (wrap64 (a3215 - 1))))) then some (.inl false) else impl_isRising.l0 x0 k (wrap64 (a3215 + 1))))) else some (.inr ())) := rfl
def impl_isRising.f (k : Nat) (x0 : List Int) : Option Bool := ((impl_isRising.l0 x0 k 1).bind fun o3207 => thn o3207 (fun r => some r) (fun _ => some true))
theorem impl_isRising.calls {k : Nat} {x0 : List Int} {p0 : Value} {w : World} (hp0 : RdS kInt w p0 x0) {r : Bool} (H : impl_isRising.f k x0 = some r) :
    Calls Try.prog 141 ([p0] : List Value).toArray w (fun e w_ => ∃ v, e = .returned v ∧ v = (.bool r) ∧ Mem w [] w_ []) := by
  have HM := Mem.start w
  refine calls_run (N := 20) Try.func141 rfl rfl rfl rfl ?_
  unfold impl_isRising.f at H
  refine run_seq ?_
  refine run_region rfl ?_
  refine ox rfl rfl rfl rfl (ex_assign rfl rfl) ?_
  refine ops_nil (at_then ?_)
  obtain ⟨o3207, ho3208, H⟩ := bind_some H
  refine run_mid (fun ρ_ w_ => Sum.inr () = o3207 ∧ ρ_ = [] ∧ Mem w [] w_ []) ?_ ?_
  · skip
    refine run_seq ?_
    refine run_region rfl ?_
    refine ox rfl rfl rfl rfl (ex_assign rfl rfl) ?_
    refine ops_nil (at_then ?_)
    refine run_block ?_
    refine run_loop (fun k_ ρ_ w_ => ∃ a3215 : Int, impl_isRising.l0 x0 k_ a3215 = some o3207 ∧ ρ_ = [(0, p0), (3, .int .i64 a3215)] ∧ Mem w [] w_ []) k (ρ1 := [(0, p0), (3, .int .i64 1)]) ⟨_, ho3208, rfl, HM⟩ (Sub.cons rfl (Sub.cons rfl Sub.nil)) ?_
    clear HM ho3208
    rintro k3222 _ w3223 ⟨a3215, ho3208, rfl, HM⟩
    obtain _ | k3222 := k3222
    · exact nomatch ((impl_isRising.l0_z x0 a3215).symm.trans ho3208)
    replace ho3208 := (impl_isRising.l0_s x0 k3222 a3215).symm.trans ho3208
    refine run_seq ?_
    refine run_seq ?_
    refine run_region rfl ?_
    refine ox rfl rfl rfl rfl (ex_move rfl rfl) ?_
    refine ox rfl rfl rfl rfl (ex_move rfl rfl) ?_
    refine ox rfl rfl rfl rfl (ex_len (d := kInt) (xs := x0) rfl rfl Try.underlying39 hp0) ?_
    refine ox rfl rfl rfl rfl (ex_lss rfl rfl rfl) ?_
    refine ops_nil (at_then ?_)
    refine run_cond (b := (decide (a3215 < (x0.length : Int)))) rfl (fun hb3224 => ?_) (fun hb3224 => ?_)
    · replace ho3208 := cond_t hb3224 ho3208
      refine run_skip ?_
      refine at_then ?_
      refine run_seq ?_
      refine run_block ?_
      refine run_seq ?_
      obtain ⟨e3225, ho3208⟩ := chk_some ho3208
      obtain ⟨e3227, ho3208⟩ := chk_some ho3208
      refine run_drawf (fun w_ => Mem w [] w_ []) [(0, true), (1, true), (2, true), (3, true), (4, true), (5, true), (6, true), (7, true), (8, true), (9, true)] mixed rfl rfl (by kernel_rfl) ?_
      replace HM := HM.grow (fr_drew _)
      have hS := Mem.suf (M := []) HM
      refine dp rfl rfl rfl rfl (ex_move rfl rfl) hS ?_
      refine dp rfl rfl rfl rfl (ex_move rfl rfl) hS ?_
      have hc3226 : CellsAt _ (sb p0) (so p0 + (a3215).toNat * 1) [(.int .i64 (gt x0 a3215))] := rd_plain hp0 e3225
      refine dp rfl rfl rfl rfl (ex_indexAddr (d := kInt) rfl rfl rfl Try.underlying39 tsz2 hp0 (idx_lo e3225) (idx_hi e3225)) hS ?_
      refine drwp_take rfl (guard_none rfl) rfl rfl (fun w_ hS_ => (ex_load1 rfl rfl Try.underlying2 rfl ((hS_.at_ hc3226) 0 _ rfl))) hS ?_
      refine dp rfl rfl rfl rfl (ex_move rfl rfl) hS ?_
      refine dp rfl rfl rfl rfl (ex_move rfl rfl) hS ?_
      refine dp rfl rfl rfl rfl (ex_sub rfl rfl rfl) hS ?_
      have hc3228 : CellsAt _ (sb p0) (so p0 + (wrap64 (a3215 - 1)).toNat * 1) [(.int .i64 (gt x0 (wrap64 (a3215 - 1))))] := rd_plain hp0 e3227
      refine dp rfl rfl rfl rfl (ex_indexAddr (d := kInt) rfl rfl rfl Try.underlying39 tsz2 hp0 (idx_lo e3227) (idx_hi e3227)) hS ?_
      refine drwp_take rfl (guard_none rfl) rfl rfl (fun w_ hS_ => (ex_load1 rfl rfl Try.underlying2 rfl ((hS_.at_ hc3228) 0 _ rfl))) hS ?_
      refine dp rfl rfl rfl rfl (ex_leq rfl rfl rfl) hS ?_
      refine drwp_done ?_
      refine at_then ?_
      refine run_cond (b := (decide ((gt x0 a3215) ≤ (gt x0 (wrap64 (a3215 - 1)))))) rfl (fun hb3229 => ?_) (fun hb3229 => ?_)
      · replace ho3208 := cond_t hb3229 ho3208
        refine run_seq ?_
        refine run_region rfl ?_
        refine ox rfl rfl rfl rfl (ex_assign rfl rfl) ?_
        refine ops_nil (at_then ?_)
        refine run_ret ?_
        refine at_block_ret ?_
        refine at_then_ret ?_
        refine at_then_ret ?_
        refine at_block_ret ?_
        refine at_then_ret ?_
        have hR := Option.some.inj ho3208
        subst hR
        have hT := thn_inl H
        have hR := Option.some.inj hT
        subst hR
        exact at_ret1 rfl rfl ⟨_, rfl, rfl, HM⟩
      · replace ho3208 := cond_f hb3229 ho3208
        refine run_skip ?_
        refine at_block ?_
        refine at_then ?_
        refine run_region rfl ?_
        refine ox rfl rfl rfl rfl (ex_move rfl rfl) ?_
        refine ox rfl rfl rfl rfl (ex_add rfl rfl rfl) ?_
        refine ox rfl rfl rfl rfl (ex_assign rfl rfl) ?_
        refine ops_nil ?_
        exact at_again k3222 (ρ1 := [(0, p0), (3, .int .i64 (wrap64 (a3215 + 1)))]) (Nat.lt_succ_self _) ⟨_, ho3208, rfl, HM⟩ (Sub.cons rfl (Sub.cons rfl Sub.nil))
    · replace ho3208 := cond_f hb3224 ho3208
      refine run_exit ?_
      refine at_then_exit ?_
      refine at_then_exit ?_
      refine at_block_exit ?_
      exact at_mid (ρ' := []) ⟨(Option.some.inj ho3208), rfl, HM⟩ Sub.nil
  · rintro _ w3230 ⟨rfl, rfl, HM⟩
    replace H := (thn_inr H)
    refine run_seq ?_
    refine run_region rfl ?_
    refine ox rfl rfl rfl rfl (ex_assign rfl rfl) ?_
    refine ops_nil (at_then ?_)
    refine run_ret ?_
    have hR := Option.some.inj H
    subst hR
    exact at_ret1 rfl rfl ⟨_, rfl, rfl, HM⟩

def impl_RuleFault.f (k : Nat) (x0 : Rule) : Option Int := ((impl_within.f k (x0.fKeys.length : Int) 1 3).bind fun t3238 => (bif !t3238 then some 2 else ((impl_areKeys.f k x0.fKeys).bind fun t3242 => ((bif (!(!t3242)) then impl_within.f k x0.fNeed 1 (x0.fKeys.length : Int) else some default).bind fun t3244 => ((bif (!((!t3242) || (!t3244))) then impl_isHeight.f k x0.fAfter else some default).bind fun t3246 => (bif (((!t3242) || (!t3244)) || (!t3246)) then some 3 else ((impl_isRising.f k x0.fKeys).bind fun t3258 => (bif !t3258 then some 1 else some 0))))))))
theorem impl_RuleFault.calls {k : Nat} {x0 : Rule} {p0_0 : Value} {w : World} (hp0_0 : RdS kInt w p0_0 x0.fKeys) {r : Int} (H : impl_RuleFault.f k x0 = some r) :
    Calls Try.prog 90 ([.agg #[p0_0, (.int .i64 x0.fNeed), (.int .i64 x0.fAfter)]] : List Value).toArray w (fun e w_ => ∃ v, e = .returned v ∧ v = (.int .i64 r) ∧ Mem w [] w_ []) := by
  have HM := Mem.start w
  refine calls_run (N := 34) Try.func90 rfl rfl rfl rfl ?_
  unfold impl_RuleFault.f at H
  refine run_seq ?_
  refine run_region rfl ?_
  refine od rfl rfl rfl rfl (does_box (cs := [p0_0, .int .i64 x0.fNeed, .int .i64 x0.fAfter]) rfl rfl rfl HM) ?_
  rintro _ w3237 ⟨b3234, rfl, HM⟩
  refine ox rfl rfl rfl rfl (ex_assign rfl rfl) ?_
  refine ops_nil (at_then (run_seq ?_))
  refine run_region rfl ?_
  refine ox rfl rfl rfl rfl (ex_fieldAddr (off' := 0) rfl rfl Try.underlying67 rfl tsz39 rfl) ?_
  refine ox rfl rfl rfl rfl (ex_load1 rfl rfl Try.underlying39 rfl ((HM.box_at 0 rfl) 0 _ rfl)) ?_
  refine ox rfl rfl rfl rfl (ex_len (d := kInt) (xs := x0.fKeys) rfl rfl Try.underlying39 hp0_0) ?_
  refine ox rfl rfl rfl rfl (ex_assign rfl rfl) ?_
  refine ops_nil (at_then (run_seq ?_))
  refine run_block ?_
  refine run_seq ?_
  obtain ⟨t3238, h3239, H⟩ := bind_some H
  refine run_region rfl ?_
  refine ox rfl rfl rfl rfl (ex_move rfl rfl) ?_
  refine od rfl rfl rfl rfl (does_callk rfl callok89 rfl (impl_within.calls (x0 := (x0.fKeys.length : Int)) (x1 := 1) (x2 := 3) h3239)) ?_
  rintro _ w3240 ⟨rfl, hn⟩
  replace HM : Mem w [] w3240 [box b3234 67 [p0_0, .int .i64 x0.fNeed, .int .i64 x0.fAfter]] := HM.call hn
  refine ox rfl rfl rfl rfl (ex_not rfl rfl) ?_
  refine ox rfl rfl rfl rfl (ex_assign rfl rfl) ?_
  refine ops_nil (at_then ?_)
  refine run_cond (b := !t3238) rfl (fun hb3241 => ?_) (fun hb3241 => ?_)
  · replace H := cond_t hb3241 H
    refine run_seq ?_
    refine run_region rfl ?_
    refine ox rfl rfl rfl rfl (ex_assign rfl rfl) ?_
    refine ops_nil (at_then ?_)
    refine run_ret ?_
    refine at_block_ret ?_
    refine at_then_ret ?_
    replace HM := (HM.front 0 rfl rfl).drop
    have hR := Option.some.inj H
    subst hR
    exact at_ret1 rfl rfl ⟨_, rfl, rfl, HM⟩
  · replace H := cond_f hb3241 H
    refine run_seq ?_
    obtain ⟨t3242, h3243, H⟩ := bind_some H
    obtain ⟨t3244, h3245, H⟩ := bind_some H
    obtain ⟨t3246, h3247, H⟩ := bind_some H
    refine run_meet (fun ρ_ w_ => ρ_ = [(1, .pointer (some ⟨b3234, 0, none⟩)), (11, .bool (((!t3242) || (!t3244)) || (!t3246)))] ∧ Mem w [] w_ [box b3234 67 [p0_0, .int .i64 x0.fNeed, .int .i64 x0.fAfter]]) ?_ ?_
    · skip
      refine run_region rfl ?_
      refine ox rfl rfl rfl rfl (ex_fieldAddr (off' := 0) rfl rfl Try.underlying67 rfl tsz39 rfl) ?_
      refine ox rfl rfl rfl rfl (ex_load1 rfl rfl Try.underlying39 rfl ((HM.box_at 0 rfl) 0 _ rfl)) ?_
      refine od rfl rfl rfl rfl (does_callk rfl callok140 rfl (impl_areKeys.calls (x0 := x0.fKeys) (HM.rd hp0_0) h3243)) ?_
      rintro _ w3248 ⟨rfl, hn⟩
      replace HM : Mem w [] w3248 [box b3234 67 [p0_0, .int .i64 x0.fNeed, .int .i64 x0.fAfter]] := HM.call hn
      refine ox rfl rfl rfl rfl (ex_not rfl rfl) ?_
      refine ox rfl rfl rfl rfl (ex_move rfl rfl) ?_
      refine bool_cases (!t3242) (fun hg3249 => ?_) (fun hg3249 => ?_)
      · skip
        refine ops_off rfl (guard_off rfl rfl rfl hg3249) rfl rfl ?_
        refine ops_off rfl (guard_off rfl rfl rfl hg3249) rfl rfl ?_
        refine ops_off rfl (guard_off rfl rfl rfl hg3249) rfl rfl ?_
        refine ops_off rfl (guard_off rfl rfl rfl hg3249) rfl rfl ?_
        refine ops_off rfl (guard_off rfl rfl rfl hg3249) rfl rfl ?_
        have hg3250 : ((!t3242) || (!t3244)) = true := by simp only [hg3249, Bool.and_true, Bool.true_and, Bool.and_false, Bool.false_and, Bool.or_true, Bool.true_or, Bool.or_false, Bool.false_or, Bool.not_true, Bool.not_false, Bool.not_not]
        refine ops_ex (v := .bool ((!t3242) || (!t3244))) rfl (guard_none rfl) rfl rfl (ex_por_t rfl rfl hg3249) ?_
        refine ox rfl rfl rfl rfl (ex_move rfl rfl) ?_
        refine ops_off rfl (guard_off rfl rfl rfl hg3250) rfl rfl ?_
        refine ops_off rfl (guard_off rfl rfl rfl hg3250) rfl rfl ?_
        refine ops_off rfl (guard_off rfl rfl rfl hg3250) rfl rfl ?_
        refine ops_off rfl (guard_off rfl rfl rfl hg3250) rfl rfl ?_
        have hg3251 : (((!t3242) || (!t3244)) || (!t3246)) = true := by simp only [hg3250, Bool.and_true, Bool.true_and, Bool.and_false, Bool.false_and, Bool.or_true, Bool.true_or, Bool.or_false, Bool.false_or, Bool.not_true, Bool.not_false, Bool.not_not]
        refine ops_ex (v := .bool (((!t3242) || (!t3244)) || (!t3246))) rfl (guard_none rfl) rfl rfl (ex_por_t rfl rfl hg3250) ?_
        refine ox rfl rfl rfl rfl (ex_assign rfl rfl) ?_
        refine ops_nil ?_
        exact at_meet [(1, .pointer (some ⟨b3234, 0, none⟩)), (11, .bool (((!t3242) || (!t3244)) || (!t3246)))] ⟨rfl, HM⟩ (Sub.cons rfl (Sub.cons rfl Sub.nil))
      · skip
        refine ops_ex rfl (guard_on rfl rfl rfl hg3249) rfl rfl (ex_fieldAddr (off' := 1) rfl rfl Try.underlying67 rfl tsz2 rfl) ?_
        refine ops_ex rfl (guard_on rfl rfl rfl hg3249) rfl rfl (ex_load1 rfl rfl Try.underlying2 rfl ((HM.box_at 0 rfl) 1 _ rfl)) ?_
        refine ops_ex rfl (guard_on rfl rfl rfl hg3249) rfl rfl (ex_move rfl rfl) ?_
        refine ops_does rfl (guard_on rfl rfl rfl hg3249) rfl rfl (does_callk rfl callok89 rfl (impl_within.calls (x0 := x0.fNeed) (x1 := 1) (x2 := (x0.fKeys.length : Int)) (cond_t (not_mk hg3249) h3245))) ?_
        rintro _ w3252 ⟨rfl, hn⟩
        replace HM : Mem w [] w3252 [box b3234 67 [p0_0, .int .i64 x0.fNeed, .int .i64 x0.fAfter]] := HM.call hn
        refine ops_ex rfl (guard_on rfl rfl rfl hg3249) rfl rfl (ex_not rfl rfl) ?_
        refine ops_ex (v := .bool ((!t3242) || (!t3244))) rfl (guard_none rfl) rfl rfl (ex_por_f rfl rfl hg3249 rfl) ?_
        refine ox rfl rfl rfl rfl (ex_move rfl rfl) ?_
        refine bool_cases ((!t3242) || (!t3244)) (fun hg3253 => ?_) (fun hg3253 => ?_)
        · skip
          refine ops_off rfl (guard_off rfl rfl rfl hg3253) rfl rfl ?_
          refine ops_off rfl (guard_off rfl rfl rfl hg3253) rfl rfl ?_
          refine ops_off rfl (guard_off rfl rfl rfl hg3253) rfl rfl ?_
          refine ops_off rfl (guard_off rfl rfl rfl hg3253) rfl rfl ?_
          have hg3254 : (((!t3242) || (!t3244)) || (!t3246)) = true := by simp only [hg3253, Bool.and_true, Bool.true_and, Bool.and_false, Bool.false_and, Bool.or_true, Bool.true_or, Bool.or_false, Bool.false_or, Bool.not_true, Bool.not_false, Bool.not_not]
          refine ops_ex (v := .bool (((!t3242) || (!t3244)) || (!t3246))) rfl (guard_none rfl) rfl rfl (ex_por_t rfl rfl hg3253) ?_
          refine ox rfl rfl rfl rfl (ex_assign rfl rfl) ?_
          refine ops_nil ?_
          exact at_meet [(1, .pointer (some ⟨b3234, 0, none⟩)), (11, .bool (((!t3242) || (!t3244)) || (!t3246)))] ⟨rfl, HM⟩ (Sub.cons rfl (Sub.cons rfl Sub.nil))
        · skip
          refine ops_ex rfl (guard_on rfl rfl rfl hg3253) rfl rfl (ex_fieldAddr (off' := 2) rfl rfl Try.underlying67 rfl tsz2 rfl) ?_
          refine ops_ex rfl (guard_on rfl rfl rfl hg3253) rfl rfl (ex_load1 rfl rfl Try.underlying2 rfl ((HM.box_at 0 rfl) 2 _ rfl)) ?_
          refine ops_does rfl (guard_on rfl rfl rfl hg3253) rfl rfl (does_callk rfl callok88 rfl (impl_isHeight.calls (x0 := x0.fAfter) (cond_t (not_mk hg3253) h3247))) ?_
          rintro _ w3255 ⟨rfl, hn⟩
          replace HM : Mem w [] w3255 [box b3234 67 [p0_0, .int .i64 x0.fNeed, .int .i64 x0.fAfter]] := HM.call hn
          refine ops_ex rfl (guard_on rfl rfl rfl hg3253) rfl rfl (ex_not rfl rfl) ?_
          refine ops_ex (v := .bool (((!t3242) || (!t3244)) || (!t3246))) rfl (guard_none rfl) rfl rfl (ex_por_f rfl rfl hg3253 rfl) ?_
          refine ox rfl rfl rfl rfl (ex_assign rfl rfl) ?_
          refine ops_nil ?_
          exact at_meet [(1, .pointer (some ⟨b3234, 0, none⟩)), (11, .bool (((!t3242) || (!t3244)) || (!t3246)))] ⟨rfl, HM⟩ (Sub.cons rfl (Sub.cons rfl Sub.nil))
    · rintro _ w3256 ⟨rfl, HM⟩
      refine at_then ?_
      refine run_cond (b := (((!t3242) || (!t3244)) || (!t3246))) rfl (fun hb3257 => ?_) (fun hb3257 => ?_)
      · replace H := cond_t hb3257 H
        refine run_seq ?_
        refine run_region rfl ?_
        refine ox rfl rfl rfl rfl (ex_assign rfl rfl) ?_
        refine ops_nil (at_then ?_)
        refine run_ret ?_
        refine at_block_ret ?_
        refine at_then_ret ?_
        replace HM := (HM.front 0 rfl rfl).drop
        have hR := Option.some.inj H
        subst hR
        exact at_ret1 rfl rfl ⟨_, rfl, rfl, HM⟩
      · replace H := cond_f hb3257 H
        refine run_seq ?_
        obtain ⟨t3258, h3259, H⟩ := bind_some H
        refine run_region rfl ?_
        refine ox rfl rfl rfl rfl (ex_fieldAddr (off' := 0) rfl rfl Try.underlying67 rfl tsz39 rfl) ?_
        refine ox rfl rfl rfl rfl (ex_load1 rfl rfl Try.underlying39 rfl ((HM.box_at 0 rfl) 0 _ rfl)) ?_
        refine od rfl rfl rfl rfl (does_callk rfl callok141 rfl (impl_isRising.calls (x0 := x0.fKeys) (HM.rd hp0_0) h3259)) ?_
        rintro _ w3260 ⟨rfl, hn⟩
        replace HM : Mem w [] w3260 [box b3234 67 [p0_0, .int .i64 x0.fNeed, .int .i64 x0.fAfter]] := HM.call hn
        refine ox rfl rfl rfl rfl (ex_not rfl rfl) ?_
        refine ox rfl rfl rfl rfl (ex_assign rfl rfl) ?_
        refine ops_nil (at_then ?_)
        refine run_cond (b := !t3258) rfl (fun hb3261 => ?_) (fun hb3261 => ?_)
        · replace H := cond_t hb3261 H
          refine run_seq ?_
          refine run_region rfl ?_
          refine ox rfl rfl rfl rfl (ex_assign rfl rfl) ?_
          refine ops_nil (at_then ?_)
          refine run_ret ?_
          refine at_block_ret ?_
          refine at_then_ret ?_
          replace HM := (HM.front 0 rfl rfl).drop
          have hR := Option.some.inj H
          subst hR
          exact at_ret1 rfl rfl ⟨_, rfl, rfl, HM⟩
        · replace H := cond_f hb3261 H
          refine run_skip ?_
          refine at_block ?_
          refine at_then ?_
          refine run_seq ?_
          refine run_region rfl ?_
          refine ox rfl rfl rfl rfl (ex_assign rfl rfl) ?_
          refine ops_nil (at_then ?_)
          refine run_ret ?_
          replace HM := (HM.front 0 rfl rfl).drop
          have hR := Option.some.inj H
          subst hR
          exact at_ret1 rfl rfl ⟨_, rfl, rfl, HM⟩

def impl_outFault.f (k : Nat) (x0 : Out) : Option Int := ((impl_within.f k x0.fValue 1 1000000).bind fun t3268 => (bif !t3268 then some 3 else ((impl_RuleFault.f k x0.fRule).bind fun t3272 => some t3272)))
theorem impl_outFault.calls {k : Nat} {x0 : Out} {p0_0 : Value} {w : World} (hp0_0 : RdS kInt w p0_0 x0.fRule.fKeys) {r : Int} (H : impl_outFault.f k x0 = some r) :
    Calls Try.prog 108 ([.agg #[(.int .i64 x0.fValue), p0_0, (.int .i64 x0.fRule.fNeed), (.int .i64 x0.fRule.fAfter)]] : List Value).toArray w (fun e w_ => ∃ v, e = .returned v ∧ v = (.int .i64 r) ∧ Mem w [] w_ []) := by
  have HM := Mem.start w
  refine calls_run (N := 10) Try.func108 rfl rfl rfl rfl ?_
  unfold impl_outFault.f at H
  refine run_seq ?_
  refine run_region rfl ?_
  refine od rfl rfl rfl rfl (does_box (cs := [.int .i64 x0.fValue, p0_0, .int .i64 x0.fRule.fNeed, .int .i64 x0.fRule.fAfter]) rfl rfl rfl HM) ?_
  rintro _ w3267 ⟨b3264, rfl, HM⟩
  refine ox rfl rfl rfl rfl (ex_assign rfl rfl) ?_
  refine ops_nil (at_then (run_seq ?_))
  refine run_seq ?_
  obtain ⟨t3268, h3269, H⟩ := bind_some H
  refine run_region rfl ?_
  refine ox rfl rfl rfl rfl (ex_fieldAddr (off' := 0) rfl rfl Try.underlying69 rfl tsz2 rfl) ?_
  refine ox rfl rfl rfl rfl (ex_load1 rfl rfl Try.underlying2 rfl ((HM.box_at 0 rfl) 0 _ rfl)) ?_
  refine od rfl rfl rfl rfl (does_callk rfl callok89 rfl (impl_within.calls (x0 := x0.fValue) (x1 := 1) (x2 := 1000000) h3269)) ?_
  rintro _ w3270 ⟨rfl, hn⟩
  replace HM : Mem w [] w3270 [box b3264 69 [.int .i64 x0.fValue, p0_0, .int .i64 x0.fRule.fNeed, .int .i64 x0.fRule.fAfter]] := HM.call hn
  refine ox rfl rfl rfl rfl (ex_not rfl rfl) ?_
  refine ops_nil (at_then ?_)
  refine run_cond (b := !t3268) rfl (fun hb3271 => ?_) (fun hb3271 => ?_)
  · replace H := cond_t hb3271 H
    refine run_seq ?_
    refine run_region rfl ?_
    refine ox rfl rfl rfl rfl (ex_assign rfl rfl) ?_
    refine ops_nil (at_then ?_)
    refine run_ret ?_
    refine at_then_ret ?_
    replace HM := (HM.front 0 rfl rfl).drop
    have hR := Option.some.inj H
    subst hR
    exact at_ret1 rfl rfl ⟨_, rfl, rfl, HM⟩
  · replace H := cond_f hb3271 H
    refine run_skip ?_
    refine at_then ?_
    refine run_seq ?_
    obtain ⟨t3272, h3273, H⟩ := bind_some H
    refine run_region rfl ?_
    refine ox rfl rfl rfl rfl (ex_fieldAddr (off' := 1) rfl rfl Try.underlying69 rfl tsz67 rfl) ?_
    refine ox rfl rfl rfl rfl (ex_loadN (cs := [p0_0, (.int .i64 x0.fRule.fNeed), (.int .i64 x0.fRule.fAfter)]) rfl rfl Try.underlying67 rfl tsz67 rfl ((HM.box_at 0 rfl).sub 1 3 rfl)) ?_
    refine od rfl rfl rfl rfl (does_callk rfl callok90 rfl (impl_RuleFault.calls (x0 := x0.fRule) (HM.rd hp0_0) h3273)) ?_
    rintro _ w3274 ⟨rfl, hn⟩
    replace HM : Mem w [] w3274 [box b3264 69 [.int .i64 x0.fValue, p0_0, .int .i64 x0.fRule.fNeed, .int .i64 x0.fRule.fAfter]] := HM.call hn
    refine ox rfl rfl rfl rfl (ex_assign rfl rfl) ?_
    refine ops_nil (at_then ?_)
    refine run_ret ?_
    replace HM := (HM.front 0 rfl rfl).drop
    have hR := Option.some.inj H
    subst hR
    exact at_ret1 rfl rfl ⟨_, rfl, rfl, HM⟩

def impl_TxFault.l0 (x0 : Tx) : Nat → Int → Option (Int ⊕ Unit)
  | 0, _ => none
  | k + 1, a3426 => (bif (decide (a3426 < (x0.fIns.length : Int))) then (chk (idxOk a3426 x0.fIns.length) ((impl_isRef.f k (gt x0.fIns a3426)).bind fun t3459 => (bif !t3459 then some (.inl 3) else (chk (cutOk a3426 x0.fIns.length) ((slices_Contains_impl_Ref.f k (x0.fIns.take (a3426).toNat) (gt x0.fIns a3426)).bind fun t3467 => (bif t3467 then some (.inl 7) else impl_TxFault.l0 x0 k (wrap64 (a3426 + 1)))))))) else some (.inr ()))
theorem impl_TxFault.l0_z (x0 : Tx) (a3426 : Int) : impl_TxFault.l0 x0 0 a3426 = none := rfl
theorem impl_TxFault.l0_s (x0 : Tx) (k : Nat) (a3426 : Int) : impl_TxFault.l0 x0 (k + 1) a3426 = (bif (decide (a3426 < (x0.fIns.length : Int))) then (chk (idxOk a3426 x0.fIns.length) ((impl_isRef.f k (gt x0.fIns a3426)).bind fun t3459 => (bif !t3459 then some (.inl 3) else (chk (cutOk a3426 x0.fIns.length) ((slices_Contains_impl_Ref.f k (x0.fIns.take (a3426).toNat) (gt x0.fIns a3426)).bind fun t3467 => (bif t3467 then some (.inl 7) else impl_TxFault.l0 x0 k (wrap64 (a3426 + 1)))))))) else some (.inr ())) := rfl
def impl_TxFault.l1 (x0 : Tx) : Nat → Int → Option (Int ⊕ Unit)
  | 0, _ => none
  | k + 1, a3519 => (bif (decide (a3519 < (x0.fOuts.length : Int))) then (chk (idxOk a3519 x0.fOuts.length) ((impl_outFault.f k (gt x0.fOuts a3519)).bind fun t3543 => (bif (t3543 != 0) then some (.inl t3543) else impl_TxFault.l1 x0 k (wrap64 (a3519 + 1))))) else some (.inr ()))
theorem impl_TxFault.l1_z (x0 : Tx) (a3519 : Int) : impl_TxFault.l1 x0 0 a3519 = none := rfl
theorem impl_TxFault.l1_s (x0 : Tx) (k : Nat) (a3519 : Int) : impl_TxFault.l1 x0 (k + 1) a3519 = (bif (decide (a3519 < (x0.fOuts.length : Int))) then (chk (idxOk a3519 x0.fOuts.length) ((impl_outFault.f k (gt x0.fOuts a3519)).bind fun t3543 => (bif (t3543 != 0) then some (.inl t3543) else impl_TxFault.l1 x0 k (wrap64 (a3519 + 1))))) else some (.inr ())) := rfl
def impl_TxFault.f (k : Nat) (x0 : Tx) : Option Int := ((impl_within.f k x0.fKind 0 2).bind fun t3323 => (bif ((!t3323) || ((x0.fKind == 0) != (x0.fMember == 0))) then some 1 else ((bif (x0.fMember != 0) then impl_isKey.f k x0.fMember else some default).bind fun t3330 => (bif ((x0.fMember != 0) && (!t3330)) then some 3 else ((impl_TxFault_1.f k (x0.fIns.length : Int)).bind fun t3337 => ((bif (!t3337) then impl_TxFault_1.f k (x0.fOuts.length : Int) else some default).bind fun t3339 => (bif (t3337 || t3339) then some 2 else ((impl_TxFault.l0 x0 k 0).bind fun o3405 => thn o3405 (fun r => some r) (fun _ => ((impl_TxFault.l1 x0 k 0).bind fun o3506 => thn o3506 (fun r => some r) (fun _ => (chk (!(x0.fKind == 1) || (idxOk (0 : Int) x0.fOuts.length)) (bif ((x0.fKind == 1) && (decide (((gt x0.fOuts (0 : Int)).fValue) < 100))) then some 8 else some 0)))))))))))))
theorem impl_TxFault.calls {k : Nat} {x0 : Tx} {p0_0 : Value} {p0_1 : Value} {w : World} (hp0_0 : RdS kRef w p0_0 x0.fIns) (hp0_1 : RdS kOut w p0_1 x0.fOuts) {r : Int} (H : impl_TxFault.f k x0 = some r) :
    Calls Try.prog 54 ([.agg #[(.int .i64 x0.fKind), (.int .i64 x0.fMember), p0_0, p0_1]] : List Value).toArray w (fun e w_ => ∃ v, e = .returned v ∧ v = (.int .i64 r) ∧ Mem w [] w_ []) := by
  have HM := Mem.start w
  refine calls_run (N := 88) Try.func54 rfl rfl rfl rfl ?_
  unfold impl_TxFault.f at H
  refine run_seq ?_
  refine run_region rfl ?_
  refine od rfl rfl rfl rfl (does_box (cs := [.int .i64 x0.fKind, .int .i64 x0.fMember, p0_0, p0_1]) rfl rfl rfl HM) ?_
  rintro _ w3311 ⟨b3308, rfl, HM⟩
  refine ox rfl rfl rfl rfl (ex_assign rfl rfl) ?_
  refine ops_nil (at_then (run_seq ?_))
  refine run_region rfl ?_
  refine ox rfl rfl rfl rfl (ex_assign rfl rfl) ?_
  refine ops_nil (at_then (run_seq ?_))
  refine run_block ?_
  refine run_seq ?_
  obtain ⟨t3323, h3324, H⟩ := bind_some H
  refine run_meet (fun ρ_ w_ => ρ_ = [(1, .pointer (some ⟨b3308, 0, none⟩)), (3, .func (.func 106) #[] #[]), (9, .bool ((!t3323) || ((x0.fKind == 0) != (x0.fMember == 0))))] ∧ Mem w [] w_ [box b3308 28 [.int .i64 x0.fKind, .int .i64 x0.fMember, p0_0, p0_1]]) ?_ ?_
  · skip
    refine run_region rfl ?_
    refine ox rfl rfl rfl rfl (ex_fieldAddr (off' := 0) rfl rfl Try.underlying28 rfl tsz2 rfl) ?_
    refine ox rfl rfl rfl rfl (ex_load1 rfl rfl Try.underlying2 rfl ((HM.box_at 0 rfl) 0 _ rfl)) ?_
    refine od rfl rfl rfl rfl (does_callk rfl callok89 rfl (impl_within.calls (x0 := x0.fKind) (x1 := 0) (x2 := 2) h3324)) ?_
    rintro _ w3325 ⟨rfl, hn⟩
    replace HM : Mem w [] w3325 [box b3308 28 [.int .i64 x0.fKind, .int .i64 x0.fMember, p0_0, p0_1]] := HM.call hn
    refine ox rfl rfl rfl rfl (ex_not rfl rfl) ?_
    refine ox rfl rfl rfl rfl (ex_move rfl rfl) ?_
    refine bool_cases (!t3323) (fun hg3326 => ?_) (fun hg3326 => ?_)
    · skip
      refine ops_off rfl (guard_off rfl rfl rfl hg3326) rfl rfl ?_
      refine ops_off rfl (guard_off rfl rfl rfl hg3326) rfl rfl ?_
      refine ops_off rfl (guard_off rfl rfl rfl hg3326) rfl rfl ?_
      refine ops_off rfl (guard_off rfl rfl rfl hg3326) rfl rfl ?_
      refine ops_off rfl (guard_off rfl rfl rfl hg3326) rfl rfl ?_
      refine ops_off rfl (guard_off rfl rfl rfl hg3326) rfl rfl ?_
      refine ops_off rfl (guard_off rfl rfl rfl hg3326) rfl rfl ?_
      have hg3327 : ((!t3323) || ((x0.fKind == 0) != (x0.fMember == 0))) = true := by simp only [hg3326, Bool.and_true, Bool.true_and, Bool.and_false, Bool.false_and, Bool.or_true, Bool.true_or, Bool.or_false, Bool.false_or, Bool.not_true, Bool.not_false, Bool.not_not]
      refine ops_ex (v := .bool ((!t3323) || ((x0.fKind == 0) != (x0.fMember == 0)))) rfl (guard_none rfl) rfl rfl (ex_por_t rfl rfl hg3326) ?_
      refine ox rfl rfl rfl rfl (ex_assign rfl rfl) ?_
      refine ops_nil ?_
      exact at_meet [(1, .pointer (some ⟨b3308, 0, none⟩)), (3, .func (.func 106) #[] #[]), (9, .bool ((!t3323) || ((x0.fKind == 0) != (x0.fMember == 0))))] ⟨rfl, HM⟩ (Sub.cons rfl (Sub.cons rfl (Sub.cons rfl Sub.nil)))
    · skip
      refine ops_ex rfl (guard_on rfl rfl rfl hg3326) rfl rfl (ex_fieldAddr (off' := 0) rfl rfl Try.underlying28 rfl tsz2 rfl) ?_
      refine ops_ex rfl (guard_on rfl rfl rfl hg3326) rfl rfl (ex_load1 rfl rfl Try.underlying2 rfl ((HM.box_at 0 rfl) 0 _ rfl)) ?_
      refine ops_ex rfl (guard_on rfl rfl rfl hg3326) rfl rfl (ex_eql rfl rfl rfl) ?_
      refine ops_ex rfl (guard_on rfl rfl rfl hg3326) rfl rfl (ex_fieldAddr (off' := 1) rfl rfl Try.underlying28 rfl tsz2 rfl) ?_
      refine ops_ex rfl (guard_on rfl rfl rfl hg3326) rfl rfl (ex_load1 rfl rfl Try.underlying2 rfl ((HM.box_at 0 rfl) 1 _ rfl)) ?_
      refine ops_ex rfl (guard_on rfl rfl rfl hg3326) rfl rfl (ex_eql rfl rfl rfl) ?_
      refine ops_ex rfl (guard_on rfl rfl rfl hg3326) rfl rfl (ex_bneq rfl rfl rfl Try.underlying4) ?_
      refine ops_ex (v := .bool ((!t3323) || ((x0.fKind == 0) != (x0.fMember == 0)))) rfl (guard_none rfl) rfl rfl (ex_por_f rfl rfl hg3326 rfl) ?_
      refine ox rfl rfl rfl rfl (ex_assign rfl rfl) ?_
      refine ops_nil ?_
      exact at_meet [(1, .pointer (some ⟨b3308, 0, none⟩)), (3, .func (.func 106) #[] #[]), (9, .bool ((!t3323) || ((x0.fKind == 0) != (x0.fMember == 0))))] ⟨rfl, HM⟩ (Sub.cons rfl (Sub.cons rfl (Sub.cons rfl Sub.nil)))
  · rintro _ w3328 ⟨rfl, HM⟩
    refine at_then ?_
    refine run_cond (b := ((!t3323) || ((x0.fKind == 0) != (x0.fMember == 0)))) rfl (fun hb3329 => ?_) (fun hb3329 => ?_)
    · replace H := cond_t hb3329 H
      refine run_seq ?_
      refine run_region rfl ?_
      refine ox rfl rfl rfl rfl (ex_assign rfl rfl) ?_
      refine ops_nil (at_then ?_)
      refine run_ret ?_
      refine at_block_ret ?_
      refine at_then_ret ?_
      replace HM := (HM.front 0 rfl rfl).drop
      have hR := Option.some.inj H
      subst hR
      exact at_ret1 rfl rfl ⟨_, rfl, rfl, HM⟩
    · replace H := cond_f hb3329 H
      refine run_seq ?_
      obtain ⟨t3330, h3331, H⟩ := bind_some H
      refine run_meet (fun ρ_ w_ => ρ_ = [(1, .pointer (some ⟨b3308, 0, none⟩)), (3, .func (.func 106) #[] #[]), (23, .bool ((x0.fMember != 0) && (!t3330)))] ∧ Mem w [] w_ [box b3308 28 [.int .i64 x0.fKind, .int .i64 x0.fMember, p0_0, p0_1]]) ?_ ?_
      · skip
        refine run_region rfl ?_
        refine ox rfl rfl rfl rfl (ex_fieldAddr (off' := 1) rfl rfl Try.underlying28 rfl tsz2 rfl) ?_
        refine ox rfl rfl rfl rfl (ex_load1 rfl rfl Try.underlying2 rfl ((HM.box_at 0 rfl) 1 _ rfl)) ?_
        refine ox rfl rfl rfl rfl (ex_neq rfl rfl rfl) ?_
        refine ox rfl rfl rfl rfl (ex_move rfl rfl) ?_
        refine bool_cases (x0.fMember != 0) (fun hg3332 => ?_) (fun hg3332 => ?_)
        · skip
          refine ops_ex rfl (guard_on rfl rfl rfl hg3332) rfl rfl (ex_fieldAddr (off' := 1) rfl rfl Try.underlying28 rfl tsz2 rfl) ?_
          refine ops_ex rfl (guard_on rfl rfl rfl hg3332) rfl rfl (ex_load1 rfl rfl Try.underlying2 rfl ((HM.box_at 0 rfl) 1 _ rfl)) ?_
          refine ops_does rfl (guard_on rfl rfl rfl hg3332) rfl rfl (does_callk rfl callok62 rfl (impl_isKey.calls (x0 := x0.fMember) (cond_t hg3332 h3331))) ?_
          rintro _ w3333 ⟨rfl, hn⟩
          replace HM : Mem w [] w3333 [box b3308 28 [.int .i64 x0.fKind, .int .i64 x0.fMember, p0_0, p0_1]] := HM.call hn
          refine ops_ex rfl (guard_on rfl rfl rfl hg3332) rfl rfl (ex_not rfl rfl) ?_
          refine ops_ex (v := .bool ((x0.fMember != 0) && (!t3330))) rfl (guard_none rfl) rfl rfl (ex_pand_t rfl rfl hg3332 rfl) ?_
          refine ox rfl rfl rfl rfl (ex_assign rfl rfl) ?_
          refine ops_nil ?_
          exact at_meet [(1, .pointer (some ⟨b3308, 0, none⟩)), (3, .func (.func 106) #[] #[]), (23, .bool ((x0.fMember != 0) && (!t3330)))] ⟨rfl, HM⟩ (Sub.cons rfl (Sub.cons rfl (Sub.cons rfl Sub.nil)))
        · skip
          refine ops_off rfl (guard_off rfl rfl rfl hg3332) rfl rfl ?_
          refine ops_off rfl (guard_off rfl rfl rfl hg3332) rfl rfl ?_
          refine ops_off rfl (guard_off rfl rfl rfl hg3332) rfl rfl ?_
          refine ops_off rfl (guard_off rfl rfl rfl hg3332) rfl rfl ?_
          have hg3334 : ((x0.fMember != 0) && (!t3330)) = false := by simp only [hg3332, Bool.and_true, Bool.true_and, Bool.and_false, Bool.false_and, Bool.or_true, Bool.true_or, Bool.or_false, Bool.false_or, Bool.not_true, Bool.not_false, Bool.not_not]
          refine ops_ex (v := .bool ((x0.fMember != 0) && (!t3330))) rfl (guard_none rfl) rfl rfl (ex_pand_f rfl rfl hg3332) ?_
          refine ox rfl rfl rfl rfl (ex_assign rfl rfl) ?_
          refine ops_nil ?_
          exact at_meet [(1, .pointer (some ⟨b3308, 0, none⟩)), (3, .func (.func 106) #[] #[]), (23, .bool ((x0.fMember != 0) && (!t3330)))] ⟨rfl, HM⟩ (Sub.cons rfl (Sub.cons rfl (Sub.cons rfl Sub.nil)))
      · rintro _ w3335 ⟨rfl, HM⟩
        refine at_then ?_
        refine run_cond (b := ((x0.fMember != 0) && (!t3330))) rfl (fun hb3336 => ?_) (fun hb3336 => ?_)
        · replace H := cond_t hb3336 H
          refine run_seq ?_
          refine run_region rfl ?_
          refine ox rfl rfl rfl rfl (ex_assign rfl rfl) ?_
          refine ops_nil (at_then ?_)
          refine run_ret ?_
          refine at_block_ret ?_
          refine at_then_ret ?_
          replace HM := (HM.front 0 rfl rfl).drop
          have hR := Option.some.inj H
          subst hR
          exact at_ret1 rfl rfl ⟨_, rfl, rfl, HM⟩
        · replace H := cond_f hb3336 H
          refine run_seq ?_
          obtain ⟨t3337, h3338, H⟩ := bind_some H
          obtain ⟨t3339, h3340, H⟩ := bind_some H
          refine run_meet (fun ρ_ w_ => ρ_ = [(1, .pointer (some ⟨b3308, 0, none⟩)), (33, .bool (t3337 || t3339))] ∧ Mem w [] w_ [box b3308 28 [.int .i64 x0.fKind, .int .i64 x0.fMember, p0_0, p0_1]]) ?_ ?_
          · skip
            refine run_region rfl ?_
            refine ox rfl rfl rfl rfl (ex_move rfl rfl) ?_
            refine ox rfl rfl rfl rfl (ex_fieldAddr (off' := 2) rfl rfl Try.underlying28 rfl tsz25 rfl) ?_
            refine ox rfl rfl rfl rfl (ex_load1 rfl rfl Try.underlying25 rfl ((HM.box_at 0 rfl) 2 _ rfl)) ?_
            refine ox rfl rfl rfl rfl (ex_len (d := kRef) (xs := x0.fIns) rfl rfl Try.underlying25 hp0_0) ?_
            refine od rfl rfl rfl rfl (does_callvk rfl callok106 rfl rfl rfl (impl_TxFault_1.calls (x0 := (x0.fIns.length : Int)) h3338)) ?_
            rintro _ w3341 ⟨rfl, hn⟩
            replace HM : Mem w [] w3341 [box b3308 28 [.int .i64 x0.fKind, .int .i64 x0.fMember, p0_0, p0_1]] := HM.call hn
            refine ox rfl rfl rfl rfl (ex_move rfl rfl) ?_
            refine bool_cases t3337 (fun hg3342 => ?_) (fun hg3342 => ?_)
            · skip
              refine ops_off rfl (guard_off rfl rfl rfl hg3342) rfl rfl ?_
              refine ops_off rfl (guard_off rfl rfl rfl hg3342) rfl rfl ?_
              refine ops_off rfl (guard_off rfl rfl rfl hg3342) rfl rfl ?_
              refine ops_off rfl (guard_off rfl rfl rfl hg3342) rfl rfl ?_
              refine ops_off rfl (guard_off rfl rfl rfl hg3342) rfl rfl ?_
              have hg3343 : (t3337 || t3339) = true := by simp only [hg3342, Bool.and_true, Bool.true_and, Bool.and_false, Bool.false_and, Bool.or_true, Bool.true_or, Bool.or_false, Bool.false_or, Bool.not_true, Bool.not_false, Bool.not_not]
              refine ops_ex (v := .bool (t3337 || t3339)) rfl (guard_none rfl) rfl rfl (ex_por_t rfl rfl hg3342) ?_
              refine ox rfl rfl rfl rfl (ex_assign rfl rfl) ?_
              refine ops_nil ?_
              exact at_meet [(1, .pointer (some ⟨b3308, 0, none⟩)), (33, .bool (t3337 || t3339))] ⟨rfl, HM⟩ (Sub.cons rfl (Sub.cons rfl Sub.nil))
            · skip
              refine ops_ex rfl (guard_on rfl rfl rfl hg3342) rfl rfl (ex_move rfl rfl) ?_
              refine ops_ex rfl (guard_on rfl rfl rfl hg3342) rfl rfl (ex_fieldAddr (off' := 3) rfl rfl Try.underlying28 rfl tsz26 rfl) ?_
              refine ops_ex rfl (guard_on rfl rfl rfl hg3342) rfl rfl (ex_load1 rfl rfl Try.underlying26 rfl ((HM.box_at 0 rfl) 3 _ rfl)) ?_
              refine ops_ex rfl (guard_on rfl rfl rfl hg3342) rfl rfl (ex_len (d := kOut) (xs := x0.fOuts) rfl rfl Try.underlying26 hp0_1) ?_
              refine ops_does rfl (guard_on rfl rfl rfl hg3342) rfl rfl (does_callvk rfl callok106 rfl rfl rfl (impl_TxFault_1.calls (x0 := (x0.fOuts.length : Int)) (cond_t (not_mk hg3342) h3340))) ?_
              rintro _ w3344 ⟨rfl, hn⟩
              replace HM : Mem w [] w3344 [box b3308 28 [.int .i64 x0.fKind, .int .i64 x0.fMember, p0_0, p0_1]] := HM.call hn
              refine ops_ex (v := .bool (t3337 || t3339)) rfl (guard_none rfl) rfl rfl (ex_por_f rfl rfl hg3342 rfl) ?_
              refine ox rfl rfl rfl rfl (ex_assign rfl rfl) ?_
              refine ops_nil ?_
              exact at_meet [(1, .pointer (some ⟨b3308, 0, none⟩)), (33, .bool (t3337 || t3339))] ⟨rfl, HM⟩ (Sub.cons rfl (Sub.cons rfl Sub.nil))
          · rintro _ w3345 ⟨rfl, HM⟩
            refine at_then ?_
            refine run_cond (b := (t3337 || t3339)) rfl (fun hb3346 => ?_) (fun hb3346 => ?_)
            · replace H := cond_t hb3346 H
              refine run_seq ?_
              refine run_region rfl ?_
              refine ox rfl rfl rfl rfl (ex_assign rfl rfl) ?_
              refine ops_nil (at_then ?_)
              refine run_ret ?_
              refine at_block_ret ?_
              refine at_then_ret ?_
              replace HM := (HM.front 0 rfl rfl).drop
              have hR := Option.some.inj H
              subst hR
              exact at_ret1 rfl rfl ⟨_, rfl, rfl, HM⟩
            · replace H := cond_f hb3346 H
              refine run_skip ?_
              refine at_block ?_
              refine at_then ?_
              obtain ⟨o3405, ho3406, H⟩ := bind_some H
              refine run_mid (fun ρ_ w_ => Sum.inr () = o3405 ∧ ρ_ = [(1, .pointer (some ⟨b3308, 0, none⟩))] ∧ Mem w [] w_ [box b3308 28 [.int .i64 x0.fKind, .int .i64 x0.fMember, p0_0, p0_1]]) ?_ ?_
              · skip
                refine run_seq ?_
                refine run_region rfl ?_
                refine ox rfl rfl rfl rfl (ex_fieldAddr (off' := 2) rfl rfl Try.underlying28 rfl tsz25 rfl) ?_
                refine ox rfl rfl rfl rfl (ex_load1 rfl rfl Try.underlying25 rfl ((HM.box_at 0 rfl) 2 _ rfl)) ?_
                refine ox rfl rfl rfl rfl (ex_len (d := kRef) (xs := x0.fIns) rfl rfl Try.underlying25 hp0_0) ?_
                refine ox rfl rfl rfl rfl (ex_move rfl rfl) ?_
                refine ops_nil (at_then ?_)
                refine run_block ?_
                refine run_loop (fun k_ ρ_ w_ => ∃ a3426 : Int, impl_TxFault.l0 x0 k_ a3426 = some o3405 ∧ ρ_ = [(1, .pointer (some ⟨b3308, 0, none⟩)), (47, p0_0), (48, .int .i64 (x0.fIns.length : Int)), (49, .int .i64 a3426)] ∧ Mem w [] w_ [box b3308 28 [.int .i64 x0.fKind, .int .i64 x0.fMember, p0_0, p0_1]]) k (ρ1 := [(1, .pointer (some ⟨b3308, 0, none⟩)), (47, p0_0), (48, .int .i64 (x0.fIns.length : Int)), (49, .int .i64 0)]) ⟨_, ho3406, rfl, HM⟩ (Sub.cons rfl (Sub.cons rfl (Sub.cons rfl (Sub.cons rfl Sub.nil)))) ?_
                clear HM ho3406
                rintro k3446 _ w3447 ⟨a3426, ho3406, rfl, HM⟩
                obtain _ | k3446 := k3446
                · exact nomatch ((impl_TxFault.l0_z x0 a3426).symm.trans ho3406)
                replace ho3406 := (impl_TxFault.l0_s x0 k3446 a3426).symm.trans ho3406
                refine run_seq ?_
                refine run_region rfl ?_
                refine ox rfl rfl rfl rfl (ex_lss rfl rfl rfl) ?_
                refine ops_nil (at_then (run_seq ?_))
                refine run_cond (b := (decide (a3426 < (x0.fIns.length : Int)))) rfl (fun hb3448 => ?_) (fun hb3448 => ?_)
                · replace ho3406 := cond_t hb3448 ho3406
                  refine run_skip ?_
                  refine at_then ?_
                  refine run_seq ?_
                  refine run_block ?_
                  refine run_seq ?_
                  obtain ⟨e3449, ho3406⟩ := chk_some ho3406
                  refine run_region rfl ?_
                  refine ox rfl rfl rfl rfl (ex_move rfl rfl) ?_
                  have hc3450 : CellsAt _ (sb p0_0) (so p0_0 + (a3426).toNat * 2) [(.int .i64 ((gt x0.fIns a3426).fTx)), (.int .i64 ((gt x0.fIns a3426).fAt))] := rd_plain hp0_0 e3449
                  refine ox rfl rfl rfl rfl (ex_indexAddr (d := kRef) rfl rfl rfl Try.underlying25 tsz36 hp0_0 (idx_lo e3449) (idx_hi e3449)) ?_
                  refine ox rfl rfl rfl rfl (ex_loadN (cs := [(.int .i64 ((gt x0.fIns a3426).fTx)), (.int .i64 ((gt x0.fIns a3426).fAt))]) rfl rfl Try.underlying36 rfl tsz36 rfl ((HM.at_ hc3450).sub 0 2 rfl)) ?_
                  refine od rfl rfl rfl rfl (does_alloc (cs := [.int .i64 0, .int .i64 0]) rfl tz36 rfl HM) ?_
                  rintro _ w3454 ⟨b3451, rfl, HM⟩
                  refine ox rfl rfl rfl rfl (ex_assign rfl rfl) ?_
                  refine odS rfl rfl rfl (does_store (vs := [.int .i64 ((gt x0.fIns a3426).fTx), .int .i64 ((gt x0.fIns a3426).fAt)]) (cs' := [.int .i64 ((gt x0.fIns a3426).fTx), .int .i64 ((gt x0.fIns a3426).fAt)]) rfl rfl rfl rfl tsz36 (Ones.int (Ones.int Ones.nil)) rfl rfl HM) ?_
                  rintro w3455 HM
                  refine ops_nil (at_then (run_seq ?_))
                  refine run_seq ?_
                  obtain ⟨t3459, h3460, ho3406⟩ := bind_some ho3406
                  refine run_region rfl ?_
                  refine ox rfl rfl rfl rfl (ex_loadN (cs := [(.int .i64 ((gt x0.fIns a3426).fTx)), (.int .i64 ((gt x0.fIns a3426).fAt))]) rfl rfl Try.underlying36 rfl tsz36 rfl ((HM.box_at 0 rfl).sub 0 2 rfl)) ?_
                  refine od rfl rfl rfl rfl (does_callk rfl callok63 rfl (impl_isRef.calls (x0 := (gt x0.fIns a3426)) h3460)) ?_
                  rintro _ w3461 ⟨rfl, hn⟩
                  replace HM : Mem w [] w3461 [box b3451 36 [.int .i64 ((gt x0.fIns a3426).fTx), .int .i64 ((gt x0.fIns a3426).fAt)], box b3308 28 [.int .i64 x0.fKind, .int .i64 x0.fMember, p0_0, p0_1]] := HM.call hn
                  refine ox rfl rfl rfl rfl (ex_not rfl rfl) ?_
                  refine ops_nil (at_then ?_)
                  refine run_cond (b := !t3459) rfl (fun hb3462 => ?_) (fun hb3462 => ?_)
                  · replace ho3406 := cond_t hb3462 ho3406
                    refine run_seq ?_
                    refine run_region rfl ?_
                    refine ox rfl rfl rfl rfl (ex_assign rfl rfl) ?_
                    refine ops_nil (at_then ?_)
                    refine run_ret ?_
                    refine at_then_ret ?_
                    refine at_block_ret ?_
                    refine at_then_ret ?_
                    refine at_then_ret ?_
                    refine at_block_ret ?_
                    refine at_then_ret ?_
                    replace HM := (HM.front 0 rfl rfl).drop
                    replace HM := (HM.front 0 rfl rfl).drop
                    have hR := Option.some.inj ho3406
                    subst hR
                    have hT := thn_inl H
                    have hR := Option.some.inj hT
                    subst hR
                    exact at_ret1 rfl rfl ⟨_, rfl, rfl, HM⟩
                  · replace ho3406 := cond_f hb3462 ho3406
                    refine run_skip ?_
                    refine at_then ?_
                    refine run_seq ?_
                    obtain ⟨e3463, ho3406⟩ := chk_some ho3406
                    obtain ⟨t3467, h3468, ho3406⟩ := bind_some ho3406
                    refine run_drawf (fun w_ => Mem w [] w_ [box b3451 36 [.int .i64 ((gt x0.fIns a3426).fTx), .int .i64 ((gt x0.fIns a3426).fAt)], box b3308 28 [.int .i64 x0.fKind, .int .i64 x0.fMember, p0_0, p0_1]]) [(0, true), (1, true), (2, true), (3, true), (4, true), (5, false)] mixed rfl rfl (by kernel_rfl) ?_
                    replace HM := HM.grow (fr_drew _)
                    have hS := Mem.suf (M := []) HM
                    refine dp rfl rfl rfl rfl (ex_fieldAddr (off' := 2) rfl rfl Try.underlying28 rfl tsz25 rfl) hS ?_
                    refine drwp_take rfl (guard_none rfl) rfl rfl (fun w_ hS_ => (ex_load1 rfl rfl Try.underlying25 rfl ((hS_.box_at 1 rfl) 2 _ rfl))) hS ?_
                    refine dp rfl rfl rfl rfl (ex_move rfl rfl) hS ?_
                    refine drwp_takeE rfl (guard_none rfl) rfl rfl (ex_cutH kRef rfl rfl rfl Try.underlying25 tsz36 hp0_0 e3463) hS ?_
                    rintro u3464 hr3466
                    refine drwp_take rfl (guard_none rfl) rfl rfl (fun w_ hS_ => (ex_loadN (cs := [(.int .i64 ((gt x0.fIns a3426).fTx)), (.int .i64 ((gt x0.fIns a3426).fAt))]) rfl rfl Try.underlying36 rfl tsz36 rfl ((hS_.box_at 0 rfl).sub 0 2 rfl))) hS ?_
                    refine drwp_one rfl (guard_none rfl) rfl rfl (does_callk rfl callok107 rfl (slices_Contains_impl_Ref.calls (x0 := x0.fIns.take (a3426).toNat) (x1 := (gt x0.fIns a3426)) (HM.rd hr3466) h3468)) ?_
                    rintro _ w3469 ⟨rfl, hn⟩
                    replace HM : Mem w [] w3469 [box b3451 36 [.int .i64 ((gt x0.fIns a3426).fTx), .int .i64 ((gt x0.fIns a3426).fAt)], box b3308 28 [.int .i64 x0.fKind, .int .i64 x0.fMember, p0_0, p0_1]] := HM.call hn
                    have hS := Mem.suf (M := []) HM
                    refine ⟨hS, ?_⟩
                    refine drwp_done ?_
                    refine at_then ?_
                    refine run_cond (b := t3467) rfl (fun hb3470 => ?_) (fun hb3470 => ?_)
                    · replace ho3406 := cond_t hb3470 ho3406
                      refine run_seq ?_
                      refine run_region rfl ?_
                      refine ox rfl rfl rfl rfl (ex_assign rfl rfl) ?_
                      refine ops_nil (at_then ?_)
                      refine run_ret ?_
                      refine at_block_ret ?_
                      refine at_then_ret ?_
                      refine at_then_ret ?_
                      refine at_block_ret ?_
                      refine at_then_ret ?_
                      replace HM := (HM.front 0 rfl rfl).drop
                      replace HM := (HM.front 0 rfl rfl).drop
                      have hR := Option.some.inj ho3406
                      subst hR
                      have hT := thn_inl H
                      have hR := Option.some.inj hT
                      subst hR
                      exact at_ret1 rfl rfl ⟨_, rfl, rfl, HM⟩
                    · replace ho3406 := cond_f hb3470 ho3406
                      refine run_skip ?_
                      refine at_block ?_
                      refine at_then ?_
                      refine run_region rfl ?_
                      refine ox rfl rfl rfl rfl (ex_add rfl rfl rfl) ?_
                      refine ox rfl rfl rfl rfl (ex_move rfl rfl) ?_
                      refine ops_nil ?_
                      replace HM := (HM.front 0 rfl rfl).drop
                      exact at_again k3446 (ρ1 := [(1, .pointer (some ⟨b3308, 0, none⟩)), (47, p0_0), (48, .int .i64 (x0.fIns.length : Int)), (49, .int .i64 (wrap64 (a3426 + 1)))]) (Nat.lt_succ_self _) ⟨_, ho3406, rfl, HM⟩ (Sub.cons rfl (Sub.cons rfl (Sub.cons rfl (Sub.cons rfl Sub.nil))))
                · replace ho3406 := cond_f hb3448 ho3406
                  refine run_exit ?_
                  refine at_then_exit ?_
                  refine at_then_exit ?_
                  refine at_block_exit ?_
                  exact at_mid (ρ' := [(1, .pointer (some ⟨b3308, 0, none⟩))]) ⟨(Option.some.inj ho3406), rfl, HM⟩ (Sub.cons rfl Sub.nil)
              · rintro _ w3471 ⟨rfl, rfl, HM⟩
                replace H := (thn_inr H)
                obtain ⟨o3506, ho3507, H⟩ := bind_some H
                refine run_mid (fun ρ_ w_ => Sum.inr () = o3506 ∧ ρ_ = [(1, .pointer (some ⟨b3308, 0, none⟩))] ∧ Mem w [] w_ [box b3308 28 [.int .i64 x0.fKind, .int .i64 x0.fMember, p0_0, p0_1]]) ?_ ?_
                · skip
                  refine run_seq ?_
                  refine run_region rfl ?_
                  refine ox rfl rfl rfl rfl (ex_fieldAddr (off' := 3) rfl rfl Try.underlying28 rfl tsz26 rfl) ?_
                  refine ox rfl rfl rfl rfl (ex_load1 rfl rfl Try.underlying26 rfl ((HM.box_at 0 rfl) 3 _ rfl)) ?_
                  refine ox rfl rfl rfl rfl (ex_len (d := kOut) (xs := x0.fOuts) rfl rfl Try.underlying26 hp0_1) ?_
                  refine ox rfl rfl rfl rfl (ex_move rfl rfl) ?_
                  refine ops_nil (at_then ?_)
                  refine run_block ?_
                  refine run_loop (fun k_ ρ_ w_ => ∃ a3519 : Int, impl_TxFault.l1 x0 k_ a3519 = some o3506 ∧ ρ_ = [(1, .pointer (some ⟨b3308, 0, none⟩)), (65, p0_1), (66, .int .i64 (x0.fOuts.length : Int)), (67, .int .i64 a3519)] ∧ Mem w [] w_ [box b3308 28 [.int .i64 x0.fKind, .int .i64 x0.fMember, p0_0, p0_1]]) k (ρ1 := [(1, .pointer (some ⟨b3308, 0, none⟩)), (65, p0_1), (66, .int .i64 (x0.fOuts.length : Int)), (67, .int .i64 0)]) ⟨_, ho3507, rfl, HM⟩ (Sub.cons rfl (Sub.cons rfl (Sub.cons rfl (Sub.cons rfl Sub.nil)))) ?_
                  clear HM ho3507
                  rintro k3531 _ w3532 ⟨a3519, ho3507, rfl, HM⟩
                  obtain _ | k3531 := k3531
                  · exact nomatch ((impl_TxFault.l1_z x0 a3519).symm.trans ho3507)
                  replace ho3507 := (impl_TxFault.l1_s x0 k3531 a3519).symm.trans ho3507
                  refine run_seq ?_
                  refine run_region rfl ?_
                  refine ox rfl rfl rfl rfl (ex_lss rfl rfl rfl) ?_
                  refine ops_nil (at_then (run_seq ?_))
                  refine run_cond (b := (decide (a3519 < (x0.fOuts.length : Int)))) rfl (fun hb3533 => ?_) (fun hb3533 => ?_)
                  · replace ho3507 := cond_t hb3533 ho3507
                    refine run_skip ?_
                    refine at_then ?_
                    refine run_seq ?_
                    refine run_block ?_
                    refine run_seq ?_
                    obtain ⟨e3534, ho3507⟩ := chk_some ho3507
                    refine run_region rfl ?_
                    obtain ⟨kv3536, hc3535, hk3537⟩ : ∃ u, CellsAt _ (sb p0_1) (so p0_1 + (a3519).toNat * 4) [(.int .i64 ((gt x0.fOuts a3519).fValue)), u, (.int .i64 ((gt x0.fOuts a3519).fRule.fNeed)), (.int .i64 ((gt x0.fOuts a3519).fRule.fAfter))] ∧ RdS kInt _ u ((gt x0.fOuts a3519).fRule.fKeys) := rd_with1 hp0_1 e3534
                    refine ox rfl rfl rfl rfl (ex_indexAddr (d := kOut) rfl rfl rfl Try.underlying26 tsz69 hp0_1 (idx_lo e3534) (idx_hi e3534)) ?_
                    refine ox rfl rfl rfl rfl (ex_loadN (cs := [(.int .i64 ((gt x0.fOuts a3519).fValue)), kv3536, (.int .i64 ((gt x0.fOuts a3519).fRule.fNeed)), (.int .i64 ((gt x0.fOuts a3519).fRule.fAfter))]) rfl rfl Try.underlying69 rfl tsz69 rfl ((HM.at_ hc3535).sub 0 4 rfl)) ?_
                    refine od rfl rfl rfl rfl (does_alloc (cs := [.int .i64 0, .slice none 0 0, .int .i64 0, .int .i64 0]) rfl tz69 rfl HM) ?_
                    rintro _ w3541 ⟨b3538, rfl, HM⟩
                    refine odS rfl rfl rfl (does_store (vs := [.int .i64 ((gt x0.fOuts a3519).fValue), kv3536, .int .i64 ((gt x0.fOuts a3519).fRule.fNeed), .int .i64 ((gt x0.fOuts a3519).fRule.fAfter)]) (cs' := [.int .i64 ((gt x0.fOuts a3519).fValue), kv3536, .int .i64 ((gt x0.fOuts a3519).fRule.fNeed), .int .i64 ((gt x0.fOuts a3519).fRule.fAfter)]) rfl rfl rfl rfl tsz69 (Ones.int (Ones.rd hk3537 (Ones.int (Ones.int Ones.nil)))) rfl rfl HM) ?_
                    rintro w3542 HM
                    refine ops_nil (at_then (run_seq ?_))
                    obtain ⟨t3543, h3544, ho3507⟩ := bind_some ho3507
                    refine run_region rfl ?_
                    refine ox rfl rfl rfl rfl (ex_loadN (cs := [(.int .i64 ((gt x0.fOuts a3519).fValue)), kv3536, (.int .i64 ((gt x0.fOuts a3519).fRule.fNeed)), (.int .i64 ((gt x0.fOuts a3519).fRule.fAfter))]) rfl rfl Try.underlying69 rfl tsz69 rfl ((HM.box_at 0 rfl).sub 0 4 rfl)) ?_
                    refine od rfl rfl rfl rfl (does_callk rfl callok108 rfl (impl_outFault.calls (x0 := (gt x0.fOuts a3519)) (HM.rd hk3537) h3544)) ?_
                    rintro _ w3545 ⟨rfl, hn⟩
                    replace HM : Mem w [] w3545 [box b3538 69 [.int .i64 ((gt x0.fOuts a3519).fValue), kv3536, .int .i64 ((gt x0.fOuts a3519).fRule.fNeed), .int .i64 ((gt x0.fOuts a3519).fRule.fAfter)], box b3308 28 [.int .i64 x0.fKind, .int .i64 x0.fMember, p0_0, p0_1]] := HM.call hn
                    refine ox rfl rfl rfl rfl (ex_assign rfl rfl) ?_
                    refine ops_nil (at_then (run_seq ?_))
                    refine run_region rfl ?_
                    refine ox rfl rfl rfl rfl (ex_move rfl rfl) ?_
                    refine ox rfl rfl rfl rfl (ex_neq rfl rfl rfl) ?_
                    refine ops_nil (at_then ?_)
                    refine run_cond (b := (t3543 != 0)) rfl (fun hb3546 => ?_) (fun hb3546 => ?_)
                    · replace ho3507 := cond_t hb3546 ho3507
                      refine run_seq ?_
                      refine run_region rfl ?_
                      refine ox rfl rfl rfl rfl (ex_move rfl rfl) ?_
                      refine ox rfl rfl rfl rfl (ex_assign rfl rfl) ?_
                      refine ops_nil (at_then ?_)
                      refine run_ret ?_
                      refine at_block_ret ?_
                      refine at_then_ret ?_
                      refine at_then_ret ?_
                      refine at_block_ret ?_
                      refine at_then_ret ?_
                      replace HM := (HM.front 0 rfl rfl).drop
                      replace HM := (HM.front 0 rfl rfl).drop
                      have hR := Option.some.inj ho3507
                      subst hR
                      have hT := thn_inl H
                      have hR := Option.some.inj hT
                      subst hR
                      exact at_ret1 rfl rfl ⟨_, rfl, rfl, HM⟩
                    · replace ho3507 := cond_f hb3546 ho3507
                      refine run_skip ?_
                      refine at_block ?_
                      refine at_then ?_
                      refine run_region rfl ?_
                      refine ox rfl rfl rfl rfl (ex_add rfl rfl rfl) ?_
                      refine ox rfl rfl rfl rfl (ex_move rfl rfl) ?_
                      refine ops_nil ?_
                      replace HM := (HM.front 0 rfl rfl).drop
                      exact at_again k3531 (ρ1 := [(1, .pointer (some ⟨b3308, 0, none⟩)), (65, p0_1), (66, .int .i64 (x0.fOuts.length : Int)), (67, .int .i64 (wrap64 (a3519 + 1)))]) (Nat.lt_succ_self _) ⟨_, ho3507, rfl, HM⟩ (Sub.cons rfl (Sub.cons rfl (Sub.cons rfl (Sub.cons rfl Sub.nil))))
                  · replace ho3507 := cond_f hb3533 ho3507
                    refine run_exit ?_
                    refine at_then_exit ?_
                    refine at_then_exit ?_
                    refine at_block_exit ?_
                    exact at_mid (ρ' := [(1, .pointer (some ⟨b3308, 0, none⟩))]) ⟨(Option.some.inj ho3507), rfl, HM⟩ (Sub.cons rfl Sub.nil)
                · rintro _ w3547 ⟨rfl, rfl, HM⟩
                  replace H := (thn_inr H)
                  refine run_seq ?_
                  refine run_seq ?_
                  obtain ⟨e3548, H⟩ := chk_some H
                  refine run_meet (fun ρ_ w_ => ρ_ = [(87, .bool ((x0.fKind == 1) && (decide (((gt x0.fOuts (0 : Int)).fValue) < 100))))] ∧ Mem w [] w_ []) ?_ ?_
                  · skip
                    refine run_region rfl ?_
                    refine ox rfl rfl rfl rfl (ex_fieldAddr (off' := 0) rfl rfl Try.underlying28 rfl tsz2 rfl) ?_
                    refine ox rfl rfl rfl rfl (ex_load1 rfl rfl Try.underlying2 rfl ((HM.box_at 0 rfl) 0 _ rfl)) ?_
                    refine ox rfl rfl rfl rfl (ex_eql rfl rfl rfl) ?_
                    refine ox rfl rfl rfl rfl (ex_move rfl rfl) ?_
                    refine bool_cases (x0.fKind == 1) (fun hg3552 => ?_) (fun hg3552 => ?_)
                    · skip
                      refine ops_ex rfl (guard_on rfl rfl rfl hg3552) rfl rfl (ex_fieldAddr (off' := 3) rfl rfl Try.underlying28 rfl tsz26 rfl) ?_
                      refine ops_ex rfl (guard_on rfl rfl rfl hg3552) rfl rfl (ex_load1 rfl rfl Try.underlying26 rfl ((HM.box_at 0 rfl) 3 _ rfl)) ?_
                      obtain ⟨kv3550, hc3549, hk3551⟩ : ∃ u, CellsAt _ (sb p0_1) (so p0_1 + ((0 : Int)).toNat * 4) [(.int .i64 ((gt x0.fOuts (0 : Int)).fValue)), u, (.int .i64 ((gt x0.fOuts (0 : Int)).fRule.fNeed)), (.int .i64 ((gt x0.fOuts (0 : Int)).fRule.fAfter))] ∧ RdS kInt _ u ((gt x0.fOuts (0 : Int)).fRule.fKeys) := rd_with1 hp0_1 (or_t e3548 hg3552)
                      refine ops_ex rfl (guard_on rfl rfl rfl hg3552) rfl rfl (ex_indexAddr (d := kOut) rfl rfl rfl Try.underlying26 tsz69 hp0_1 (idx_lo (or_t e3548 hg3552)) (idx_hi (or_t e3548 hg3552))) ?_
                      refine ops_ex rfl (guard_on rfl rfl rfl hg3552) rfl rfl (ex_fieldAddr (off' := so p0_1 + ((0 : Int)).toNat * 4) rfl rfl Try.underlying69 rfl tsz2 rfl) ?_
                      refine ops_ex rfl (guard_on rfl rfl rfl hg3552) rfl rfl (ex_load1 rfl rfl Try.underlying2 rfl ((HM.at_ hc3549) 0 _ rfl)) ?_
                      refine ops_ex rfl (guard_on rfl rfl rfl hg3552) rfl rfl (ex_lss rfl rfl rfl) ?_
                      refine ops_ex (v := .bool ((x0.fKind == 1) && (decide (((gt x0.fOuts (0 : Int)).fValue) < 100)))) rfl (guard_none rfl) rfl rfl (ex_pand_t rfl rfl hg3552 rfl) ?_
                      refine ops_nil ?_
                      replace HM := (HM.front 0 rfl rfl).drop
                      exact at_meet [(87, .bool ((x0.fKind == 1) && (decide (((gt x0.fOuts (0 : Int)).fValue) < 100))))] ⟨rfl, HM⟩ (Sub.cons rfl Sub.nil)
                    · skip
                      refine ops_off rfl (guard_off rfl rfl rfl hg3552) rfl rfl ?_
                      refine ops_off rfl (guard_off rfl rfl rfl hg3552) rfl rfl ?_
                      refine ops_off rfl (guard_off rfl rfl rfl hg3552) rfl rfl ?_
                      refine ops_off rfl (guard_off rfl rfl rfl hg3552) rfl rfl ?_
                      refine ops_off rfl (guard_off rfl rfl rfl hg3552) rfl rfl ?_
                      refine ops_off rfl (guard_off rfl rfl rfl hg3552) rfl rfl ?_
                      have hg3553 : ((x0.fKind == 1) && (decide (((gt x0.fOuts (0 : Int)).fValue) < 100))) = false := by simp only [hg3552, Bool.and_true, Bool.true_and, Bool.and_false, Bool.false_and, Bool.or_true, Bool.true_or, Bool.or_false, Bool.false_or, Bool.not_true, Bool.not_false, Bool.not_not]
                      refine ops_ex (v := .bool ((x0.fKind == 1) && (decide (((gt x0.fOuts (0 : Int)).fValue) < 100)))) rfl (guard_none rfl) rfl rfl (ex_pand_f rfl rfl hg3552) ?_
                      refine ops_nil ?_
                      replace HM := (HM.front 0 rfl rfl).drop
                      exact at_meet [(87, .bool ((x0.fKind == 1) && (decide (((gt x0.fOuts (0 : Int)).fValue) < 100))))] ⟨rfl, HM⟩ (Sub.cons rfl Sub.nil)
                  · rintro _ w3554 ⟨rfl, HM⟩
                    refine at_then ?_
                    refine run_cond (b := ((x0.fKind == 1) && (decide (((gt x0.fOuts (0 : Int)).fValue) < 100)))) rfl (fun hb3555 => ?_) (fun hb3555 => ?_)
                    · replace H := cond_t hb3555 H
                      refine run_seq ?_
                      refine run_region rfl ?_
                      refine ox rfl rfl rfl rfl (ex_assign rfl rfl) ?_
                      refine ops_nil (at_then ?_)
                      refine run_ret ?_
                      refine at_then_ret ?_
                      have hR := Option.some.inj H
                      subst hR
                      exact at_ret1 rfl rfl ⟨_, rfl, rfl, HM⟩
                    · replace H := cond_f hb3555 H
                      refine run_skip ?_
                      refine at_then ?_
                      refine run_seq ?_
                      refine run_region rfl ?_
                      refine ox rfl rfl rfl rfl (ex_assign rfl rfl) ?_
                      refine ops_nil (at_then ?_)
                      refine run_ret ?_
                      have hR := Option.some.inj H
                      subst hR
                      exact at_ret1 rfl rfl ⟨_, rfl, rfl, HM⟩
end Go.Proofs.Ytbbcabpnkdilgaa.Zk
