/- What functions of the program compute, each as a plain function, and that they do. Conditions: as each theorem states them. -/
import Derived.Test.YtcpacdbdehphkaaDoorFnBlocksZkF4
namespace Go.Proofs.YtcpacdbdehphkaaDoor.Zk
open Go Go.RowKit Go.IntWalk Go.Proofs
set_option linter.unusedVariables false
set_option linter.unusedSimpArgs false
set_option maxRecDepth 100000
set_option maxHeartbeats 4000000
def impl_rewardOf.f (k : Nat) (x0 : Int) : Option Int := (chk ((8 : Int) != 0) (chk (decide (0 ≤ (IntKind.i64.wrap (Int.tdiv (wrap64 (x0 - 1)) (8 : Int)))) && decide ((IntKind.i64.wrap (Int.tdiv (wrap64 (x0 - 1)) (8 : Int))) ≤ IntKind.i64.bits)) (some (1000 / 2 ^ ((IntKind.i64.wrap (Int.tdiv (wrap64 (x0 - 1)) (8 : Int)))).toNat))))
theorem impl_rewardOf.calls {k : Nat} {x0 : Int}  {w : World}  {r : Int} (H : impl_rewardOf.f k x0 = some r) :
    Calls Tryd.prog 58 ([.int .i64 x0] : List Value).toArray w (fun e w_ => ∃ v, e = .returned v ∧ v = (.int .i64 r) ∧ Mem w [] w_ []) := by
  have HM := Mem.start w
  refine calls_run (N := 7) Tryd.func58 rfl rfl rfl rfl ?_
  unfold impl_rewardOf.f at H
  refine run_seq ?_
  refine run_region rfl ?_
  refine ops_ex rfl (guard_none rfl) rfl rfl (ex_assign rfl rfl) ?_
  refine ops_nil ?_
  refine at_then ?_
  refine run_seq ?_
  obtain ⟨e2793, H⟩ := chk_some H
  obtain ⟨e2794, H⟩ := chk_some H
  refine run_region rfl ?_
  refine ops_ex rfl (guard_none rfl) rfl rfl (ex_move rfl rfl) ?_
  refine ops_ex rfl (guard_none rfl) rfl rfl (ex_sub rfl rfl rfl) ?_
  refine ops_ex rfl (guard_none rfl) rfl rfl (ex_quok rfl rfl rfl e2793) ?_
  refine ops_ex rfl (guard_none rfl) rfl rfl (ex_shr rfl rfl rfl e2794) ?_
  refine ops_ex rfl (guard_none rfl) rfl rfl (ex_assign rfl rfl) ?_
  refine ops_nil ?_
  refine at_then ?_
  refine run_ret ?_
  have hR := Option.some.inj H
  subst hR
  exact at_ret1 rfl rfl ⟨_, rfl, rfl, HM⟩

def impl_RewardOf.f (k : Nat) (x0 : Int) : Option IntResult := ((impl_within.f k x0 1 40).bind fun t2801 => (bif !t2801 then some (⟨3, 0⟩ : IntResult) else ((impl_rewardOf.f k x0).bind fun t2806 => some (⟨0, t2806⟩ : IntResult))))
theorem impl_RewardOf.calls {k : Nat} {x0 : Int}  {w : World}  {r : IntResult} (H : impl_RewardOf.f k x0 = some r) :
    Calls Tryd.prog 26 ([.int .i64 x0] : List Value).toArray w (fun e w_ => ∃ v, e = .returned v ∧ v = (.agg #[.int .i64 r.fCode, .int .i64 r.fValue]) ∧ Mem w [] w_ []) := by
  have HM := Mem.start w
  refine calls_run (N := 10) Tryd.func26 rfl rfl rfl rfl ?_
  unfold impl_RewardOf.f at H
  refine run_seq ?_
  refine run_region rfl ?_
  refine ops_does rfl (guard_none rfl) rfl rfl (does_alloc (cs := [.int .i64 0, .int .i64 0]) rfl tz60 rfl HM) ?_
  rintro _ w2800 ⟨b2797, rfl, HM⟩
  refine ops_nil ?_
  refine at_then ?_
  refine run_seq ?_
  refine run_seq ?_
  obtain ⟨t2801, h2802, H⟩ := bind_some H
  refine run_region rfl ?_
  refine ops_ex rfl (guard_none rfl) rfl rfl (ex_move rfl rfl) ?_
  refine ops_does rfl (guard_none rfl) rfl rfl (does_callk rfl callok54 rfl (impl_within.calls (x0 := x0) (x1 := 1) (x2 := 40) h2802)) ?_
  rintro _ w2803 ⟨rfl, hn⟩
  replace HM : Mem w [] w2803 [box b2797 60 [.int .i64 0, .int .i64 0]] := HM.call hn
  refine ops_ex rfl (guard_none rfl) rfl rfl (ex_not rfl rfl) ?_
  refine ops_nil ?_
  refine at_then ?_
  refine run_cond (b := !t2801) rfl (fun hb2804 => ?_) (fun hb2804 => ?_)
  · replace H := cond_t hb2804 H
    refine run_seq ?_
    refine run_region rfl ?_
    refine ops_ex rfl (guard_none rfl) rfl rfl (ex_build (cells := #[(.int .i64 3), (.int .i64 0)]) rfl rfl (by kernel_rfl)) ?_
    refine ops_doesS rfl (guard_none rfl) rfl (does_store (vs := [.int .i64 3, .int .i64 0]) (cs' := [.int .i64 3, .int .i64 0]) rfl rfl rfl rfl tsz60 (Ones.int (Ones.int Ones.nil)) rfl rfl HM) ?_
    rintro w2805 HM
    refine ops_nil ?_
    refine at_then ?_
    refine run_ret ?_
    refine at_then_ret ?_
    have hcb0 := HM.box_at 0 rfl
    replace HM := (HM.front 0 rfl rfl).drop
    have hR := Option.some.inj H
    subst hR
    exact at_retN rfl rfl Tryd.underlying60 rfl tsz60 rfl hcb0 ⟨_, rfl, rfl, HM⟩
  · replace H := cond_f hb2804 H
    refine run_skip ?_
    refine at_then ?_
    refine run_seq ?_
    obtain ⟨t2806, h2807, H⟩ := bind_some H
    refine run_region rfl ?_
    refine ops_ex rfl (guard_none rfl) rfl rfl (ex_move rfl rfl) ?_
    refine ops_does rfl (guard_none rfl) rfl rfl (does_callk rfl callok58 rfl (impl_rewardOf.calls (x0 := x0) h2807)) ?_
    rintro _ w2808 ⟨rfl, hn⟩
    replace HM : Mem w [] w2808 [box b2797 60 [.int .i64 0, .int .i64 0]] := HM.call hn
    refine ops_ex rfl (guard_none rfl) rfl rfl (ex_build (cells := #[(.int .i64 0), (.int .i64 t2806)]) rfl rfl (by kernel_rfl)) ?_
    refine ops_doesS rfl (guard_none rfl) rfl (does_store (vs := [.int .i64 0, .int .i64 t2806]) (cs' := [.int .i64 0, .int .i64 t2806]) rfl rfl rfl rfl tsz60 (Ones.int (Ones.int Ones.nil)) rfl rfl HM) ?_
    rintro w2809 HM
    refine ops_nil ?_
    refine at_then ?_
    refine run_ret ?_
    have hcb0 := HM.box_at 0 rfl
    replace HM := (HM.front 0 rfl rfl).drop
    have hR := Option.some.inj H
    subst hR
    exact at_retN rfl rfl Tryd.underlying60 rfl tsz60 rfl hcb0 ⟨_, rfl, rfl, HM⟩

def laws_lwNums.l0 (x0 : List Int) (x1 : List Int) : Nat → Int → Option (Bool ⊕ Unit)
  | 0, _ => none
  | k + 1, a2872 => (bif (decide (a2872 < (x0.length : Int))) then (chk (idxOk a2872 x0.length) (chk (idxOk a2872 x1.length) (bif ((gt x0 a2872) != (gt x1 a2872)) then some (.inl false) else laws_lwNums.l0 x0 x1 k (wrap64 (a2872 + 1))))) else some (.inr ()))
theorem laws_lwNums.l0_z (x0 : List Int) (x1 : List Int) (a2872 : Int) : laws_lwNums.l0 x0 x1 0 a2872 = none := rfl
theorem laws_lwNums.l0_s (x0 : List Int) (x1 : List Int) (k : Nat) (a2872 : Int) : laws_lwNums.l0 x0 x1 (k + 1) a2872 = (bif (decide (a2872 < (x0.length : Int))) then (chk (idxOk a2872 x0.length) (chk (idxOk a2872 x1.length) (bif ((gt x0 a2872) != (gt x1 a2872)) then some (.inl false) else laws_lwNums.l0 x0 x1 k (wrap64 (a2872 + 1))))) else some (.inr ())) := rfl
def laws_lwNums.f (k : Nat) (x0 : List Int) (x1 : List Int) : Option Bool := (bif ((x0.length : Int) != (x1.length : Int)) then some false else ((laws_lwNums.l0 x0 x1 k 0).bind fun o2864 => thn o2864 (fun r => some r) (fun _ => some true)))
theorem laws_lwNums.calls {k : Nat} {x0 : List Int} {x1 : List Int} {p0 : Value} {p1 : Value} {w : World} (hp0 : RdS kInt w p0 x0) (hp1 : RdS kInt w p1 x1) {r : Bool} (H : laws_lwNums.f k x0 x1 = some r) :
    Calls Tryd.prog 27 ([p0, p1] : List Value).toArray w (fun e w_ => ∃ v, e = .returned v ∧ v = (.bool r) ∧ Mem w [] w_ []) := by
  have HM := Mem.start w
  refine calls_run (N := 26) Tryd.func27 rfl rfl rfl rfl ?_
  unfold laws_lwNums.f at H
  refine run_seq ?_
  refine run_region rfl ?_
  refine ops_ex rfl (guard_none rfl) rfl rfl (ex_assign rfl rfl) ?_
  refine ops_nil ?_
  refine at_then ?_
  refine run_seq ?_
  refine run_seq ?_
  refine run_region rfl ?_
  refine ops_ex rfl (guard_none rfl) rfl rfl (ex_move rfl rfl) ?_
  refine ops_ex rfl (guard_none rfl) rfl rfl (ex_len (d := kInt) (xs := x0) rfl rfl Tryd.underlying38 hp0) ?_
  refine ops_ex rfl (guard_none rfl) rfl rfl (ex_move rfl rfl) ?_
  refine ops_ex rfl (guard_none rfl) rfl rfl (ex_len (d := kInt) (xs := x1) rfl rfl Tryd.underlying38 hp1) ?_
  refine ops_ex rfl (guard_none rfl) rfl rfl (ex_neq rfl rfl rfl) ?_
  refine ops_nil ?_
  refine at_then ?_
  refine run_cond (b := ((x0.length : Int) != (x1.length : Int))) rfl (fun hb2844 => ?_) (fun hb2844 => ?_)
  · replace H := cond_t hb2844 H
    refine run_seq ?_
    refine run_region rfl ?_
    refine ops_ex rfl (guard_none rfl) rfl rfl (ex_assign rfl rfl) ?_
    refine ops_nil ?_
    refine at_then ?_
    refine run_ret ?_
    refine at_then_ret ?_
    have hR := Option.some.inj H
    subst hR
    exact at_ret1 rfl rfl ⟨_, rfl, rfl, HM⟩
  · replace H := cond_f hb2844 H
    refine run_skip ?_
    refine at_then ?_
    obtain ⟨o2864, ho2865, H⟩ := bind_some H
    refine run_mid (fun ρ_ w_ => Sum.inr () = o2864 ∧ ρ_ = [] ∧ Mem w [] w_ []) ?_ ?_
    · skip
      refine run_seq ?_
      refine run_region rfl ?_
      refine ops_ex rfl (guard_none rfl) rfl rfl (ex_assign rfl rfl) ?_
      refine ops_nil ?_
      refine at_then ?_
      refine run_block ?_
      refine run_loop (fun k_ ρ_ w_ => ∃ a2872 : Int, laws_lwNums.l0 x0 x1 k_ a2872 = some o2864 ∧ ρ_ = [(0, p0), (1, p1), (5, .int .i64 a2872)] ∧ Mem w [] w_ []) k (ρ1 := [(0, p0), (1, p1), (5, .int .i64 0)]) ⟨_, ho2865, rfl, HM⟩ (Sub.cons rfl (Sub.cons rfl (Sub.cons rfl Sub.nil))) ?_
      clear HM ho2865
      rintro k2879 _ w2880 ⟨a2872, ho2865, rfl, HM⟩
      obtain _ | k2879 := k2879
      · exact nomatch ((laws_lwNums.l0_z x0 x1 a2872).symm.trans ho2865)
      replace ho2865 := (laws_lwNums.l0_s x0 x1 k2879 a2872).symm.trans ho2865
      refine run_seq ?_
      refine run_seq ?_
      refine run_region rfl ?_
      refine ops_ex rfl (guard_none rfl) rfl rfl (ex_move rfl rfl) ?_
      refine ops_ex rfl (guard_none rfl) rfl rfl (ex_move rfl rfl) ?_
      refine ops_ex rfl (guard_none rfl) rfl rfl (ex_len (d := kInt) (xs := x0) rfl rfl Tryd.underlying38 hp0) ?_
      refine ops_ex rfl (guard_none rfl) rfl rfl (ex_lss rfl rfl rfl) ?_
      refine ops_nil ?_
      refine at_then ?_
      refine run_cond (b := (decide (a2872 < (x0.length : Int)))) rfl (fun hb2881 => ?_) (fun hb2881 => ?_)
      · replace ho2865 := cond_t hb2881 ho2865
        refine run_skip ?_
        refine at_then ?_
        refine run_seq ?_
        refine run_block ?_
        refine run_seq ?_
        obtain ⟨e2882, ho2865⟩ := chk_some ho2865
        obtain ⟨e2884, ho2865⟩ := chk_some ho2865
        refine run_drawf (fun w_ => Mem w [] w_ []) [(0, true), (1, true), (2, true), (3, true), (4, true), (5, true), (6, true), (7, true), (8, true)] mixed rfl rfl (by kernel_rfl) ?_
        replace HM := HM.grow (fr_drew _)
        have hS := Mem.suf (M := []) HM
        refine drwp_take rfl (guard_none rfl) rfl rfl (fun w_ hS_ => (ex_move rfl rfl)) hS ?_
        refine drwp_take rfl (guard_none rfl) rfl rfl (fun w_ hS_ => (ex_move rfl rfl)) hS ?_
        have hc2883 : CellsAt _ (sb p0) (so p0 + (a2872).toNat * 1) [(.int .i64 (gt x0 a2872))] := rd_plain hp0 e2882
        refine drwp_take rfl (guard_none rfl) rfl rfl (fun w_ hS_ => (ex_indexAddr (d := kInt) rfl rfl rfl Tryd.underlying38 tsz2 hp0 (idx_lo e2882) (idx_hi e2882))) hS ?_
        refine drwp_take rfl (guard_none rfl) rfl rfl (fun w_ hS_ => (ex_load1 rfl rfl Tryd.underlying2 rfl ((hS_.at_ hc2883) 0 _ rfl))) hS ?_
        refine drwp_take rfl (guard_none rfl) rfl rfl (fun w_ hS_ => (ex_move rfl rfl)) hS ?_
        refine drwp_take rfl (guard_none rfl) rfl rfl (fun w_ hS_ => (ex_move rfl rfl)) hS ?_
        have hc2885 : CellsAt _ (sb p1) (so p1 + (a2872).toNat * 1) [(.int .i64 (gt x1 a2872))] := rd_plain hp1 e2884
        refine drwp_take rfl (guard_none rfl) rfl rfl (fun w_ hS_ => (ex_indexAddr (d := kInt) rfl rfl rfl Tryd.underlying38 tsz2 hp1 (idx_lo e2884) (idx_hi e2884))) hS ?_
        refine drwp_take rfl (guard_none rfl) rfl rfl (fun w_ hS_ => (ex_load1 rfl rfl Tryd.underlying2 rfl ((hS_.at_ hc2885) 0 _ rfl))) hS ?_
        refine drwp_take rfl (guard_none rfl) rfl rfl (fun w_ hS_ => (ex_neq rfl rfl rfl)) hS ?_
        refine drwp_done ?_
        refine at_then ?_
        refine run_cond (b := ((gt x0 a2872) != (gt x1 a2872))) rfl (fun hb2886 => ?_) (fun hb2886 => ?_)
        · replace ho2865 := cond_t hb2886 ho2865
          refine run_seq ?_
          refine run_region rfl ?_
          refine ops_ex rfl (guard_none rfl) rfl rfl (ex_assign rfl rfl) ?_
          refine ops_nil ?_
          refine at_then ?_
          refine run_ret ?_
          refine at_block_ret ?_
          refine at_then_ret ?_
          refine at_then_ret ?_
          refine at_block_ret ?_
          refine at_then_ret ?_
          have hR := Option.some.inj ho2865
          subst hR
          have hT := thn_inl H
          have hR := Option.some.inj hT
          subst hR
          exact at_ret1 rfl rfl ⟨_, rfl, rfl, HM⟩
        · replace ho2865 := cond_f hb2886 ho2865
          refine run_skip ?_
          refine at_block ?_
          refine at_then ?_
          refine run_region rfl ?_
          refine ops_ex rfl (guard_none rfl) rfl rfl (ex_move rfl rfl) ?_
          refine ops_ex rfl (guard_none rfl) rfl rfl (ex_add rfl rfl rfl) ?_
          refine ops_ex rfl (guard_none rfl) rfl rfl (ex_assign rfl rfl) ?_
          refine ops_nil ?_
          exact at_again k2879 (ρ1 := [(0, p0), (1, p1), (5, .int .i64 (wrap64 (a2872 + 1)))]) (Nat.lt_succ_self _) ⟨_, ho2865, rfl, HM⟩ (Sub.cons rfl (Sub.cons rfl (Sub.cons rfl Sub.nil)))
      · replace ho2865 := cond_f hb2881 ho2865
        refine run_exit ?_
        refine at_then_exit ?_
        refine at_then_exit ?_
        refine at_block_exit ?_
        exact at_mid (ρ' := []) ⟨(Option.some.inj ho2865), rfl, HM⟩ Sub.nil
    · rintro _ w2887 ⟨rfl, rfl, HM⟩
      replace H := (thn_inr H)
      refine run_seq ?_
      refine run_region rfl ?_
      refine ops_ex rfl (guard_none rfl) rfl rfl (ex_assign rfl rfl) ?_
      refine ops_nil ?_
      refine at_then ?_
      refine run_ret ?_
      have hR := Option.some.inj H
      subst hR
      exact at_ret1 rfl rfl ⟨_, rfl, rfl, HM⟩

def spec_l7Reward.f (k : Nat) (x0 : Int) : Option Int := (chk ((8 : Int) != 0) (chk (decide (0 ≤ (IntKind.u64.wrap (IntKind.i64.wrap (Int.tdiv (wrap64 (x0 - 1)) (8 : Int))))) && decide ((IntKind.u64.wrap (IntKind.i64.wrap (Int.tdiv (wrap64 (x0 - 1)) (8 : Int)))) ≤ IntKind.i64.bits)) (some (1000 / 2 ^ ((IntKind.u64.wrap (IntKind.i64.wrap (Int.tdiv (wrap64 (x0 - 1)) (8 : Int))))).toNat))))
theorem spec_l7Reward.calls {k : Nat} {x0 : Int}  {w : World}  {r : Int} (H : spec_l7Reward.f k x0 = some r) :
    Calls Tryd.prog 60 ([.int .i64 x0] : List Value).toArray w (fun e w_ => ∃ v, e = .returned v ∧ v = (.int .i64 r) ∧ Mem w [] w_ []) := by
  have HM := Mem.start w
  refine calls_run (N := 8) Tryd.func60 rfl rfl rfl rfl ?_
  unfold spec_l7Reward.f at H
  refine run_seq ?_
  refine run_region rfl ?_
  refine ops_ex rfl (guard_none rfl) rfl rfl (ex_assign rfl rfl) ?_
  refine ops_nil ?_
  refine at_then ?_
  refine run_seq ?_
  obtain ⟨e2898, H⟩ := chk_some H
  obtain ⟨e2899, H⟩ := chk_some H
  refine run_region rfl ?_
  refine ops_ex rfl (guard_none rfl) rfl rfl (ex_move rfl rfl) ?_
  refine ops_ex rfl (guard_none rfl) rfl rfl (ex_sub rfl rfl rfl) ?_
  refine ops_ex rfl (guard_none rfl) rfl rfl (ex_quok rfl rfl rfl e2898) ?_
  refine ops_ex rfl (guard_none rfl) rfl rfl (ex_conv rfl rfl (by rw [Tryd.underlying2]; rfl) Tryd.underlying133) ?_
  refine ops_ex rfl (guard_none rfl) rfl rfl (ex_shr rfl rfl rfl e2899) ?_
  refine ops_ex rfl (guard_none rfl) rfl rfl (ex_assign rfl rfl) ?_
  refine ops_nil ?_
  refine at_then ?_
  refine run_ret ?_
  have hR := Option.some.inj H
  subst hR
  exact at_ret1 rfl rfl ⟨_, rfl, rfl, HM⟩

def spec_RewardOf.f (k : Nat) (x0 : Int) : Option IntResult := ((spec_l1In.f k x0 1 40).bind fun t2906 => (bif !t2906 then some (⟨3, 0⟩ : IntResult) else ((spec_l7Reward.f k x0).bind fun t2911 => some (⟨0, t2911⟩ : IntResult))))
theorem spec_RewardOf.calls {k : Nat} {x0 : Int}  {w : World}  {r : IntResult} (H : spec_RewardOf.f k x0 = some r) :
    Calls Tryd.prog 28 ([.int .i64 x0] : List Value).toArray w (fun e w_ => ∃ v, e = .returned v ∧ v = (.agg #[.int .i64 r.fCode, .int .i64 r.fValue]) ∧ Mem w [] w_ []) := by
  have HM := Mem.start w
  refine calls_run (N := 10) Tryd.func28 rfl rfl rfl rfl ?_
  unfold spec_RewardOf.f at H
  refine run_seq ?_
  refine run_region rfl ?_
  refine ops_does rfl (guard_none rfl) rfl rfl (does_alloc (cs := [.int .i64 0, .int .i64 0]) rfl tz60 rfl HM) ?_
  rintro _ w2905 ⟨b2902, rfl, HM⟩
  refine ops_nil ?_
  refine at_then ?_
  refine run_seq ?_
  refine run_seq ?_
  obtain ⟨t2906, h2907, H⟩ := bind_some H
  refine run_region rfl ?_
  refine ops_ex rfl (guard_none rfl) rfl rfl (ex_move rfl rfl) ?_
  refine ops_does rfl (guard_none rfl) rfl rfl (does_callk rfl callok59 rfl (spec_l1In.calls (x0 := x0) (x1 := 1) (x2 := 40) h2907)) ?_
  rintro _ w2908 ⟨rfl, hn⟩
  replace HM : Mem w [] w2908 [box b2902 60 [.int .i64 0, .int .i64 0]] := HM.call hn
  refine ops_ex rfl (guard_none rfl) rfl rfl (ex_not rfl rfl) ?_
  refine ops_nil ?_
  refine at_then ?_
  refine run_cond (b := !t2906) rfl (fun hb2909 => ?_) (fun hb2909 => ?_)
  · replace H := cond_t hb2909 H
    refine run_seq ?_
    refine run_region rfl ?_
    refine ops_ex rfl (guard_none rfl) rfl rfl (ex_build (cells := #[(.int .i64 3), (.int .i64 0)]) rfl rfl (by kernel_rfl)) ?_
    refine ops_doesS rfl (guard_none rfl) rfl (does_store (vs := [.int .i64 3, .int .i64 0]) (cs' := [.int .i64 3, .int .i64 0]) rfl rfl rfl rfl tsz60 (Ones.int (Ones.int Ones.nil)) rfl rfl HM) ?_
    rintro w2910 HM
    refine ops_nil ?_
    refine at_then ?_
    refine run_ret ?_
    refine at_then_ret ?_
    have hcb0 := HM.box_at 0 rfl
    replace HM := (HM.front 0 rfl rfl).drop
    have hR := Option.some.inj H
    subst hR
    exact at_retN rfl rfl Tryd.underlying60 rfl tsz60 rfl hcb0 ⟨_, rfl, rfl, HM⟩
  · replace H := cond_f hb2909 H
    refine run_skip ?_
    refine at_then ?_
    refine run_seq ?_
    obtain ⟨t2911, h2912, H⟩ := bind_some H
    refine run_region rfl ?_
    refine ops_ex rfl (guard_none rfl) rfl rfl (ex_move rfl rfl) ?_
    refine ops_does rfl (guard_none rfl) rfl rfl (does_callk rfl callok60 rfl (spec_l7Reward.calls (x0 := x0) h2912)) ?_
    rintro _ w2913 ⟨rfl, hn⟩
    replace HM : Mem w [] w2913 [box b2902 60 [.int .i64 0, .int .i64 0]] := HM.call hn
    refine ops_ex rfl (guard_none rfl) rfl rfl (ex_build (cells := #[(.int .i64 0), (.int .i64 t2911)]) rfl rfl (by kernel_rfl)) ?_
    refine ops_doesS rfl (guard_none rfl) rfl (does_store (vs := [.int .i64 0, .int .i64 t2911]) (cs' := [.int .i64 0, .int .i64 t2911]) rfl rfl rfl rfl tsz60 (Ones.int (Ones.int Ones.nil)) rfl rfl HM) ?_
    rintro w2914 HM
    refine ops_nil ?_
    refine at_then ?_
    refine run_ret ?_
    have hcb0 := HM.box_at 0 rfl
    replace HM := (HM.front 0 rfl rfl).drop
    have hR := Option.some.inj H
    subst hR
    exact at_retN rfl rfl Tryd.underlying60 rfl tsz60 rfl hcb0 ⟨_, rfl, rfl, HM⟩

def laws_FnBlocks.f (k : Nat) (x0 : List Int) : Option Bool := ((laws_lwBig.f k x0).bind fun t2920 => (bif t2920 then some true else ((spec_DrawParseBlock.f k x0).bind fun t2924 => ((impl_ParseBlock.f k t2924).bind fun t2927 => ((bif (t2927.fCode == 0) then impl_BlockText.f k t2927.fBlock else some default).bind fun t2944 => ((bif ((!((t2927.fCode == 0) && (!sEq t2944.fText t2924))) && (t2927.fCode != 0)) then spec_ParseBlock.f k t2924 else some default).bind fun t2946 => (bif (((t2927.fCode == 0) && (!sEq t2944.fText t2924)) || ((t2927.fCode != 0) && (t2946.fCode != t2927.fCode))) then some false else ((spec_DrawBlockText.f k x0).bind fun t2963 => ((impl_BlockText.f k t2963).bind fun t2973 => (bif (t2973.fCode != 0) then ((spec_BlockText.f k t2963).bind fun t2987 => ((bif (t2987.fCode == t2973.fCode) then impl_BlockFault.f k t2963 else some default).bind fun t2989 => some ((t2987.fCode == t2973.fCode) && (t2989 == t2973.fCode)))) else ((impl_ParseBlock.f k t2973.fText).bind fun t2996 => ((spec_DrawRewardOf.f k x0).bind fun t3006 => ((impl_RewardOf.f k t3006).bind fun t3009 => ((impl_RewardOf.f k (wrap64 (t3006 + 1))).bind fun t3017 => ((bif ((((t2996.fCode == 0) && (t2996.fBlock.fPrev == t2963.fPrev)) && (t2996.fBlock.fHeight == t2963.fHeight)) && (t2996.fBlock.fMiner == t2963.fMiner)) then laws_lwNums.f k t2996.fBlock.fTxs t2963.fTxs else some default).bind fun t3025 => ((bif ((((((t2996.fCode == 0) && (t2996.fBlock.fPrev == t2963.fPrev)) && (t2996.fBlock.fHeight == t2963.fHeight)) && (t2996.fBlock.fMiner == t2963.fMiner)) && t3025) && (decide (10 < (t2973.fText.size : Int)))) then spec_RewardOf.f k t3006 else some default).bind fun t3027 => some ((((((((t2996.fCode == 0) && (t2996.fBlock.fPrev == t2963.fPrev)) && (t2996.fBlock.fHeight == t2963.fHeight)) && (t2996.fBlock.fMiner == t2963.fMiner)) && t3025) && (decide (10 < (t2973.fText.size : Int)))) && (t3009.fValue == t3027.fValue)) && (((t3009.fCode != 0) || (t3017.fCode != 0)) || (decide (t3017.fValue ≤ t3009.fValue))))))))))))))))))))
theorem laws_FnBlocks.calls {k : Nat} {x0 : List Int} {p0 : Value} {w : World} (htab : TabP w) (hp0 : RdS kU8 w p0 x0) {r : Bool} (H : laws_FnBlocks.f k x0 = some r) :
    Calls Tryd.prog 5 ([p0] : List Value).toArray w (fun e w_ => ∃ v, e = .returned v ∧ v = (.bool r) ∧ Mem w [] w_ []) := by
  have HM := Mem.start w
  refine calls_run (N := 137) Tryd.func5 rfl rfl rfl rfl ?_
  unfold laws_FnBlocks.f at H
  refine run_seq ?_
  refine run_region rfl ?_
  refine ops_ex rfl (guard_none rfl) rfl rfl (ex_assign rfl rfl) ?_
  refine ops_nil ?_
  refine at_then ?_
  refine run_seq ?_
  refine run_seq ?_
  obtain ⟨t2920, h2921, H⟩ := bind_some H
  refine run_region rfl ?_
  refine ops_ex rfl (guard_none rfl) rfl rfl (ex_move rfl rfl) ?_
  refine ops_does rfl (guard_none rfl) rfl rfl (does_callk rfl callok17 rfl (laws_lwBig.calls (x0 := x0) (HM.rd hp0) h2921)) ?_
  rintro _ w2922 ⟨rfl, hn⟩
  replace HM : Mem w [] w2922 [] := HM.call hn
  refine ops_nil ?_
  refine at_then ?_
  refine run_cond (b := t2920) rfl (fun hb2923 => ?_) (fun hb2923 => ?_)
  · replace H := cond_t hb2923 H
    refine run_seq ?_
    refine run_region rfl ?_
    refine ops_ex rfl (guard_none rfl) rfl rfl (ex_assign rfl rfl) ?_
    refine ops_nil ?_
    refine at_then ?_
    refine run_ret ?_
    refine at_then_ret ?_
    have hR := Option.some.inj H
    subst hR
    exact at_ret1 rfl rfl ⟨_, rfl, rfl, HM⟩
  · replace H := cond_f hb2923 H
    refine run_skip ?_
    refine at_then ?_
    refine run_seq ?_
    obtain ⟨t2924, h2925, H⟩ := bind_some H
    refine run_region rfl ?_
    refine ops_ex rfl (guard_none rfl) rfl rfl (ex_move rfl rfl) ?_
    refine ops_does rfl (guard_none rfl) rfl rfl (does_callk rfl callok18 rfl (spec_DrawParseBlock.calls (x0 := x0) (HM.rd hp0) h2925)) ?_
    rintro _ w2926 ⟨rfl, hn⟩
    replace HM : Mem w [] w2926 [] := HM.call hn
    refine ops_ex rfl (guard_none rfl) rfl rfl (ex_assign rfl rfl) ?_
    refine ops_nil ?_
    refine at_then ?_
    refine run_seq ?_
    obtain ⟨t2927, h2928, H⟩ := bind_some H
    refine run_region rfl ?_
    refine ops_ex rfl (guard_none rfl) rfl rfl (ex_move rfl rfl) ?_
    refine ops_does rfl (guard_none rfl) rfl rfl (does_callk rfl callok19 rfl (impl_ParseBlock.calls (x0 := t2924) (HM.tabP htab) h2928)) ?_
    rintro _ w2934 ⟨u2929, rfl, hn⟩
    replace HM : Mem w [] w2934 [own kInt 2 u2929 t2927.fBlock.fTxs] := HM.call hn
    refine ops_does rfl (guard_none rfl) rfl rfl (does_alloc (cs := [.int .i64 0, .int .i64 0, .int .i64 0, .int .i64 0, .slice none 0 0]) rfl tz53 rfl HM) ?_
    rintro _ w2935 ⟨b2931, rfl, HM⟩
    refine ops_doesS rfl (guard_none rfl) rfl (does_store (vs := [.int .i64 t2927.fCode, .int .i64 t2927.fBlock.fPrev, .int .i64 t2927.fBlock.fHeight, .int .i64 t2927.fBlock.fMiner, u2929]) (cs' := [.int .i64 t2927.fCode, .int .i64 t2927.fBlock.fPrev, .int .i64 t2927.fBlock.fHeight, .int .i64 t2927.fBlock.fMiner, u2929]) rfl rfl rfl rfl tsz53 (Ones.int (Ones.int (Ones.int (Ones.int (Ones.rd (HM.own_rd 1 rfl) Ones.nil))))) rfl rfl HM) ?_
    rintro w2936 HM
    refine ops_nil ?_
    refine at_then ?_
    refine run_seq ?_
    refine run_seq ?_
    obtain ⟨t2944, h2945, H⟩ := bind_some H
    obtain ⟨t2946, h2947, H⟩ := bind_some H
    refine run_meet (fun ρ_ w_ => ρ_ = [(0, p0), (40, .bool (((t2927.fCode == 0) && (!sEq t2944.fText t2924)) || ((t2927.fCode != 0) && (t2946.fCode != t2927.fCode))))] ∧ Mem w [] w_ []) ?_ ?_
    · skip
      refine run_drawf (fun w_ => Mem w [] w_ [box b2931 53 [.int .i64 t2927.fCode, .int .i64 t2927.fBlock.fPrev, .int .i64 t2927.fBlock.fHeight, .int .i64 t2927.fBlock.fMiner, u2929], own kInt 2 u2929 t2927.fBlock.fTxs]) [(0, true), (1, true), (2, true), (3, true), (4, true), (5, true), (8, true), (6, false), (7, true), (9, true), (10, true), (11, true), (12, true), (13, true), (14, true), (15, true), (16, true), (19, true), (20, true), (17, false), (18, true), (21, true), (22, true), (23, true)] mixed rfl rfl (by kernel_rfl) ?_
      replace HM := HM.grow (fr_drew _)
      have hS := Mem.suf (M := []) HM
      refine drwp_take rfl (guard_none rfl) rfl rfl (fun w_ hS_ => (ex_fieldAddr (off' := 0) rfl rfl Tryd.underlying53 rfl tsz2 rfl)) hS ?_
      refine drwp_take rfl (guard_none rfl) rfl rfl (fun w_ hS_ => (ex_load1 rfl rfl Tryd.underlying2 rfl ((hS_.box_at 0 rfl) 0 _ rfl))) hS ?_
      refine drwp_take rfl (guard_none rfl) rfl rfl (fun w_ hS_ => (ex_eql rfl rfl rfl)) hS ?_
      refine drwp_take rfl (guard_none rfl) rfl rfl (fun w_ hS_ => (ex_move rfl rfl)) hS ?_
      refine bool_cases (t2927.fCode == 0) (fun hg2950 => ?_) (fun hg2950 => ?_)
      · skip
        refine drwp_take rfl (guard_on rfl rfl rfl hg2950) rfl rfl (fun w_ hS_ => (ex_fieldAddr (off' := 1) rfl rfl Tryd.underlying53 rfl tsz51 rfl)) hS ?_
        refine drwp_take rfl (guard_on rfl rfl rfl hg2950) rfl rfl (fun w_ hS_ => (ex_loadN (cs := [(.int .i64 t2927.fBlock.fPrev), (.int .i64 t2927.fBlock.fHeight), (.int .i64 t2927.fBlock.fMiner), u2929]) rfl rfl Tryd.underlying51 rfl tsz51 rfl ((hS_.box_at 0 rfl).sub 1 4 rfl))) hS ?_
        refine drwp_take rfl (guard_on rfl rfl rfl hg2950) rfl rfl (fun w_ hS_ => (ex_move rfl rfl)) hS ?_
        refine drwp_one rfl (guard_on rfl rfl rfl hg2950) rfl rfl (does_callk rfl callok20 rfl (impl_BlockText.calls (x0 := t2927.fBlock) (HM.tabP htab) (HM.own_rd 1 rfl) (cond_t hg2950 h2945))) ?_
        rintro _ w2951 ⟨rfl, hn⟩
        replace HM : Mem w [] w2951 [box b2931 53 [.int .i64 t2927.fCode, .int .i64 t2927.fBlock.fPrev, .int .i64 t2927.fBlock.fHeight, .int .i64 t2927.fBlock.fMiner, u2929], own kInt 2 u2929 t2927.fBlock.fTxs] := HM.call hn
        refine ⟨Mem.suf (M := []) HM, ?_⟩
        have hS := Mem.suf (M := []) HM
        refine drwp_take rfl (guard_on rfl rfl rfl hg2950) rfl rfl (fun w_ hS_ => (ex_field1 rfl rfl Tryd.underlying28 rfl Tryd.underlying9 rfl rfl)) hS ?_
        refine drwp_take rfl (guard_on rfl rfl rfl hg2950) rfl rfl (fun w_ hS_ => (ex_sneq rfl rfl rfl)) hS ?_
        refine drwp_take (v := .bool ((t2927.fCode == 0) && (!sEq t2944.fText t2924))) rfl (guard_none rfl) rfl rfl (fun w_ hS_ => (ex_pand_t rfl rfl hg2950 rfl)) hS ?_
        refine drwp_take rfl (guard_none rfl) rfl rfl (fun w_ hS_ => (ex_move rfl rfl)) hS ?_
        refine bool_cases ((t2927.fCode == 0) && (!sEq t2944.fText t2924)) (fun hg2952 => ?_) (fun hg2952 => ?_)
        · skip
          refine drwp_off rfl (guard_off rfl rfl rfl hg2952) rfl rfl hS ?_
          refine drwp_off rfl (guard_off rfl rfl rfl hg2952) rfl rfl hS ?_
          refine drwp_off rfl (guard_off rfl rfl rfl hg2952) rfl rfl hS ?_
          refine drwp_off rfl (guard_off rfl rfl rfl hg2952) rfl rfl hS ?_
          refine drwp_off rfl (guard_undef rfl rfl rfl) rfl rfl hS ?_
          refine drwp_off rfl (guard_undef rfl rfl rfl) rfl rfl hS ?_
          refine drwp_off rfl (guard_undef rfl rfl rfl) rfl rfl hS ?_
          refine drwp_off1 rfl (guard_undef rfl rfl rfl) rfl rfl ⟨hS, ?_⟩
          refine drwp_off rfl (guard_undef rfl rfl rfl) rfl rfl hS ?_
          refine drwp_off rfl (guard_undef rfl rfl rfl) rfl rfl hS ?_
          refine drwp_off rfl (guard_off rfl rfl rfl hg2952) rfl rfl hS ?_
          have hg2953 : (((t2927.fCode == 0) && (!sEq t2944.fText t2924)) || ((t2927.fCode != 0) && (t2946.fCode != t2927.fCode))) = true := by simp only [hg2952, Bool.and_true, Bool.true_and, Bool.and_false, Bool.false_and, Bool.or_true, Bool.true_or, Bool.or_false, Bool.false_or, Bool.not_true, Bool.not_false, Bool.not_not]
          refine drwp_take (v := .bool (((t2927.fCode == 0) && (!sEq t2944.fText t2924)) || ((t2927.fCode != 0) && (t2946.fCode != t2927.fCode)))) rfl (guard_none rfl) rfl rfl (fun w_ hS_ => (ex_por_t rfl rfl hg2952)) hS ?_
          refine drwp_done ?_
          replace HM := (HM.front 0 rfl rfl).drop
          replace HM := (HM.front 0 rfl rfl).drop
          exact at_meet [(0, p0), (40, .bool (((t2927.fCode == 0) && (!sEq t2944.fText t2924)) || ((t2927.fCode != 0) && (t2946.fCode != t2927.fCode))))] ⟨rfl, HM⟩ (Sub.cons rfl (Sub.cons rfl Sub.nil))
        · skip
          refine drwp_take rfl (guard_on rfl rfl rfl hg2952) rfl rfl (fun w_ hS_ => (ex_fieldAddr (off' := 0) rfl rfl Tryd.underlying53 rfl tsz2 rfl)) hS ?_
          refine drwp_take rfl (guard_on rfl rfl rfl hg2952) rfl rfl (fun w_ hS_ => (ex_load1 rfl rfl Tryd.underlying2 rfl ((hS_.box_at 0 rfl) 0 _ rfl))) hS ?_
          refine drwp_take rfl (guard_on rfl rfl rfl hg2952) rfl rfl (fun w_ hS_ => (ex_neq rfl rfl rfl)) hS ?_
          refine drwp_take rfl (guard_on rfl rfl rfl hg2952) rfl rfl (fun w_ hS_ => (ex_move rfl rfl)) hS ?_
          refine bool_cases (t2927.fCode != 0) (fun hg2954 => ?_) (fun hg2954 => ?_)
          · skip
            refine drwp_take rfl (guard_on rfl rfl rfl hg2954) rfl rfl (fun w_ hS_ => (ex_move rfl rfl)) hS ?_
            refine drwp_take rfl (guard_on rfl rfl rfl hg2954) rfl rfl (fun w_ hS_ => (ex_fieldAddr (off' := 0) rfl rfl Tryd.underlying53 rfl tsz2 rfl)) hS ?_
            refine drwp_take rfl (guard_on rfl rfl rfl hg2954) rfl rfl (fun w_ hS_ => (ex_load1 rfl rfl Tryd.underlying2 rfl ((hS_.box_at 0 rfl) 0 _ rfl))) hS ?_
            refine drwp_one rfl (guard_on rfl rfl rfl hg2954) rfl rfl (does_callk rfl callok21 rfl (spec_ParseBlock.calls (x0 := t2924) (cond_t (and_mk (not_mk hg2952) hg2954) h2947))) ?_
            rintro _ w2955 ⟨u2948, rfl, hn⟩
            replace HM : Mem w [] w2955 [own kInt 2 u2948 t2946.fBlock.fTxs, box b2931 53 [.int .i64 t2927.fCode, .int .i64 t2927.fBlock.fPrev, .int .i64 t2927.fBlock.fHeight, .int .i64 t2927.fBlock.fMiner, u2929], own kInt 2 u2929 t2927.fBlock.fTxs] := HM.call hn
            refine ⟨Mem.suf (M := [own kInt 2 u2948 t2946.fBlock.fTxs]) HM, ?_⟩
            have hS := Mem.suf (M := [own kInt 2 u2948 t2946.fBlock.fTxs]) HM
            refine drwp_take rfl (guard_on rfl rfl rfl hg2954) rfl rfl (fun w_ hS_ => (ex_field1 rfl rfl Tryd.underlying53 rfl Tryd.underlying2 rfl rfl)) hS ?_
            refine drwp_take rfl (guard_on rfl rfl rfl hg2954) rfl rfl (fun w_ hS_ => (ex_neq rfl rfl rfl)) hS ?_
            refine drwp_take (v := .bool ((t2927.fCode != 0) && (t2946.fCode != t2927.fCode))) rfl (guard_on rfl rfl rfl hg2952) rfl rfl (fun w_ hS_ => (ex_pand_t rfl rfl hg2954 rfl)) hS ?_
            refine drwp_take (v := .bool (((t2927.fCode == 0) && (!sEq t2944.fText t2924)) || ((t2927.fCode != 0) && (t2946.fCode != t2927.fCode)))) rfl (guard_none rfl) rfl rfl (fun w_ hS_ => (ex_por_f rfl rfl hg2952 rfl)) hS ?_
            refine drwp_done ?_
            replace HM := (HM.front 0 rfl rfl).drop
            replace HM := (HM.front 0 rfl rfl).drop
            replace HM := (HM.front 0 rfl rfl).drop
            exact at_meet [(0, p0), (40, .bool (((t2927.fCode == 0) && (!sEq t2944.fText t2924)) || ((t2927.fCode != 0) && (t2946.fCode != t2927.fCode))))] ⟨rfl, HM⟩ (Sub.cons rfl (Sub.cons rfl Sub.nil))
          · skip
            refine drwp_off rfl (guard_off rfl rfl rfl hg2954) rfl rfl hS ?_
            refine drwp_off rfl (guard_off rfl rfl rfl hg2954) rfl rfl hS ?_
            refine drwp_off rfl (guard_off rfl rfl rfl hg2954) rfl rfl hS ?_
            refine drwp_off1 rfl (guard_off rfl rfl rfl hg2954) rfl rfl ⟨hS, ?_⟩
            refine drwp_off rfl (guard_off rfl rfl rfl hg2954) rfl rfl hS ?_
            refine drwp_off rfl (guard_off rfl rfl rfl hg2954) rfl rfl hS ?_
            have hg2956 : ((t2927.fCode != 0) && (t2946.fCode != t2927.fCode)) = false := by simp only [hg2954, Bool.and_true, Bool.true_and, Bool.and_false, Bool.false_and, Bool.or_true, Bool.true_or, Bool.or_false, Bool.false_or, Bool.not_true, Bool.not_false, Bool.not_not]
            refine drwp_take (v := .bool ((t2927.fCode != 0) && (t2946.fCode != t2927.fCode))) rfl (guard_on rfl rfl rfl hg2952) rfl rfl (fun w_ hS_ => (ex_pand_f rfl rfl hg2954)) hS ?_
            refine drwp_take (v := .bool (((t2927.fCode == 0) && (!sEq t2944.fText t2924)) || ((t2927.fCode != 0) && (t2946.fCode != t2927.fCode)))) rfl (guard_none rfl) rfl rfl (fun w_ hS_ => (ex_por_f rfl rfl hg2952 rfl)) hS ?_
            refine drwp_done ?_
            replace HM := (HM.front 0 rfl rfl).drop
            replace HM := (HM.front 0 rfl rfl).drop
            exact at_meet [(0, p0), (40, .bool (((t2927.fCode == 0) && (!sEq t2944.fText t2924)) || ((t2927.fCode != 0) && (t2946.fCode != t2927.fCode))))] ⟨rfl, HM⟩ (Sub.cons rfl (Sub.cons rfl Sub.nil))
      · skip
        refine drwp_off rfl (guard_off rfl rfl rfl hg2950) rfl rfl hS ?_
        refine drwp_off rfl (guard_off rfl rfl rfl hg2950) rfl rfl hS ?_
        refine drwp_off rfl (guard_off rfl rfl rfl hg2950) rfl rfl hS ?_
        refine drwp_off1 rfl (guard_off rfl rfl rfl hg2950) rfl rfl ⟨hS, ?_⟩
        refine drwp_off rfl (guard_off rfl rfl rfl hg2950) rfl rfl hS ?_
        refine drwp_off rfl (guard_off rfl rfl rfl hg2950) rfl rfl hS ?_
        have hg2957 : ((t2927.fCode == 0) && (!sEq t2944.fText t2924)) = false := by simp only [hg2950, Bool.and_true, Bool.true_and, Bool.and_false, Bool.false_and, Bool.or_true, Bool.true_or, Bool.or_false, Bool.false_or, Bool.not_true, Bool.not_false, Bool.not_not]
        refine drwp_take (v := .bool ((t2927.fCode == 0) && (!sEq t2944.fText t2924))) rfl (guard_none rfl) rfl rfl (fun w_ hS_ => (ex_pand_f rfl rfl hg2950)) hS ?_
        refine drwp_take rfl (guard_none rfl) rfl rfl (fun w_ hS_ => (ex_move rfl rfl)) hS ?_
        refine drwp_take rfl (guard_on rfl rfl rfl hg2957) rfl rfl (fun w_ hS_ => (ex_fieldAddr (off' := 0) rfl rfl Tryd.underlying53 rfl tsz2 rfl)) hS ?_
        refine drwp_take rfl (guard_on rfl rfl rfl hg2957) rfl rfl (fun w_ hS_ => (ex_load1 rfl rfl Tryd.underlying2 rfl ((hS_.box_at 0 rfl) 0 _ rfl))) hS ?_
        refine drwp_take rfl (guard_on rfl rfl rfl hg2957) rfl rfl (fun w_ hS_ => (ex_neq rfl rfl rfl)) hS ?_
        refine drwp_take rfl (guard_on rfl rfl rfl hg2957) rfl rfl (fun w_ hS_ => (ex_move rfl rfl)) hS ?_
        refine bool_cases (t2927.fCode != 0) (fun hg2958 => ?_) (fun hg2958 => ?_)
        · skip
          refine drwp_take rfl (guard_on rfl rfl rfl hg2958) rfl rfl (fun w_ hS_ => (ex_move rfl rfl)) hS ?_
          refine drwp_take rfl (guard_on rfl rfl rfl hg2958) rfl rfl (fun w_ hS_ => (ex_fieldAddr (off' := 0) rfl rfl Tryd.underlying53 rfl tsz2 rfl)) hS ?_
          refine drwp_take rfl (guard_on rfl rfl rfl hg2958) rfl rfl (fun w_ hS_ => (ex_load1 rfl rfl Tryd.underlying2 rfl ((hS_.box_at 0 rfl) 0 _ rfl))) hS ?_
          refine drwp_one rfl (guard_on rfl rfl rfl hg2958) rfl rfl (does_callk rfl callok21 rfl (spec_ParseBlock.calls (x0 := t2924) (cond_t (and_mk (not_mk hg2957) hg2958) h2947))) ?_
          rintro _ w2959 ⟨u2948, rfl, hn⟩
          replace HM : Mem w [] w2959 [own kInt 2 u2948 t2946.fBlock.fTxs, box b2931 53 [.int .i64 t2927.fCode, .int .i64 t2927.fBlock.fPrev, .int .i64 t2927.fBlock.fHeight, .int .i64 t2927.fBlock.fMiner, u2929], own kInt 2 u2929 t2927.fBlock.fTxs] := HM.call hn
          refine ⟨Mem.suf (M := [own kInt 2 u2948 t2946.fBlock.fTxs]) HM, ?_⟩
          have hS := Mem.suf (M := [own kInt 2 u2948 t2946.fBlock.fTxs]) HM
          refine drwp_take rfl (guard_on rfl rfl rfl hg2958) rfl rfl (fun w_ hS_ => (ex_field1 rfl rfl Tryd.underlying53 rfl Tryd.underlying2 rfl rfl)) hS ?_
          refine drwp_take rfl (guard_on rfl rfl rfl hg2958) rfl rfl (fun w_ hS_ => (ex_neq rfl rfl rfl)) hS ?_
          refine drwp_take (v := .bool ((t2927.fCode != 0) && (t2946.fCode != t2927.fCode))) rfl (guard_on rfl rfl rfl hg2957) rfl rfl (fun w_ hS_ => (ex_pand_t rfl rfl hg2958 rfl)) hS ?_
          refine drwp_take (v := .bool (((t2927.fCode == 0) && (!sEq t2944.fText t2924)) || ((t2927.fCode != 0) && (t2946.fCode != t2927.fCode)))) rfl (guard_none rfl) rfl rfl (fun w_ hS_ => (ex_por_f rfl rfl hg2957 rfl)) hS ?_
          refine drwp_done ?_
          replace HM := (HM.front 0 rfl rfl).drop
          replace HM := (HM.front 0 rfl rfl).drop
          replace HM := (HM.front 0 rfl rfl).drop
          exact at_meet [(0, p0), (40, .bool (((t2927.fCode == 0) && (!sEq t2944.fText t2924)) || ((t2927.fCode != 0) && (t2946.fCode != t2927.fCode))))] ⟨rfl, HM⟩ (Sub.cons rfl (Sub.cons rfl Sub.nil))
        · skip
          refine drwp_off rfl (guard_off rfl rfl rfl hg2958) rfl rfl hS ?_
          refine drwp_off rfl (guard_off rfl rfl rfl hg2958) rfl rfl hS ?_
          refine drwp_off rfl (guard_off rfl rfl rfl hg2958) rfl rfl hS ?_
          refine drwp_off1 rfl (guard_off rfl rfl rfl hg2958) rfl rfl ⟨hS, ?_⟩
          refine drwp_off rfl (guard_off rfl rfl rfl hg2958) rfl rfl hS ?_
          refine drwp_off rfl (guard_off rfl rfl rfl hg2958) rfl rfl hS ?_
          have hg2960 : ((t2927.fCode != 0) && (t2946.fCode != t2927.fCode)) = false := by simp only [hg2958, Bool.and_true, Bool.true_and, Bool.and_false, Bool.false_and, Bool.or_true, Bool.true_or, Bool.or_false, Bool.false_or, Bool.not_true, Bool.not_false, Bool.not_not]
          refine drwp_take (v := .bool ((t2927.fCode != 0) && (t2946.fCode != t2927.fCode))) rfl (guard_on rfl rfl rfl hg2957) rfl rfl (fun w_ hS_ => (ex_pand_f rfl rfl hg2958)) hS ?_
          refine drwp_take (v := .bool (((t2927.fCode == 0) && (!sEq t2944.fText t2924)) || ((t2927.fCode != 0) && (t2946.fCode != t2927.fCode)))) rfl (guard_none rfl) rfl rfl (fun w_ hS_ => (ex_por_f rfl rfl hg2957 rfl)) hS ?_
          refine drwp_done ?_
          replace HM := (HM.front 0 rfl rfl).drop
          replace HM := (HM.front 0 rfl rfl).drop
          exact at_meet [(0, p0), (40, .bool (((t2927.fCode == 0) && (!sEq t2944.fText t2924)) || ((t2927.fCode != 0) && (t2946.fCode != t2927.fCode))))] ⟨rfl, HM⟩ (Sub.cons rfl (Sub.cons rfl Sub.nil))
    · rintro _ w2961 ⟨rfl, HM⟩
      refine at_then ?_
      refine run_cond (b := (((t2927.fCode == 0) && (!sEq t2944.fText t2924)) || ((t2927.fCode != 0) && (t2946.fCode != t2927.fCode)))) rfl (fun hb2962 => ?_) (fun hb2962 => ?_)
      · replace H := cond_t hb2962 H
        refine run_seq ?_
        refine run_region rfl ?_
        refine ops_ex rfl (guard_none rfl) rfl rfl (ex_assign rfl rfl) ?_
        refine ops_nil ?_
        refine at_then ?_
        refine run_ret ?_
        refine at_then_ret ?_
        have hR := Option.some.inj H
        subst hR
        exact at_ret1 rfl rfl ⟨_, rfl, rfl, HM⟩
      · replace H := cond_f hb2962 H
        refine run_skip ?_
        refine at_then ?_
        refine run_seq ?_
        obtain ⟨t2963, h2964, H⟩ := bind_some H
        refine run_region rfl ?_
        refine ops_ex rfl (guard_none rfl) rfl rfl (ex_move rfl rfl) ?_
        refine ops_does rfl (guard_none rfl) rfl rfl (does_callk rfl callok22 rfl (spec_DrawBlockText.calls (x0 := x0) (HM.rd hp0) h2964)) ?_
        rintro _ w2970 ⟨u2965, rfl, hn⟩
        replace HM : Mem w [] w2970 [own kInt 2 u2965 t2963.fTxs] := HM.call hn
        refine ops_does rfl (guard_none rfl) rfl rfl (does_alloc (cs := [.int .i64 0, .int .i64 0, .int .i64 0, .slice none 0 0]) rfl tz51 rfl HM) ?_
        rintro _ w2971 ⟨b2967, rfl, HM⟩
        refine ops_doesS rfl (guard_none rfl) rfl (does_store (vs := [.int .i64 t2963.fPrev, .int .i64 t2963.fHeight, .int .i64 t2963.fMiner, u2965]) (cs' := [.int .i64 t2963.fPrev, .int .i64 t2963.fHeight, .int .i64 t2963.fMiner, u2965]) rfl rfl rfl rfl tsz51 (Ones.int (Ones.int (Ones.int (Ones.rd (HM.own_rd 1 rfl) Ones.nil)))) rfl rfl HM) ?_
        rintro w2972 HM
        refine ops_nil ?_
        refine at_then ?_
        refine run_seq ?_
        obtain ⟨t2973, h2974, H⟩ := bind_some H
        refine run_region rfl ?_
        refine ops_ex rfl (guard_none rfl) rfl rfl (ex_loadN (cs := [(.int .i64 t2963.fPrev), (.int .i64 t2963.fHeight), (.int .i64 t2963.fMiner), u2965]) rfl rfl Tryd.underlying51 rfl tsz51 rfl ((HM.box_at 0 rfl).sub 0 4 rfl)) ?_
        refine ops_does rfl (guard_none rfl) rfl rfl (does_callk rfl callok20 rfl (impl_BlockText.calls (x0 := t2963) (HM.tabP htab) (HM.own_rd 1 rfl) h2974)) ?_
        rintro _ w2978 ⟨rfl, hn⟩
        replace HM : Mem w [] w2978 [box b2967 51 [.int .i64 t2963.fPrev, .int .i64 t2963.fHeight, .int .i64 t2963.fMiner, u2965], own kInt 2 u2965 t2963.fTxs] := HM.call hn
        refine ops_does rfl (guard_none rfl) rfl rfl (does_alloc (cs := [.int .i64 0, .string (⟨#[]⟩ : ByteArray)]) rfl tz28 rfl HM) ?_
        rintro _ w2979 ⟨b2975, rfl, HM⟩
        refine ops_doesS rfl (guard_none rfl) rfl (does_store (vs := [.int .i64 t2973.fCode, .string t2973.fText]) (cs' := [.int .i64 t2973.fCode, .string t2973.fText]) rfl rfl rfl rfl tsz28 (Ones.int (Ones.str Ones.nil)) rfl rfl HM) ?_
        rintro w2980 HM
        refine ops_nil ?_
        refine at_then ?_
        refine run_seq ?_
        refine run_seq ?_
        refine run_region rfl ?_
        refine ops_ex rfl (guard_none rfl) rfl rfl (ex_fieldAddr (off' := 0) rfl rfl Tryd.underlying28 rfl tsz2 rfl) ?_
        refine ops_ex rfl (guard_none rfl) rfl rfl (ex_load1 rfl rfl Tryd.underlying2 rfl ((HM.box_at 0 rfl) 0 _ rfl)) ?_
        refine ops_ex rfl (guard_none rfl) rfl rfl (ex_neq rfl rfl rfl) ?_
        refine ops_nil ?_
        refine at_then ?_
        refine run_cond (b := (t2973.fCode != 0)) rfl (fun hb2986 => ?_) (fun hb2986 => ?_)
        · replace H := cond_t hb2986 H
          refine run_seq ?_
          obtain ⟨t2987, h2988, H⟩ := bind_some H
          obtain ⟨t2989, h2990, H⟩ := bind_some H
          refine run_meet (fun ρ_ w_ => ρ_ = [(2, .bool ((t2987.fCode == t2973.fCode) && (t2989 == t2973.fCode)))] ∧ Mem w [] w_ []) ?_ ?_
          · skip
            refine run_drawf (fun w_ => Mem w [] w_ [box b2975 28 [.int .i64 t2973.fCode, .string t2973.fText], box b2967 51 [.int .i64 t2963.fPrev, .int .i64 t2963.fHeight, .int .i64 t2963.fMiner, u2965], own kInt 2 u2965 t2963.fTxs]) [(0, true), (3, true), (4, true), (1, false), (2, true), (5, true), (6, true), (7, true), (9, true), (10, true), (8, false), (11, true), (12, true), (13, true)] mixed rfl rfl (by kernel_rfl) ?_
            replace HM := HM.grow (fr_drew _)
            have hS := Mem.suf (M := []) HM
            refine drwp_take rfl (guard_none rfl) rfl rfl (fun w_ hS_ => (ex_loadN (cs := [(.int .i64 t2963.fPrev), (.int .i64 t2963.fHeight), (.int .i64 t2963.fMiner), u2965]) rfl rfl Tryd.underlying51 rfl tsz51 rfl ((hS_.box_at 1 rfl).sub 0 4 rfl))) hS ?_
            refine drwp_take rfl (guard_none rfl) rfl rfl (fun w_ hS_ => (ex_fieldAddr (off' := 0) rfl rfl Tryd.underlying28 rfl tsz2 rfl)) hS ?_
            refine drwp_take rfl (guard_none rfl) rfl rfl (fun w_ hS_ => (ex_load1 rfl rfl Tryd.underlying2 rfl ((hS_.box_at 0 rfl) 0 _ rfl))) hS ?_
            refine drwp_one rfl (guard_none rfl) rfl rfl (does_callk rfl callok23 rfl (spec_BlockText.calls (x0 := t2963) (HM.own_rd 2 rfl) h2988)) ?_
            rintro _ w2991 ⟨rfl, hn⟩
            replace HM : Mem w [] w2991 [box b2975 28 [.int .i64 t2973.fCode, .string t2973.fText], box b2967 51 [.int .i64 t2963.fPrev, .int .i64 t2963.fHeight, .int .i64 t2963.fMiner, u2965], own kInt 2 u2965 t2963.fTxs] := HM.call hn
            refine ⟨Mem.suf (M := []) HM, ?_⟩
            have hS := Mem.suf (M := []) HM
            refine drwp_take rfl (guard_none rfl) rfl rfl (fun w_ hS_ => (ex_field1 rfl rfl Tryd.underlying28 rfl Tryd.underlying2 rfl rfl)) hS ?_
            refine drwp_take rfl (guard_none rfl) rfl rfl (fun w_ hS_ => (ex_eql rfl rfl rfl)) hS ?_
            refine drwp_take rfl (guard_none rfl) rfl rfl (fun w_ hS_ => (ex_move rfl rfl)) hS ?_
            refine bool_cases (t2987.fCode == t2973.fCode) (fun hg2992 => ?_) (fun hg2992 => ?_)
            · skip
              refine drwp_take rfl (guard_on rfl rfl rfl hg2992) rfl rfl (fun w_ hS_ => (ex_loadN (cs := [(.int .i64 t2963.fPrev), (.int .i64 t2963.fHeight), (.int .i64 t2963.fMiner), u2965]) rfl rfl Tryd.underlying51 rfl tsz51 rfl ((hS_.box_at 1 rfl).sub 0 4 rfl))) hS ?_
              refine drwp_take rfl (guard_on rfl rfl rfl hg2992) rfl rfl (fun w_ hS_ => (ex_fieldAddr (off' := 0) rfl rfl Tryd.underlying28 rfl tsz2 rfl)) hS ?_
              refine drwp_take rfl (guard_on rfl rfl rfl hg2992) rfl rfl (fun w_ hS_ => (ex_load1 rfl rfl Tryd.underlying2 rfl ((hS_.box_at 0 rfl) 0 _ rfl))) hS ?_
              refine drwp_one rfl (guard_on rfl rfl rfl hg2992) rfl rfl (does_callk rfl callok24 rfl (impl_BlockFault.calls (x0 := t2963) (HM.own_rd 2 rfl) (cond_t hg2992 h2990))) ?_
              rintro _ w2993 ⟨rfl, hn⟩
              replace HM : Mem w [] w2993 [box b2975 28 [.int .i64 t2973.fCode, .string t2973.fText], box b2967 51 [.int .i64 t2963.fPrev, .int .i64 t2963.fHeight, .int .i64 t2963.fMiner, u2965], own kInt 2 u2965 t2963.fTxs] := HM.call hn
              refine ⟨Mem.suf (M := []) HM, ?_⟩
              have hS := Mem.suf (M := []) HM
              refine drwp_take rfl (guard_on rfl rfl rfl hg2992) rfl rfl (fun w_ hS_ => (ex_eql rfl rfl rfl)) hS ?_
              refine drwp_take (v := .bool ((t2987.fCode == t2973.fCode) && (t2989 == t2973.fCode))) rfl (guard_none rfl) rfl rfl (fun w_ hS_ => (ex_pand_t rfl rfl hg2992 rfl)) hS ?_
              refine drwp_take rfl (guard_none rfl) rfl rfl (fun w_ hS_ => (ex_assign rfl rfl)) hS ?_
              refine drwp_done ?_
              replace HM := (HM.front 0 rfl rfl).drop
              replace HM := (HM.front 0 rfl rfl).drop
              replace HM := (HM.front 0 rfl rfl).drop
              exact at_meet [(2, .bool ((t2987.fCode == t2973.fCode) && (t2989 == t2973.fCode)))] ⟨rfl, HM⟩ (Sub.cons rfl Sub.nil)
            · skip
              refine drwp_off rfl (guard_off rfl rfl rfl hg2992) rfl rfl hS ?_
              refine drwp_off rfl (guard_off rfl rfl rfl hg2992) rfl rfl hS ?_
              refine drwp_off rfl (guard_off rfl rfl rfl hg2992) rfl rfl hS ?_
              refine drwp_off1 rfl (guard_off rfl rfl rfl hg2992) rfl rfl ⟨hS, ?_⟩
              refine drwp_off rfl (guard_off rfl rfl rfl hg2992) rfl rfl hS ?_
              have hg2994 : ((t2987.fCode == t2973.fCode) && (t2989 == t2973.fCode)) = false := by simp only [hg2992, Bool.and_true, Bool.true_and, Bool.and_false, Bool.false_and, Bool.or_true, Bool.true_or, Bool.or_false, Bool.false_or, Bool.not_true, Bool.not_false, Bool.not_not]
              refine drwp_take (v := .bool ((t2987.fCode == t2973.fCode) && (t2989 == t2973.fCode))) rfl (guard_none rfl) rfl rfl (fun w_ hS_ => (ex_pand_f rfl rfl hg2992)) hS ?_
              refine drwp_take rfl (guard_none rfl) rfl rfl (fun w_ hS_ => (ex_assign rfl rfl)) hS ?_
              refine drwp_done ?_
              replace HM := (HM.front 0 rfl rfl).drop
              replace HM := (HM.front 0 rfl rfl).drop
              replace HM := (HM.front 0 rfl rfl).drop
              exact at_meet [(2, .bool ((t2987.fCode == t2973.fCode) && (t2989 == t2973.fCode)))] ⟨rfl, HM⟩ (Sub.cons rfl Sub.nil)
          · rintro _ w2995 ⟨rfl, HM⟩
            refine at_then ?_
            refine run_ret ?_
            refine at_then_ret ?_
            have hR := Option.some.inj H
            subst hR
            exact at_ret1 rfl rfl ⟨_, rfl, rfl, HM⟩
        · replace H := cond_f hb2986 H
          refine run_skip ?_
          refine at_then ?_
          refine run_seq ?_
          obtain ⟨t2996, h2997, H⟩ := bind_some H
          refine run_region rfl ?_
          refine ops_ex rfl (guard_none rfl) rfl rfl (ex_fieldAddr (off' := 1) rfl rfl Tryd.underlying28 rfl tsz9 rfl) ?_
          refine ops_ex rfl (guard_none rfl) rfl rfl (ex_load1 rfl rfl Tryd.underlying9 rfl ((HM.box_at 0 rfl) 1 _ rfl)) ?_
          refine ops_does rfl (guard_none rfl) rfl rfl (does_callk rfl callok19 rfl (impl_ParseBlock.calls (x0 := t2973.fText) (HM.tabP htab) h2997)) ?_
          rintro _ w3003 ⟨u2998, rfl, hn⟩
          replace HM : Mem w [] w3003 [own kInt 2 u2998 t2996.fBlock.fTxs, box b2975 28 [.int .i64 t2973.fCode, .string t2973.fText], box b2967 51 [.int .i64 t2963.fPrev, .int .i64 t2963.fHeight, .int .i64 t2963.fMiner, u2965], own kInt 2 u2965 t2963.fTxs] := HM.call hn
          refine ops_does rfl (guard_none rfl) rfl rfl (does_alloc (cs := [.int .i64 0, .int .i64 0, .int .i64 0, .int .i64 0, .slice none 0 0]) rfl tz53 rfl HM) ?_
          rintro _ w3004 ⟨b3000, rfl, HM⟩
          refine ops_doesS rfl (guard_none rfl) rfl (does_store (vs := [.int .i64 t2996.fCode, .int .i64 t2996.fBlock.fPrev, .int .i64 t2996.fBlock.fHeight, .int .i64 t2996.fBlock.fMiner, u2998]) (cs' := [.int .i64 t2996.fCode, .int .i64 t2996.fBlock.fPrev, .int .i64 t2996.fBlock.fHeight, .int .i64 t2996.fBlock.fMiner, u2998]) rfl rfl rfl rfl tsz53 (Ones.int (Ones.int (Ones.int (Ones.int (Ones.rd (HM.own_rd 1 rfl) Ones.nil))))) rfl rfl HM) ?_
          rintro w3005 HM
          refine ops_nil ?_
          refine at_then ?_
          refine run_seq ?_
          obtain ⟨t3006, h3007, H⟩ := bind_some H
          refine run_region rfl ?_
          refine ops_ex rfl (guard_none rfl) rfl rfl (ex_move rfl rfl) ?_
          refine ops_does rfl (guard_none rfl) rfl rfl (does_callk rfl callok25 rfl (spec_DrawRewardOf.calls (x0 := x0) (HM.rd hp0) h3007)) ?_
          rintro _ w3008 ⟨rfl, hn⟩
          replace HM : Mem w [] w3008 [box b3000 53 [.int .i64 t2996.fCode, .int .i64 t2996.fBlock.fPrev, .int .i64 t2996.fBlock.fHeight, .int .i64 t2996.fBlock.fMiner, u2998], own kInt 2 u2998 t2996.fBlock.fTxs, box b2975 28 [.int .i64 t2973.fCode, .string t2973.fText], box b2967 51 [.int .i64 t2963.fPrev, .int .i64 t2963.fHeight, .int .i64 t2963.fMiner, u2965], own kInt 2 u2965 t2963.fTxs] := HM.call hn
          refine ops_ex rfl (guard_none rfl) rfl rfl (ex_assign rfl rfl) ?_
          refine ops_nil ?_
          refine at_then ?_
          refine run_seq ?_
          obtain ⟨t3009, h3010, H⟩ := bind_some H
          refine run_region rfl ?_
          refine ops_ex rfl (guard_none rfl) rfl rfl (ex_move rfl rfl) ?_
          refine ops_does rfl (guard_none rfl) rfl rfl (does_callk rfl callok26 rfl (impl_RewardOf.calls (x0 := t3006) h3010)) ?_
          rintro _ w3014 ⟨rfl, hn⟩
          replace HM : Mem w [] w3014 [box b3000 53 [.int .i64 t2996.fCode, .int .i64 t2996.fBlock.fPrev, .int .i64 t2996.fBlock.fHeight, .int .i64 t2996.fBlock.fMiner, u2998], own kInt 2 u2998 t2996.fBlock.fTxs, box b2975 28 [.int .i64 t2973.fCode, .string t2973.fText], box b2967 51 [.int .i64 t2963.fPrev, .int .i64 t2963.fHeight, .int .i64 t2963.fMiner, u2965], own kInt 2 u2965 t2963.fTxs] := HM.call hn
          refine ops_does rfl (guard_none rfl) rfl rfl (does_alloc (cs := [.int .i64 0, .int .i64 0]) rfl tz60 rfl HM) ?_
          rintro _ w3015 ⟨b3011, rfl, HM⟩
          refine ops_doesS rfl (guard_none rfl) rfl (does_store (vs := [.int .i64 t3009.fCode, .int .i64 t3009.fValue]) (cs' := [.int .i64 t3009.fCode, .int .i64 t3009.fValue]) rfl rfl rfl rfl tsz60 (Ones.int (Ones.int Ones.nil)) rfl rfl HM) ?_
          rintro w3016 HM
          refine ops_nil ?_
          refine at_then ?_
          refine run_seq ?_
          obtain ⟨t3017, h3018, H⟩ := bind_some H
          refine run_region rfl ?_
          refine ops_ex rfl (guard_none rfl) rfl rfl (ex_move rfl rfl) ?_
          refine ops_ex rfl (guard_none rfl) rfl rfl (ex_add rfl rfl rfl) ?_
          refine ops_does rfl (guard_none rfl) rfl rfl (does_callk rfl callok26 rfl (impl_RewardOf.calls (x0 := wrap64 (t3006 + 1)) h3018)) ?_
          rintro _ w3022 ⟨rfl, hn⟩
          replace HM : Mem w [] w3022 [box b3011 60 [.int .i64 t3009.fCode, .int .i64 t3009.fValue], box b3000 53 [.int .i64 t2996.fCode, .int .i64 t2996.fBlock.fPrev, .int .i64 t2996.fBlock.fHeight, .int .i64 t2996.fBlock.fMiner, u2998], own kInt 2 u2998 t2996.fBlock.fTxs, box b2975 28 [.int .i64 t2973.fCode, .string t2973.fText], box b2967 51 [.int .i64 t2963.fPrev, .int .i64 t2963.fHeight, .int .i64 t2963.fMiner, u2965], own kInt 2 u2965 t2963.fTxs] := HM.call hn
          refine ops_does rfl (guard_none rfl) rfl rfl (does_alloc (cs := [.int .i64 0, .int .i64 0]) rfl tz60 rfl HM) ?_
          rintro _ w3023 ⟨b3019, rfl, HM⟩
          refine ops_doesS rfl (guard_none rfl) rfl (does_store (vs := [.int .i64 t3017.fCode, .int .i64 t3017.fValue]) (cs' := [.int .i64 t3017.fCode, .int .i64 t3017.fValue]) rfl rfl rfl rfl tsz60 (Ones.int (Ones.int Ones.nil)) rfl rfl HM) ?_
          rintro w3024 HM
          refine ops_nil ?_
          refine at_then ?_
          refine run_seq ?_
          obtain ⟨t3025, h3026, H⟩ := bind_some H
          obtain ⟨t3027, h3028, H⟩ := bind_some H
          refine run_meet (fun ρ_ w_ => ρ_ = [(2, .bool ((((((((t2996.fCode == 0) && (t2996.fBlock.fPrev == t2963.fPrev)) && (t2996.fBlock.fHeight == t2963.fHeight)) && (t2996.fBlock.fMiner == t2963.fMiner)) && t3025) && (decide (10 < (t2973.fText.size : Int)))) && (t3009.fValue == t3027.fValue)) && (((t3009.fCode != 0) || (t3017.fCode != 0)) || (decide (t3017.fValue ≤ t3009.fValue)))))] ∧ Mem w [] w_ []) ?_ ?_
          · skip
            refine run_drawf (fun w_ => Mem w [] w_ [box b3019 60 [.int .i64 t3017.fCode, .int .i64 t3017.fValue], box b3011 60 [.int .i64 t3009.fCode, .int .i64 t3009.fValue], box b3000 53 [.int .i64 t2996.fCode, .int .i64 t2996.fBlock.fPrev, .int .i64 t2996.fBlock.fHeight, .int .i64 t2996.fBlock.fMiner, u2998], own kInt 2 u2998 t2996.fBlock.fTxs, box b2975 28 [.int .i64 t2973.fCode, .string t2973.fText], box b2967 51 [.int .i64 t2963.fPrev, .int .i64 t2963.fHeight, .int .i64 t2963.fMiner, u2965], own kInt 2 u2965 t2963.fTxs]) [(0, true), (1, true), (2, true), (3, true), (4, true), (5, true), (6, true), (7, true), (8, true), (9, true), (10, true), (11, true), (12, true), (13, true), (14, true), (15, true), (16, true), (17, true), (18, true), (19, true), (20, true), (21, true), (22, true), (23, true), (24, true), (25, true), (26, true), (27, true), (28, true), (29, true), (30, true), (31, true), (32, true), (33, false), (34, true), (35, true), (36, true), (37, true), (38, true), (39, true), (40, true), (41, true), (42, true), (43, true), (44, true), (45, false), (46, true), (47, true), (48, true), (49, true), (50, true), (51, true), (52, true), (53, true), (54, true), (55, true), (56, true), (57, true), (58, true), (59, true), (60, true), (61, true), (62, true), (63, true), (64, true), (65, true), (66, true)] mixed rfl rfl (by kernel_rfl) ?_
            replace HM := HM.grow (fr_drew _)
            have hS := Mem.suf (M := []) HM
            refine drwp_take rfl (guard_none rfl) rfl rfl (fun w_ hS_ => (ex_fieldAddr (off' := 0) rfl rfl Tryd.underlying53 rfl tsz2 rfl)) hS ?_
            refine drwp_take rfl (guard_none rfl) rfl rfl (fun w_ hS_ => (ex_load1 rfl rfl Tryd.underlying2 rfl ((hS_.box_at 2 rfl) 0 _ rfl))) hS ?_
            refine drwp_take rfl (guard_none rfl) rfl rfl (fun w_ hS_ => (ex_eql rfl rfl rfl)) hS ?_
            refine drwp_take rfl (guard_none rfl) rfl rfl (fun w_ hS_ => (ex_move rfl rfl)) hS ?_
            refine bool_cases (t2996.fCode == 0) (fun hg3029 => ?_) (fun hg3029 => ?_)
            · skip
              refine drwp_take rfl (guard_on rfl rfl rfl hg3029) rfl rfl (fun w_ hS_ => (ex_fieldAddr (off' := 1) rfl rfl Tryd.underlying53 rfl tsz51 rfl)) hS ?_
              refine drwp_take rfl (guard_on rfl rfl rfl hg3029) rfl rfl (fun w_ hS_ => (ex_fieldAddr (off' := 1) rfl rfl Tryd.underlying51 rfl tsz2 rfl)) hS ?_
              refine drwp_take rfl (guard_on rfl rfl rfl hg3029) rfl rfl (fun w_ hS_ => (ex_load1 rfl rfl Tryd.underlying2 rfl ((hS_.box_at 2 rfl) 1 _ rfl))) hS ?_
              refine drwp_take rfl (guard_on rfl rfl rfl hg3029) rfl rfl (fun w_ hS_ => (ex_fieldAddr (off' := 0) rfl rfl Tryd.underlying51 rfl tsz2 rfl)) hS ?_
              refine drwp_take rfl (guard_on rfl rfl rfl hg3029) rfl rfl (fun w_ hS_ => (ex_load1 rfl rfl Tryd.underlying2 rfl ((hS_.box_at 5 rfl) 0 _ rfl))) hS ?_
              refine drwp_take rfl (guard_on rfl rfl rfl hg3029) rfl rfl (fun w_ hS_ => (ex_eql rfl rfl rfl)) hS ?_
              refine drwp_take (v := .bool ((t2996.fCode == 0) && (t2996.fBlock.fPrev == t2963.fPrev))) rfl (guard_none rfl) rfl rfl (fun w_ hS_ => (ex_pand_t rfl rfl hg3029 rfl)) hS ?_
              refine drwp_take rfl (guard_none rfl) rfl rfl (fun w_ hS_ => (ex_move rfl rfl)) hS ?_
              refine bool_cases ((t2996.fCode == 0) && (t2996.fBlock.fPrev == t2963.fPrev)) (fun hg3030 => ?_) (fun hg3030 => ?_)
              · skip
                refine drwp_take rfl (guard_on rfl rfl rfl hg3030) rfl rfl (fun w_ hS_ => (ex_fieldAddr (off' := 1) rfl rfl Tryd.underlying53 rfl tsz51 rfl)) hS ?_
                refine drwp_take rfl (guard_on rfl rfl rfl hg3030) rfl rfl (fun w_ hS_ => (ex_fieldAddr (off' := 2) rfl rfl Tryd.underlying51 rfl tsz2 rfl)) hS ?_
                refine drwp_take rfl (guard_on rfl rfl rfl hg3030) rfl rfl (fun w_ hS_ => (ex_load1 rfl rfl Tryd.underlying2 rfl ((hS_.box_at 2 rfl) 2 _ rfl))) hS ?_
                refine drwp_take rfl (guard_on rfl rfl rfl hg3030) rfl rfl (fun w_ hS_ => (ex_fieldAddr (off' := 1) rfl rfl Tryd.underlying51 rfl tsz2 rfl)) hS ?_
                refine drwp_take rfl (guard_on rfl rfl rfl hg3030) rfl rfl (fun w_ hS_ => (ex_load1 rfl rfl Tryd.underlying2 rfl ((hS_.box_at 5 rfl) 1 _ rfl))) hS ?_
                refine drwp_take rfl (guard_on rfl rfl rfl hg3030) rfl rfl (fun w_ hS_ => (ex_eql rfl rfl rfl)) hS ?_
                refine drwp_take (v := .bool (((t2996.fCode == 0) && (t2996.fBlock.fPrev == t2963.fPrev)) && (t2996.fBlock.fHeight == t2963.fHeight))) rfl (guard_none rfl) rfl rfl (fun w_ hS_ => (ex_pand_t rfl rfl hg3030 rfl)) hS ?_
                refine drwp_take rfl (guard_none rfl) rfl rfl (fun w_ hS_ => (ex_move rfl rfl)) hS ?_
                refine bool_cases (((t2996.fCode == 0) && (t2996.fBlock.fPrev == t2963.fPrev)) && (t2996.fBlock.fHeight == t2963.fHeight)) (fun hg3031 => ?_) (fun hg3031 => ?_)
                · skip
                  refine drwp_take rfl (guard_on rfl rfl rfl hg3031) rfl rfl (fun w_ hS_ => (ex_fieldAddr (off' := 1) rfl rfl Tryd.underlying53 rfl tsz51 rfl)) hS ?_
                  refine drwp_take rfl (guard_on rfl rfl rfl hg3031) rfl rfl (fun w_ hS_ => (ex_fieldAddr (off' := 3) rfl rfl Tryd.underlying51 rfl tsz2 rfl)) hS ?_
                  refine drwp_take rfl (guard_on rfl rfl rfl hg3031) rfl rfl (fun w_ hS_ => (ex_load1 rfl rfl Tryd.underlying2 rfl ((hS_.box_at 2 rfl) 3 _ rfl))) hS ?_
                  refine drwp_take rfl (guard_on rfl rfl rfl hg3031) rfl rfl (fun w_ hS_ => (ex_fieldAddr (off' := 2) rfl rfl Tryd.underlying51 rfl tsz2 rfl)) hS ?_
                  refine drwp_take rfl (guard_on rfl rfl rfl hg3031) rfl rfl (fun w_ hS_ => (ex_load1 rfl rfl Tryd.underlying2 rfl ((hS_.box_at 5 rfl) 2 _ rfl))) hS ?_
                  refine drwp_take rfl (guard_on rfl rfl rfl hg3031) rfl rfl (fun w_ hS_ => (ex_eql rfl rfl rfl)) hS ?_
                  refine drwp_take (v := .bool ((((t2996.fCode == 0) && (t2996.fBlock.fPrev == t2963.fPrev)) && (t2996.fBlock.fHeight == t2963.fHeight)) && (t2996.fBlock.fMiner == t2963.fMiner))) rfl (guard_none rfl) rfl rfl (fun w_ hS_ => (ex_pand_t rfl rfl hg3031 rfl)) hS ?_
                  refine drwp_take rfl (guard_none rfl) rfl rfl (fun w_ hS_ => (ex_move rfl rfl)) hS ?_
                  refine bool_cases ((((t2996.fCode == 0) && (t2996.fBlock.fPrev == t2963.fPrev)) && (t2996.fBlock.fHeight == t2963.fHeight)) && (t2996.fBlock.fMiner == t2963.fMiner)) (fun hg3032 => ?_) (fun hg3032 => ?_)
                  · skip
                    refine drwp_take rfl (guard_on rfl rfl rfl hg3032) rfl rfl (fun w_ hS_ => (ex_fieldAddr (off' := 1) rfl rfl Tryd.underlying53 rfl tsz51 rfl)) hS ?_
                    refine drwp_take rfl (guard_on rfl rfl rfl hg3032) rfl rfl (fun w_ hS_ => (ex_fieldAddr (off' := 4) rfl rfl Tryd.underlying51 rfl tsz38 rfl)) hS ?_
                    refine drwp_take rfl (guard_on rfl rfl rfl hg3032) rfl rfl (fun w_ hS_ => (ex_load1 rfl rfl Tryd.underlying38 rfl ((hS_.box_at 2 rfl) 4 _ rfl))) hS ?_
                    refine drwp_take rfl (guard_on rfl rfl rfl hg3032) rfl rfl (fun w_ hS_ => (ex_fieldAddr (off' := 3) rfl rfl Tryd.underlying51 rfl tsz38 rfl)) hS ?_
                    refine drwp_take rfl (guard_on rfl rfl rfl hg3032) rfl rfl (fun w_ hS_ => (ex_load1 rfl rfl Tryd.underlying38 rfl ((hS_.box_at 5 rfl) 3 _ rfl))) hS ?_
                    refine drwp_one rfl (guard_on rfl rfl rfl hg3032) rfl rfl (does_callk rfl callok27 rfl (laws_lwNums.calls (x0 := t2996.fBlock.fTxs) (x1 := t2963.fTxs) (HM.own_rd 3 rfl) (HM.own_rd 6 rfl) (cond_t hg3032 h3026))) ?_
                    rintro _ w3033 ⟨rfl, hn⟩
                    replace HM : Mem w [] w3033 [box b3019 60 [.int .i64 t3017.fCode, .int .i64 t3017.fValue], box b3011 60 [.int .i64 t3009.fCode, .int .i64 t3009.fValue], box b3000 53 [.int .i64 t2996.fCode, .int .i64 t2996.fBlock.fPrev, .int .i64 t2996.fBlock.fHeight, .int .i64 t2996.fBlock.fMiner, u2998], own kInt 2 u2998 t2996.fBlock.fTxs, box b2975 28 [.int .i64 t2973.fCode, .string t2973.fText], box b2967 51 [.int .i64 t2963.fPrev, .int .i64 t2963.fHeight, .int .i64 t2963.fMiner, u2965], own kInt 2 u2965 t2963.fTxs] := HM.call hn
                    refine ⟨Mem.suf (M := []) HM, ?_⟩
                    have hS := Mem.suf (M := []) HM
                    refine drwp_take (v := .bool (((((t2996.fCode == 0) && (t2996.fBlock.fPrev == t2963.fPrev)) && (t2996.fBlock.fHeight == t2963.fHeight)) && (t2996.fBlock.fMiner == t2963.fMiner)) && t3025)) rfl (guard_none rfl) rfl rfl (fun w_ hS_ => (ex_pand_t rfl rfl hg3032 rfl)) hS ?_
                    refine drwp_take rfl (guard_none rfl) rfl rfl (fun w_ hS_ => (ex_move rfl rfl)) hS ?_
                    refine bool_cases (((((t2996.fCode == 0) && (t2996.fBlock.fPrev == t2963.fPrev)) && (t2996.fBlock.fHeight == t2963.fHeight)) && (t2996.fBlock.fMiner == t2963.fMiner)) && t3025) (fun hg3034 => ?_) (fun hg3034 => ?_)
                    · skip
                      refine drwp_take rfl (guard_on rfl rfl rfl hg3034) rfl rfl (fun w_ hS_ => (ex_fieldAddr (off' := 1) rfl rfl Tryd.underlying28 rfl tsz9 rfl)) hS ?_
                      refine drwp_take rfl (guard_on rfl rfl rfl hg3034) rfl rfl (fun w_ hS_ => (ex_load1 rfl rfl Tryd.underlying9 rfl ((hS_.box_at 4 rfl) 1 _ rfl))) hS ?_
                      refine drwp_take rfl (guard_on rfl rfl rfl hg3034) rfl rfl (fun w_ hS_ => (ex_strlen rfl rfl Tryd.underlying9)) hS ?_
                      refine drwp_take rfl (guard_on rfl rfl rfl hg3034) rfl rfl (fun w_ hS_ => (ex_gtr rfl rfl rfl)) hS ?_
                      refine drwp_take (v := .bool ((((((t2996.fCode == 0) && (t2996.fBlock.fPrev == t2963.fPrev)) && (t2996.fBlock.fHeight == t2963.fHeight)) && (t2996.fBlock.fMiner == t2963.fMiner)) && t3025) && (decide (10 < (t2973.fText.size : Int))))) rfl (guard_none rfl) rfl rfl (fun w_ hS_ => (ex_pand_t rfl rfl hg3034 rfl)) hS ?_
                      refine drwp_take rfl (guard_none rfl) rfl rfl (fun w_ hS_ => (ex_move rfl rfl)) hS ?_
                      refine bool_cases ((((((t2996.fCode == 0) && (t2996.fBlock.fPrev == t2963.fPrev)) && (t2996.fBlock.fHeight == t2963.fHeight)) && (t2996.fBlock.fMiner == t2963.fMiner)) && t3025) && (decide (10 < (t2973.fText.size : Int)))) (fun hg3035 => ?_) (fun hg3035 => ?_)
                      · skip
                        refine drwp_take rfl (guard_on rfl rfl rfl hg3035) rfl rfl (fun w_ hS_ => (ex_fieldAddr (off' := 1) rfl rfl Tryd.underlying60 rfl tsz2 rfl)) hS ?_
                        refine drwp_take rfl (guard_on rfl rfl rfl hg3035) rfl rfl (fun w_ hS_ => (ex_load1 rfl rfl Tryd.underlying2 rfl ((hS_.box_at 1 rfl) 1 _ rfl))) hS ?_
                        refine drwp_take rfl (guard_on rfl rfl rfl hg3035) rfl rfl (fun w_ hS_ => (ex_move rfl rfl)) hS ?_
                        refine drwp_one rfl (guard_on rfl rfl rfl hg3035) rfl rfl (does_callk rfl callok28 rfl (spec_RewardOf.calls (x0 := t3006) (cond_t hg3035 h3028))) ?_
                        rintro _ w3036 ⟨rfl, hn⟩
                        replace HM : Mem w [] w3036 [box b3019 60 [.int .i64 t3017.fCode, .int .i64 t3017.fValue], box b3011 60 [.int .i64 t3009.fCode, .int .i64 t3009.fValue], box b3000 53 [.int .i64 t2996.fCode, .int .i64 t2996.fBlock.fPrev, .int .i64 t2996.fBlock.fHeight, .int .i64 t2996.fBlock.fMiner, u2998], own kInt 2 u2998 t2996.fBlock.fTxs, box b2975 28 [.int .i64 t2973.fCode, .string t2973.fText], box b2967 51 [.int .i64 t2963.fPrev, .int .i64 t2963.fHeight, .int .i64 t2963.fMiner, u2965], own kInt 2 u2965 t2963.fTxs] := HM.call hn
                        refine ⟨Mem.suf (M := []) HM, ?_⟩
                        have hS := Mem.suf (M := []) HM
                        refine drwp_take rfl (guard_on rfl rfl rfl hg3035) rfl rfl (fun w_ hS_ => (ex_field1 rfl rfl Tryd.underlying60 rfl Tryd.underlying2 rfl rfl)) hS ?_
                        refine drwp_take rfl (guard_on rfl rfl rfl hg3035) rfl rfl (fun w_ hS_ => (ex_eql rfl rfl rfl)) hS ?_
                        refine drwp_take (v := .bool (((((((t2996.fCode == 0) && (t2996.fBlock.fPrev == t2963.fPrev)) && (t2996.fBlock.fHeight == t2963.fHeight)) && (t2996.fBlock.fMiner == t2963.fMiner)) && t3025) && (decide (10 < (t2973.fText.size : Int)))) && (t3009.fValue == t3027.fValue))) rfl (guard_none rfl) rfl rfl (fun w_ hS_ => (ex_pand_t rfl rfl hg3035 rfl)) hS ?_
                        refine drwp_take rfl (guard_none rfl) rfl rfl (fun w_ hS_ => (ex_move rfl rfl)) hS ?_
                        refine bool_cases (((((((t2996.fCode == 0) && (t2996.fBlock.fPrev == t2963.fPrev)) && (t2996.fBlock.fHeight == t2963.fHeight)) && (t2996.fBlock.fMiner == t2963.fMiner)) && t3025) && (decide (10 < (t2973.fText.size : Int)))) && (t3009.fValue == t3027.fValue)) (fun hg3037 => ?_) (fun hg3037 => ?_)
                        · skip
                          refine drwp_take rfl (guard_on rfl rfl rfl hg3037) rfl rfl (fun w_ hS_ => (ex_fieldAddr (off' := 0) rfl rfl Tryd.underlying60 rfl tsz2 rfl)) hS ?_
                          refine drwp_take rfl (guard_on rfl rfl rfl hg3037) rfl rfl (fun w_ hS_ => (ex_load1 rfl rfl Tryd.underlying2 rfl ((hS_.box_at 1 rfl) 0 _ rfl))) hS ?_
                          refine drwp_take rfl (guard_on rfl rfl rfl hg3037) rfl rfl (fun w_ hS_ => (ex_neq rfl rfl rfl)) hS ?_
                          refine drwp_take rfl (guard_on rfl rfl rfl hg3037) rfl rfl (fun w_ hS_ => (ex_move rfl rfl)) hS ?_
                          refine bool_cases (t3009.fCode != 0) (fun hg3038 => ?_) (fun hg3038 => ?_)
                          · skip
                            refine drwp_off rfl (guard_off rfl rfl rfl hg3038) rfl rfl hS ?_
                            refine drwp_off rfl (guard_off rfl rfl rfl hg3038) rfl rfl hS ?_
                            refine drwp_off rfl (guard_off rfl rfl rfl hg3038) rfl rfl hS ?_
                            have hg3039 : ((t3009.fCode != 0) || (t3017.fCode != 0)) = true := by simp only [hg3038, Bool.and_true, Bool.true_and, Bool.and_false, Bool.false_and, Bool.or_true, Bool.true_or, Bool.or_false, Bool.false_or, Bool.not_true, Bool.not_false, Bool.not_not]
                            refine drwp_take (v := .bool ((t3009.fCode != 0) || (t3017.fCode != 0))) rfl (guard_on rfl rfl rfl hg3037) rfl rfl (fun w_ hS_ => (ex_por_t rfl rfl hg3038)) hS ?_
                            refine drwp_take rfl (guard_on rfl rfl rfl hg3037) rfl rfl (fun w_ hS_ => (ex_move rfl rfl)) hS ?_
                            refine drwp_off rfl (guard_off rfl rfl rfl hg3039) rfl rfl hS ?_
                            refine drwp_off rfl (guard_off rfl rfl rfl hg3039) rfl rfl hS ?_
                            refine drwp_off rfl (guard_off rfl rfl rfl hg3039) rfl rfl hS ?_
                            refine drwp_off rfl (guard_off rfl rfl rfl hg3039) rfl rfl hS ?_
                            refine drwp_off rfl (guard_off rfl rfl rfl hg3039) rfl rfl hS ?_
                            have hg3040 : (((t3009.fCode != 0) || (t3017.fCode != 0)) || (decide (t3017.fValue ≤ t3009.fValue))) = true := by simp only [hg3039, Bool.and_true, Bool.true_and, Bool.and_false, Bool.false_and, Bool.or_true, Bool.true_or, Bool.or_false, Bool.false_or, Bool.not_true, Bool.not_false, Bool.not_not]
                            refine drwp_take (v := .bool (((t3009.fCode != 0) || (t3017.fCode != 0)) || (decide (t3017.fValue ≤ t3009.fValue)))) rfl (guard_on rfl rfl rfl hg3037) rfl rfl (fun w_ hS_ => (ex_por_t rfl rfl hg3039)) hS ?_
                            refine drwp_take (v := .bool ((((((((t2996.fCode == 0) && (t2996.fBlock.fPrev == t2963.fPrev)) && (t2996.fBlock.fHeight == t2963.fHeight)) && (t2996.fBlock.fMiner == t2963.fMiner)) && t3025) && (decide (10 < (t2973.fText.size : Int)))) && (t3009.fValue == t3027.fValue)) && (((t3009.fCode != 0) || (t3017.fCode != 0)) || (decide (t3017.fValue ≤ t3009.fValue))))) rfl (guard_none rfl) rfl rfl (fun w_ hS_ => (ex_pand_t rfl rfl hg3037 rfl)) hS ?_
                            refine drwp_take rfl (guard_none rfl) rfl rfl (fun w_ hS_ => (ex_assign rfl rfl)) hS ?_
                            refine drwp_done ?_
                            replace HM := (HM.front 0 rfl rfl).drop
                            replace HM := (HM.front 0 rfl rfl).drop
                            replace HM := (HM.front 0 rfl rfl).drop
                            replace HM := (HM.front 0 rfl rfl).drop
                            replace HM := (HM.front 0 rfl rfl).drop
                            replace HM := (HM.front 0 rfl rfl).drop
                            replace HM := (HM.front 0 rfl rfl).drop
                            exact at_meet [(2, .bool ((((((((t2996.fCode == 0) && (t2996.fBlock.fPrev == t2963.fPrev)) && (t2996.fBlock.fHeight == t2963.fHeight)) && (t2996.fBlock.fMiner == t2963.fMiner)) && t3025) && (decide (10 < (t2973.fText.size : Int)))) && (t3009.fValue == t3027.fValue)) && (((t3009.fCode != 0) || (t3017.fCode != 0)) || (decide (t3017.fValue ≤ t3009.fValue)))))] ⟨rfl, HM⟩ (Sub.cons rfl Sub.nil)
                          · skip
                            refine drwp_take rfl (guard_on rfl rfl rfl hg3038) rfl rfl (fun w_ hS_ => (ex_fieldAddr (off' := 0) rfl rfl Tryd.underlying60 rfl tsz2 rfl)) hS ?_
                            refine drwp_take rfl (guard_on rfl rfl rfl hg3038) rfl rfl (fun w_ hS_ => (ex_load1 rfl rfl Tryd.underlying2 rfl ((hS_.box_at 0 rfl) 0 _ rfl))) hS ?_
                            refine drwp_take rfl (guard_on rfl rfl rfl hg3038) rfl rfl (fun w_ hS_ => (ex_neq rfl rfl rfl)) hS ?_
                            refine drwp_take (v := .bool ((t3009.fCode != 0) || (t3017.fCode != 0))) rfl (guard_on rfl rfl rfl hg3037) rfl rfl (fun w_ hS_ => (ex_por_f rfl rfl hg3038 rfl)) hS ?_
                            refine drwp_take rfl (guard_on rfl rfl rfl hg3037) rfl rfl (fun w_ hS_ => (ex_move rfl rfl)) hS ?_
                            refine bool_cases ((t3009.fCode != 0) || (t3017.fCode != 0)) (fun hg3041 => ?_) (fun hg3041 => ?_)
                            · skip
                              refine drwp_off rfl (guard_off rfl rfl rfl hg3041) rfl rfl hS ?_
                              refine drwp_off rfl (guard_off rfl rfl rfl hg3041) rfl rfl hS ?_
                              refine drwp_off rfl (guard_off rfl rfl rfl hg3041) rfl rfl hS ?_
                              refine drwp_off rfl (guard_off rfl rfl rfl hg3041) rfl rfl hS ?_
                              refine drwp_off rfl (guard_off rfl rfl rfl hg3041) rfl rfl hS ?_
                              have hg3042 : (((t3009.fCode != 0) || (t3017.fCode != 0)) || (decide (t3017.fValue ≤ t3009.fValue))) = true := by simp only [hg3041, Bool.and_true, Bool.true_and, Bool.and_false, Bool.false_and, Bool.or_true, Bool.true_or, Bool.or_false, Bool.false_or, Bool.not_true, Bool.not_false, Bool.not_not]
                              refine drwp_take (v := .bool (((t3009.fCode != 0) || (t3017.fCode != 0)) || (decide (t3017.fValue ≤ t3009.fValue)))) rfl (guard_on rfl rfl rfl hg3037) rfl rfl (fun w_ hS_ => (ex_por_t rfl rfl hg3041)) hS ?_
                              refine drwp_take (v := .bool ((((((((t2996.fCode == 0) && (t2996.fBlock.fPrev == t2963.fPrev)) && (t2996.fBlock.fHeight == t2963.fHeight)) && (t2996.fBlock.fMiner == t2963.fMiner)) && t3025) && (decide (10 < (t2973.fText.size : Int)))) && (t3009.fValue == t3027.fValue)) && (((t3009.fCode != 0) || (t3017.fCode != 0)) || (decide (t3017.fValue ≤ t3009.fValue))))) rfl (guard_none rfl) rfl rfl (fun w_ hS_ => (ex_pand_t rfl rfl hg3037 rfl)) hS ?_
                              refine drwp_take rfl (guard_none rfl) rfl rfl (fun w_ hS_ => (ex_assign rfl rfl)) hS ?_
                              refine drwp_done ?_
                              replace HM := (HM.front 0 rfl rfl).drop
                              replace HM := (HM.front 0 rfl rfl).drop
                              replace HM := (HM.front 0 rfl rfl).drop
                              replace HM := (HM.front 0 rfl rfl).drop
                              replace HM := (HM.front 0 rfl rfl).drop
                              replace HM := (HM.front 0 rfl rfl).drop
                              replace HM := (HM.front 0 rfl rfl).drop
                              exact at_meet [(2, .bool ((((((((t2996.fCode == 0) && (t2996.fBlock.fPrev == t2963.fPrev)) && (t2996.fBlock.fHeight == t2963.fHeight)) && (t2996.fBlock.fMiner == t2963.fMiner)) && t3025) && (decide (10 < (t2973.fText.size : Int)))) && (t3009.fValue == t3027.fValue)) && (((t3009.fCode != 0) || (t3017.fCode != 0)) || (decide (t3017.fValue ≤ t3009.fValue)))))] ⟨rfl, HM⟩ (Sub.cons rfl Sub.nil)
                            · skip
                              refine drwp_take rfl (guard_on rfl rfl rfl hg3041) rfl rfl (fun w_ hS_ => (ex_fieldAddr (off' := 1) rfl rfl Tryd.underlying60 rfl tsz2 rfl)) hS ?_
                              refine drwp_take rfl (guard_on rfl rfl rfl hg3041) rfl rfl (fun w_ hS_ => (ex_load1 rfl rfl Tryd.underlying2 rfl ((hS_.box_at 0 rfl) 1 _ rfl))) hS ?_
                              refine drwp_take rfl (guard_on rfl rfl rfl hg3041) rfl rfl (fun w_ hS_ => (ex_fieldAddr (off' := 1) rfl rfl Tryd.underlying60 rfl tsz2 rfl)) hS ?_
                              refine drwp_take rfl (guard_on rfl rfl rfl hg3041) rfl rfl (fun w_ hS_ => (ex_load1 rfl rfl Tryd.underlying2 rfl ((hS_.box_at 1 rfl) 1 _ rfl))) hS ?_
                              refine drwp_take rfl (guard_on rfl rfl rfl hg3041) rfl rfl (fun w_ hS_ => (ex_leq rfl rfl rfl)) hS ?_
                              refine drwp_take (v := .bool (((t3009.fCode != 0) || (t3017.fCode != 0)) || (decide (t3017.fValue ≤ t3009.fValue)))) rfl (guard_on rfl rfl rfl hg3037) rfl rfl (fun w_ hS_ => (ex_por_f rfl rfl hg3041 rfl)) hS ?_
                              refine drwp_take (v := .bool ((((((((t2996.fCode == 0) && (t2996.fBlock.fPrev == t2963.fPrev)) && (t2996.fBlock.fHeight == t2963.fHeight)) && (t2996.fBlock.fMiner == t2963.fMiner)) && t3025) && (decide (10 < (t2973.fText.size : Int)))) && (t3009.fValue == t3027.fValue)) && (((t3009.fCode != 0) || (t3017.fCode != 0)) || (decide (t3017.fValue ≤ t3009.fValue))))) rfl (guard_none rfl) rfl rfl (fun w_ hS_ => (ex_pand_t rfl rfl hg3037 rfl)) hS ?_
                              refine drwp_take rfl (guard_none rfl) rfl rfl (fun w_ hS_ => (ex_assign rfl rfl)) hS ?_
                              refine drwp_done ?_
                              replace HM := (HM.front 0 rfl rfl).drop
                              replace HM := (HM.front 0 rfl rfl).drop
                              replace HM := (HM.front 0 rfl rfl).drop
                              replace HM := (HM.front 0 rfl rfl).drop
                              replace HM := (HM.front 0 rfl rfl).drop
                              replace HM := (HM.front 0 rfl rfl).drop
                              replace HM := (HM.front 0 rfl rfl).drop
                              exact at_meet [(2, .bool ((((((((t2996.fCode == 0) && (t2996.fBlock.fPrev == t2963.fPrev)) && (t2996.fBlock.fHeight == t2963.fHeight)) && (t2996.fBlock.fMiner == t2963.fMiner)) && t3025) && (decide (10 < (t2973.fText.size : Int)))) && (t3009.fValue == t3027.fValue)) && (((t3009.fCode != 0) || (t3017.fCode != 0)) || (decide (t3017.fValue ≤ t3009.fValue)))))] ⟨rfl, HM⟩ (Sub.cons rfl Sub.nil)
                        · skip
                          refine drwp_off rfl (guard_off rfl rfl rfl hg3037) rfl rfl hS ?_
                          refine drwp_off rfl (guard_off rfl rfl rfl hg3037) rfl rfl hS ?_
                          refine drwp_off rfl (guard_off rfl rfl rfl hg3037) rfl rfl hS ?_
                          refine drwp_off rfl (guard_off rfl rfl rfl hg3037) rfl rfl hS ?_
                          refine drwp_off rfl (guard_undef rfl rfl rfl) rfl rfl hS ?_
                          refine drwp_off rfl (guard_undef rfl rfl rfl) rfl rfl hS ?_
                          refine drwp_off rfl (guard_undef rfl rfl rfl) rfl rfl hS ?_
                          refine drwp_off rfl (guard_off rfl rfl rfl hg3037) rfl rfl hS ?_
                          refine drwp_off rfl (guard_off rfl rfl rfl hg3037) rfl rfl hS ?_
                          refine drwp_off rfl (guard_undef rfl rfl rfl) rfl rfl hS ?_
                          refine drwp_off rfl (guard_undef rfl rfl rfl) rfl rfl hS ?_
                          refine drwp_off rfl (guard_undef rfl rfl rfl) rfl rfl hS ?_
                          refine drwp_off rfl (guard_undef rfl rfl rfl) rfl rfl hS ?_
                          refine drwp_off rfl (guard_undef rfl rfl rfl) rfl rfl hS ?_
                          refine drwp_off rfl (guard_off rfl rfl rfl hg3037) rfl rfl hS ?_
                          have hg3043 : ((((((((t2996.fCode == 0) && (t2996.fBlock.fPrev == t2963.fPrev)) && (t2996.fBlock.fHeight == t2963.fHeight)) && (t2996.fBlock.fMiner == t2963.fMiner)) && t3025) && (decide (10 < (t2973.fText.size : Int)))) && (t3009.fValue == t3027.fValue)) && (((t3009.fCode != 0) || (t3017.fCode != 0)) || (decide (t3017.fValue ≤ t3009.fValue)))) = false := by simp only [hg3037, Bool.and_true, Bool.true_and, Bool.and_false, Bool.false_and, Bool.or_true, Bool.true_or, Bool.or_false, Bool.false_or, Bool.not_true, Bool.not_false, Bool.not_not]
                          refine drwp_take (v := .bool ((((((((t2996.fCode == 0) && (t2996.fBlock.fPrev == t2963.fPrev)) && (t2996.fBlock.fHeight == t2963.fHeight)) && (t2996.fBlock.fMiner == t2963.fMiner)) && t3025) && (decide (10 < (t2973.fText.size : Int)))) && (t3009.fValue == t3027.fValue)) && (((t3009.fCode != 0) || (t3017.fCode != 0)) || (decide (t3017.fValue ≤ t3009.fValue))))) rfl (guard_none rfl) rfl rfl (fun w_ hS_ => (ex_pand_f rfl rfl hg3037)) hS ?_
                          refine drwp_take rfl (guard_none rfl) rfl rfl (fun w_ hS_ => (ex_assign rfl rfl)) hS ?_
                          refine drwp_done ?_
                          replace HM := (HM.front 0 rfl rfl).drop
                          replace HM := (HM.front 0 rfl rfl).drop
                          replace HM := (HM.front 0 rfl rfl).drop
                          replace HM := (HM.front 0 rfl rfl).drop
                          replace HM := (HM.front 0 rfl rfl).drop
                          replace HM := (HM.front 0 rfl rfl).drop
                          replace HM := (HM.front 0 rfl rfl).drop
                          exact at_meet [(2, .bool ((((((((t2996.fCode == 0) && (t2996.fBlock.fPrev == t2963.fPrev)) && (t2996.fBlock.fHeight == t2963.fHeight)) && (t2996.fBlock.fMiner == t2963.fMiner)) && t3025) && (decide (10 < (t2973.fText.size : Int)))) && (t3009.fValue == t3027.fValue)) && (((t3009.fCode != 0) || (t3017.fCode != 0)) || (decide (t3017.fValue ≤ t3009.fValue)))))] ⟨rfl, HM⟩ (Sub.cons rfl Sub.nil)
                      · skip
                        refine drwp_off rfl (guard_off rfl rfl rfl hg3035) rfl rfl hS ?_
                        refine drwp_off rfl (guard_off rfl rfl rfl hg3035) rfl rfl hS ?_
                        refine drwp_off rfl (guard_off rfl rfl rfl hg3035) rfl rfl hS ?_
                        refine drwp_off1 rfl (guard_off rfl rfl rfl hg3035) rfl rfl ⟨hS, ?_⟩
                        refine drwp_off rfl (guard_off rfl rfl rfl hg3035) rfl rfl hS ?_
                        refine drwp_off rfl (guard_off rfl rfl rfl hg3035) rfl rfl hS ?_
                        have hg3044 : (((((((t2996.fCode == 0) && (t2996.fBlock.fPrev == t2963.fPrev)) && (t2996.fBlock.fHeight == t2963.fHeight)) && (t2996.fBlock.fMiner == t2963.fMiner)) && t3025) && (decide (10 < (t2973.fText.size : Int)))) && (t3009.fValue == t3027.fValue)) = false := by simp only [hg3035, Bool.and_true, Bool.true_and, Bool.and_false, Bool.false_and, Bool.or_true, Bool.true_or, Bool.or_false, Bool.false_or, Bool.not_true, Bool.not_false, Bool.not_not]
                        refine drwp_take (v := .bool (((((((t2996.fCode == 0) && (t2996.fBlock.fPrev == t2963.fPrev)) && (t2996.fBlock.fHeight == t2963.fHeight)) && (t2996.fBlock.fMiner == t2963.fMiner)) && t3025) && (decide (10 < (t2973.fText.size : Int)))) && (t3009.fValue == t3027.fValue))) rfl (guard_none rfl) rfl rfl (fun w_ hS_ => (ex_pand_f rfl rfl hg3035)) hS ?_
                        refine drwp_take rfl (guard_none rfl) rfl rfl (fun w_ hS_ => (ex_move rfl rfl)) hS ?_
                        refine drwp_off rfl (guard_off rfl rfl rfl hg3044) rfl rfl hS ?_
                        refine drwp_off rfl (guard_off rfl rfl rfl hg3044) rfl rfl hS ?_
                        refine drwp_off rfl (guard_off rfl rfl rfl hg3044) rfl rfl hS ?_
                        refine drwp_off rfl (guard_off rfl rfl rfl hg3044) rfl rfl hS ?_
                        refine drwp_off rfl (guard_undef rfl rfl rfl) rfl rfl hS ?_
                        refine drwp_off rfl (guard_undef rfl rfl rfl) rfl rfl hS ?_
                        refine drwp_off rfl (guard_undef rfl rfl rfl) rfl rfl hS ?_
                        refine drwp_off rfl (guard_off rfl rfl rfl hg3044) rfl rfl hS ?_
                        refine drwp_off rfl (guard_off rfl rfl rfl hg3044) rfl rfl hS ?_
                        refine drwp_off rfl (guard_undef rfl rfl rfl) rfl rfl hS ?_
                        refine drwp_off rfl (guard_undef rfl rfl rfl) rfl rfl hS ?_
                        refine drwp_off rfl (guard_undef rfl rfl rfl) rfl rfl hS ?_
                        refine drwp_off rfl (guard_undef rfl rfl rfl) rfl rfl hS ?_
                        refine drwp_off rfl (guard_undef rfl rfl rfl) rfl rfl hS ?_
                        refine drwp_off rfl (guard_off rfl rfl rfl hg3044) rfl rfl hS ?_
                        have hg3045 : ((((((((t2996.fCode == 0) && (t2996.fBlock.fPrev == t2963.fPrev)) && (t2996.fBlock.fHeight == t2963.fHeight)) && (t2996.fBlock.fMiner == t2963.fMiner)) && t3025) && (decide (10 < (t2973.fText.size : Int)))) && (t3009.fValue == t3027.fValue)) && (((t3009.fCode != 0) || (t3017.fCode != 0)) || (decide (t3017.fValue ≤ t3009.fValue)))) = false := by simp only [hg3044, Bool.and_true, Bool.true_and, Bool.and_false, Bool.false_and, Bool.or_true, Bool.true_or, Bool.or_false, Bool.false_or, Bool.not_true, Bool.not_false, Bool.not_not]
                        refine drwp_take (v := .bool ((((((((t2996.fCode == 0) && (t2996.fBlock.fPrev == t2963.fPrev)) && (t2996.fBlock.fHeight == t2963.fHeight)) && (t2996.fBlock.fMiner == t2963.fMiner)) && t3025) && (decide (10 < (t2973.fText.size : Int)))) && (t3009.fValue == t3027.fValue)) && (((t3009.fCode != 0) || (t3017.fCode != 0)) || (decide (t3017.fValue ≤ t3009.fValue))))) rfl (guard_none rfl) rfl rfl (fun w_ hS_ => (ex_pand_f rfl rfl hg3044)) hS ?_
                        refine drwp_take rfl (guard_none rfl) rfl rfl (fun w_ hS_ => (ex_assign rfl rfl)) hS ?_
                        refine drwp_done ?_
                        replace HM := (HM.front 0 rfl rfl).drop
                        replace HM := (HM.front 0 rfl rfl).drop
                        replace HM := (HM.front 0 rfl rfl).drop
                        replace HM := (HM.front 0 rfl rfl).drop
                        replace HM := (HM.front 0 rfl rfl).drop
                        replace HM := (HM.front 0 rfl rfl).drop
                        replace HM := (HM.front 0 rfl rfl).drop
                        exact at_meet [(2, .bool ((((((((t2996.fCode == 0) && (t2996.fBlock.fPrev == t2963.fPrev)) && (t2996.fBlock.fHeight == t2963.fHeight)) && (t2996.fBlock.fMiner == t2963.fMiner)) && t3025) && (decide (10 < (t2973.fText.size : Int)))) && (t3009.fValue == t3027.fValue)) && (((t3009.fCode != 0) || (t3017.fCode != 0)) || (decide (t3017.fValue ≤ t3009.fValue)))))] ⟨rfl, HM⟩ (Sub.cons rfl Sub.nil)
                    · skip
                      refine drwp_off rfl (guard_off rfl rfl rfl hg3034) rfl rfl hS ?_
                      refine drwp_off rfl (guard_off rfl rfl rfl hg3034) rfl rfl hS ?_
                      refine drwp_off rfl (guard_off rfl rfl rfl hg3034) rfl rfl hS ?_
                      refine drwp_off rfl (guard_off rfl rfl rfl hg3034) rfl rfl hS ?_
                      have hg3046 : ((((((t2996.fCode == 0) && (t2996.fBlock.fPrev == t2963.fPrev)) && (t2996.fBlock.fHeight == t2963.fHeight)) && (t2996.fBlock.fMiner == t2963.fMiner)) && t3025) && (decide (10 < (t2973.fText.size : Int)))) = false := by simp only [hg3034, Bool.and_true, Bool.true_and, Bool.and_false, Bool.false_and, Bool.or_true, Bool.true_or, Bool.or_false, Bool.false_or, Bool.not_true, Bool.not_false, Bool.not_not]
                      refine drwp_take (v := .bool ((((((t2996.fCode == 0) && (t2996.fBlock.fPrev == t2963.fPrev)) && (t2996.fBlock.fHeight == t2963.fHeight)) && (t2996.fBlock.fMiner == t2963.fMiner)) && t3025) && (decide (10 < (t2973.fText.size : Int))))) rfl (guard_none rfl) rfl rfl (fun w_ hS_ => (ex_pand_f rfl rfl hg3034)) hS ?_
                      refine drwp_take rfl (guard_none rfl) rfl rfl (fun w_ hS_ => (ex_move rfl rfl)) hS ?_
                      refine drwp_off rfl (guard_off rfl rfl rfl hg3046) rfl rfl hS ?_
                      refine drwp_off rfl (guard_off rfl rfl rfl hg3046) rfl rfl hS ?_
                      refine drwp_off rfl (guard_off rfl rfl rfl hg3046) rfl rfl hS ?_
                      refine drwp_off1 rfl (guard_off rfl rfl rfl hg3046) rfl rfl ⟨hS, ?_⟩
                      refine drwp_off rfl (guard_off rfl rfl rfl hg3046) rfl rfl hS ?_
                      refine drwp_off rfl (guard_off rfl rfl rfl hg3046) rfl rfl hS ?_
                      have hg3047 : (((((((t2996.fCode == 0) && (t2996.fBlock.fPrev == t2963.fPrev)) && (t2996.fBlock.fHeight == t2963.fHeight)) && (t2996.fBlock.fMiner == t2963.fMiner)) && t3025) && (decide (10 < (t2973.fText.size : Int)))) && (t3009.fValue == t3027.fValue)) = false := by simp only [hg3046, Bool.and_true, Bool.true_and, Bool.and_false, Bool.false_and, Bool.or_true, Bool.true_or, Bool.or_false, Bool.false_or, Bool.not_true, Bool.not_false, Bool.not_not]
                      refine drwp_take (v := .bool (((((((t2996.fCode == 0) && (t2996.fBlock.fPrev == t2963.fPrev)) && (t2996.fBlock.fHeight == t2963.fHeight)) && (t2996.fBlock.fMiner == t2963.fMiner)) && t3025) && (decide (10 < (t2973.fText.size : Int)))) && (t3009.fValue == t3027.fValue))) rfl (guard_none rfl) rfl rfl (fun w_ hS_ => (ex_pand_f rfl rfl hg3046)) hS ?_
                      refine drwp_take rfl (guard_none rfl) rfl rfl (fun w_ hS_ => (ex_move rfl rfl)) hS ?_
                      refine drwp_off rfl (guard_off rfl rfl rfl hg3047) rfl rfl hS ?_
                      refine drwp_off rfl (guard_off rfl rfl rfl hg3047) rfl rfl hS ?_
                      refine drwp_off rfl (guard_off rfl rfl rfl hg3047) rfl rfl hS ?_
                      refine drwp_off rfl (guard_off rfl rfl rfl hg3047) rfl rfl hS ?_
                      refine drwp_off rfl (guard_undef rfl rfl rfl) rfl rfl hS ?_
                      refine drwp_off rfl (guard_undef rfl rfl rfl) rfl rfl hS ?_
                      refine drwp_off rfl (guard_undef rfl rfl rfl) rfl rfl hS ?_
                      refine drwp_off rfl (guard_off rfl rfl rfl hg3047) rfl rfl hS ?_
                      refine drwp_off rfl (guard_off rfl rfl rfl hg3047) rfl rfl hS ?_
                      refine drwp_off rfl (guard_undef rfl rfl rfl) rfl rfl hS ?_
                      refine drwp_off rfl (guard_undef rfl rfl rfl) rfl rfl hS ?_
                      refine drwp_off rfl (guard_undef rfl rfl rfl) rfl rfl hS ?_
                      refine drwp_off rfl (guard_undef rfl rfl rfl) rfl rfl hS ?_
                      refine drwp_off rfl (guard_undef rfl rfl rfl) rfl rfl hS ?_
                      refine drwp_off rfl (guard_off rfl rfl rfl hg3047) rfl rfl hS ?_
                      have hg3048 : ((((((((t2996.fCode == 0) && (t2996.fBlock.fPrev == t2963.fPrev)) && (t2996.fBlock.fHeight == t2963.fHeight)) && (t2996.fBlock.fMiner == t2963.fMiner)) && t3025) && (decide (10 < (t2973.fText.size : Int)))) && (t3009.fValue == t3027.fValue)) && (((t3009.fCode != 0) || (t3017.fCode != 0)) || (decide (t3017.fValue ≤ t3009.fValue)))) = false := by simp only [hg3047, Bool.and_true, Bool.true_and, Bool.and_false, Bool.false_and, Bool.or_true, Bool.true_or, Bool.or_false, Bool.false_or, Bool.not_true, Bool.not_false, Bool.not_not]
                      refine drwp_take (v := .bool ((((((((t2996.fCode == 0) && (t2996.fBlock.fPrev == t2963.fPrev)) && (t2996.fBlock.fHeight == t2963.fHeight)) && (t2996.fBlock.fMiner == t2963.fMiner)) && t3025) && (decide (10 < (t2973.fText.size : Int)))) && (t3009.fValue == t3027.fValue)) && (((t3009.fCode != 0) || (t3017.fCode != 0)) || (decide (t3017.fValue ≤ t3009.fValue))))) rfl (guard_none rfl) rfl rfl (fun w_ hS_ => (ex_pand_f rfl rfl hg3047)) hS ?_
                      refine drwp_take rfl (guard_none rfl) rfl rfl (fun w_ hS_ => (ex_assign rfl rfl)) hS ?_
                      refine drwp_done ?_
                      replace HM := (HM.front 0 rfl rfl).drop
                      replace HM := (HM.front 0 rfl rfl).drop
                      replace HM := (HM.front 0 rfl rfl).drop
                      replace HM := (HM.front 0 rfl rfl).drop
                      replace HM := (HM.front 0 rfl rfl).drop
                      replace HM := (HM.front 0 rfl rfl).drop
                      replace HM := (HM.front 0 rfl rfl).drop
                      exact at_meet [(2, .bool ((((((((t2996.fCode == 0) && (t2996.fBlock.fPrev == t2963.fPrev)) && (t2996.fBlock.fHeight == t2963.fHeight)) && (t2996.fBlock.fMiner == t2963.fMiner)) && t3025) && (decide (10 < (t2973.fText.size : Int)))) && (t3009.fValue == t3027.fValue)) && (((t3009.fCode != 0) || (t3017.fCode != 0)) || (decide (t3017.fValue ≤ t3009.fValue)))))] ⟨rfl, HM⟩ (Sub.cons rfl Sub.nil)
                  · skip
                    refine drwp_off rfl (guard_off rfl rfl rfl hg3032) rfl rfl hS ?_
                    refine drwp_off rfl (guard_off rfl rfl rfl hg3032) rfl rfl hS ?_
                    refine drwp_off rfl (guard_off rfl rfl rfl hg3032) rfl rfl hS ?_
                    refine drwp_off rfl (guard_off rfl rfl rfl hg3032) rfl rfl hS ?_
                    refine drwp_off rfl (guard_off rfl rfl rfl hg3032) rfl rfl hS ?_
                    refine drwp_off1 rfl (guard_off rfl rfl rfl hg3032) rfl rfl ⟨hS, ?_⟩
                    have hg3049 : (((((t2996.fCode == 0) && (t2996.fBlock.fPrev == t2963.fPrev)) && (t2996.fBlock.fHeight == t2963.fHeight)) && (t2996.fBlock.fMiner == t2963.fMiner)) && t3025) = false := by simp only [hg3032, Bool.and_true, Bool.true_and, Bool.and_false, Bool.false_and, Bool.or_true, Bool.true_or, Bool.or_false, Bool.false_or, Bool.not_true, Bool.not_false, Bool.not_not]
                    refine drwp_take (v := .bool (((((t2996.fCode == 0) && (t2996.fBlock.fPrev == t2963.fPrev)) && (t2996.fBlock.fHeight == t2963.fHeight)) && (t2996.fBlock.fMiner == t2963.fMiner)) && t3025)) rfl (guard_none rfl) rfl rfl (fun w_ hS_ => (ex_pand_f rfl rfl hg3032)) hS ?_
                    refine drwp_take rfl (guard_none rfl) rfl rfl (fun w_ hS_ => (ex_move rfl rfl)) hS ?_
                    refine drwp_off rfl (guard_off rfl rfl rfl hg3049) rfl rfl hS ?_
                    refine drwp_off rfl (guard_off rfl rfl rfl hg3049) rfl rfl hS ?_
                    refine drwp_off rfl (guard_off rfl rfl rfl hg3049) rfl rfl hS ?_
                    refine drwp_off rfl (guard_off rfl rfl rfl hg3049) rfl rfl hS ?_
                    have hg3050 : ((((((t2996.fCode == 0) && (t2996.fBlock.fPrev == t2963.fPrev)) && (t2996.fBlock.fHeight == t2963.fHeight)) && (t2996.fBlock.fMiner == t2963.fMiner)) && t3025) && (decide (10 < (t2973.fText.size : Int)))) = false := by simp only [hg3049, Bool.and_true, Bool.true_and, Bool.and_false, Bool.false_and, Bool.or_true, Bool.true_or, Bool.or_false, Bool.false_or, Bool.not_true, Bool.not_false, Bool.not_not]
                    refine drwp_take (v := .bool ((((((t2996.fCode == 0) && (t2996.fBlock.fPrev == t2963.fPrev)) && (t2996.fBlock.fHeight == t2963.fHeight)) && (t2996.fBlock.fMiner == t2963.fMiner)) && t3025) && (decide (10 < (t2973.fText.size : Int))))) rfl (guard_none rfl) rfl rfl (fun w_ hS_ => (ex_pand_f rfl rfl hg3049)) hS ?_
                    refine drwp_take rfl (guard_none rfl) rfl rfl (fun w_ hS_ => (ex_move rfl rfl)) hS ?_
                    refine drwp_off rfl (guard_off rfl rfl rfl hg3050) rfl rfl hS ?_
                    refine drwp_off rfl (guard_off rfl rfl rfl hg3050) rfl rfl hS ?_
                    refine drwp_off rfl (guard_off rfl rfl rfl hg3050) rfl rfl hS ?_
                    refine drwp_off1 rfl (guard_off rfl rfl rfl hg3050) rfl rfl ⟨hS, ?_⟩
                    refine drwp_off rfl (guard_off rfl rfl rfl hg3050) rfl rfl hS ?_
                    refine drwp_off rfl (guard_off rfl rfl rfl hg3050) rfl rfl hS ?_
                    have hg3051 : (((((((t2996.fCode == 0) && (t2996.fBlock.fPrev == t2963.fPrev)) && (t2996.fBlock.fHeight == t2963.fHeight)) && (t2996.fBlock.fMiner == t2963.fMiner)) && t3025) && (decide (10 < (t2973.fText.size : Int)))) && (t3009.fValue == t3027.fValue)) = false := by simp only [hg3050, Bool.and_true, Bool.true_and, Bool.and_false, Bool.false_and, Bool.or_true, Bool.true_or, Bool.or_false, Bool.false_or, Bool.not_true, Bool.not_false, Bool.not_not]
                    refine drwp_take (v := .bool (((((((t2996.fCode == 0) && (t2996.fBlock.fPrev == t2963.fPrev)) && (t2996.fBlock.fHeight == t2963.fHeight)) && (t2996.fBlock.fMiner == t2963.fMiner)) && t3025) && (decide (10 < (t2973.fText.size : Int)))) && (t3009.fValue == t3027.fValue))) rfl (guard_none rfl) rfl rfl (fun w_ hS_ => (ex_pand_f rfl rfl hg3050)) hS ?_
                    refine drwp_take rfl (guard_none rfl) rfl rfl (fun w_ hS_ => (ex_move rfl rfl)) hS ?_
                    refine drwp_off rfl (guard_off rfl rfl rfl hg3051) rfl rfl hS ?_
                    refine drwp_off rfl (guard_off rfl rfl rfl hg3051) rfl rfl hS ?_
                    refine drwp_off rfl (guard_off rfl rfl rfl hg3051) rfl rfl hS ?_
                    refine drwp_off rfl (guard_off rfl rfl rfl hg3051) rfl rfl hS ?_
                    refine drwp_off rfl (guard_undef rfl rfl rfl) rfl rfl hS ?_
                    refine drwp_off rfl (guard_undef rfl rfl rfl) rfl rfl hS ?_
                    refine drwp_off rfl (guard_undef rfl rfl rfl) rfl rfl hS ?_
                    refine drwp_off rfl (guard_off rfl rfl rfl hg3051) rfl rfl hS ?_
                    refine drwp_off rfl (guard_off rfl rfl rfl hg3051) rfl rfl hS ?_
                    refine drwp_off rfl (guard_undef rfl rfl rfl) rfl rfl hS ?_
                    refine drwp_off rfl (guard_undef rfl rfl rfl) rfl rfl hS ?_
                    refine drwp_off rfl (guard_undef rfl rfl rfl) rfl rfl hS ?_
                    refine drwp_off rfl (guard_undef rfl rfl rfl) rfl rfl hS ?_
                    refine drwp_off rfl (guard_undef rfl rfl rfl) rfl rfl hS ?_
                    refine drwp_off rfl (guard_off rfl rfl rfl hg3051) rfl rfl hS ?_
                    have hg3052 : ((((((((t2996.fCode == 0) && (t2996.fBlock.fPrev == t2963.fPrev)) && (t2996.fBlock.fHeight == t2963.fHeight)) && (t2996.fBlock.fMiner == t2963.fMiner)) && t3025) && (decide (10 < (t2973.fText.size : Int)))) && (t3009.fValue == t3027.fValue)) && (((t3009.fCode != 0) || (t3017.fCode != 0)) || (decide (t3017.fValue ≤ t3009.fValue)))) = false := by simp only [hg3051, Bool.and_true, Bool.true_and, Bool.and_false, Bool.false_and, Bool.or_true, Bool.true_or, Bool.or_false, Bool.false_or, Bool.not_true, Bool.not_false, Bool.not_not]
                    refine drwp_take (v := .bool ((((((((t2996.fCode == 0) && (t2996.fBlock.fPrev == t2963.fPrev)) && (t2996.fBlock.fHeight == t2963.fHeight)) && (t2996.fBlock.fMiner == t2963.fMiner)) && t3025) && (decide (10 < (t2973.fText.size : Int)))) && (t3009.fValue == t3027.fValue)) && (((t3009.fCode != 0) || (t3017.fCode != 0)) || (decide (t3017.fValue ≤ t3009.fValue))))) rfl (guard_none rfl) rfl rfl (fun w_ hS_ => (ex_pand_f rfl rfl hg3051)) hS ?_
                    refine drwp_take rfl (guard_none rfl) rfl rfl (fun w_ hS_ => (ex_assign rfl rfl)) hS ?_
                    refine drwp_done ?_
                    replace HM := (HM.front 0 rfl rfl).drop
                    replace HM := (HM.front 0 rfl rfl).drop
                    replace HM := (HM.front 0 rfl rfl).drop
                    replace HM := (HM.front 0 rfl rfl).drop
                    replace HM := (HM.front 0 rfl rfl).drop
                    replace HM := (HM.front 0 rfl rfl).drop
                    replace HM := (HM.front 0 rfl rfl).drop
                    exact at_meet [(2, .bool ((((((((t2996.fCode == 0) && (t2996.fBlock.fPrev == t2963.fPrev)) && (t2996.fBlock.fHeight == t2963.fHeight)) && (t2996.fBlock.fMiner == t2963.fMiner)) && t3025) && (decide (10 < (t2973.fText.size : Int)))) && (t3009.fValue == t3027.fValue)) && (((t3009.fCode != 0) || (t3017.fCode != 0)) || (decide (t3017.fValue ≤ t3009.fValue)))))] ⟨rfl, HM⟩ (Sub.cons rfl Sub.nil)
                · skip
                  refine drwp_off rfl (guard_off rfl rfl rfl hg3031) rfl rfl hS ?_
                  refine drwp_off rfl (guard_off rfl rfl rfl hg3031) rfl rfl hS ?_
                  refine drwp_off rfl (guard_off rfl rfl rfl hg3031) rfl rfl hS ?_
                  refine drwp_off rfl (guard_off rfl rfl rfl hg3031) rfl rfl hS ?_
                  refine drwp_off rfl (guard_off rfl rfl rfl hg3031) rfl rfl hS ?_
                  refine drwp_off rfl (guard_off rfl rfl rfl hg3031) rfl rfl hS ?_
                  have hg3053 : ((((t2996.fCode == 0) && (t2996.fBlock.fPrev == t2963.fPrev)) && (t2996.fBlock.fHeight == t2963.fHeight)) && (t2996.fBlock.fMiner == t2963.fMiner)) = false := by simp only [hg3031, Bool.and_true, Bool.true_and, Bool.and_false, Bool.false_and, Bool.or_true, Bool.true_or, Bool.or_false, Bool.false_or, Bool.not_true, Bool.not_false, Bool.not_not]
                  refine drwp_take (v := .bool ((((t2996.fCode == 0) && (t2996.fBlock.fPrev == t2963.fPrev)) && (t2996.fBlock.fHeight == t2963.fHeight)) && (t2996.fBlock.fMiner == t2963.fMiner))) rfl (guard_none rfl) rfl rfl (fun w_ hS_ => (ex_pand_f rfl rfl hg3031)) hS ?_
                  refine drwp_take rfl (guard_none rfl) rfl rfl (fun w_ hS_ => (ex_move rfl rfl)) hS ?_
                  refine drwp_off rfl (guard_off rfl rfl rfl hg3053) rfl rfl hS ?_
                  refine drwp_off rfl (guard_off rfl rfl rfl hg3053) rfl rfl hS ?_
                  refine drwp_off rfl (guard_off rfl rfl rfl hg3053) rfl rfl hS ?_
                  refine drwp_off rfl (guard_off rfl rfl rfl hg3053) rfl rfl hS ?_
                  refine drwp_off rfl (guard_off rfl rfl rfl hg3053) rfl rfl hS ?_
                  refine drwp_off1 rfl (guard_off rfl rfl rfl hg3053) rfl rfl ⟨hS, ?_⟩
                  have hg3054 : (((((t2996.fCode == 0) && (t2996.fBlock.fPrev == t2963.fPrev)) && (t2996.fBlock.fHeight == t2963.fHeight)) && (t2996.fBlock.fMiner == t2963.fMiner)) && t3025) = false := by simp only [hg3053, Bool.and_true, Bool.true_and, Bool.and_false, Bool.false_and, Bool.or_true, Bool.true_or, Bool.or_false, Bool.false_or, Bool.not_true, Bool.not_false, Bool.not_not]
                  refine drwp_take (v := .bool (((((t2996.fCode == 0) && (t2996.fBlock.fPrev == t2963.fPrev)) && (t2996.fBlock.fHeight == t2963.fHeight)) && (t2996.fBlock.fMiner == t2963.fMiner)) && t3025)) rfl (guard_none rfl) rfl rfl (fun w_ hS_ => (ex_pand_f rfl rfl hg3053)) hS ?_
                  refine drwp_take rfl (guard_none rfl) rfl rfl (fun w_ hS_ => (ex_move rfl rfl)) hS ?_
                  refine drwp_off rfl (guard_off rfl rfl rfl hg3054) rfl rfl hS ?_
                  refine drwp_off rfl (guard_off rfl rfl rfl hg3054) rfl rfl hS ?_
                  refine drwp_off rfl (guard_off rfl rfl rfl hg3054) rfl rfl hS ?_
                  refine drwp_off rfl (guard_off rfl rfl rfl hg3054) rfl rfl hS ?_
                  have hg3055 : ((((((t2996.fCode == 0) && (t2996.fBlock.fPrev == t2963.fPrev)) && (t2996.fBlock.fHeight == t2963.fHeight)) && (t2996.fBlock.fMiner == t2963.fMiner)) && t3025) && (decide (10 < (t2973.fText.size : Int)))) = false := by simp only [hg3054, Bool.and_true, Bool.true_and, Bool.and_false, Bool.false_and, Bool.or_true, Bool.true_or, Bool.or_false, Bool.false_or, Bool.not_true, Bool.not_false, Bool.not_not]
                  refine drwp_take (v := .bool ((((((t2996.fCode == 0) && (t2996.fBlock.fPrev == t2963.fPrev)) && (t2996.fBlock.fHeight == t2963.fHeight)) && (t2996.fBlock.fMiner == t2963.fMiner)) && t3025) && (decide (10 < (t2973.fText.size : Int))))) rfl (guard_none rfl) rfl rfl (fun w_ hS_ => (ex_pand_f rfl rfl hg3054)) hS ?_
                  refine drwp_take rfl (guard_none rfl) rfl rfl (fun w_ hS_ => (ex_move rfl rfl)) hS ?_
                  refine drwp_off rfl (guard_off rfl rfl rfl hg3055) rfl rfl hS ?_
                  refine drwp_off rfl (guard_off rfl rfl rfl hg3055) rfl rfl hS ?_
                  refine drwp_off rfl (guard_off rfl rfl rfl hg3055) rfl rfl hS ?_
                  refine drwp_off1 rfl (guard_off rfl rfl rfl hg3055) rfl rfl ⟨hS, ?_⟩
                  refine drwp_off rfl (guard_off rfl rfl rfl hg3055) rfl rfl hS ?_
                  refine drwp_off rfl (guard_off rfl rfl rfl hg3055) rfl rfl hS ?_
                  have hg3056 : (((((((t2996.fCode == 0) && (t2996.fBlock.fPrev == t2963.fPrev)) && (t2996.fBlock.fHeight == t2963.fHeight)) && (t2996.fBlock.fMiner == t2963.fMiner)) && t3025) && (decide (10 < (t2973.fText.size : Int)))) && (t3009.fValue == t3027.fValue)) = false := by simp only [hg3055, Bool.and_true, Bool.true_and, Bool.and_false, Bool.false_and, Bool.or_true, Bool.true_or, Bool.or_false, Bool.false_or, Bool.not_true, Bool.not_false, Bool.not_not]
                  refine drwp_take (v := .bool (((((((t2996.fCode == 0) && (t2996.fBlock.fPrev == t2963.fPrev)) && (t2996.fBlock.fHeight == t2963.fHeight)) && (t2996.fBlock.fMiner == t2963.fMiner)) && t3025) && (decide (10 < (t2973.fText.size : Int)))) && (t3009.fValue == t3027.fValue))) rfl (guard_none rfl) rfl rfl (fun w_ hS_ => (ex_pand_f rfl rfl hg3055)) hS ?_
                  refine drwp_take rfl (guard_none rfl) rfl rfl (fun w_ hS_ => (ex_move rfl rfl)) hS ?_
                  refine drwp_off rfl (guard_off rfl rfl rfl hg3056) rfl rfl hS ?_
                  refine drwp_off rfl (guard_off rfl rfl rfl hg3056) rfl rfl hS ?_
                  refine drwp_off rfl (guard_off rfl rfl rfl hg3056) rfl rfl hS ?_
                  refine drwp_off rfl (guard_off rfl rfl rfl hg3056) rfl rfl hS ?_
                  refine drwp_off rfl (guard_undef rfl rfl rfl) rfl rfl hS ?_
                  refine drwp_off rfl (guard_undef rfl rfl rfl) rfl rfl hS ?_
                  refine drwp_off rfl (guard_undef rfl rfl rfl) rfl rfl hS ?_
                  refine drwp_off rfl (guard_off rfl rfl rfl hg3056) rfl rfl hS ?_
                  refine drwp_off rfl (guard_off rfl rfl rfl hg3056) rfl rfl hS ?_
                  refine drwp_off rfl (guard_undef rfl rfl rfl) rfl rfl hS ?_
                  refine drwp_off rfl (guard_undef rfl rfl rfl) rfl rfl hS ?_
                  refine drwp_off rfl (guard_undef rfl rfl rfl) rfl rfl hS ?_
                  refine drwp_off rfl (guard_undef rfl rfl rfl) rfl rfl hS ?_
                  refine drwp_off rfl (guard_undef rfl rfl rfl) rfl rfl hS ?_
                  refine drwp_off rfl (guard_off rfl rfl rfl hg3056) rfl rfl hS ?_
                  have hg3057 : ((((((((t2996.fCode == 0) && (t2996.fBlock.fPrev == t2963.fPrev)) && (t2996.fBlock.fHeight == t2963.fHeight)) && (t2996.fBlock.fMiner == t2963.fMiner)) && t3025) && (decide (10 < (t2973.fText.size : Int)))) && (t3009.fValue == t3027.fValue)) && (((t3009.fCode != 0) || (t3017.fCode != 0)) || (decide (t3017.fValue ≤ t3009.fValue)))) = false := by simp only [hg3056, Bool.and_true, Bool.true_and, Bool.and_false, Bool.false_and, Bool.or_true, Bool.true_or, Bool.or_false, Bool.false_or, Bool.not_true, Bool.not_false, Bool.not_not]
                  refine drwp_take (v := .bool ((((((((t2996.fCode == 0) && (t2996.fBlock.fPrev == t2963.fPrev)) && (t2996.fBlock.fHeight == t2963.fHeight)) && (t2996.fBlock.fMiner == t2963.fMiner)) && t3025) && (decide (10 < (t2973.fText.size : Int)))) && (t3009.fValue == t3027.fValue)) && (((t3009.fCode != 0) || (t3017.fCode != 0)) || (decide (t3017.fValue ≤ t3009.fValue))))) rfl (guard_none rfl) rfl rfl (fun w_ hS_ => (ex_pand_f rfl rfl hg3056)) hS ?_
                  refine drwp_take rfl (guard_none rfl) rfl rfl (fun w_ hS_ => (ex_assign rfl rfl)) hS ?_
                  refine drwp_done ?_
                  replace HM := (HM.front 0 rfl rfl).drop
                  replace HM := (HM.front 0 rfl rfl).drop
                  replace HM := (HM.front 0 rfl rfl).drop
                  replace HM := (HM.front 0 rfl rfl).drop
                  replace HM := (HM.front 0 rfl rfl).drop
                  replace HM := (HM.front 0 rfl rfl).drop
                  replace HM := (HM.front 0 rfl rfl).drop
                  exact at_meet [(2, .bool ((((((((t2996.fCode == 0) && (t2996.fBlock.fPrev == t2963.fPrev)) && (t2996.fBlock.fHeight == t2963.fHeight)) && (t2996.fBlock.fMiner == t2963.fMiner)) && t3025) && (decide (10 < (t2973.fText.size : Int)))) && (t3009.fValue == t3027.fValue)) && (((t3009.fCode != 0) || (t3017.fCode != 0)) || (decide (t3017.fValue ≤ t3009.fValue)))))] ⟨rfl, HM⟩ (Sub.cons rfl Sub.nil)
              · skip
                refine drwp_off rfl (guard_off rfl rfl rfl hg3030) rfl rfl hS ?_
                refine drwp_off rfl (guard_off rfl rfl rfl hg3030) rfl rfl hS ?_
                refine drwp_off rfl (guard_off rfl rfl rfl hg3030) rfl rfl hS ?_
                refine drwp_off rfl (guard_off rfl rfl rfl hg3030) rfl rfl hS ?_
                refine drwp_off rfl (guard_off rfl rfl rfl hg3030) rfl rfl hS ?_
                refine drwp_off rfl (guard_off rfl rfl rfl hg3030) rfl rfl hS ?_
                have hg3058 : (((t2996.fCode == 0) && (t2996.fBlock.fPrev == t2963.fPrev)) && (t2996.fBlock.fHeight == t2963.fHeight)) = false := by simp only [hg3030, Bool.and_true, Bool.true_and, Bool.and_false, Bool.false_and, Bool.or_true, Bool.true_or, Bool.or_false, Bool.false_or, Bool.not_true, Bool.not_false, Bool.not_not]
                refine drwp_take (v := .bool (((t2996.fCode == 0) && (t2996.fBlock.fPrev == t2963.fPrev)) && (t2996.fBlock.fHeight == t2963.fHeight))) rfl (guard_none rfl) rfl rfl (fun w_ hS_ => (ex_pand_f rfl rfl hg3030)) hS ?_
                refine drwp_take rfl (guard_none rfl) rfl rfl (fun w_ hS_ => (ex_move rfl rfl)) hS ?_
                refine drwp_off rfl (guard_off rfl rfl rfl hg3058) rfl rfl hS ?_
                refine drwp_off rfl (guard_off rfl rfl rfl hg3058) rfl rfl hS ?_
                refine drwp_off rfl (guard_off rfl rfl rfl hg3058) rfl rfl hS ?_
                refine drwp_off rfl (guard_off rfl rfl rfl hg3058) rfl rfl hS ?_
                refine drwp_off rfl (guard_off rfl rfl rfl hg3058) rfl rfl hS ?_
                refine drwp_off rfl (guard_off rfl rfl rfl hg3058) rfl rfl hS ?_
                have hg3059 : ((((t2996.fCode == 0) && (t2996.fBlock.fPrev == t2963.fPrev)) && (t2996.fBlock.fHeight == t2963.fHeight)) && (t2996.fBlock.fMiner == t2963.fMiner)) = false := by simp only [hg3058, Bool.and_true, Bool.true_and, Bool.and_false, Bool.false_and, Bool.or_true, Bool.true_or, Bool.or_false, Bool.false_or, Bool.not_true, Bool.not_false, Bool.not_not]
                refine drwp_take (v := .bool ((((t2996.fCode == 0) && (t2996.fBlock.fPrev == t2963.fPrev)) && (t2996.fBlock.fHeight == t2963.fHeight)) && (t2996.fBlock.fMiner == t2963.fMiner))) rfl (guard_none rfl) rfl rfl (fun w_ hS_ => (ex_pand_f rfl rfl hg3058)) hS ?_
                refine drwp_take rfl (guard_none rfl) rfl rfl (fun w_ hS_ => (ex_move rfl rfl)) hS ?_
                refine drwp_off rfl (guard_off rfl rfl rfl hg3059) rfl rfl hS ?_
                refine drwp_off rfl (guard_off rfl rfl rfl hg3059) rfl rfl hS ?_
                refine drwp_off rfl (guard_off rfl rfl rfl hg3059) rfl rfl hS ?_
                refine drwp_off rfl (guard_off rfl rfl rfl hg3059) rfl rfl hS ?_
                refine drwp_off rfl (guard_off rfl rfl rfl hg3059) rfl rfl hS ?_
                refine drwp_off1 rfl (guard_off rfl rfl rfl hg3059) rfl rfl ⟨hS, ?_⟩
                have hg3060 : (((((t2996.fCode == 0) && (t2996.fBlock.fPrev == t2963.fPrev)) && (t2996.fBlock.fHeight == t2963.fHeight)) && (t2996.fBlock.fMiner == t2963.fMiner)) && t3025) = false := by simp only [hg3059, Bool.and_true, Bool.true_and, Bool.and_false, Bool.false_and, Bool.or_true, Bool.true_or, Bool.or_false, Bool.false_or, Bool.not_true, Bool.not_false, Bool.not_not]
                refine drwp_take (v := .bool (((((t2996.fCode == 0) && (t2996.fBlock.fPrev == t2963.fPrev)) && (t2996.fBlock.fHeight == t2963.fHeight)) && (t2996.fBlock.fMiner == t2963.fMiner)) && t3025)) rfl (guard_none rfl) rfl rfl (fun w_ hS_ => (ex_pand_f rfl rfl hg3059)) hS ?_
                refine drwp_take rfl (guard_none rfl) rfl rfl (fun w_ hS_ => (ex_move rfl rfl)) hS ?_
                refine drwp_off rfl (guard_off rfl rfl rfl hg3060) rfl rfl hS ?_
                refine drwp_off rfl (guard_off rfl rfl rfl hg3060) rfl rfl hS ?_
                refine drwp_off rfl (guard_off rfl rfl rfl hg3060) rfl rfl hS ?_
                refine drwp_off rfl (guard_off rfl rfl rfl hg3060) rfl rfl hS ?_
                have hg3061 : ((((((t2996.fCode == 0) && (t2996.fBlock.fPrev == t2963.fPrev)) && (t2996.fBlock.fHeight == t2963.fHeight)) && (t2996.fBlock.fMiner == t2963.fMiner)) && t3025) && (decide (10 < (t2973.fText.size : Int)))) = false := by simp only [hg3060, Bool.and_true, Bool.true_and, Bool.and_false, Bool.false_and, Bool.or_true, Bool.true_or, Bool.or_false, Bool.false_or, Bool.not_true, Bool.not_false, Bool.not_not]
                refine drwp_take (v := .bool ((((((t2996.fCode == 0) && (t2996.fBlock.fPrev == t2963.fPrev)) && (t2996.fBlock.fHeight == t2963.fHeight)) && (t2996.fBlock.fMiner == t2963.fMiner)) && t3025) && (decide (10 < (t2973.fText.size : Int))))) rfl (guard_none rfl) rfl rfl (fun w_ hS_ => (ex_pand_f rfl rfl hg3060)) hS ?_
                refine drwp_take rfl (guard_none rfl) rfl rfl (fun w_ hS_ => (ex_move rfl rfl)) hS ?_
                refine drwp_off rfl (guard_off rfl rfl rfl hg3061) rfl rfl hS ?_
                refine drwp_off rfl (guard_off rfl rfl rfl hg3061) rfl rfl hS ?_
                refine drwp_off rfl (guard_off rfl rfl rfl hg3061) rfl rfl hS ?_
                refine drwp_off1 rfl (guard_off rfl rfl rfl hg3061) rfl rfl ⟨hS, ?_⟩
                refine drwp_off rfl (guard_off rfl rfl rfl hg3061) rfl rfl hS ?_
                refine drwp_off rfl (guard_off rfl rfl rfl hg3061) rfl rfl hS ?_
                have hg3062 : (((((((t2996.fCode == 0) && (t2996.fBlock.fPrev == t2963.fPrev)) && (t2996.fBlock.fHeight == t2963.fHeight)) && (t2996.fBlock.fMiner == t2963.fMiner)) && t3025) && (decide (10 < (t2973.fText.size : Int)))) && (t3009.fValue == t3027.fValue)) = false := by simp only [hg3061, Bool.and_true, Bool.true_and, Bool.and_false, Bool.false_and, Bool.or_true, Bool.true_or, Bool.or_false, Bool.false_or, Bool.not_true, Bool.not_false, Bool.not_not]
                refine drwp_take (v := .bool (((((((t2996.fCode == 0) && (t2996.fBlock.fPrev == t2963.fPrev)) && (t2996.fBlock.fHeight == t2963.fHeight)) && (t2996.fBlock.fMiner == t2963.fMiner)) && t3025) && (decide (10 < (t2973.fText.size : Int)))) && (t3009.fValue == t3027.fValue))) rfl (guard_none rfl) rfl rfl (fun w_ hS_ => (ex_pand_f rfl rfl hg3061)) hS ?_
                refine drwp_take rfl (guard_none rfl) rfl rfl (fun w_ hS_ => (ex_move rfl rfl)) hS ?_
                refine drwp_off rfl (guard_off rfl rfl rfl hg3062) rfl rfl hS ?_
                refine drwp_off rfl (guard_off rfl rfl rfl hg3062) rfl rfl hS ?_
                refine drwp_off rfl (guard_off rfl rfl rfl hg3062) rfl rfl hS ?_
                refine drwp_off rfl (guard_off rfl rfl rfl hg3062) rfl rfl hS ?_
                refine drwp_off rfl (guard_undef rfl rfl rfl) rfl rfl hS ?_
                refine drwp_off rfl (guard_undef rfl rfl rfl) rfl rfl hS ?_
                refine drwp_off rfl (guard_undef rfl rfl rfl) rfl rfl hS ?_
                refine drwp_off rfl (guard_off rfl rfl rfl hg3062) rfl rfl hS ?_
                refine drwp_off rfl (guard_off rfl rfl rfl hg3062) rfl rfl hS ?_
                refine drwp_off rfl (guard_undef rfl rfl rfl) rfl rfl hS ?_
                refine drwp_off rfl (guard_undef rfl rfl rfl) rfl rfl hS ?_
                refine drwp_off rfl (guard_undef rfl rfl rfl) rfl rfl hS ?_
                refine drwp_off rfl (guard_undef rfl rfl rfl) rfl rfl hS ?_
                refine drwp_off rfl (guard_undef rfl rfl rfl) rfl rfl hS ?_
                refine drwp_off rfl (guard_off rfl rfl rfl hg3062) rfl rfl hS ?_
                have hg3063 : ((((((((t2996.fCode == 0) && (t2996.fBlock.fPrev == t2963.fPrev)) && (t2996.fBlock.fHeight == t2963.fHeight)) && (t2996.fBlock.fMiner == t2963.fMiner)) && t3025) && (decide (10 < (t2973.fText.size : Int)))) && (t3009.fValue == t3027.fValue)) && (((t3009.fCode != 0) || (t3017.fCode != 0)) || (decide (t3017.fValue ≤ t3009.fValue)))) = false := by simp only [hg3062, Bool.and_true, Bool.true_and, Bool.and_false, Bool.false_and, Bool.or_true, Bool.true_or, Bool.or_false, Bool.false_or, Bool.not_true, Bool.not_false, Bool.not_not]
                refine drwp_take (v := .bool ((((((((t2996.fCode == 0) && (t2996.fBlock.fPrev == t2963.fPrev)) && (t2996.fBlock.fHeight == t2963.fHeight)) && (t2996.fBlock.fMiner == t2963.fMiner)) && t3025) && (decide (10 < (t2973.fText.size : Int)))) && (t3009.fValue == t3027.fValue)) && (((t3009.fCode != 0) || (t3017.fCode != 0)) || (decide (t3017.fValue ≤ t3009.fValue))))) rfl (guard_none rfl) rfl rfl (fun w_ hS_ => (ex_pand_f rfl rfl hg3062)) hS ?_
                refine drwp_take rfl (guard_none rfl) rfl rfl (fun w_ hS_ => (ex_assign rfl rfl)) hS ?_
                refine drwp_done ?_
                replace HM := (HM.front 0 rfl rfl).drop
                replace HM := (HM.front 0 rfl rfl).drop
                replace HM := (HM.front 0 rfl rfl).drop
                replace HM := (HM.front 0 rfl rfl).drop
                replace HM := (HM.front 0 rfl rfl).drop
                replace HM := (HM.front 0 rfl rfl).drop
                replace HM := (HM.front 0 rfl rfl).drop
                exact at_meet [(2, .bool ((((((((t2996.fCode == 0) && (t2996.fBlock.fPrev == t2963.fPrev)) && (t2996.fBlock.fHeight == t2963.fHeight)) && (t2996.fBlock.fMiner == t2963.fMiner)) && t3025) && (decide (10 < (t2973.fText.size : Int)))) && (t3009.fValue == t3027.fValue)) && (((t3009.fCode != 0) || (t3017.fCode != 0)) || (decide (t3017.fValue ≤ t3009.fValue)))))] ⟨rfl, HM⟩ (Sub.cons rfl Sub.nil)
            · skip
              refine drwp_off rfl (guard_off rfl rfl rfl hg3029) rfl rfl hS ?_
              refine drwp_off rfl (guard_off rfl rfl rfl hg3029) rfl rfl hS ?_
              refine drwp_off rfl (guard_off rfl rfl rfl hg3029) rfl rfl hS ?_
              refine drwp_off rfl (guard_off rfl rfl rfl hg3029) rfl rfl hS ?_
              refine drwp_off rfl (guard_off rfl rfl rfl hg3029) rfl rfl hS ?_
              refine drwp_off rfl (guard_off rfl rfl rfl hg3029) rfl rfl hS ?_
              have hg3064 : ((t2996.fCode == 0) && (t2996.fBlock.fPrev == t2963.fPrev)) = false := by simp only [hg3029, Bool.and_true, Bool.true_and, Bool.and_false, Bool.false_and, Bool.or_true, Bool.true_or, Bool.or_false, Bool.false_or, Bool.not_true, Bool.not_false, Bool.not_not]
              refine drwp_take (v := .bool ((t2996.fCode == 0) && (t2996.fBlock.fPrev == t2963.fPrev))) rfl (guard_none rfl) rfl rfl (fun w_ hS_ => (ex_pand_f rfl rfl hg3029)) hS ?_
              refine drwp_take rfl (guard_none rfl) rfl rfl (fun w_ hS_ => (ex_move rfl rfl)) hS ?_
              refine drwp_off rfl (guard_off rfl rfl rfl hg3064) rfl rfl hS ?_
              refine drwp_off rfl (guard_off rfl rfl rfl hg3064) rfl rfl hS ?_
              refine drwp_off rfl (guard_off rfl rfl rfl hg3064) rfl rfl hS ?_
              refine drwp_off rfl (guard_off rfl rfl rfl hg3064) rfl rfl hS ?_
              refine drwp_off rfl (guard_off rfl rfl rfl hg3064) rfl rfl hS ?_
              refine drwp_off rfl (guard_off rfl rfl rfl hg3064) rfl rfl hS ?_
              have hg3065 : (((t2996.fCode == 0) && (t2996.fBlock.fPrev == t2963.fPrev)) && (t2996.fBlock.fHeight == t2963.fHeight)) = false := by simp only [hg3064, Bool.and_true, Bool.true_and, Bool.and_false, Bool.false_and, Bool.or_true, Bool.true_or, Bool.or_false, Bool.false_or, Bool.not_true, Bool.not_false, Bool.not_not]
              refine drwp_take (v := .bool (((t2996.fCode == 0) && (t2996.fBlock.fPrev == t2963.fPrev)) && (t2996.fBlock.fHeight == t2963.fHeight))) rfl (guard_none rfl) rfl rfl (fun w_ hS_ => (ex_pand_f rfl rfl hg3064)) hS ?_
              refine drwp_take rfl (guard_none rfl) rfl rfl (fun w_ hS_ => (ex_move rfl rfl)) hS ?_
              refine drwp_off rfl (guard_off rfl rfl rfl hg3065) rfl rfl hS ?_
              refine drwp_off rfl (guard_off rfl rfl rfl hg3065) rfl rfl hS ?_
              refine drwp_off rfl (guard_off rfl rfl rfl hg3065) rfl rfl hS ?_
              refine drwp_off rfl (guard_off rfl rfl rfl hg3065) rfl rfl hS ?_
              refine drwp_off rfl (guard_off rfl rfl rfl hg3065) rfl rfl hS ?_
              refine drwp_off rfl (guard_off rfl rfl rfl hg3065) rfl rfl hS ?_
              have hg3066 : ((((t2996.fCode == 0) && (t2996.fBlock.fPrev == t2963.fPrev)) && (t2996.fBlock.fHeight == t2963.fHeight)) && (t2996.fBlock.fMiner == t2963.fMiner)) = false := by simp only [hg3065, Bool.and_true, Bool.true_and, Bool.and_false, Bool.false_and, Bool.or_true, Bool.true_or, Bool.or_false, Bool.false_or, Bool.not_true, Bool.not_false, Bool.not_not]
              refine drwp_take (v := .bool ((((t2996.fCode == 0) && (t2996.fBlock.fPrev == t2963.fPrev)) && (t2996.fBlock.fHeight == t2963.fHeight)) && (t2996.fBlock.fMiner == t2963.fMiner))) rfl (guard_none rfl) rfl rfl (fun w_ hS_ => (ex_pand_f rfl rfl hg3065)) hS ?_
              refine drwp_take rfl (guard_none rfl) rfl rfl (fun w_ hS_ => (ex_move rfl rfl)) hS ?_
              refine drwp_off rfl (guard_off rfl rfl rfl hg3066) rfl rfl hS ?_
              refine drwp_off rfl (guard_off rfl rfl rfl hg3066) rfl rfl hS ?_
              refine drwp_off rfl (guard_off rfl rfl rfl hg3066) rfl rfl hS ?_
              refine drwp_off rfl (guard_off rfl rfl rfl hg3066) rfl rfl hS ?_
              refine drwp_off rfl (guard_off rfl rfl rfl hg3066) rfl rfl hS ?_
              refine drwp_off1 rfl (guard_off rfl rfl rfl hg3066) rfl rfl ⟨hS, ?_⟩
              have hg3067 : (((((t2996.fCode == 0) && (t2996.fBlock.fPrev == t2963.fPrev)) && (t2996.fBlock.fHeight == t2963.fHeight)) && (t2996.fBlock.fMiner == t2963.fMiner)) && t3025) = false := by simp only [hg3066, Bool.and_true, Bool.true_and, Bool.and_false, Bool.false_and, Bool.or_true, Bool.true_or, Bool.or_false, Bool.false_or, Bool.not_true, Bool.not_false, Bool.not_not]
              refine drwp_take (v := .bool (((((t2996.fCode == 0) && (t2996.fBlock.fPrev == t2963.fPrev)) && (t2996.fBlock.fHeight == t2963.fHeight)) && (t2996.fBlock.fMiner == t2963.fMiner)) && t3025)) rfl (guard_none rfl) rfl rfl (fun w_ hS_ => (ex_pand_f rfl rfl hg3066)) hS ?_
              refine drwp_take rfl (guard_none rfl) rfl rfl (fun w_ hS_ => (ex_move rfl rfl)) hS ?_
              refine drwp_off rfl (guard_off rfl rfl rfl hg3067) rfl rfl hS ?_
              refine drwp_off rfl (guard_off rfl rfl rfl hg3067) rfl rfl hS ?_
              refine drwp_off rfl (guard_off rfl rfl rfl hg3067) rfl rfl hS ?_
              refine drwp_off rfl (guard_off rfl rfl rfl hg3067) rfl rfl hS ?_
              have hg3068 : ((((((t2996.fCode == 0) && (t2996.fBlock.fPrev == t2963.fPrev)) && (t2996.fBlock.fHeight == t2963.fHeight)) && (t2996.fBlock.fMiner == t2963.fMiner)) && t3025) && (decide (10 < (t2973.fText.size : Int)))) = false := by simp only [hg3067, Bool.and_true, Bool.true_and, Bool.and_false, Bool.false_and, Bool.or_true, Bool.true_or, Bool.or_false, Bool.false_or, Bool.not_true, Bool.not_false, Bool.not_not]
              refine drwp_take (v := .bool ((((((t2996.fCode == 0) && (t2996.fBlock.fPrev == t2963.fPrev)) && (t2996.fBlock.fHeight == t2963.fHeight)) && (t2996.fBlock.fMiner == t2963.fMiner)) && t3025) && (decide (10 < (t2973.fText.size : Int))))) rfl (guard_none rfl) rfl rfl (fun w_ hS_ => (ex_pand_f rfl rfl hg3067)) hS ?_
              refine drwp_take rfl (guard_none rfl) rfl rfl (fun w_ hS_ => (ex_move rfl rfl)) hS ?_
              refine drwp_off rfl (guard_off rfl rfl rfl hg3068) rfl rfl hS ?_
              refine drwp_off rfl (guard_off rfl rfl rfl hg3068) rfl rfl hS ?_
              refine drwp_off rfl (guard_off rfl rfl rfl hg3068) rfl rfl hS ?_
              refine drwp_off1 rfl (guard_off rfl rfl rfl hg3068) rfl rfl ⟨hS, ?_⟩
              refine drwp_off rfl (guard_off rfl rfl rfl hg3068) rfl rfl hS ?_
              refine drwp_off rfl (guard_off rfl rfl rfl hg3068) rfl rfl hS ?_
              have hg3069 : (((((((t2996.fCode == 0) && (t2996.fBlock.fPrev == t2963.fPrev)) && (t2996.fBlock.fHeight == t2963.fHeight)) && (t2996.fBlock.fMiner == t2963.fMiner)) && t3025) && (decide (10 < (t2973.fText.size : Int)))) && (t3009.fValue == t3027.fValue)) = false := by simp only [hg3068, Bool.and_true, Bool.true_and, Bool.and_false, Bool.false_and, Bool.or_true, Bool.true_or, Bool.or_false, Bool.false_or, Bool.not_true, Bool.not_false, Bool.not_not]
              refine drwp_take (v := .bool (((((((t2996.fCode == 0) && (t2996.fBlock.fPrev == t2963.fPrev)) && (t2996.fBlock.fHeight == t2963.fHeight)) && (t2996.fBlock.fMiner == t2963.fMiner)) && t3025) && (decide (10 < (t2973.fText.size : Int)))) && (t3009.fValue == t3027.fValue))) rfl (guard_none rfl) rfl rfl (fun w_ hS_ => (ex_pand_f rfl rfl hg3068)) hS ?_
              refine drwp_take rfl (guard_none rfl) rfl rfl (fun w_ hS_ => (ex_move rfl rfl)) hS ?_
              refine drwp_off rfl (guard_off rfl rfl rfl hg3069) rfl rfl hS ?_
              refine drwp_off rfl (guard_off rfl rfl rfl hg3069) rfl rfl hS ?_
              refine drwp_off rfl (guard_off rfl rfl rfl hg3069) rfl rfl hS ?_
              refine drwp_off rfl (guard_off rfl rfl rfl hg3069) rfl rfl hS ?_
              refine drwp_off rfl (guard_undef rfl rfl rfl) rfl rfl hS ?_
              refine drwp_off rfl (guard_undef rfl rfl rfl) rfl rfl hS ?_
              refine drwp_off rfl (guard_undef rfl rfl rfl) rfl rfl hS ?_
              refine drwp_off rfl (guard_off rfl rfl rfl hg3069) rfl rfl hS ?_
              refine drwp_off rfl (guard_off rfl rfl rfl hg3069) rfl rfl hS ?_
              refine drwp_off rfl (guard_undef rfl rfl rfl) rfl rfl hS ?_
              refine drwp_off rfl (guard_undef rfl rfl rfl) rfl rfl hS ?_
              refine drwp_off rfl (guard_undef rfl rfl rfl) rfl rfl hS ?_
              refine drwp_off rfl (guard_undef rfl rfl rfl) rfl rfl hS ?_
              refine drwp_off rfl (guard_undef rfl rfl rfl) rfl rfl hS ?_
              refine drwp_off rfl (guard_off rfl rfl rfl hg3069) rfl rfl hS ?_
              have hg3070 : ((((((((t2996.fCode == 0) && (t2996.fBlock.fPrev == t2963.fPrev)) && (t2996.fBlock.fHeight == t2963.fHeight)) && (t2996.fBlock.fMiner == t2963.fMiner)) && t3025) && (decide (10 < (t2973.fText.size : Int)))) && (t3009.fValue == t3027.fValue)) && (((t3009.fCode != 0) || (t3017.fCode != 0)) || (decide (t3017.fValue ≤ t3009.fValue)))) = false := by simp only [hg3069, Bool.and_true, Bool.true_and, Bool.and_false, Bool.false_and, Bool.or_true, Bool.true_or, Bool.or_false, Bool.false_or, Bool.not_true, Bool.not_false, Bool.not_not]
              refine drwp_take (v := .bool ((((((((t2996.fCode == 0) && (t2996.fBlock.fPrev == t2963.fPrev)) && (t2996.fBlock.fHeight == t2963.fHeight)) && (t2996.fBlock.fMiner == t2963.fMiner)) && t3025) && (decide (10 < (t2973.fText.size : Int)))) && (t3009.fValue == t3027.fValue)) && (((t3009.fCode != 0) || (t3017.fCode != 0)) || (decide (t3017.fValue ≤ t3009.fValue))))) rfl (guard_none rfl) rfl rfl (fun w_ hS_ => (ex_pand_f rfl rfl hg3069)) hS ?_
              refine drwp_take rfl (guard_none rfl) rfl rfl (fun w_ hS_ => (ex_assign rfl rfl)) hS ?_
              refine drwp_done ?_
              replace HM := (HM.front 0 rfl rfl).drop
              replace HM := (HM.front 0 rfl rfl).drop
              replace HM := (HM.front 0 rfl rfl).drop
              replace HM := (HM.front 0 rfl rfl).drop
              replace HM := (HM.front 0 rfl rfl).drop
              replace HM := (HM.front 0 rfl rfl).drop
              replace HM := (HM.front 0 rfl rfl).drop
              exact at_meet [(2, .bool ((((((((t2996.fCode == 0) && (t2996.fBlock.fPrev == t2963.fPrev)) && (t2996.fBlock.fHeight == t2963.fHeight)) && (t2996.fBlock.fMiner == t2963.fMiner)) && t3025) && (decide (10 < (t2973.fText.size : Int)))) && (t3009.fValue == t3027.fValue)) && (((t3009.fCode != 0) || (t3017.fCode != 0)) || (decide (t3017.fValue ≤ t3009.fValue)))))] ⟨rfl, HM⟩ (Sub.cons rfl Sub.nil)
          · rintro _ w3071 ⟨rfl, HM⟩
            refine at_then ?_
            refine run_ret ?_
            have hR := Option.some.inj H
            subst hR
            exact at_ret1 rfl rfl ⟨_, rfl, rfl, HM⟩
end Go.Proofs.YtcpacdbdehphkaaDoor.Zk
