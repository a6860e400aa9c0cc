/- What functions of the program compute, each as a plain function, and that they do. Conditions: as each theorem states them. -/
import Derived.Test.YtbbcabpnkdilgaaTakeMembersZkF4
namespace Go.Proofs.Ytbbcabpnkdilgaa.Zk
open Go Go.RowKit Go.IntWalk Go.Proofs
set_option linter.unusedVariables false
set_option linter.unusedSimpArgs false
set_option maxRecDepth 100000
set_option maxHeartbeats 4000000
def slices_Clone_impl_Member.f (k : Nat) (x0 : List Member) : Option ((List Member)) := (chk (leB ((([] : List Member).length + x0.length) * 24) 140737488355328) (some (([] : List Member) ++ x0)))
theorem slices_Clone_impl_Member.calls {k : Nat} {x0 : List Member} {p0 : Value} {w : World} (hp0 : RdS kMember w p0 x0) {r : (List Member)} (H : slices_Clone_impl_Member.f k x0 = some r) :
    Calls Try.prog 110 ([p0] : List Value).toArray w (fun e w_ => ∃ v, e = .returned v ∧ ∃ u0 : Value, v = u0 ∧ Mem w [] w_ [own kMember 38 u0 r]) := by
  have HM := Mem.start w
  refine calls_run (N := 8) Try.func110 rfl rfl rfl rfl ?_
  unfold slices_Clone_impl_Member.f at H
  refine run_seq ?_
  refine run_region rfl ?_
  refine ox rfl rfl rfl rfl (ex_assign rfl rfl) ?_
  refine ops_nil (at_then (run_seq ?_))
  refine run_seq ?_
  refine run_region rfl ?_
  refine ox rfl rfl rfl rfl (ex_move rfl rfl) ?_
  refine ops_exE rfl (guard_none rfl) rfl rfl (ex_isnil rfl rfl rfl Try.underlying24 hp0) ?_
  rintro _ ⟨b3580, rfl, hb3581⟩
  refine ops_nil (at_then ?_)
  refine run_cond (b := b3580) rfl (fun hb3582 => ?_) (fun hb3582 => ?_)
  · have hx_ := hb3581 hb3582
    subst hx_
    obtain ⟨_, H⟩ := chk_some H
    replace H : some ([] : List Member) = r := H
    refine run_seq ?_
    refine run_region rfl ?_
    refine ox rfl rfl rfl rfl (ex_assign rfl rfl) ?_
    refine ops_nil (at_then ?_)
    refine run_ret ?_
    refine at_then_ret ?_
    replace HM := HM.empty kMember 38 none
    have hR := Option.some.inj H
    subst hR
    exact at_ret1 rfl rfl ⟨_, rfl, _, rfl, HM⟩
  · skip
    refine run_skip ?_
    refine at_then ?_
    refine run_seq ?_
    obtain ⟨e3586, H⟩ := chk_some H
    refine run_region rfl ?_
    refine od rfl rfl rfl rfl (does_lit (e := 38) (cs := []) (xs := ([] : List Member)) kMember rfl rfl (fun _ => by kernel_rfl) rfl rfl (fun _ _ h => by have h' : _ = [] := h; subst h'; exact .nil) HM.emp) ?_
    rintro v3583 w3589 HM
    refine ox rfl rfl rfl rfl (ex_move rfl rfl) ?_
    refine od rfl rfl rfl rfl (does_appendR kMember flat_plain rfl rfl rfl Try.underlying24 tsz38 rfl tby38 tz38 rfl rfl (leB_le e3586) (HM.rd hp0) HM) ?_
    rintro v3587 w3590 HM
    refine ox rfl rfl rfl rfl (ex_assign rfl rfl) ?_
    refine ops_nil (at_then ?_)
    refine run_ret ?_
    have hR := Option.some.inj H
    subst hR
    exact at_ret1 rfl rfl ⟨_, rfl, _, rfl, HM⟩

def cmp_isNaN_int64.f (k : Nat) (x0 : Int) : Option Bool := some (x0 != x0)
theorem cmp_isNaN_int64.calls {k : Nat} {x0 : Int}  {w : World}  {r : Bool} (H : cmp_isNaN_int64.f k x0 = some r) :
    Calls Try.prog 151 ([.int .i64 x0] : List Value).toArray w (fun e w_ => ∃ v, e = .returned v ∧ v = (.bool r) ∧ Mem w [] w_ []) := by
  have HM := Mem.start w
  refine calls_run (N := 6) Try.func151 rfl rfl rfl rfl ?_
  unfold cmp_isNaN_int64.f at H
  refine run_seq ?_
  refine run_region rfl ?_
  refine ox rfl rfl rfl rfl (ex_assign rfl rfl) ?_
  refine ops_nil (at_then (run_seq ?_))
  refine run_region rfl ?_
  refine ox rfl rfl rfl rfl (ex_move rfl rfl) ?_
  refine ox rfl rfl rfl rfl (ex_move rfl rfl) ?_
  refine ox rfl rfl rfl rfl (ex_neq rfl rfl rfl) ?_
  refine ox rfl rfl rfl rfl (ex_assign rfl rfl) ?_
  refine ops_nil (at_then ?_)
  refine run_ret ?_
  have hR := Option.some.inj H
  subst hR
  exact at_ret1 rfl rfl ⟨_, rfl, rfl, HM⟩

def cmp_Compare_int64.f (k : Nat) (x0 : Int) (x1 : Int) : Option Int := ((cmp_isNaN_int64.f k x0).bind fun t3617 => ((cmp_isNaN_int64.f k x1).bind fun t3620 => (bif t3617 then (bif t3620 then some 0 else some (-1)) else (bif t3620 then some 1 else (bif (decide (x0 < x1)) then some (-1) else (bif (decide (x1 < x0)) then some 1 else some 0))))))
theorem cmp_Compare_int64.calls {k : Nat} {x0 : Int} {x1 : Int}  {w : World}  {r : Int} (H : cmp_Compare_int64.f k x0 x1 = some r) :
    Calls Try.prog 123 ([.int .i64 x0, .int .i64 x1] : List Value).toArray w (fun e w_ => ∃ v, e = .returned v ∧ v = (.int .i64 r) ∧ Mem w [] w_ []) := by
  have HM := Mem.start w
  refine calls_run (N := 20) Try.func123 rfl rfl rfl rfl ?_
  unfold cmp_Compare_int64.f at H
  refine run_seq ?_
  refine run_region rfl ?_
  refine ox rfl rfl rfl rfl (ex_assign rfl rfl) ?_
  refine ops_nil (at_then (run_seq ?_))
  obtain ⟨t3617, h3618, H⟩ := bind_some H
  refine run_region rfl ?_
  refine ox rfl rfl rfl rfl (ex_move rfl rfl) ?_
  refine od rfl rfl rfl rfl (does_callk rfl callok151 rfl (cmp_isNaN_int64.calls (x0 := x0) h3618)) ?_
  rintro _ w3619 ⟨rfl, hn⟩
  replace HM : Mem w [] w3619 [] := HM.call hn
  refine ox rfl rfl rfl rfl (ex_assign rfl rfl) ?_
  refine ops_nil (at_then (run_seq ?_))
  obtain ⟨t3620, h3621, H⟩ := bind_some H
  refine run_region rfl ?_
  refine ox rfl rfl rfl rfl (ex_move rfl rfl) ?_
  refine od rfl rfl rfl rfl (does_callk rfl callok151 rfl (cmp_isNaN_int64.calls (x0 := x1) h3621)) ?_
  rintro _ w3622 ⟨rfl, hn⟩
  replace HM : Mem w [] w3622 [] := HM.call hn
  refine ox rfl rfl rfl rfl (ex_assign rfl rfl) ?_
  refine ops_nil (at_then (run_seq ?_))
  refine run_seq ?_
  refine run_region rfl ?_
  refine ox rfl rfl rfl rfl (ex_move rfl rfl) ?_
  refine ops_nil (at_then ?_)
  refine run_cond (b := t3617) rfl (fun hb3625 => ?_) (fun hb3625 => ?_)
  · replace H := cond_t hb3625 H
    refine run_seq ?_
    refine run_seq ?_
    refine run_region rfl ?_
    refine ox rfl rfl rfl rfl (ex_move rfl rfl) ?_
    refine ops_nil (at_then ?_)
    refine run_cond (b := t3620) rfl (fun hb3626 => ?_) (fun hb3626 => ?_)
    · replace H := cond_t hb3626 H
      refine run_seq ?_
      refine run_region rfl ?_
      refine ox rfl rfl rfl rfl (ex_assign rfl rfl) ?_
      refine ops_nil (at_then ?_)
      refine run_ret ?_
      refine at_then_ret ?_
      refine at_then_ret ?_
      have hR := Option.some.inj H
      subst hR
      exact at_ret1 rfl rfl ⟨_, rfl, rfl, HM⟩
    · replace H := cond_f hb3626 H
      refine run_skip ?_
      refine at_then ?_
      refine run_seq ?_
      refine run_region rfl ?_
      refine ox rfl rfl rfl rfl (ex_assign rfl rfl) ?_
      refine ops_nil (at_then ?_)
      refine run_ret ?_
      refine at_then_ret ?_
      have hR := Option.some.inj H
      subst hR
      exact at_ret1 rfl rfl ⟨_, rfl, rfl, HM⟩
  · replace H := cond_f hb3625 H
    refine run_skip ?_
    refine at_then ?_
    refine run_seq ?_
    refine run_seq ?_
    refine run_region rfl ?_
    refine ox rfl rfl rfl rfl (ex_move rfl rfl) ?_
    refine ops_nil (at_then ?_)
    refine run_cond (b := t3620) rfl (fun hb3628 => ?_) (fun hb3628 => ?_)
    · replace H := cond_t hb3628 H
      refine run_seq ?_
      refine run_region rfl ?_
      refine ox rfl rfl rfl rfl (ex_assign rfl rfl) ?_
      refine ops_nil (at_then ?_)
      refine run_ret ?_
      refine at_then_ret ?_
      have hR := Option.some.inj H
      subst hR
      exact at_ret1 rfl rfl ⟨_, rfl, rfl, HM⟩
    · replace H := cond_f hb3628 H
      refine run_skip ?_
      refine at_then ?_
      refine run_seq ?_
      refine run_seq ?_
      refine run_region rfl ?_
      refine ox rfl rfl rfl rfl (ex_move rfl rfl) ?_
      refine ox rfl rfl rfl rfl (ex_move rfl rfl) ?_
      refine ox rfl rfl rfl rfl (ex_lss rfl rfl rfl) ?_
      refine ops_nil (at_then ?_)
      refine run_cond (b := (decide (x0 < x1))) rfl (fun hb3630 => ?_) (fun hb3630 => ?_)
      · replace H := cond_t hb3630 H
        refine run_seq ?_
        refine run_region rfl ?_
        refine ox rfl rfl rfl rfl (ex_assign rfl rfl) ?_
        refine ops_nil (at_then ?_)
        refine run_ret ?_
        refine at_then_ret ?_
        have hR := Option.some.inj H
        subst hR
        exact at_ret1 rfl rfl ⟨_, rfl, rfl, HM⟩
      · replace H := cond_f hb3630 H
        refine run_skip ?_
        refine at_then ?_
        refine run_seq ?_
        refine run_seq ?_
        refine run_region rfl ?_
        refine ox rfl rfl rfl rfl (ex_move rfl rfl) ?_
        refine ox rfl rfl rfl rfl (ex_move rfl rfl) ?_
        refine ox rfl rfl rfl rfl (ex_gtr rfl rfl rfl) ?_
        refine ops_nil (at_then ?_)
        refine run_cond (b := (decide (x1 < x0))) rfl (fun hb3631 => ?_) (fun hb3631 => ?_)
        · replace H := cond_t hb3631 H
          refine run_seq ?_
          refine run_region rfl ?_
          refine ox rfl rfl rfl rfl (ex_assign rfl rfl) ?_
          refine ops_nil (at_then ?_)
          refine run_ret ?_
          refine at_then_ret ?_
          have hR := Option.some.inj H
          subst hR
          exact at_ret1 rfl rfl ⟨_, rfl, rfl, HM⟩
        · replace H := cond_f hb3631 H
          refine run_skip ?_
          refine at_then ?_
          refine run_seq ?_
          refine run_region rfl ?_
          refine ox rfl rfl rfl rfl (ex_assign rfl rfl) ?_
          refine ops_nil (at_then ?_)
          refine run_ret ?_
          have hR := Option.some.inj H
          subst hR
          exact at_ret1 rfl rfl ⟨_, rfl, rfl, HM⟩

def impl_findMember_1.f (k : Nat) (x0 : Member) (x1 : Int) : Option Int := ((cmp_Compare_int64.f k x0.fKey x1).bind fun t3638 => some t3638)
theorem impl_findMember_1.calls {k : Nat} {x0 : Member} {x1 : Int}  {w : World}  {r : Int} (H : impl_findMember_1.f k x0 x1 = some r) :
    Calls Try.prog 122 ([.agg #[(.int .i64 x0.fKey), (.int .i64 x0.fRef.fTx), (.int .i64 x0.fRef.fAt)], .int .i64 x1] : List Value).toArray w (fun e w_ => ∃ v, e = .returned v ∧ v = (.int .i64 r) ∧ Mem w [] w_ []) := by
  have HM := Mem.start w
  refine calls_run (N := 9) Try.func122 rfl rfl rfl rfl ?_
  unfold impl_findMember_1.f at H
  refine run_seq ?_
  refine run_region rfl ?_
  refine od rfl rfl rfl rfl (does_box (cs := [.int .i64 x0.fKey, .int .i64 x0.fRef.fTx, .int .i64 x0.fRef.fAt]) rfl rfl rfl HM) ?_
  rintro _ w3637 ⟨b3634, rfl, HM⟩
  refine ox rfl rfl rfl rfl (ex_assign rfl rfl) ?_
  refine ops_nil (at_then (run_seq ?_))
  obtain ⟨t3638, h3639, H⟩ := bind_some H
  refine run_region rfl ?_
  refine ox rfl rfl rfl rfl (ex_fieldAddr (off' := 0) rfl rfl Try.underlying38 rfl tsz2 rfl) ?_
  refine ox rfl rfl rfl rfl (ex_load1 rfl rfl Try.underlying2 rfl ((HM.box_at 0 rfl) 0 _ rfl)) ?_
  refine ox rfl rfl rfl rfl (ex_move rfl rfl) ?_
  refine od rfl rfl rfl rfl (does_callk rfl callok123 rfl (cmp_Compare_int64.calls (x0 := x0.fKey) (x1 := x1) h3639)) ?_
  rintro _ w3640 ⟨rfl, hn⟩
  replace HM : Mem w [] w3640 [box b3634 38 [.int .i64 x0.fKey, .int .i64 x0.fRef.fTx, .int .i64 x0.fRef.fAt]] := HM.call hn
  refine ox rfl rfl rfl rfl (ex_assign rfl rfl) ?_
  refine ops_nil (at_then ?_)
  refine run_ret ?_
  replace HM := (HM.front 0 rfl rfl).drop
  have hR := Option.some.inj H
  subst hR
  exact at_ret1 rfl rfl ⟨_, rfl, rfl, HM⟩

def slices_BinarySearchFunc_impl_Member.l0 (x0 : List Member) (x1 : Int) : Nat → Int → Int → Option Int
  | 0, _, _ => none
  | k + 1, a3700, a3701 => (bif (decide (a3700 < a3701)) then (chk (decide (0 ≤ (1 : Int)) && decide ((1 : Int) ≤ IntKind.u64.bits)) (chk (idxOk (wrap64 ((IntKind.u64.wrap (wrap64 (a3700 + a3701))) / 2 ^ ((1 : Int)).toNat)) x0.length) ((impl_findMember_1.f k (gt x0 (wrap64 ((IntKind.u64.wrap (wrap64 (a3700 + a3701))) / 2 ^ ((1 : Int)).toNat))) x1).bind fun t3715 => (bif (decide (t3715 < 0)) then slices_BinarySearchFunc_impl_Member.l0 x0 x1 k (wrap64 ((wrap64 ((IntKind.u64.wrap (wrap64 (a3700 + a3701))) / 2 ^ ((1 : Int)).toNat)) + 1)) a3701 else slices_BinarySearchFunc_impl_Member.l0 x0 x1 k a3700 (wrap64 ((IntKind.u64.wrap (wrap64 (a3700 + a3701))) / 2 ^ ((1 : Int)).toNat)))))) else some a3700)
theorem slices_BinarySearchFunc_impl_Member.l0_z (x0 : List Member) (x1 : Int) (a3700 : Int) (a3701 : Int) : slices_BinarySearchFunc_impl_Member.l0 x0 x1 0 a3700 a3701 = none := rfl
theorem slices_BinarySearchFunc_impl_Member.l0_s (x0 : List Member) (x1 : Int) (k : Nat) (a3700 : Int) (a3701 : Int) : slices_BinarySearchFunc_impl_Member.l0 x0 x1 (k + 1) a3700 a3701 = (bif (decide (a3700 < a3701)) then (chk (decide (0 ≤ (1 : Int)) && decide ((1 : Int) ≤ IntKind.u64.bits)) (chk (idxOk (wrap64 ((IntKind.u64.wrap (wrap64 (a3700 + a3701))) / 2 ^ ((1 : Int)).toNat)) x0.length) ((impl_findMember_1.f k (gt x0 (wrap64 ((IntKind.u64.wrap (wrap64 (a3700 + a3701))) / 2 ^ ((1 : Int)).toNat))) x1).bind fun t3715 => (bif (decide (t3715 < 0)) then slices_BinarySearchFunc_impl_Member.l0 x0 x1 k (wrap64 ((wrap64 ((IntKind.u64.wrap (wrap64 (a3700 + a3701))) / 2 ^ ((1 : Int)).toNat)) + 1)) a3701 else slices_BinarySearchFunc_impl_Member.l0 x0 x1 k a3700 (wrap64 ((IntKind.u64.wrap (wrap64 (a3700 + a3701))) / 2 ^ ((1 : Int)).toNat)))))) else some a3700) := rfl
def slices_BinarySearchFunc_impl_Member.f (k : Nat) (x0 : List Member) (x1 : Int) : Option (Int × Bool) := ((slices_BinarySearchFunc_impl_Member.l0 x0 x1 k 0 (x0.length : Int)).bind (fun a3690 => (chk (!(decide (a3690 < (x0.length : Int))) || (idxOk a3690 x0.length)) ((bif (decide (a3690 < (x0.length : Int))) then impl_findMember_1.f k (gt x0 a3690) x1 else some default).bind fun t3722 => some (a3690, ((decide (a3690 < (x0.length : Int))) && (t3722 == 0)))))))
theorem slices_BinarySearchFunc_impl_Member.calls {k : Nat} {x0 : List Member} {x1 : Int} {p0 : Value} {w : World} (hp0 : RdS kMember w p0 x0) {r : Int × Bool} (H : slices_BinarySearchFunc_impl_Member.f k x0 x1 = some r) :
    Calls Try.prog 121 ([p0, .int .i64 x1, .func (.func 122) #[] #[]] : List Value).toArray w (fun e w_ => ∃ v, e = .returned v ∧ v = (.tuple #[.int .i64 r.1, .bool r.2]) ∧ Mem w [] w_ []) := by
  have HM := Mem.start w
  refine calls_run (N := 49) Try.func121 rfl rfl rfl rfl ?_
  unfold slices_BinarySearchFunc_impl_Member.f at H
  refine run_seq ?_
  refine run_region rfl ?_
  refine ox rfl rfl rfl rfl (ex_assign rfl rfl) ?_
  refine ox rfl rfl rfl rfl (ex_assign rfl rfl) ?_
  refine ops_nil (at_then (run_seq ?_))
  refine run_region rfl ?_
  refine ox rfl rfl rfl rfl (ex_move rfl rfl) ?_
  refine ox rfl rfl rfl rfl (ex_len (d := kMember) (xs := x0) rfl rfl Try.underlying24 hp0) ?_
  refine ox rfl rfl rfl rfl (ex_assign rfl rfl) ?_
  refine ops_nil (at_then (run_seq ?_))
  refine run_region rfl ?_
  refine ox rfl rfl rfl rfl (ex_move rfl rfl) ?_
  refine ox rfl rfl rfl rfl (ex_assign rfl rfl) ?_
  refine ox rfl rfl rfl rfl (ex_assign rfl rfl) ?_
  refine ops_nil (at_then ?_)
  obtain ⟨o3691, ho3692, H⟩ := bind_some H
  refine run_mid (fun ρ_ w_ => ∃ a3690 : Int, a3690 = o3691 ∧ ρ_ = [(0, p0), (1, .int .i64 x1), (2, .func (.func 122) #[] #[]), (8, .int .i64 (x0.length : Int)), (9, .int .i64 a3690)] ∧ Mem w [] w_ []) ?_ ?_
  · clear H
    refine run_block ?_
    refine run_loop (fun k_ ρ_ w_ => ∃ a3700 : Int, ∃ a3701 : Int, slices_BinarySearchFunc_impl_Member.l0 x0 x1 k_ a3700 a3701 = some o3691 ∧ ρ_ = [(0, p0), (1, .int .i64 x1), (2, .func (.func 122) #[] #[]), (8, .int .i64 (x0.length : Int)), (9, .int .i64 a3700), (10, .int .i64 a3701)] ∧ Mem w [] w_ []) k (ρ1 := [(0, p0), (1, .int .i64 x1), (2, .func (.func 122) #[] #[]), (8, .int .i64 (x0.length : Int)), (9, .int .i64 0), (10, .int .i64 (x0.length : Int))]) ⟨_, _, ho3692, rfl, HM⟩ (Sub.cons rfl (Sub.cons rfl (Sub.cons rfl (Sub.cons rfl (Sub.cons rfl (Sub.cons rfl Sub.nil)))))) ?_
    clear HM ho3692
    rintro k3709 _ w3710 ⟨a3700, a3701, ho3692, rfl, HM⟩
    obtain _ | k3709 := k3709
    · exact nomatch ((slices_BinarySearchFunc_impl_Member.l0_z x0 x1 a3700 a3701).symm.trans ho3692)
    replace ho3692 := (slices_BinarySearchFunc_impl_Member.l0_s x0 x1 k3709 a3700 a3701).symm.trans ho3692
    refine run_seq ?_
    refine run_seq ?_
    refine run_region rfl ?_
    refine ox rfl rfl rfl rfl (ex_move rfl rfl) ?_
    refine ox rfl rfl rfl rfl (ex_move rfl rfl) ?_
    refine ox rfl rfl rfl rfl (ex_lss rfl rfl rfl) ?_
    refine ops_nil (at_then ?_)
    refine run_cond (b := (decide (a3700 < a3701))) rfl (fun hb3711 => ?_) (fun hb3711 => ?_)
    · replace ho3692 := cond_t hb3711 ho3692
      refine run_skip ?_
      refine at_then ?_
      refine run_block ?_
      refine run_seq ?_
      obtain ⟨e3712, ho3692⟩ := chk_some ho3692
      refine run_region rfl ?_
      refine ox rfl rfl rfl rfl (ex_move rfl rfl) ?_
      refine ox rfl rfl rfl rfl (ex_move rfl rfl) ?_
      refine ox rfl rfl rfl rfl (ex_add rfl rfl rfl) ?_
      refine ox rfl rfl rfl rfl (ex_conv rfl rfl (by rw [Try.underlying3]; rfl) Try.underlying182) ?_
      refine ox rfl rfl rfl rfl (ex_shr rfl rfl rfl e3712) ?_
      refine ox rfl rfl rfl rfl (ex_conv64 rfl rfl (by rw [Try.underlying182]; rfl) Try.underlying3) ?_
      refine ox rfl rfl rfl rfl (ex_assign rfl rfl) ?_
      refine ops_nil (at_then (run_seq ?_))
      obtain ⟨e3713, ho3692⟩ := chk_some ho3692
      obtain ⟨t3715, h3716, ho3692⟩ := bind_some ho3692
      refine run_region rfl ?_
      refine ox rfl rfl rfl rfl (ex_move rfl rfl) ?_
      refine ox rfl rfl rfl rfl (ex_move rfl rfl) ?_
      refine ox rfl rfl rfl rfl (ex_move rfl rfl) ?_
      have hc3714 : CellsAt _ (sb p0) (so p0 + (wrap64 ((IntKind.u64.wrap (wrap64 (a3700 + a3701))) / 2 ^ ((1 : Int)).toNat)).toNat * 3) [(.int .i64 ((gt x0 (wrap64 ((IntKind.u64.wrap (wrap64 (a3700 + a3701))) / 2 ^ ((1 : Int)).toNat))).fKey)), (.int .i64 ((gt x0 (wrap64 ((IntKind.u64.wrap (wrap64 (a3700 + a3701))) / 2 ^ ((1 : Int)).toNat))).fRef.fTx)), (.int .i64 ((gt x0 (wrap64 ((IntKind.u64.wrap (wrap64 (a3700 + a3701))) / 2 ^ ((1 : Int)).toNat))).fRef.fAt))] := rd_plain hp0 e3713
      refine ox rfl rfl rfl rfl (ex_indexAddr (d := kMember) rfl rfl rfl Try.underlying24 tsz38 hp0 (idx_lo e3713) (idx_hi e3713)) ?_
      refine ox rfl rfl rfl rfl (ex_loadN (cs := [(.int .i64 ((gt x0 (wrap64 ((IntKind.u64.wrap (wrap64 (a3700 + a3701))) / 2 ^ ((1 : Int)).toNat))).fKey)), (.int .i64 ((gt x0 (wrap64 ((IntKind.u64.wrap (wrap64 (a3700 + a3701))) / 2 ^ ((1 : Int)).toNat))).fRef.fTx)), (.int .i64 ((gt x0 (wrap64 ((IntKind.u64.wrap (wrap64 (a3700 + a3701))) / 2 ^ ((1 : Int)).toNat))).fRef.fAt))]) rfl rfl Try.underlying38 rfl tsz38 rfl ((HM.at_ hc3714).sub 0 3 rfl)) ?_
      refine ox rfl rfl rfl rfl (ex_move rfl rfl) ?_
      refine od rfl rfl rfl rfl (does_callvk rfl callok122 rfl rfl rfl (impl_findMember_1.calls (x0 := (gt x0 (wrap64 ((IntKind.u64.wrap (wrap64 (a3700 + a3701))) / 2 ^ ((1 : Int)).toNat)))) (x1 := x1) h3716)) ?_
      rintro _ w3717 ⟨rfl, hn⟩
      replace HM : Mem w [] w3717 [] := HM.call hn
      refine ox rfl rfl rfl rfl (ex_lss rfl rfl rfl) ?_
      refine ops_nil (at_then ?_)
      refine run_cond (b := (decide (t3715 < 0))) rfl (fun hb3718 => ?_) (fun hb3718 => ?_)
      · replace ho3692 := cond_t hb3718 ho3692
        refine run_region rfl ?_
        refine ox rfl rfl rfl rfl (ex_move rfl rfl) ?_
        refine ox rfl rfl rfl rfl (ex_add rfl rfl rfl) ?_
        refine ox rfl rfl rfl rfl (ex_assign rfl rfl) ?_
        refine ops_nil ?_
        refine at_block ?_
        exact at_again k3709 (ρ1 := [(0, p0), (1, .int .i64 x1), (2, .func (.func 122) #[] #[]), (8, .int .i64 (x0.length : Int)), (9, .int .i64 (wrap64 ((wrap64 ((IntKind.u64.wrap (wrap64 (a3700 + a3701))) / 2 ^ ((1 : Int)).toNat)) + 1))), (10, .int .i64 a3701)]) (Nat.lt_succ_self _) ⟨_, _, ho3692, rfl, HM⟩ (Sub.cons rfl (Sub.cons rfl (Sub.cons rfl (Sub.cons rfl (Sub.cons rfl (Sub.cons rfl Sub.nil))))))
      · replace ho3692 := cond_f hb3718 ho3692
        refine run_region rfl ?_
        refine ox rfl rfl rfl rfl (ex_move rfl rfl) ?_
        refine ox rfl rfl rfl rfl (ex_assign rfl rfl) ?_
        refine ops_nil ?_
        refine at_block ?_
        exact at_again k3709 (ρ1 := [(0, p0), (1, .int .i64 x1), (2, .func (.func 122) #[] #[]), (8, .int .i64 (x0.length : Int)), (9, .int .i64 a3700), (10, .int .i64 (wrap64 ((IntKind.u64.wrap (wrap64 (a3700 + a3701))) / 2 ^ ((1 : Int)).toNat)))]) (Nat.lt_succ_self _) ⟨_, _, ho3692, rfl, HM⟩ (Sub.cons rfl (Sub.cons rfl (Sub.cons rfl (Sub.cons rfl (Sub.cons rfl (Sub.cons rfl Sub.nil))))))
    · replace ho3692 := cond_f hb3711 ho3692
      refine run_exit ?_
      refine at_then_exit ?_
      refine at_then_exit ?_
      refine at_block_exit ?_
      exact at_mid (ρ' := [(0, p0), (1, .int .i64 x1), (2, .func (.func 122) #[] #[]), (8, .int .i64 (x0.length : Int)), (9, .int .i64 a3700)]) ⟨_, (Option.some.inj ho3692), rfl, HM⟩ (Sub.cons rfl (Sub.cons rfl (Sub.cons rfl (Sub.cons rfl (Sub.cons rfl Sub.nil)))))
  · rintro _ w3719 ⟨a3690, rfl, rfl, HM⟩
    refine run_seq ?_
    obtain ⟨e3720, H⟩ := chk_some H
    obtain ⟨t3722, h3723, H⟩ := bind_some H
    refine run_meet (fun ρ_ w_ => ρ_ = [(6, .int .i64 a3690), (7, .bool ((decide (a3690 < (x0.length : Int))) && (t3722 == 0)))] ∧ Mem w [] w_ []) ?_ ?_
    · skip
      refine run_region rfl ?_
      refine ox rfl rfl rfl rfl (ex_move rfl rfl) ?_
      refine ox rfl rfl rfl rfl (ex_move rfl rfl) ?_
      refine ox rfl rfl rfl rfl (ex_move rfl rfl) ?_
      refine ox rfl rfl rfl rfl (ex_lss rfl rfl rfl) ?_
      refine ox rfl rfl rfl rfl (ex_move rfl rfl) ?_
      refine bool_cases (decide (a3690 < (x0.length : Int))) (fun hg3724 => ?_) (fun hg3724 => ?_)
      · skip
        refine ops_ex rfl (guard_on rfl rfl rfl hg3724) rfl rfl (ex_move rfl rfl) ?_
        refine ops_ex rfl (guard_on rfl rfl rfl hg3724) rfl rfl (ex_move rfl rfl) ?_
        refine ops_ex rfl (guard_on rfl rfl rfl hg3724) rfl rfl (ex_move rfl rfl) ?_
        have hc3721 : CellsAt _ (sb p0) (so p0 + (a3690).toNat * 3) [(.int .i64 ((gt x0 a3690).fKey)), (.int .i64 ((gt x0 a3690).fRef.fTx)), (.int .i64 ((gt x0 a3690).fRef.fAt))] := rd_plain hp0 (or_t e3720 hg3724)
        refine ops_ex rfl (guard_on rfl rfl rfl hg3724) rfl rfl (ex_indexAddr (d := kMember) rfl rfl rfl Try.underlying24 tsz38 hp0 (idx_lo (or_t e3720 hg3724)) (idx_hi (or_t e3720 hg3724))) ?_
        refine ops_ex rfl (guard_on rfl rfl rfl hg3724) rfl rfl (ex_loadN (cs := [(.int .i64 ((gt x0 a3690).fKey)), (.int .i64 ((gt x0 a3690).fRef.fTx)), (.int .i64 ((gt x0 a3690).fRef.fAt))]) rfl rfl Try.underlying38 rfl tsz38 rfl ((HM.at_ hc3721).sub 0 3 rfl)) ?_
        refine ops_ex rfl (guard_on rfl rfl rfl hg3724) rfl rfl (ex_move rfl rfl) ?_
        refine ops_does rfl (guard_on rfl rfl rfl hg3724) rfl rfl (does_callvk rfl callok122 rfl rfl rfl (impl_findMember_1.calls (x0 := (gt x0 a3690)) (x1 := x1) (cond_t hg3724 h3723))) ?_
        rintro _ w3725 ⟨rfl, hn⟩
        replace HM : Mem w [] w3725 [] := HM.call hn
        refine ops_ex rfl (guard_on rfl rfl rfl hg3724) rfl rfl (ex_eql rfl rfl rfl) ?_
        refine ops_ex (v := .bool ((decide (a3690 < (x0.length : Int))) && (t3722 == 0))) rfl (guard_none rfl) rfl rfl (ex_pand_t rfl rfl hg3724 rfl) ?_
        refine ox rfl rfl rfl rfl (ex_assign rfl rfl) ?_
        refine ox rfl rfl rfl rfl (ex_assign rfl rfl) ?_
        refine ops_nil ?_
        exact at_meet [(6, .int .i64 a3690), (7, .bool ((decide (a3690 < (x0.length : Int))) && (t3722 == 0)))] ⟨rfl, HM⟩ (Sub.cons rfl (Sub.cons rfl Sub.nil))
      · skip
        refine ops_off rfl (guard_off rfl rfl rfl hg3724) rfl rfl ?_
        refine ops_off rfl (guard_off rfl rfl rfl hg3724) rfl rfl ?_
        refine ops_off rfl (guard_off rfl rfl rfl hg3724) rfl rfl ?_
        refine ops_off rfl (guard_off rfl rfl rfl hg3724) rfl rfl ?_
        refine ops_off rfl (guard_off rfl rfl rfl hg3724) rfl rfl ?_
        refine ops_off rfl (guard_off rfl rfl rfl hg3724) rfl rfl ?_
        refine ops_off rfl (guard_off rfl rfl rfl hg3724) rfl rfl ?_
        refine ops_off rfl (guard_off rfl rfl rfl hg3724) rfl rfl ?_
        have hg3726 : ((decide (a3690 < (x0.length : Int))) && (t3722 == 0)) = false := by simp only [hg3724, Bool.and_true, Bool.true_and, Bool.and_false, Bool.false_and, Bool.or_true, Bool.true_or, Bool.or_false, Bool.false_or, Bool.not_true, Bool.not_false, Bool.not_not]
        refine ops_ex (v := .bool ((decide (a3690 < (x0.length : Int))) && (t3722 == 0))) rfl (guard_none rfl) rfl rfl (ex_pand_f rfl rfl hg3724) ?_
        refine ox rfl rfl rfl rfl (ex_assign rfl rfl) ?_
        refine ox rfl rfl rfl rfl (ex_assign rfl rfl) ?_
        refine ops_nil ?_
        exact at_meet [(6, .int .i64 a3690), (7, .bool ((decide (a3690 < (x0.length : Int))) && (t3722 == 0)))] ⟨rfl, HM⟩ (Sub.cons rfl (Sub.cons rfl Sub.nil))
    · rintro _ w3727 ⟨rfl, HM⟩
      refine at_then ?_
      refine run_ret ?_
      have hR := Option.some.inj H
      subst hR
      exact at_ret2 rfl rfl rfl ⟨_, rfl, rfl, HM⟩

def impl_findMember.f (k : Nat) (x0 : List Member) (x1 : Int) : Option (Int × Bool) := ((slices_BinarySearchFunc_impl_Member.f k x0 x1).bind fun t3730 => some (t3730.1, t3730.2))
theorem impl_findMember.calls {k : Nat} {x0 : List Member} {x1 : Int} {p0 : Value} {w : World} (hp0 : RdS kMember w p0 x0) {r : Int × Bool} (H : impl_findMember.f k x0 x1 = some r) :
    Calls Try.prog 60 ([p0, .int .i64 x1] : List Value).toArray w (fun e w_ => ∃ v, e = .returned v ∧ v = (.tuple #[.int .i64 r.1, .bool r.2]) ∧ Mem w [] w_ []) := by
  have HM := Mem.start w
  refine calls_run (N := 11) Try.func60 rfl rfl rfl rfl ?_
  unfold impl_findMember.f at H
  refine run_seq ?_
  refine run_region rfl ?_
  refine ox rfl rfl rfl rfl (ex_assign rfl rfl) ?_
  refine ox rfl rfl rfl rfl (ex_assign rfl rfl) ?_
  refine ops_nil (at_then (run_seq ?_))
  obtain ⟨t3730, h3731, H⟩ := bind_some H
  refine run_region rfl ?_
  refine ox rfl rfl rfl rfl (ex_move rfl rfl) ?_
  refine ox rfl rfl rfl rfl (ex_move rfl rfl) ?_
  refine od rfl rfl rfl rfl (does_callk rfl callok121 rfl (slices_BinarySearchFunc_impl_Member.calls (x0 := x0) (x1 := x1) (HM.rd hp0) h3731)) ?_
  rintro _ w3732 ⟨rfl, hn⟩
  replace HM : Mem w [] w3732 [] := HM.call hn
  refine ox rfl rfl rfl rfl (ex_extract rfl rfl rfl) ?_
  refine ox rfl rfl rfl rfl (ex_extract rfl rfl rfl) ?_
  refine ox rfl rfl rfl rfl (ex_assign rfl rfl) ?_
  refine ox rfl rfl rfl rfl (ex_assign rfl rfl) ?_
  refine ops_nil (at_then ?_)
  refine run_ret ?_
  have hR := Option.some.inj H
  subst hR
  exact at_ret2 rfl rfl rfl ⟨_, rfl, rfl, HM⟩

def slices_Delete_impl_Member.f (k : Nat) (x0 : List Member) (x1 : Int) (x2 : Int) : Option ((List Member)) := (chk (cutOk x2 x0.length) (chk (cutOk x1 (x2).toNat) (bif (x1 == x2) then some x0 else (chk (cutOk x1 x0.length) (chk (cutOk x2 x0.length) (chk (cutOk x1 (x2).toNat) (chk (decide (x1 < x2)) (chk (decide (((x0.take (x1).toNat ++ x0.drop (x2).toNat).length : Int) ≤ (x0.length : Int))) (some (x0.take (x1).toNat ++ x0.drop (x2).toNat))))))))))
theorem slices_Delete_impl_Member.calls {k : Nat} {x0 : List Member} {x1 : Int} {x2 : Int} {p0 : Value} {w wo : World} {X : List Nat} (hwo : Olds wo w X) (hX : Hold w [own kMember 38 p0 x0] X) (hXn : X.Nodup) (hXl : ∀ b ∈ X, b < w.heap.size)  {r : (List Member)} (H : slices_Delete_impl_Member.f k x0 x1 x2 = some r) :
    Calls Try.prog 111 ([p0, .int .i64 x1, .int .i64 x2] : List Value).toArray w (fun e w_ => ∃ v, e = .returned v ∧ ∃ u0 : Value, v = u0 ∧ Mem w X w_ [own kMember 38 u0 r]) := by
  have HM := Mem.startX hX hXn hXl
  refine calls_run (N := 33) Try.func111 rfl rfl rfl rfl ?_
  unfold slices_Delete_impl_Member.f at H
  refine run_seq ?_
  refine run_region rfl ?_
  refine ox rfl rfl rfl rfl (ex_assign rfl rfl) ?_
  refine ops_nil (at_then (run_seq ?_))
  obtain ⟨e3750, H⟩ := chk_some H
  obtain ⟨e3751, H⟩ := chk_some H
  refine run_region rfl ?_
  refine ox rfl rfl rfl rfl (ex_move rfl rfl) ?_
  refine ox rfl rfl rfl rfl (ex_move rfl rfl) ?_
  refine ox rfl rfl rfl rfl (ex_move rfl rfl) ?_
  refine ox rfl rfl rfl rfl (ex_move rfl rfl) ?_
  refine ox rfl rfl rfl rfl (ex_len (d := kMember) (xs := x0) rfl rfl Try.underlying24 (HM.own_rd 0 rfl)) ?_
  refine ops_exE rfl (guard_none rfl) rfl rfl (ex_cut3 rfl rfl rfl rfl rfl Try.underlying24 tsz38 (cut_lo e3751) (cut_lt2 e3751 e3750) (cut_le2 e3750) ((HM.own_rd 0 rfl).cap.le (Nat.le_refl _))) ?_
  rintro _ _
  refine ops_nil (at_then (run_seq ?_))
  refine run_seq ?_
  refine run_region rfl ?_
  refine ox rfl rfl rfl rfl (ex_move rfl rfl) ?_
  refine ox rfl rfl rfl rfl (ex_move rfl rfl) ?_
  refine ox rfl rfl rfl rfl (ex_eql rfl rfl rfl) ?_
  refine ops_nil (at_then ?_)
  refine run_cond (b := (x1 == x2)) rfl (fun hb3753 => ?_) (fun hb3753 => ?_)
  · replace H := cond_t hb3753 H
    refine run_seq ?_
    refine run_region rfl ?_
    refine ox rfl rfl rfl rfl (ex_move rfl rfl) ?_
    refine ox rfl rfl rfl rfl (ex_assign rfl rfl) ?_
    refine ops_nil (at_then ?_)
    refine run_ret ?_
    refine at_then_ret ?_
    have hR := Option.some.inj H
    subst hR
    exact at_ret1 rfl rfl ⟨_, rfl, _, rfl, HM⟩
  · replace H := cond_f hb3753 H
    refine run_skip ?_
    refine at_then ?_
    refine run_seq ?_
    refine run_region rfl ?_
    refine ox rfl rfl rfl rfl (ex_move rfl rfl) ?_
    refine ox rfl rfl rfl rfl (ex_len (d := kMember) (xs := x0) rfl rfl Try.underlying24 (HM.own_rd 0 rfl)) ?_
    refine ox rfl rfl rfl rfl (ex_assign rfl rfl) ?_
    refine ops_nil (at_then (run_seq ?_))
    obtain ⟨e3754, H⟩ := chk_some H
    obtain ⟨e3755, H⟩ := chk_some H
    obtain ⟨e3756, H⟩ := chk_some H
    obtain ⟨e3757, H⟩ := chk_some H
    refine run_drawf (fun w_ => Mem w X w_ []) [(0, true), (1, true), (2, true), (3, true), (4, true), (5, true), (6, false), (7, true)] mixed rfl rfl (by kernel_rfl) ?_
    replace HM := HM.grow (fr_drew _)
    have hS := Mem.suf (M := [own kMember 38 p0 x0]) HM
    refine dp rfl rfl rfl rfl (ex_move rfl rfl) hS ?_
    refine dp rfl rfl rfl rfl (ex_move rfl rfl) hS ?_
    refine dp rfl rfl rfl rfl (ex_cutvH rfl rfl rfl Try.underlying24 tsz38 (cut_lo e3754) ((HM.own_rd 0 rfl).cap.le (cut_hi e3754))) hS ?_
    refine dp rfl rfl rfl rfl (ex_move rfl rfl) hS ?_
    refine dp rfl rfl rfl rfl (ex_move rfl rfl) hS ?_
    refine dp rfl rfl rfl rfl (ex_cutvL rfl rfl rfl Try.underlying24 tsz38 (HM.own_rd 0 rfl) e3755) hS ?_
    refine drwp_one rfl (guard_none rfl) rfl rfl (does_delApp (i := (x1).toNat) (j := (x2).toNat) kMember rfl rfl rfl Try.underlying24 tsz38 (lt_nat e3756 e3757) (cut_hi e3755) HM) ?_
    rintro v3758 w3761 ⟨hcap3760, HM⟩
    have hS := Mem.suf (M := [own kMember 38 v3758 (x0.take (x1).toNat ++ x0.drop (x2).toNat)]) HM
    refine ⟨hS, ?_⟩
    refine dp rfl rfl rfl rfl (ex_assign rfl rfl) hS ?_
    refine drwp_done ?_
    refine at_then ?_
    refine run_seq ?_
    obtain ⟨e3762, H⟩ := chk_some H
    refine run_region rfl ?_
    refine ox rfl rfl rfl rfl (ex_move rfl rfl) ?_
    refine ox rfl rfl rfl rfl (ex_move rfl rfl) ?_
    refine ox rfl rfl rfl rfl (ex_len (d := kMember) (xs := x0.take (x1).toNat ++ x0.drop (x2).toNat) rfl rfl Try.underlying24 (HM.own_rd 0 rfl)) ?_
    refine ox rfl rfl rfl rfl (ex_move rfl rfl) ?_
    refine ox rfl rfl rfl rfl (ex_cutvLH rfl rfl rfl rfl Try.underlying24 tsz38 (Int.natCast_nonneg _) (of_decide_eq_true e3762) hcap3760) ?_
    refine ops_doesN rfl (guard_none rfl) rfl (does_clear (n := x0.length) kMember rfl rfl Try.underlying24 tsz38 tz38 rfl rfl (onesC rfl (onesC rfl (onesC rfl onesN))) (Int.ofNat_le.1 (of_decide_eq_true e3762)) hcap3760 HM) ?_
    rintro _ w3763 HM
    refine ops_nil (at_then (run_seq ?_))
    refine run_region rfl ?_
    refine ox rfl rfl rfl rfl (ex_move rfl rfl) ?_
    refine ox rfl rfl rfl rfl (ex_assign rfl rfl) ?_
    refine ops_nil (at_then ?_)
    refine run_ret ?_
    have hR := Option.some.inj H
    subst hR
    exact at_ret1 rfl rfl ⟨_, rfl, _, rfl, HM⟩

def impl_takeMembers_1.f (k : Nat) (x0 : Member) (x1 : Tx) : Option Bool := ((slices_Contains_impl_Ref.f k x1.fIns x0.fRef).bind fun t3806 => some t3806)
theorem impl_takeMembers_1.calls {k : Nat} {x0 : Member} {x1 : Tx} {b1 f1 : Nat} {p1_0 : Value} {p1_1 : Value} {w : World} (hc1 : CellsAt w b1 f1 [.int .i64 x1.fKind, .int .i64 x1.fMember, p1_0, p1_1]) (hp1_0 : RdS kRef w p1_0 x1.fIns) (hp1_1 : RdS kOut w p1_1 x1.fOuts) {r : Bool} (H : impl_takeMembers_1.f k x0 x1 = some r) :
    Calls Try.prog 113 ([.agg #[(.int .i64 x0.fKey), (.int .i64 x0.fRef.fTx), (.int .i64 x0.fRef.fAt)], .pointer (some ⟨b1, f1, none⟩)] : List Value).toArray w (fun e w_ => ∃ v, e = .returned v ∧ v = (.bool r) ∧ Mem w [] w_ []) := by
  have HM := Mem.start w
  refine calls_run (N := 9) Try.func113 rfl rfl rfl rfl ?_
  unfold impl_takeMembers_1.f at H
  refine run_seq ?_
  refine run_region rfl ?_
  refine od rfl rfl rfl rfl (does_box (cs := [.int .i64 x0.fKey, .int .i64 x0.fRef.fTx, .int .i64 x0.fRef.fAt]) rfl rfl rfl HM) ?_
  rintro _ w3805 ⟨b3802, rfl, HM⟩
  refine ox rfl rfl rfl rfl (ex_assign rfl rfl) ?_
  refine ops_nil (at_then (run_seq ?_))
  obtain ⟨t3806, h3807, H⟩ := bind_some H
  refine run_region rfl ?_
  refine ox rfl rfl rfl rfl (ex_fieldAddr (off' := f1 + 2) rfl rfl Try.underlying28 rfl tsz25 rfl) ?_
  refine ox rfl rfl rfl rfl (ex_load1 rfl rfl Try.underlying25 rfl ((HM.at_ hc1) 2 _ rfl)) ?_
  refine ox rfl rfl rfl rfl (ex_fieldAddr (off' := 1) rfl rfl Try.underlying38 rfl tsz36 rfl) ?_
  refine ox rfl rfl rfl rfl (ex_loadN (cs := [(.int .i64 x0.fRef.fTx), (.int .i64 x0.fRef.fAt)]) rfl rfl Try.underlying36 rfl tsz36 rfl ((HM.box_at 0 rfl).sub 1 2 rfl)) ?_
  refine od rfl rfl rfl rfl (does_callk rfl callok107 rfl (slices_Contains_impl_Ref.calls (x0 := x1.fIns) (x1 := x0.fRef) (HM.rd hp1_0) h3807)) ?_
  rintro _ w3808 ⟨rfl, hn⟩
  replace HM : Mem w [] w3808 [box b3802 38 [.int .i64 x0.fKey, .int .i64 x0.fRef.fTx, .int .i64 x0.fRef.fAt]] := HM.call hn
  refine ox rfl rfl rfl rfl (ex_assign rfl rfl) ?_
  refine ops_nil (at_then ?_)
  refine run_ret ?_
  replace HM := (HM.front 0 rfl rfl).drop
  have hR := Option.some.inj H
  subst hR
  exact at_ret1 rfl rfl ⟨_, rfl, rfl, HM⟩

def slices_IndexFunc_impl_Member_v2.l0 (x0 : List Member) (x1_0 : Tx) : Nat → Int → Option (Int ⊕ Unit)
  | 0, _ => none
  | k + 1, a3854 => (bif (decide (a3854 < (x0.length : Int))) then (chk (idxOk a3854 x0.length) ((impl_takeMembers_1.f k (gt x0 a3854) x1_0).bind fun t3866 => (bif t3866 then some (.inl a3854) else slices_IndexFunc_impl_Member_v2.l0 x0 x1_0 k (wrap64 (a3854 + 1))))) else some (.inr ()))
theorem slices_IndexFunc_impl_Member_v2.l0_z (x0 : List Member) (x1_0 : Tx) (a3854 : Int) : slices_IndexFunc_impl_Member_v2.l0 x0 x1_0 0 a3854 = none := rfl
theorem slices_IndexFunc_impl_Member_v2.l0_s (x0 : List Member) (x1_0 : Tx) (k : Nat) (a3854 : Int) : slices_IndexFunc_impl_Member_v2.l0 x0 x1_0 (k + 1) a3854 = (bif (decide (a3854 < (x0.length : Int))) then (chk (idxOk a3854 x0.length) ((impl_takeMembers_1.f k (gt x0 a3854) x1_0).bind fun t3866 => (bif t3866 then some (.inl a3854) else slices_IndexFunc_impl_Member_v2.l0 x0 x1_0 k (wrap64 (a3854 + 1))))) else some (.inr ())) := rfl
def slices_IndexFunc_impl_Member_v2.f (k : Nat) (x0 : List Member) (x1_0 : Tx) : Option Int := ((slices_IndexFunc_impl_Member_v2.l0 x0 x1_0 k 0).bind fun o3846 => thn o3846 (fun r => some r) (fun _ => some (-1)))
theorem slices_IndexFunc_impl_Member_v2.calls {k : Nat} {x0 : List Member} {x1_0 : Tx} {p0 : Value} {b1_0 f1_0 : Nat} {p1_0_0 : Value} {p1_0_1 : Value} {w : World} (hp0 : RdS kMember w p0 x0) (hc1_0 : CellsAt w b1_0 f1_0 [.int .i64 x1_0.fKind, .int .i64 x1_0.fMember, p1_0_0, p1_0_1]) (hp1_0_0 : RdS kRef w p1_0_0 x1_0.fIns) (hp1_0_1 : RdS kOut w p1_0_1 x1_0.fOuts) {r : Int} (H : slices_IndexFunc_impl_Member_v2.f k x0 x1_0 = some r) :
    Calls Try.prog 124 ([p0, .func (.func 113) #[] #[(.pointer (some ⟨b1_0, f1_0, none⟩))]] : List Value).toArray w (fun e w_ => ∃ v, e = .returned v ∧ v = (.int .i64 r) ∧ Mem w [] w_ []) := by
  have HM := Mem.start w
  refine calls_run (N := 19) Try.func124 rfl rfl rfl rfl ?_
  unfold slices_IndexFunc_impl_Member_v2.f at H
  refine run_seq ?_
  refine run_region rfl ?_
  refine ox rfl rfl rfl rfl (ex_assign rfl rfl) ?_
  refine ops_nil (at_then ?_)
  obtain ⟨o3846, ho3847, H⟩ := bind_some H
  refine run_mid (fun ρ_ w_ => Sum.inr () = o3846 ∧ ρ_ = [] ∧ Mem w [] w_ []) ?_ ?_
  · skip
    refine run_seq ?_
    refine run_region rfl ?_
    refine ox rfl rfl rfl rfl (ex_move rfl rfl) ?_
    refine ox rfl rfl rfl rfl (ex_len (d := kMember) (xs := x0) rfl rfl Try.underlying24 hp0) ?_
    refine ox rfl rfl rfl rfl (ex_move rfl rfl) ?_
    refine ops_nil (at_then ?_)
    refine run_block ?_
    refine run_loop (fun k_ ρ_ w_ => ∃ a3854 : Int, slices_IndexFunc_impl_Member_v2.l0 x0 x1_0 k_ a3854 = some o3846 ∧ ρ_ = [(0, p0), (1, .func (.func 113) #[] #[(.pointer (some ⟨b1_0, f1_0, none⟩))]), (7, .int .i64 (x0.length : Int)), (8, .int .i64 a3854)] ∧ Mem w [] w_ []) k (ρ1 := [(0, p0), (1, .func (.func 113) #[] #[(.pointer (some ⟨b1_0, f1_0, none⟩))]), (7, .int .i64 (x0.length : Int)), (8, .int .i64 0)]) ⟨_, ho3847, rfl, HM⟩ (Sub.cons rfl (Sub.cons rfl (Sub.cons rfl (Sub.cons rfl Sub.nil)))) ?_
    clear HM ho3847
    rintro k3861 _ w3862 ⟨a3854, ho3847, rfl, HM⟩
    obtain _ | k3861 := k3861
    · exact nomatch ((slices_IndexFunc_impl_Member_v2.l0_z x0 x1_0 a3854).symm.trans ho3847)
    replace ho3847 := (slices_IndexFunc_impl_Member_v2.l0_s x0 x1_0 k3861 a3854).symm.trans ho3847
    refine run_seq ?_
    refine run_region rfl ?_
    refine ox rfl rfl rfl rfl (ex_lss rfl rfl rfl) ?_
    refine ops_nil (at_then (run_seq ?_))
    refine run_cond (b := (decide (a3854 < (x0.length : Int)))) rfl (fun hb3863 => ?_) (fun hb3863 => ?_)
    · replace ho3847 := cond_t hb3863 ho3847
      refine run_skip ?_
      refine at_then ?_
      refine run_seq ?_
      refine run_block ?_
      refine run_seq ?_
      refine run_region rfl ?_
      refine ox rfl rfl rfl rfl (ex_move rfl rfl) ?_
      refine ox rfl rfl rfl rfl (ex_assign rfl rfl) ?_
      refine ops_nil (at_then (run_seq ?_))
      obtain ⟨e3864, ho3847⟩ := chk_some ho3847
      obtain ⟨t3866, h3867, ho3847⟩ := bind_some ho3847
      refine run_region rfl ?_
      refine ox rfl rfl rfl rfl (ex_move rfl rfl) ?_
      refine ox rfl rfl rfl rfl (ex_move rfl rfl) ?_
      refine ox rfl rfl rfl rfl (ex_move rfl rfl) ?_
      have hc3865 : CellsAt _ (sb p0) (so p0 + (a3854).toNat * 3) [(.int .i64 ((gt x0 a3854).fKey)), (.int .i64 ((gt x0 a3854).fRef.fTx)), (.int .i64 ((gt x0 a3854).fRef.fAt))] := rd_plain hp0 e3864
      refine ox rfl rfl rfl rfl (ex_indexAddr (d := kMember) rfl rfl rfl Try.underlying24 tsz38 hp0 (idx_lo e3864) (idx_hi e3864)) ?_
      refine ox rfl rfl rfl rfl (ex_loadN (cs := [(.int .i64 ((gt x0 a3854).fKey)), (.int .i64 ((gt x0 a3854).fRef.fTx)), (.int .i64 ((gt x0 a3854).fRef.fAt))]) rfl rfl Try.underlying38 rfl tsz38 rfl ((HM.at_ hc3865).sub 0 3 rfl)) ?_
      refine od rfl rfl rfl rfl (does_callvk rfl callok113 rfl rfl rfl (impl_takeMembers_1.calls (x0 := (gt x0 a3854)) (x1 := x1_0) (HM.at_ hc1_0) (HM.rd hp1_0_0) (HM.rd hp1_0_1) h3867)) ?_
      rintro _ w3868 ⟨rfl, hn⟩
      replace HM : Mem w [] w3868 [] := HM.call hn
      refine ops_nil (at_then ?_)
      refine run_cond (b := t3866) rfl (fun hb3869 => ?_) (fun hb3869 => ?_)
      · replace ho3847 := cond_t hb3869 ho3847
        refine run_seq ?_
        refine run_region rfl ?_
        refine ox rfl rfl rfl rfl (ex_move rfl rfl) ?_
        refine ox rfl rfl rfl rfl (ex_assign rfl rfl) ?_
        refine ops_nil (at_then ?_)
        refine run_ret ?_
        refine at_block_ret ?_
        refine at_then_ret ?_
        refine at_then_ret ?_
        refine at_block_ret ?_
        refine at_then_ret ?_
        have hR := Option.some.inj ho3847
        subst hR
        have hT := thn_inl H
        have hR := Option.some.inj hT
        subst hR
        exact at_ret1 rfl rfl ⟨_, rfl, rfl, HM⟩
      · replace ho3847 := cond_f hb3869 ho3847
        refine run_skip ?_
        refine at_block ?_
        refine at_then ?_
        refine run_region rfl ?_
        refine ox rfl rfl rfl rfl (ex_add rfl rfl rfl) ?_
        refine ox rfl rfl rfl rfl (ex_move rfl rfl) ?_
        refine ops_nil ?_
        exact at_again k3861 (ρ1 := [(0, p0), (1, .func (.func 113) #[] #[(.pointer (some ⟨b1_0, f1_0, none⟩))]), (7, .int .i64 (x0.length : Int)), (8, .int .i64 (wrap64 (a3854 + 1)))]) (Nat.lt_succ_self _) ⟨_, ho3847, rfl, HM⟩ (Sub.cons rfl (Sub.cons rfl (Sub.cons rfl (Sub.cons rfl Sub.nil))))
    · replace ho3847 := cond_f hb3863 ho3847
      refine run_exit ?_
      refine at_then_exit ?_
      refine at_then_exit ?_
      refine at_block_exit ?_
      exact at_mid (ρ' := []) ⟨(Option.some.inj ho3847), rfl, HM⟩ Sub.nil
  · rintro _ w3870 ⟨rfl, rfl, HM⟩
    replace H := (thn_inr H)
    refine run_seq ?_
    refine run_region rfl ?_
    refine ox rfl rfl rfl rfl (ex_assign rfl rfl) ?_
    refine ops_nil (at_then ?_)
    refine run_ret ?_
    have hR := Option.some.inj H
    subst hR
    exact at_ret1 rfl rfl ⟨_, rfl, rfl, HM⟩

def slices_DeleteFunc_impl_Member.l0 (x1_0 : Tx) : Nat → (List Member) → Int → Int → Option ((List Member) × Int)
  | 0, _, _, _ => none
  | k + 1, a3979, a3981, a3982 => (bif (decide (a3982 < (a3979.length : Int))) then (chk (idxOk a3982 a3979.length) ((impl_takeMembers_1.f k (gt a3979 a3982) x1_0).bind fun t4001 => (bif !t4001 then (chk (idxOk a3981 a3979.length) (slices_DeleteFunc_impl_Member.l0 x1_0 k (a3979.set (a3981).toNat (gt a3979 a3982)) (wrap64 (a3981 + 1)) (wrap64 (a3982 + 1)))) else slices_DeleteFunc_impl_Member.l0 x1_0 k a3979 a3981 (wrap64 (a3982 + 1))))) else some (a3979, a3981))
theorem slices_DeleteFunc_impl_Member.l0_z (x1_0 : Tx) (a3979 : List Member) (a3981 : Int) (a3982 : Int) : slices_DeleteFunc_impl_Member.l0 x1_0 0 a3979 a3981 a3982 = none := rfl
theorem slices_DeleteFunc_impl_Member.l0_s (x1_0 : Tx) (k : Nat) (a3979 : List Member) (a3981 : Int) (a3982 : Int) : slices_DeleteFunc_impl_Member.l0 x1_0 (k + 1) a3979 a3981 a3982 = (bif (decide (a3982 < (a3979.length : Int))) then (chk (idxOk a3982 a3979.length) ((impl_takeMembers_1.f k (gt a3979 a3982) x1_0).bind fun t4001 => (bif !t4001 then (chk (idxOk a3981 a3979.length) (slices_DeleteFunc_impl_Member.l0 x1_0 k (a3979.set (a3981).toNat (gt a3979 a3982)) (wrap64 (a3981 + 1)) (wrap64 (a3982 + 1)))) else slices_DeleteFunc_impl_Member.l0 x1_0 k a3979 a3981 (wrap64 (a3982 + 1))))) else some (a3979, a3981)) := rfl
def slices_DeleteFunc_impl_Member.f (k : Nat) (x0 : List Member) (x1_0 : Tx) : Option ((List Member)) := ((slices_IndexFunc_impl_Member_v2.f k x0 x1_0).bind fun t3929 => (bif (t3929 == (-1)) then some x0 else ((slices_DeleteFunc_impl_Member.l0 x1_0 k x0 t3929 (wrap64 (t3929 + 1))).bind (cur2 (fun a3965 a3967 => (chk (cutOk a3967 a3965.length) (some (a3965.take (a3967).toNat))))))))
theorem slices_DeleteFunc_impl_Member.calls {k : Nat} {x0 : List Member} {x1_0 : Tx} {p0 : Value} {b1_0 f1_0 : Nat} {p1_0_0 : Value} {p1_0_1 : Value} {w wo : World} {X : List Nat} (hwo : Olds wo w X) (hX : Hold w [own kMember 38 p0 x0] X) (hXn : X.Nodup) (hXl : ∀ b ∈ X, b < w.heap.size) (hc1_0 : CellsAt wo b1_0 f1_0 [.int .i64 x1_0.fKind, .int .i64 x1_0.fMember, p1_0_0, p1_0_1]) (hp1_0_0 : RdS kRef wo p1_0_0 x1_0.fIns) (hp1_0_1 : RdS kOut wo p1_0_1 x1_0.fOuts) {r : (List Member)} (H : slices_DeleteFunc_impl_Member.f k x0 x1_0 = some r) :
    Calls Try.prog 112 ([p0, .func (.func 113) #[] #[(.pointer (some ⟨b1_0, f1_0, none⟩))]] : List Value).toArray w (fun e w_ => ∃ v, e = .returned v ∧ ∃ u0 : Value, v = u0 ∧ Mem w X w_ [own kMember 38 u0 r]) := by
  have HM := Mem.startX hX hXn hXl
  refine calls_run (N := 42) Try.func112 rfl rfl rfl rfl ?_
  unfold slices_DeleteFunc_impl_Member.f at H
  refine run_seq ?_
  refine run_region rfl ?_
  refine ox rfl rfl rfl rfl (ex_assign rfl rfl) ?_
  refine ops_nil (at_then (run_seq ?_))
  obtain ⟨t3929, h3930, H⟩ := bind_some H
  refine run_region rfl ?_
  refine ox rfl rfl rfl rfl (ex_move rfl rfl) ?_
  refine ox rfl rfl rfl rfl (ex_move rfl rfl) ?_
  refine od rfl rfl rfl rfl (does_callk rfl callok124 rfl (slices_IndexFunc_impl_Member_v2.calls (x0 := x0) (x1_0 := x1_0) (HM.own_rd 0 rfl) (HM.ato hwo hc1_0) (HM.rdo hwo hp1_0_0) (HM.rdo hwo hp1_0_1) h3930)) ?_
  rintro _ w3931 ⟨rfl, hn⟩
  replace HM : Mem w X w3931 [own kMember 38 p0 x0] := HM.call hn
  refine ox rfl rfl rfl rfl (ex_assign rfl rfl) ?_
  refine ops_nil (at_then (run_seq ?_))
  refine run_seq ?_
  refine run_region rfl ?_
  refine ox rfl rfl rfl rfl (ex_move rfl rfl) ?_
  refine ox rfl rfl rfl rfl (ex_eql rfl rfl rfl) ?_
  refine ops_nil (at_then ?_)
  refine run_cond (b := (t3929 == (-1))) rfl (fun hb3933 => ?_) (fun hb3933 => ?_)
  · replace H := cond_t hb3933 H
    refine run_seq ?_
    refine run_region rfl ?_
    refine ox rfl rfl rfl rfl (ex_move rfl rfl) ?_
    refine ox rfl rfl rfl rfl (ex_assign rfl rfl) ?_
    refine ops_nil (at_then ?_)
    refine run_ret ?_
    refine at_then_ret ?_
    have hR := Option.some.inj H
    subst hR
    exact at_ret1 rfl rfl ⟨_, rfl, _, rfl, HM⟩
  · replace H := cond_f hb3933 H
    refine run_skip ?_
    refine at_then ?_
    obtain ⟨o3968, ho3969, H⟩ := bind_some H
    refine run_mid (fun ρ_ w_ => ∃ a3965 : List Member, ∃ a3967 : Int, (a3965, a3967) = o3968 ∧ ρ_ = [(0, p0), (5, .int .i64 a3967)] ∧ Mem w X w_ [own kMember 38 p0 a3965]) ?_ ?_
    · clear H
      refine run_seq ?_
      refine run_region rfl ?_
      refine ox rfl rfl rfl rfl (ex_move rfl rfl) ?_
      refine ox rfl rfl rfl rfl (ex_add rfl rfl rfl) ?_
      refine ox rfl rfl rfl rfl (ex_assign rfl rfl) ?_
      refine ops_nil (at_then ?_)
      refine run_block ?_
      refine run_loop (fun k_ ρ_ w_ => ∃ a3979 : List Member, ∃ a3981 : Int, ∃ a3982 : Int, slices_DeleteFunc_impl_Member.l0 x1_0 k_ a3979 a3981 a3982 = some o3968 ∧ ρ_ = [(0, p0), (1, .func (.func 113) #[] #[(.pointer (some ⟨b1_0, f1_0, none⟩))]), (5, .int .i64 a3981), (6, .int .i64 a3982)] ∧ Mem w X w_ [own kMember 38 p0 a3979]) k (ρ1 := [(0, p0), (1, .func (.func 113) #[] #[(.pointer (some ⟨b1_0, f1_0, none⟩))]), (5, .int .i64 t3929), (6, .int .i64 (wrap64 (t3929 + 1)))]) ⟨_, _, _, ho3969, rfl, HM⟩ (Sub.cons rfl (Sub.cons rfl (Sub.cons rfl (Sub.cons rfl Sub.nil)))) ?_
      clear HM ho3969
      rintro k3992 _ w3993 ⟨a3979, a3981, a3982, ho3969, rfl, HM⟩
      obtain _ | k3992 := k3992
      · exact nomatch ((slices_DeleteFunc_impl_Member.l0_z x1_0 a3979 a3981 a3982).symm.trans ho3969)
      replace ho3969 := (slices_DeleteFunc_impl_Member.l0_s x1_0 k3992 a3979 a3981 a3982).symm.trans ho3969
      refine run_seq ?_
      refine run_seq ?_
      refine run_region rfl ?_
      refine ox rfl rfl rfl rfl (ex_move rfl rfl) ?_
      refine ox rfl rfl rfl rfl (ex_move rfl rfl) ?_
      refine ox rfl rfl rfl rfl (ex_len (d := kMember) (xs := a3979) rfl rfl Try.underlying24 (HM.own_rd 0 rfl)) ?_
      refine ox rfl rfl rfl rfl (ex_lss rfl rfl rfl) ?_
      refine ops_nil (at_then ?_)
      refine run_cond (b := (decide (a3982 < (a3979.length : Int)))) rfl (fun hb3994 => ?_) (fun hb3994 => ?_)
      · replace ho3969 := cond_t hb3994 ho3969
        refine run_skip ?_
        refine at_then ?_
        refine run_seq ?_
        refine run_block ?_
        refine run_seq ?_
        obtain ⟨e3995, ho3969⟩ := chk_some ho3969
        refine run_region rfl ?_
        refine ox rfl rfl rfl rfl (ex_move rfl rfl) ?_
        refine ox rfl rfl rfl rfl (ex_move rfl rfl) ?_
        refine ox rfl rfl rfl rfl (ex_indexAddr (d := kMember) rfl rfl rfl Try.underlying24 tsz38 (HM.own_rd 0 rfl) (idx_lo e3995) (idx_hi e3995)) ?_
        refine ox rfl rfl rfl rfl (ex_loadN (cs := [(.int .i64 ((gt a3979 a3982).fKey)), (.int .i64 ((gt a3979 a3982).fRef.fTx)), (.int .i64 ((gt a3979 a3982).fRef.fAt))]) rfl rfl Try.underlying38 rfl tsz38 rfl ((rd_plain (HM.own_rd 0 rfl) e3995).sub 0 3 rfl)) ?_
        refine od rfl rfl rfl rfl (does_alloc (cs := [.int .i64 0, .int .i64 0, .int .i64 0]) rfl tz38 rfl HM) ?_
        rintro _ w3999 ⟨b3996, rfl, HM⟩
        refine odS rfl rfl rfl (does_store (vs := [.int .i64 ((gt a3979 a3982).fKey), .int .i64 ((gt a3979 a3982).fRef.fTx), .int .i64 ((gt a3979 a3982).fRef.fAt)]) (cs' := [.int .i64 ((gt a3979 a3982).fKey), .int .i64 ((gt a3979 a3982).fRef.fTx), .int .i64 ((gt a3979 a3982).fRef.fAt)]) rfl rfl rfl rfl tsz38 (Ones.int (Ones.int (Ones.int Ones.nil))) rfl rfl HM) ?_
        rintro w4000 HM
        refine ops_nil (at_then (run_seq ?_))
        obtain ⟨t4001, h4002, ho3969⟩ := bind_some ho3969
        refine run_region rfl ?_
        refine ox rfl rfl rfl rfl (ex_move rfl rfl) ?_
        refine ox rfl rfl rfl rfl (ex_loadN (cs := [(.int .i64 ((gt a3979 a3982).fKey)), (.int .i64 ((gt a3979 a3982).fRef.fTx)), (.int .i64 ((gt a3979 a3982).fRef.fAt))]) rfl rfl Try.underlying38 rfl tsz38 rfl ((HM.box_at 0 rfl).sub 0 3 rfl)) ?_
        refine od rfl rfl rfl rfl (does_callvk rfl callok113 rfl rfl rfl (impl_takeMembers_1.calls (x0 := (gt a3979 a3982)) (x1 := x1_0) (HM.ato hwo hc1_0) (HM.rdo hwo hp1_0_0) (HM.rdo hwo hp1_0_1) h4002)) ?_
        rintro _ w4003 ⟨rfl, hn⟩
        replace HM : Mem w X w4003 [box b3996 38 [.int .i64 ((gt a3979 a3982).fKey), .int .i64 ((gt a3979 a3982).fRef.fTx), .int .i64 ((gt a3979 a3982).fRef.fAt)], own kMember 38 p0 a3979] := HM.call hn
        refine ox rfl rfl rfl rfl (ex_not rfl rfl) ?_
        refine ops_nil (at_then ?_)
        refine run_cond (b := !t4001) rfl (fun hb4004 => ?_) (fun hb4004 => ?_)
        · replace ho3969 := cond_t hb4004 ho3969
          refine run_seq ?_
          obtain ⟨e4005, ho3969⟩ := chk_some ho3969
          refine run_region rfl ?_
          refine ox rfl rfl rfl rfl (ex_move rfl rfl) ?_
          refine ox rfl rfl rfl rfl (ex_move rfl rfl) ?_
          refine ox rfl rfl rfl rfl (ex_loadN (cs := [(.int .i64 ((gt a3979 a3982).fKey)), (.int .i64 ((gt a3979 a3982).fRef.fTx)), (.int .i64 ((gt a3979 a3982).fRef.fAt))]) rfl rfl Try.underlying38 rfl tsz38 rfl ((HM.box_at 0 rfl).sub 0 3 rfl)) ?_
          refine ox rfl rfl rfl rfl (ex_indexAddr (d := kMember) rfl rfl rfl Try.underlying24 tsz38 (HM.own_rd 1 rfl) (idx_lo e4005) (idx_hi e4005)) ?_
          replace HM := HM.front 1 rfl rfl
          refine odS rfl rfl rfl (does_setElem (vs := [(.int .i64 ((gt a3979 a3982).fKey)), (.int .i64 ((gt a3979 a3982).fRef.fTx)), (.int .i64 ((gt a3979 a3982).fRef.fAt))]) (y := (gt a3979 a3982)) kMember rfl rfl rfl rfl rfl tsz38 rfl rfl (idx_nat e4005) (fun _ _ h => ⟨rfl, h⟩) (HM.emp.front 1 rfl rfl)) ?_
          rintro w4006 HM
          refine ops_nil (at_then ?_)
          refine run_region rfl ?_
          refine ox rfl rfl rfl rfl (ex_move rfl rfl) ?_
          refine ox rfl rfl rfl rfl (ex_add rfl rfl rfl) ?_
          refine ox rfl rfl rfl rfl (ex_assign rfl rfl) ?_
          refine ops_nil ?_
          refine at_block ?_
          refine at_then ?_
          refine run_region rfl ?_
          refine ox rfl rfl rfl rfl (ex_move rfl rfl) ?_
          refine ox rfl rfl rfl rfl (ex_add rfl rfl rfl) ?_
          refine ox rfl rfl rfl rfl (ex_assign rfl rfl) ?_
          refine ops_nil ?_
          replace HM := (HM.front 1 rfl rfl).drop
          exact at_again k3992 (ρ1 := [(0, p0), (1, .func (.func 113) #[] #[(.pointer (some ⟨b1_0, f1_0, none⟩))]), (5, .int .i64 (wrap64 (a3981 + 1))), (6, .int .i64 (wrap64 (a3982 + 1)))]) (Nat.lt_succ_self _) ⟨_, _, _, ho3969, rfl, HM⟩ (Sub.cons rfl (Sub.cons rfl (Sub.cons rfl (Sub.cons rfl Sub.nil))))
        · replace ho3969 := cond_f hb4004 ho3969
          refine run_skip ?_
          refine at_block ?_
          refine at_then ?_
          refine run_region rfl ?_
          refine ox rfl rfl rfl rfl (ex_move rfl rfl) ?_
          refine ox rfl rfl rfl rfl (ex_add rfl rfl rfl) ?_
          refine ox rfl rfl rfl rfl (ex_assign rfl rfl) ?_
          refine ops_nil ?_
          replace HM := (HM.front 0 rfl rfl).drop
          exact at_again k3992 (ρ1 := [(0, p0), (1, .func (.func 113) #[] #[(.pointer (some ⟨b1_0, f1_0, none⟩))]), (5, .int .i64 a3981), (6, .int .i64 (wrap64 (a3982 + 1)))]) (Nat.lt_succ_self _) ⟨_, _, _, ho3969, rfl, HM⟩ (Sub.cons rfl (Sub.cons rfl (Sub.cons rfl (Sub.cons rfl Sub.nil))))
      · replace ho3969 := cond_f hb3994 ho3969
        refine run_exit ?_
        refine at_then_exit ?_
        refine at_then_exit ?_
        refine at_block_exit ?_
        exact at_mid (ρ' := [(0, p0), (5, .int .i64 a3981)]) ⟨_, _, (Option.some.inj ho3969), rfl, HM⟩ (Sub.cons rfl (Sub.cons rfl Sub.nil))
    · rintro _ w4007 ⟨a3965, a3967, rfl, rfl, HM⟩
      replace H := cur2_mk H
      refine run_seq ?_
      obtain ⟨e4008, H⟩ := chk_some H
      refine run_region rfl ?_
      refine ox rfl rfl rfl rfl (ex_move rfl rfl) ?_
      refine ox rfl rfl rfl rfl (ex_move rfl rfl) ?_
      refine ox rfl rfl rfl rfl (ex_cutvL rfl rfl rfl Try.underlying24 tsz38 (HM.own_rd 0 rfl) e4008) ?_
      have hcp4009 := HM.capI e4008
      refine ops_doesN rfl (guard_none rfl) rfl (does_clearL kMember rfl rfl Try.underlying24 tsz38 tz38 rfl rfl (onesC rfl (onesC rfl (onesC rfl onesN))) e4008 HM) ?_
      rintro _ w4010 HM
      refine ops_nil (at_then (run_seq ?_))
      refine run_region rfl ?_
      refine ox rfl rfl rfl rfl (ex_move rfl rfl) ?_
      refine ox rfl rfl rfl rfl (ex_move rfl rfl) ?_
      refine ox rfl rfl rfl rfl (ex_cutvH rfl rfl rfl Try.underlying24 tsz38 (cut_lo e4008) hcp4009) ?_
      refine ox rfl rfl rfl rfl (ex_assign rfl rfl) ?_
      refine ops_nil (at_then ?_)
      refine run_ret ?_
      have hR := Option.some.inj H
      subst hR
      exact at_ret1 rfl rfl ⟨_, rfl, _, rfl, HM⟩

def impl_takeMembers_2.f (k : Nat) (x0 : Member) (x1 : Ref) : Option Bool := some ((x0.fRef.fTx == x1.fTx) && (x0.fRef.fAt == x1.fAt))
theorem impl_takeMembers_2.calls {k : Nat} {x0 : Member} {x1 : Ref} {b1 f1 : Nat} {w : World} (hc1 : CellsAt w b1 f1 [.int .i64 x1.fTx, .int .i64 x1.fAt]) {r : Bool} (H : impl_takeMembers_2.f k x0 x1 = some r) :
    Calls Try.prog 114 ([.agg #[(.int .i64 x0.fKey), (.int .i64 x0.fRef.fTx), (.int .i64 x0.fRef.fAt)], .pointer (some ⟨b1, f1, none⟩)] : List Value).toArray w (fun e w_ => ∃ v, e = .returned v ∧ v = (.bool r) ∧ Mem w [] w_ []) := by
  have HM := Mem.start w
  refine calls_run (N := 8) Try.func114 rfl rfl rfl rfl ?_
  unfold impl_takeMembers_2.f at H
  refine run_seq ?_
  refine run_region rfl ?_
  refine od rfl rfl rfl rfl (does_box (cs := [.int .i64 x0.fKey, .int .i64 x0.fRef.fTx, .int .i64 x0.fRef.fAt]) rfl rfl rfl HM) ?_
  rintro _ w4037 ⟨b4034, rfl, HM⟩
  refine ox rfl rfl rfl rfl (ex_assign rfl rfl) ?_
  refine ops_nil (at_then (run_seq ?_))
  refine run_region rfl ?_
  refine ox rfl rfl rfl rfl (ex_fieldAddr (off' := 1) rfl rfl Try.underlying38 rfl tsz36 rfl) ?_
  refine ox rfl rfl rfl rfl (ex_loadN (cs := [(.int .i64 x0.fRef.fTx), (.int .i64 x0.fRef.fAt)]) rfl rfl Try.underlying36 rfl tsz36 rfl ((HM.box_at 0 rfl).sub 1 2 rfl)) ?_
  refine ox rfl rfl rfl rfl (ex_loadN (cs := [(.int .i64 x1.fTx), (.int .i64 x1.fAt)]) rfl rfl Try.underlying36 rfl tsz36 rfl ((HM.at_ hc1).sub 0 2 rfl)) ?_
  refine ox rfl rfl rfl rfl (ex_aeql rfl rfl rfl (by kernel_rfl) (eqs36 _ _ _ _ _)) ?_
  refine ox rfl rfl rfl rfl (ex_assign rfl rfl) ?_
  refine ops_nil (at_then ?_)
  refine run_ret ?_
  replace HM := (HM.front 0 rfl rfl).drop
  have hR := Option.some.inj H
  subst hR
  exact at_ret1 rfl rfl ⟨_, rfl, rfl, HM⟩

def slices_IndexFunc_impl_Member_v3.l0 (x0 : List Member) (x1_0 : Ref) : Nat → Int → Option (Int ⊕ Unit)
  | 0, _ => none
  | k + 1, a4083 => (bif (decide (a4083 < (x0.length : Int))) then (chk (idxOk a4083 x0.length) ((impl_takeMembers_2.f k (gt x0 a4083) x1_0).bind fun t4095 => (bif t4095 then some (.inl a4083) else slices_IndexFunc_impl_Member_v3.l0 x0 x1_0 k (wrap64 (a4083 + 1))))) else some (.inr ()))
theorem slices_IndexFunc_impl_Member_v3.l0_z (x0 : List Member) (x1_0 : Ref) (a4083 : Int) : slices_IndexFunc_impl_Member_v3.l0 x0 x1_0 0 a4083 = none := rfl
theorem slices_IndexFunc_impl_Member_v3.l0_s (x0 : List Member) (x1_0 : Ref) (k : Nat) (a4083 : Int) : slices_IndexFunc_impl_Member_v3.l0 x0 x1_0 (k + 1) a4083 = (bif (decide (a4083 < (x0.length : Int))) then (chk (idxOk a4083 x0.length) ((impl_takeMembers_2.f k (gt x0 a4083) x1_0).bind fun t4095 => (bif t4095 then some (.inl a4083) else slices_IndexFunc_impl_Member_v3.l0 x0 x1_0 k (wrap64 (a4083 + 1))))) else some (.inr ())) := rfl
def slices_IndexFunc_impl_Member_v3.f (k : Nat) (x0 : List Member) (x1_0 : Ref) : Option Int := ((slices_IndexFunc_impl_Member_v3.l0 x0 x1_0 k 0).bind fun o4075 => thn o4075 (fun r => some r) (fun _ => some (-1)))
theorem slices_IndexFunc_impl_Member_v3.calls {k : Nat} {x0 : List Member} {x1_0 : Ref} {p0 : Value} {b1_0 f1_0 : Nat} {w : World} (hp0 : RdS kMember w p0 x0) (hc1_0 : CellsAt w b1_0 f1_0 [.int .i64 x1_0.fTx, .int .i64 x1_0.fAt]) {r : Int} (H : slices_IndexFunc_impl_Member_v3.f k x0 x1_0 = some r) :
    Calls Try.prog 124 ([p0, .func (.func 114) #[] #[(.pointer (some ⟨b1_0, f1_0, none⟩))]] : List Value).toArray w (fun e w_ => ∃ v, e = .returned v ∧ v = (.int .i64 r) ∧ Mem w [] w_ []) := by
  have HM := Mem.start w
  refine calls_run (N := 19) Try.func124 rfl rfl rfl rfl ?_
  unfold slices_IndexFunc_impl_Member_v3.f at H
  refine run_seq ?_
  refine run_region rfl ?_
  refine ox rfl rfl rfl rfl (ex_assign rfl rfl) ?_
  refine ops_nil (at_then ?_)
  obtain ⟨o4075, ho4076, H⟩ := bind_some H
  refine run_mid (fun ρ_ w_ => Sum.inr () = o4075 ∧ ρ_ = [] ∧ Mem w [] w_ []) ?_ ?_
  · skip
    refine run_seq ?_
    refine run_region rfl ?_
    refine ox rfl rfl rfl rfl (ex_move rfl rfl) ?_
    refine ox rfl rfl rfl rfl (ex_len (d := kMember) (xs := x0) rfl rfl Try.underlying24 hp0) ?_
    refine ox rfl rfl rfl rfl (ex_move rfl rfl) ?_
    refine ops_nil (at_then ?_)
    refine run_block ?_
    refine run_loop (fun k_ ρ_ w_ => ∃ a4083 : Int, slices_IndexFunc_impl_Member_v3.l0 x0 x1_0 k_ a4083 = some o4075 ∧ ρ_ = [(0, p0), (1, .func (.func 114) #[] #[(.pointer (some ⟨b1_0, f1_0, none⟩))]), (7, .int .i64 (x0.length : Int)), (8, .int .i64 a4083)] ∧ Mem w [] w_ []) k (ρ1 := [(0, p0), (1, .func (.func 114) #[] #[(.pointer (some ⟨b1_0, f1_0, none⟩))]), (7, .int .i64 (x0.length : Int)), (8, .int .i64 0)]) ⟨_, ho4076, rfl, HM⟩ (Sub.cons rfl (Sub.cons rfl (Sub.cons rfl (Sub.cons rfl Sub.nil)))) ?_
    clear HM ho4076
    rintro k4090 _ w4091 ⟨a4083, ho4076, rfl, HM⟩
    obtain _ | k4090 := k4090
    · exact nomatch ((slices_IndexFunc_impl_Member_v3.l0_z x0 x1_0 a4083).symm.trans ho4076)
    replace ho4076 := (slices_IndexFunc_impl_Member_v3.l0_s x0 x1_0 k4090 a4083).symm.trans ho4076
    refine run_seq ?_
    refine run_region rfl ?_
    refine ox rfl rfl rfl rfl (ex_lss rfl rfl rfl) ?_
    refine ops_nil (at_then (run_seq ?_))
    refine run_cond (b := (decide (a4083 < (x0.length : Int)))) rfl (fun hb4092 => ?_) (fun hb4092 => ?_)
    · replace ho4076 := cond_t hb4092 ho4076
      refine run_skip ?_
      refine at_then ?_
      refine run_seq ?_
      refine run_block ?_
      refine run_seq ?_
      refine run_region rfl ?_
      refine ox rfl rfl rfl rfl (ex_move rfl rfl) ?_
      refine ox rfl rfl rfl rfl (ex_assign rfl rfl) ?_
      refine ops_nil (at_then (run_seq ?_))
      obtain ⟨e4093, ho4076⟩ := chk_some ho4076
      obtain ⟨t4095, h4096, ho4076⟩ := bind_some ho4076
      refine run_region rfl ?_
      refine ox rfl rfl rfl rfl (ex_move rfl rfl) ?_
      refine ox rfl rfl rfl rfl (ex_move rfl rfl) ?_
      refine ox rfl rfl rfl rfl (ex_move rfl rfl) ?_
      have hc4094 : CellsAt _ (sb p0) (so p0 + (a4083).toNat * 3) [(.int .i64 ((gt x0 a4083).fKey)), (.int .i64 ((gt x0 a4083).fRef.fTx)), (.int .i64 ((gt x0 a4083).fRef.fAt))] := rd_plain hp0 e4093
      refine ox rfl rfl rfl rfl (ex_indexAddr (d := kMember) rfl rfl rfl Try.underlying24 tsz38 hp0 (idx_lo e4093) (idx_hi e4093)) ?_
      refine ox rfl rfl rfl rfl (ex_loadN (cs := [(.int .i64 ((gt x0 a4083).fKey)), (.int .i64 ((gt x0 a4083).fRef.fTx)), (.int .i64 ((gt x0 a4083).fRef.fAt))]) rfl rfl Try.underlying38 rfl tsz38 rfl ((HM.at_ hc4094).sub 0 3 rfl)) ?_
      refine od rfl rfl rfl rfl (does_callvk rfl callok114 rfl rfl rfl (impl_takeMembers_2.calls (x0 := (gt x0 a4083)) (x1 := x1_0) (HM.at_ hc1_0) h4096)) ?_
      rintro _ w4097 ⟨rfl, hn⟩
      replace HM : Mem w [] w4097 [] := HM.call hn
      refine ops_nil (at_then ?_)
      refine run_cond (b := t4095) rfl (fun hb4098 => ?_) (fun hb4098 => ?_)
      · replace ho4076 := cond_t hb4098 ho4076
        refine run_seq ?_
        refine run_region rfl ?_
        refine ox rfl rfl rfl rfl (ex_move rfl rfl) ?_
        refine ox rfl rfl rfl rfl (ex_assign rfl rfl) ?_
        refine ops_nil (at_then ?_)
        refine run_ret ?_
        refine at_block_ret ?_
        refine at_then_ret ?_
        refine at_then_ret ?_
        refine at_block_ret ?_
        refine at_then_ret ?_
        have hR := Option.some.inj ho4076
        subst hR
        have hT := thn_inl H
        have hR := Option.some.inj hT
        subst hR
        exact at_ret1 rfl rfl ⟨_, rfl, rfl, HM⟩
      · replace ho4076 := cond_f hb4098 ho4076
        refine run_skip ?_
        refine at_block ?_
        refine at_then ?_
        refine run_region rfl ?_
        refine ox rfl rfl rfl rfl (ex_add rfl rfl rfl) ?_
        refine ox rfl rfl rfl rfl (ex_move rfl rfl) ?_
        refine ops_nil ?_
        exact at_again k4090 (ρ1 := [(0, p0), (1, .func (.func 114) #[] #[(.pointer (some ⟨b1_0, f1_0, none⟩))]), (7, .int .i64 (x0.length : Int)), (8, .int .i64 (wrap64 (a4083 + 1)))]) (Nat.lt_succ_self _) ⟨_, ho4076, rfl, HM⟩ (Sub.cons rfl (Sub.cons rfl (Sub.cons rfl (Sub.cons rfl Sub.nil))))
    · replace ho4076 := cond_f hb4092 ho4076
      refine run_exit ?_
      refine at_then_exit ?_
      refine at_then_exit ?_
      refine at_block_exit ?_
      exact at_mid (ρ' := []) ⟨(Option.some.inj ho4076), rfl, HM⟩ Sub.nil
  · rintro _ w4099 ⟨rfl, rfl, HM⟩
    replace H := (thn_inr H)
    refine run_seq ?_
    refine run_region rfl ?_
    refine ox rfl rfl rfl rfl (ex_assign rfl rfl) ?_
    refine ops_nil (at_then ?_)
    refine run_ret ?_
    have hR := Option.some.inj H
    subst hR
    exact at_ret1 rfl rfl ⟨_, rfl, rfl, HM⟩
end Go.Proofs.Ytbbcabpnkdilgaa.Zk
