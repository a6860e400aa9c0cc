/- What functions of the program compute, each as a plain function, and that they do. Conditions: as each theorem states them. -/
import Derived.Test.YtbbcabpnkdilgaaFnMembersZkF5
namespace Go.Proofs.Ytbbcabpnkdilgaa.Zk
open Go Go.RowKit Go.IntWalk Go.Proofs
set_option linter.unusedVariables false
set_option linter.unusedSimpArgs false
set_option maxRecDepth 100000
set_option maxHeartbeats 4000000
def slices_Clone_impl_Member.f (k : Nat) (x0 : List Member) : Option ((List Member)) := (chk (leB ((([] : List Member).length + x0.length) * 24) 140737488355328) (some (([] : List Member) ++ x0)))
theorem slices_Clone_impl_Member.calls {k : Nat} {x0 : List Member} {p0 : Value} {w : World} (hp0 : RdS kMember w p0 x0) {r : (List Member)} (H : slices_Clone_impl_Member.f k x0 = some r) :
    Calls Try.prog 110 ([p0] : List Value).toArray w (fun e w_ => ∃ v, e = .returned v ∧ ∃ u0 : Value, v = u0 ∧ Mem w [] w_ [own kMember 38 u0 r]) := by
  have HM := Mem.start w
  refine calls_run (N := 8) Try.func110 rfl rfl rfl rfl ?_
  unfold slices_Clone_impl_Member.f at H
  refine run_seq ?_
  refine run_region rfl ?_
  refine ox rfl rfl rfl rfl (ex_assign rfl rfl) ?_
  refine ops_nil (at_then (run_seq ?_))
  refine run_seq ?_
  refine run_region rfl ?_
  refine ox rfl rfl rfl rfl (ex_move rfl rfl) ?_
  refine ops_exE rfl (guard_none rfl) rfl rfl (ex_isnil rfl rfl rfl Try.underlying24 hp0) ?_
  rintro _ ⟨b4121, rfl, hb4122⟩
  refine ops_nil (at_then ?_)
  refine run_cond (b := b4121) rfl (fun hb4123 => ?_) (fun hb4123 => ?_)
  · have hx_ := hb4122 hb4123
    subst hx_
    obtain ⟨_, H⟩ := chk_some H
    replace H : some ([] : List Member) = r := H
    refine run_seq ?_
    refine run_region rfl ?_
    refine ox rfl rfl rfl rfl (ex_assign rfl rfl) ?_
    refine ops_nil (at_then ?_)
    refine run_ret ?_
    refine at_then_ret ?_
    replace HM := HM.empty kMember 38 none
    have hR := Option.some.inj H
    subst hR
    exact at_ret1 rfl rfl ⟨_, rfl, _, rfl, HM⟩
  · skip
    refine run_skip ?_
    refine at_then ?_
    refine run_seq ?_
    obtain ⟨e4127, H⟩ := chk_some H
    refine run_region rfl ?_
    refine od rfl rfl rfl rfl (does_lit (e := 38) (cs := []) (xs := ([] : List Member)) kMember rfl rfl (fun _ => by kernel_rfl) rfl rfl (fun _ _ h => by have h' : _ = [] := h; subst h'; exact .nil) HM.emp) ?_
    rintro v4124 w4130 HM
    refine ox rfl rfl rfl rfl (ex_move rfl rfl) ?_
    refine od rfl rfl rfl rfl (does_appendR kMember flat_plain rfl rfl rfl Try.underlying24 tsz38 rfl tby38 tz38 rfl rfl (leB_le e4127) (HM.rd hp0) HM) ?_
    rintro v4128 w4131 HM
    refine ox rfl rfl rfl rfl (ex_assign rfl rfl) ?_
    refine ops_nil (at_then ?_)
    refine run_ret ?_
    have hR := Option.some.inj H
    subst hR
    exact at_ret1 rfl rfl ⟨_, rfl, _, rfl, HM⟩

def cmp_isNaN_int64.f (k : Nat) (x0 : Int) : Option Bool := some (x0 != x0)
theorem cmp_isNaN_int64.calls {k : Nat} {x0 : Int}  {w : World}  {r : Bool} (H : cmp_isNaN_int64.f k x0 = some r) :
    Calls Try.prog 151 ([.int .i64 x0] : List Value).toArray w (fun e w_ => ∃ v, e = .returned v ∧ v = (.bool r) ∧ Mem w [] w_ []) := by
  have HM := Mem.start w
  refine calls_run (N := 6) Try.func151 rfl rfl rfl rfl ?_
  unfold cmp_isNaN_int64.f at H
  refine run_seq ?_
  refine run_region rfl ?_
  refine ox rfl rfl rfl rfl (ex_assign rfl rfl) ?_
  refine ops_nil (at_then (run_seq ?_))
  refine run_region rfl ?_
  refine ox rfl rfl rfl rfl (ex_move rfl rfl) ?_
  refine ox rfl rfl rfl rfl (ex_move rfl rfl) ?_
  refine ox rfl rfl rfl rfl (ex_neq rfl rfl rfl) ?_
  refine ox rfl rfl rfl rfl (ex_assign rfl rfl) ?_
  refine ops_nil (at_then ?_)
  refine run_ret ?_
  have hR := Option.some.inj H
  subst hR
  exact at_ret1 rfl rfl ⟨_, rfl, rfl, HM⟩

def cmp_Compare_int64.f (k : Nat) (x0 : Int) (x1 : Int) : Option Int := ((cmp_isNaN_int64.f k x0).bind fun t4158 => ((cmp_isNaN_int64.f k x1).bind fun t4161 => (bif t4158 then (bif t4161 then some 0 else some (-1)) else (bif t4161 then some 1 else (bif (decide (x0 < x1)) then some (-1) else (bif (decide (x1 < x0)) then some 1 else some 0))))))
theorem cmp_Compare_int64.calls {k : Nat} {x0 : Int} {x1 : Int}  {w : World}  {r : Int} (H : cmp_Compare_int64.f k x0 x1 = some r) :
    Calls Try.prog 123 ([.int .i64 x0, .int .i64 x1] : List Value).toArray w (fun e w_ => ∃ v, e = .returned v ∧ v = (.int .i64 r) ∧ Mem w [] w_ []) := by
  have HM := Mem.start w
  refine calls_run (N := 20) Try.func123 rfl rfl rfl rfl ?_
  unfold cmp_Compare_int64.f at H
  refine run_seq ?_
  refine run_region rfl ?_
  refine ox rfl rfl rfl rfl (ex_assign rfl rfl) ?_
  refine ops_nil (at_then (run_seq ?_))
  obtain ⟨t4158, h4159, H⟩ := bind_some H
  refine run_region rfl ?_
  refine ox rfl rfl rfl rfl (ex_move rfl rfl) ?_
  refine od rfl rfl rfl rfl (does_callk rfl callok151 rfl (cmp_isNaN_int64.calls (x0 := x0) h4159)) ?_
  rintro _ w4160 ⟨rfl, hn⟩
  replace HM : Mem w [] w4160 [] := HM.call hn
  refine ox rfl rfl rfl rfl (ex_assign rfl rfl) ?_
  refine ops_nil (at_then (run_seq ?_))
  obtain ⟨t4161, h4162, H⟩ := bind_some H
  refine run_region rfl ?_
  refine ox rfl rfl rfl rfl (ex_move rfl rfl) ?_
  refine od rfl rfl rfl rfl (does_callk rfl callok151 rfl (cmp_isNaN_int64.calls (x0 := x1) h4162)) ?_
  rintro _ w4163 ⟨rfl, hn⟩
  replace HM : Mem w [] w4163 [] := HM.call hn
  refine ox rfl rfl rfl rfl (ex_assign rfl rfl) ?_
  refine ops_nil (at_then (run_seq ?_))
  refine run_seq ?_
  refine run_region rfl ?_
  refine ox rfl rfl rfl rfl (ex_move rfl rfl) ?_
  refine ops_nil (at_then ?_)
  refine run_cond (b := t4158) rfl (fun hb4166 => ?_) (fun hb4166 => ?_)
  · replace H := cond_t hb4166 H
    refine run_seq ?_
    refine run_seq ?_
    refine run_region rfl ?_
    refine ox rfl rfl rfl rfl (ex_move rfl rfl) ?_
    refine ops_nil (at_then ?_)
    refine run_cond (b := t4161) rfl (fun hb4167 => ?_) (fun hb4167 => ?_)
    · replace H := cond_t hb4167 H
      refine run_seq ?_
      refine run_region rfl ?_
      refine ox rfl rfl rfl rfl (ex_assign rfl rfl) ?_
      refine ops_nil (at_then ?_)
      refine run_ret ?_
      refine at_then_ret ?_
      refine at_then_ret ?_
      have hR := Option.some.inj H
      subst hR
      exact at_ret1 rfl rfl ⟨_, rfl, rfl, HM⟩
    · replace H := cond_f hb4167 H
      refine run_skip ?_
      refine at_then ?_
      refine run_seq ?_
      refine run_region rfl ?_
      refine ox rfl rfl rfl rfl (ex_assign rfl rfl) ?_
      refine ops_nil (at_then ?_)
      refine run_ret ?_
      refine at_then_ret ?_
      have hR := Option.some.inj H
      subst hR
      exact at_ret1 rfl rfl ⟨_, rfl, rfl, HM⟩
  · replace H := cond_f hb4166 H
    refine run_skip ?_
    refine at_then ?_
    refine run_seq ?_
    refine run_seq ?_
    refine run_region rfl ?_
    refine ox rfl rfl rfl rfl (ex_move rfl rfl) ?_
    refine ops_nil (at_then ?_)
    refine run_cond (b := t4161) rfl (fun hb4169 => ?_) (fun hb4169 => ?_)
    · replace H := cond_t hb4169 H
      refine run_seq ?_
      refine run_region rfl ?_
      refine ox rfl rfl rfl rfl (ex_assign rfl rfl) ?_
      refine ops_nil (at_then ?_)
      refine run_ret ?_
      refine at_then_ret ?_
      have hR := Option.some.inj H
      subst hR
      exact at_ret1 rfl rfl ⟨_, rfl, rfl, HM⟩
    · replace H := cond_f hb4169 H
      refine run_skip ?_
      refine at_then ?_
      refine run_seq ?_
      refine run_seq ?_
      refine run_region rfl ?_
      refine ox rfl rfl rfl rfl (ex_move rfl rfl) ?_
      refine ox rfl rfl rfl rfl (ex_move rfl rfl) ?_
      refine ox rfl rfl rfl rfl (ex_lss rfl rfl rfl) ?_
      refine ops_nil (at_then ?_)
      refine run_cond (b := (decide (x0 < x1))) rfl (fun hb4171 => ?_) (fun hb4171 => ?_)
      · replace H := cond_t hb4171 H
        refine run_seq ?_
        refine run_region rfl ?_
        refine ox rfl rfl rfl rfl (ex_assign rfl rfl) ?_
        refine ops_nil (at_then ?_)
        refine run_ret ?_
        refine at_then_ret ?_
        have hR := Option.some.inj H
        subst hR
        exact at_ret1 rfl rfl ⟨_, rfl, rfl, HM⟩
      · replace H := cond_f hb4171 H
        refine run_skip ?_
        refine at_then ?_
        refine run_seq ?_
        refine run_seq ?_
        refine run_region rfl ?_
        refine ox rfl rfl rfl rfl (ex_move rfl rfl) ?_
        refine ox rfl rfl rfl rfl (ex_move rfl rfl) ?_
        refine ox rfl rfl rfl rfl (ex_gtr rfl rfl rfl) ?_
        refine ops_nil (at_then ?_)
        refine run_cond (b := (decide (x1 < x0))) rfl (fun hb4172 => ?_) (fun hb4172 => ?_)
        · replace H := cond_t hb4172 H
          refine run_seq ?_
          refine run_region rfl ?_
          refine ox rfl rfl rfl rfl (ex_assign rfl rfl) ?_
          refine ops_nil (at_then ?_)
          refine run_ret ?_
          refine at_then_ret ?_
          have hR := Option.some.inj H
          subst hR
          exact at_ret1 rfl rfl ⟨_, rfl, rfl, HM⟩
        · replace H := cond_f hb4172 H
          refine run_skip ?_
          refine at_then ?_
          refine run_seq ?_
          refine run_region rfl ?_
          refine ox rfl rfl rfl rfl (ex_assign rfl rfl) ?_
          refine ops_nil (at_then ?_)
          refine run_ret ?_
          have hR := Option.some.inj H
          subst hR
          exact at_ret1 rfl rfl ⟨_, rfl, rfl, HM⟩

def impl_findMember_1.f (k : Nat) (x0 : Member) (x1 : Int) : Option Int := ((cmp_Compare_int64.f k x0.fKey x1).bind fun t4179 => some t4179)
theorem impl_findMember_1.calls {k : Nat} {x0 : Member} {x1 : Int}  {w : World}  {r : Int} (H : impl_findMember_1.f k x0 x1 = some r) :
    Calls Try.prog 122 ([.agg #[(.int .i64 x0.fKey), (.int .i64 x0.fRef.fTx), (.int .i64 x0.fRef.fAt)], .int .i64 x1] : List Value).toArray w (fun e w_ => ∃ v, e = .returned v ∧ v = (.int .i64 r) ∧ Mem w [] w_ []) := by
  have HM := Mem.start w
  refine calls_run (N := 9) Try.func122 rfl rfl rfl rfl ?_
  unfold impl_findMember_1.f at H
  refine run_seq ?_
  refine run_region rfl ?_
  refine od rfl rfl rfl rfl (does_box (cs := [.int .i64 x0.fKey, .int .i64 x0.fRef.fTx, .int .i64 x0.fRef.fAt]) rfl rfl rfl HM) ?_
  rintro _ w4178 ⟨b4175, rfl, HM⟩
  refine ox rfl rfl rfl rfl (ex_assign rfl rfl) ?_
  refine ops_nil (at_then (run_seq ?_))
  obtain ⟨t4179, h4180, H⟩ := bind_some H
  refine run_region rfl ?_
  refine ox rfl rfl rfl rfl (ex_fieldAddr (off' := 0) rfl rfl Try.underlying38 rfl tsz2 rfl) ?_
  refine ox rfl rfl rfl rfl (ex_load1 rfl rfl Try.underlying2 rfl ((HM.box_at 0 rfl) 0 _ rfl)) ?_
  refine ox rfl rfl rfl rfl (ex_move rfl rfl) ?_
  refine od rfl rfl rfl rfl (does_callk rfl callok123 rfl (cmp_Compare_int64.calls (x0 := x0.fKey) (x1 := x1) h4180)) ?_
  rintro _ w4181 ⟨rfl, hn⟩
  replace HM : Mem w [] w4181 [box b4175 38 [.int .i64 x0.fKey, .int .i64 x0.fRef.fTx, .int .i64 x0.fRef.fAt]] := HM.call hn
  refine ox rfl rfl rfl rfl (ex_assign rfl rfl) ?_
  refine ops_nil (at_then ?_)
  refine run_ret ?_
  replace HM := (HM.front 0 rfl rfl).drop
  have hR := Option.some.inj H
  subst hR
  exact at_ret1 rfl rfl ⟨_, rfl, rfl, HM⟩

def slices_BinarySearchFunc_impl_Member.l0 (x0 : List Member) (x1 : Int) : Nat → Int → Int → Option Int
  | 0, _, _ => none
  | k + 1, a4241, a4242 => (bif (decide (a4241 < a4242)) then (chk (decide (0 ≤ (1 : Int)) && decide ((1 : Int) ≤ IntKind.u64.bits)) (chk (idxOk (wrap64 ((IntKind.u64.wrap (wrap64 (a4241 + a4242))) / 2 ^ ((1 : Int)).toNat)) x0.length) ((impl_findMember_1.f k (gt x0 (wrap64 ((IntKind.u64.wrap (wrap64 (a4241 + a4242))) / 2 ^ ((1 : Int)).toNat))) x1).bind fun t4256 => (bif (decide (t4256 < 0)) then slices_BinarySearchFunc_impl_Member.l0 x0 x1 k (wrap64 ((wrap64 ((IntKind.u64.wrap (wrap64 (a4241 + a4242))) / 2 ^ ((1 : Int)).toNat)) + 1)) a4242 else slices_BinarySearchFunc_impl_Member.l0 x0 x1 k a4241 (wrap64 ((IntKind.u64.wrap (wrap64 (a4241 + a4242))) / 2 ^ ((1 : Int)).toNat)))))) else some a4241)
theorem slices_BinarySearchFunc_impl_Member.l0_z (x0 : List Member) (x1 : Int) (a4241 : Int) (a4242 : Int) : slices_BinarySearchFunc_impl_Member.l0 x0 x1 0 a4241 a4242 = none := rfl
theorem slices_BinarySearchFunc_impl_Member.l0_s (x0 : List Member) (x1 : Int) (k : Nat) (a4241 : Int) (a4242 : Int) : slices_BinarySearchFunc_impl_Member.l0 x0 x1 (k + 1) a4241 a4242 = (bif (decide (a4241 < a4242)) then (chk (decide (0 ≤ (1 : Int)) && decide ((1 : Int) ≤ IntKind.u64.bits)) (chk (idxOk (wrap64 ((IntKind.u64.wrap (wrap64 (a4241 + a4242))) / 2 ^ ((1 : Int)).toNat)) x0.length) ((impl_findMember_1.f k (gt x0 (wrap64 ((IntKind.u64.wrap (wrap64 (a4241 + a4242))) / 2 ^ ((1 : Int)).toNat))) x1).bind fun t4256 => (bif (decide (t4256 < 0)) then slices_BinarySearchFunc_impl_Member.l0 x0 x1 k (wrap64 ((wrap64 ((IntKind.u64.wrap (wrap64 (a4241 + a4242))) / 2 ^ ((1 : Int)).toNat)) + 1)) a4242 else slices_BinarySearchFunc_impl_Member.l0 x0 x1 k a4241 (wrap64 ((IntKind.u64.wrap (wrap64 (a4241 + a4242))) / 2 ^ ((1 : Int)).toNat)))))) else some a4241) := rfl
def slices_BinarySearchFunc_impl_Member.f (k : Nat) (x0 : List Member) (x1 : Int) : Option (Int × Bool) := ((slices_BinarySearchFunc_impl_Member.l0 x0 x1 k 0 (x0.length : Int)).bind (fun a4231 => (chk (!(decide (a4231 < (x0.length : Int))) || (idxOk a4231 x0.length)) ((bif (decide (a4231 < (x0.length : Int))) then impl_findMember_1.f k (gt x0 a4231) x1 else some default).bind fun t4263 => some (a4231, ((decide (a4231 < (x0.length : Int))) && (t4263 == 0)))))))
theorem slices_BinarySearchFunc_impl_Member.calls {k : Nat} {x0 : List Member} {x1 : Int} {p0 : Value} {w : World} (hp0 : RdS kMember w p0 x0) {r : Int × Bool} (H : slices_BinarySearchFunc_impl_Member.f k x0 x1 = some r) :
    Calls Try.prog 121 ([p0, .int .i64 x1, .func (.func 122) #[] #[]] : List Value).toArray w (fun e w_ => ∃ v, e = .returned v ∧ v = (.tuple #[.int .i64 r.1, .bool r.2]) ∧ Mem w [] w_ []) := by
  have HM := Mem.start w
  refine calls_run (N := 49) Try.func121 rfl rfl rfl rfl ?_
  unfold slices_BinarySearchFunc_impl_Member.f at H
  refine run_seq ?_
  refine run_region rfl ?_
  refine ox rfl rfl rfl rfl (ex_assign rfl rfl) ?_
  refine ox rfl rfl rfl rfl (ex_assign rfl rfl) ?_
  refine ops_nil (at_then (run_seq ?_))
  refine run_region rfl ?_
  refine ox rfl rfl rfl rfl (ex_move rfl rfl) ?_
  refine ox rfl rfl rfl rfl (ex_len (d := kMember) (xs := x0) rfl rfl Try.underlying24 hp0) ?_
  refine ox rfl rfl rfl rfl (ex_assign rfl rfl) ?_
  refine ops_nil (at_then (run_seq ?_))
  refine run_region rfl ?_
  refine ox rfl rfl rfl rfl (ex_move rfl rfl) ?_
  refine ox rfl rfl rfl rfl (ex_assign rfl rfl) ?_
  refine ox rfl rfl rfl rfl (ex_assign rfl rfl) ?_
  refine ops_nil (at_then ?_)
  obtain ⟨o4232, ho4233, H⟩ := bind_some H
  refine run_mid (fun ρ_ w_ => ∃ a4231 : Int, a4231 = o4232 ∧ ρ_ = [(0, p0), (1, .int .i64 x1), (2, .func (.func 122) #[] #[]), (8, .int .i64 (x0.length : Int)), (9, .int .i64 a4231)] ∧ Mem w [] w_ []) ?_ ?_
  · clear H
    refine run_block ?_
    refine run_loop (fun k_ ρ_ w_ => ∃ a4241 : Int, ∃ a4242 : Int, slices_BinarySearchFunc_impl_Member.l0 x0 x1 k_ a4241 a4242 = some o4232 ∧ ρ_ = [(0, p0), (1, .int .i64 x1), (2, .func (.func 122) #[] #[]), (8, .int .i64 (x0.length : Int)), (9, .int .i64 a4241), (10, .int .i64 a4242)] ∧ Mem w [] w_ []) k (ρ1 := [(0, p0), (1, .int .i64 x1), (2, .func (.func 122) #[] #[]), (8, .int .i64 (x0.length : Int)), (9, .int .i64 0), (10, .int .i64 (x0.length : Int))]) ⟨_, _, ho4233, rfl, HM⟩ (Sub.cons rfl (Sub.cons rfl (Sub.cons rfl (Sub.cons rfl (Sub.cons rfl (Sub.cons rfl Sub.nil)))))) ?_
    clear HM ho4233
    rintro k4250 _ w4251 ⟨a4241, a4242, ho4233, rfl, HM⟩
    obtain _ | k4250 := k4250
    · exact nomatch ((slices_BinarySearchFunc_impl_Member.l0_z x0 x1 a4241 a4242).symm.trans ho4233)
    replace ho4233 := (slices_BinarySearchFunc_impl_Member.l0_s x0 x1 k4250 a4241 a4242).symm.trans ho4233
    refine run_seq ?_
    refine run_seq ?_
    refine run_region rfl ?_
    refine ox rfl rfl rfl rfl (ex_move rfl rfl) ?_
    refine ox rfl rfl rfl rfl (ex_move rfl rfl) ?_
    refine ox rfl rfl rfl rfl (ex_lss rfl rfl rfl) ?_
    refine ops_nil (at_then ?_)
    refine run_cond (b := (decide (a4241 < a4242))) rfl (fun hb4252 => ?_) (fun hb4252 => ?_)
    · replace ho4233 := cond_t hb4252 ho4233
      refine run_skip ?_
      refine at_then ?_
      refine run_block ?_
      refine run_seq ?_
      obtain ⟨e4253, ho4233⟩ := chk_some ho4233
      refine run_region rfl ?_
      refine ox rfl rfl rfl rfl (ex_move rfl rfl) ?_
      refine ox rfl rfl rfl rfl (ex_move rfl rfl) ?_
      refine ox rfl rfl rfl rfl (ex_add rfl rfl rfl) ?_
      refine ox rfl rfl rfl rfl (ex_conv rfl rfl (by rw [Try.underlying3]; rfl) Try.underlying182) ?_
      refine ox rfl rfl rfl rfl (ex_shr rfl rfl rfl e4253) ?_
      refine ox rfl rfl rfl rfl (ex_conv64 rfl rfl (by rw [Try.underlying182]; rfl) Try.underlying3) ?_
      refine ox rfl rfl rfl rfl (ex_assign rfl rfl) ?_
      refine ops_nil (at_then (run_seq ?_))
      obtain ⟨e4254, ho4233⟩ := chk_some ho4233
      obtain ⟨t4256, h4257, ho4233⟩ := bind_some ho4233
      refine run_region rfl ?_
      refine ox rfl rfl rfl rfl (ex_move rfl rfl) ?_
      refine ox rfl rfl rfl rfl (ex_move rfl rfl) ?_
      refine ox rfl rfl rfl rfl (ex_move rfl rfl) ?_
      have hc4255 : CellsAt _ (sb p0) (so p0 + (wrap64 ((IntKind.u64.wrap (wrap64 (a4241 + a4242))) / 2 ^ ((1 : Int)).toNat)).toNat * 3) [(.int .i64 ((gt x0 (wrap64 ((IntKind.u64.wrap (wrap64 (a4241 + a4242))) / 2 ^ ((1 : Int)).toNat))).fKey)), (.int .i64 ((gt x0 (wrap64 ((IntKind.u64.wrap (wrap64 (a4241 + a4242))) / 2 ^ ((1 : Int)).toNat))).fRef.fTx)), (.int .i64 ((gt x0 (wrap64 ((IntKind.u64.wrap (wrap64 (a4241 + a4242))) / 2 ^ ((1 : Int)).toNat))).fRef.fAt))] := rd_plain hp0 e4254
      refine ox rfl rfl rfl rfl (ex_indexAddr (d := kMember) rfl rfl rfl Try.underlying24 tsz38 hp0 (idx_lo e4254) (idx_hi e4254)) ?_
      refine ox rfl rfl rfl rfl (ex_loadN (cs := [(.int .i64 ((gt x0 (wrap64 ((IntKind.u64.wrap (wrap64 (a4241 + a4242))) / 2 ^ ((1 : Int)).toNat))).fKey)), (.int .i64 ((gt x0 (wrap64 ((IntKind.u64.wrap (wrap64 (a4241 + a4242))) / 2 ^ ((1 : Int)).toNat))).fRef.fTx)), (.int .i64 ((gt x0 (wrap64 ((IntKind.u64.wrap (wrap64 (a4241 + a4242))) / 2 ^ ((1 : Int)).toNat))).fRef.fAt))]) rfl rfl Try.underlying38 rfl tsz38 rfl ((HM.at_ hc4255).sub 0 3 rfl)) ?_
      refine ox rfl rfl rfl rfl (ex_move rfl rfl) ?_
      refine od rfl rfl rfl rfl (does_callvk rfl callok122 rfl rfl rfl (impl_findMember_1.calls (x0 := (gt x0 (wrap64 ((IntKind.u64.wrap (wrap64 (a4241 + a4242))) / 2 ^ ((1 : Int)).toNat)))) (x1 := x1) h4257)) ?_
      rintro _ w4258 ⟨rfl, hn⟩
      replace HM : Mem w [] w4258 [] := HM.call hn
      refine ox rfl rfl rfl rfl (ex_lss rfl rfl rfl) ?_
      refine ops_nil (at_then ?_)
      refine run_cond (b := (decide (t4256 < 0))) rfl (fun hb4259 => ?_) (fun hb4259 => ?_)
      · replace ho4233 := cond_t hb4259 ho4233
        refine run_region rfl ?_
        refine ox rfl rfl rfl rfl (ex_move rfl rfl) ?_
        refine ox rfl rfl rfl rfl (ex_add rfl rfl rfl) ?_
        refine ox rfl rfl rfl rfl (ex_assign rfl rfl) ?_
        refine ops_nil ?_
        refine at_block ?_
        exact at_again k4250 (ρ1 := [(0, p0), (1, .int .i64 x1), (2, .func (.func 122) #[] #[]), (8, .int .i64 (x0.length : Int)), (9, .int .i64 (wrap64 ((wrap64 ((IntKind.u64.wrap (wrap64 (a4241 + a4242))) / 2 ^ ((1 : Int)).toNat)) + 1))), (10, .int .i64 a4242)]) (Nat.lt_succ_self _) ⟨_, _, ho4233, rfl, HM⟩ (Sub.cons rfl (Sub.cons rfl (Sub.cons rfl (Sub.cons rfl (Sub.cons rfl (Sub.cons rfl Sub.nil))))))
      · replace ho4233 := cond_f hb4259 ho4233
        refine run_region rfl ?_
        refine ox rfl rfl rfl rfl (ex_move rfl rfl) ?_
        refine ox rfl rfl rfl rfl (ex_assign rfl rfl) ?_
        refine ops_nil ?_
        refine at_block ?_
        exact at_again k4250 (ρ1 := [(0, p0), (1, .int .i64 x1), (2, .func (.func 122) #[] #[]), (8, .int .i64 (x0.length : Int)), (9, .int .i64 a4241), (10, .int .i64 (wrap64 ((IntKind.u64.wrap (wrap64 (a4241 + a4242))) / 2 ^ ((1 : Int)).toNat)))]) (Nat.lt_succ_self _) ⟨_, _, ho4233, rfl, HM⟩ (Sub.cons rfl (Sub.cons rfl (Sub.cons rfl (Sub.cons rfl (Sub.cons rfl (Sub.cons rfl Sub.nil))))))
    · replace ho4233 := cond_f hb4252 ho4233
      refine run_exit ?_
      refine at_then_exit ?_
      refine at_then_exit ?_
      refine at_block_exit ?_
      exact at_mid (ρ' := [(0, p0), (1, .int .i64 x1), (2, .func (.func 122) #[] #[]), (8, .int .i64 (x0.length : Int)), (9, .int .i64 a4241)]) ⟨_, (Option.some.inj ho4233), rfl, HM⟩ (Sub.cons rfl (Sub.cons rfl (Sub.cons rfl (Sub.cons rfl (Sub.cons rfl Sub.nil)))))
  · rintro _ w4260 ⟨a4231, rfl, rfl, HM⟩
    refine run_seq ?_
    obtain ⟨e4261, H⟩ := chk_some H
    obtain ⟨t4263, h4264, H⟩ := bind_some H
    refine run_meet (fun ρ_ w_ => ρ_ = [(6, .int .i64 a4231), (7, .bool ((decide (a4231 < (x0.length : Int))) && (t4263 == 0)))] ∧ Mem w [] w_ []) ?_ ?_
    · skip
      refine run_region rfl ?_
      refine ox rfl rfl rfl rfl (ex_move rfl rfl) ?_
      refine ox rfl rfl rfl rfl (ex_move rfl rfl) ?_
      refine ox rfl rfl rfl rfl (ex_move rfl rfl) ?_
      refine ox rfl rfl rfl rfl (ex_lss rfl rfl rfl) ?_
      refine ox rfl rfl rfl rfl (ex_move rfl rfl) ?_
      refine bool_cases (decide (a4231 < (x0.length : Int))) (fun hg4265 => ?_) (fun hg4265 => ?_)
      · skip
        refine ops_ex rfl (guard_on rfl rfl rfl hg4265) rfl rfl (ex_move rfl rfl) ?_
        refine ops_ex rfl (guard_on rfl rfl rfl hg4265) rfl rfl (ex_move rfl rfl) ?_
        refine ops_ex rfl (guard_on rfl rfl rfl hg4265) rfl rfl (ex_move rfl rfl) ?_
        have hc4262 : CellsAt _ (sb p0) (so p0 + (a4231).toNat * 3) [(.int .i64 ((gt x0 a4231).fKey)), (.int .i64 ((gt x0 a4231).fRef.fTx)), (.int .i64 ((gt x0 a4231).fRef.fAt))] := rd_plain hp0 (or_t e4261 hg4265)
        refine ops_ex rfl (guard_on rfl rfl rfl hg4265) rfl rfl (ex_indexAddr (d := kMember) rfl rfl rfl Try.underlying24 tsz38 hp0 (idx_lo (or_t e4261 hg4265)) (idx_hi (or_t e4261 hg4265))) ?_
        refine ops_ex rfl (guard_on rfl rfl rfl hg4265) rfl rfl (ex_loadN (cs := [(.int .i64 ((gt x0 a4231).fKey)), (.int .i64 ((gt x0 a4231).fRef.fTx)), (.int .i64 ((gt x0 a4231).fRef.fAt))]) rfl rfl Try.underlying38 rfl tsz38 rfl ((HM.at_ hc4262).sub 0 3 rfl)) ?_
        refine ops_ex rfl (guard_on rfl rfl rfl hg4265) rfl rfl (ex_move rfl rfl) ?_
        refine ops_does rfl (guard_on rfl rfl rfl hg4265) rfl rfl (does_callvk rfl callok122 rfl rfl rfl (impl_findMember_1.calls (x0 := (gt x0 a4231)) (x1 := x1) (cond_t hg4265 h4264))) ?_
        rintro _ w4266 ⟨rfl, hn⟩
        replace HM : Mem w [] w4266 [] := HM.call hn
        refine ops_ex rfl (guard_on rfl rfl rfl hg4265) rfl rfl (ex_eql rfl rfl rfl) ?_
        refine ops_ex (v := .bool ((decide (a4231 < (x0.length : Int))) && (t4263 == 0))) rfl (guard_none rfl) rfl rfl (ex_pand_t rfl rfl hg4265 rfl) ?_
        refine ox rfl rfl rfl rfl (ex_assign rfl rfl) ?_
        refine ox rfl rfl rfl rfl (ex_assign rfl rfl) ?_
        refine ops_nil ?_
        exact at_meet [(6, .int .i64 a4231), (7, .bool ((decide (a4231 < (x0.length : Int))) && (t4263 == 0)))] ⟨rfl, HM⟩ (Sub.cons rfl (Sub.cons rfl Sub.nil))
      · skip
        refine ops_off rfl (guard_off rfl rfl rfl hg4265) rfl rfl ?_
        refine ops_off rfl (guard_off rfl rfl rfl hg4265) rfl rfl ?_
        refine ops_off rfl (guard_off rfl rfl rfl hg4265) rfl rfl ?_
        refine ops_off rfl (guard_off rfl rfl rfl hg4265) rfl rfl ?_
        refine ops_off rfl (guard_off rfl rfl rfl hg4265) rfl rfl ?_
        refine ops_off rfl (guard_off rfl rfl rfl hg4265) rfl rfl ?_
        refine ops_off rfl (guard_off rfl rfl rfl hg4265) rfl rfl ?_
        refine ops_off rfl (guard_off rfl rfl rfl hg4265) rfl rfl ?_
        have hg4267 : ((decide (a4231 < (x0.length : Int))) && (t4263 == 0)) = false := by simp only [hg4265, Bool.and_true, Bool.true_and, Bool.and_false, Bool.false_and, Bool.or_true, Bool.true_or, Bool.or_false, Bool.false_or, Bool.not_true, Bool.not_false, Bool.not_not]
        refine ops_ex (v := .bool ((decide (a4231 < (x0.length : Int))) && (t4263 == 0))) rfl (guard_none rfl) rfl rfl (ex_pand_f rfl rfl hg4265) ?_
        refine ox rfl rfl rfl rfl (ex_assign rfl rfl) ?_
        refine ox rfl rfl rfl rfl (ex_assign rfl rfl) ?_
        refine ops_nil ?_
        exact at_meet [(6, .int .i64 a4231), (7, .bool ((decide (a4231 < (x0.length : Int))) && (t4263 == 0)))] ⟨rfl, HM⟩ (Sub.cons rfl (Sub.cons rfl Sub.nil))
    · rintro _ w4268 ⟨rfl, HM⟩
      refine at_then ?_
      refine run_ret ?_
      have hR := Option.some.inj H
      subst hR
      exact at_ret2 rfl rfl rfl ⟨_, rfl, rfl, HM⟩

def impl_findMember.f (k : Nat) (x0 : List Member) (x1 : Int) : Option (Int × Bool) := ((slices_BinarySearchFunc_impl_Member.f k x0 x1).bind fun t4271 => some (t4271.1, t4271.2))
theorem impl_findMember.calls {k : Nat} {x0 : List Member} {x1 : Int} {p0 : Value} {w : World} (hp0 : RdS kMember w p0 x0) {r : Int × Bool} (H : impl_findMember.f k x0 x1 = some r) :
    Calls Try.prog 60 ([p0, .int .i64 x1] : List Value).toArray w (fun e w_ => ∃ v, e = .returned v ∧ v = (.tuple #[.int .i64 r.1, .bool r.2]) ∧ Mem w [] w_ []) := by
  have HM := Mem.start w
  refine calls_run (N := 11) Try.func60 rfl rfl rfl rfl ?_
  unfold impl_findMember.f at H
  refine run_seq ?_
  refine run_region rfl ?_
  refine ox rfl rfl rfl rfl (ex_assign rfl rfl) ?_
  refine ox rfl rfl rfl rfl (ex_assign rfl rfl) ?_
  refine ops_nil (at_then (run_seq ?_))
  obtain ⟨t4271, h4272, H⟩ := bind_some H
  refine run_region rfl ?_
  refine ox rfl rfl rfl rfl (ex_move rfl rfl) ?_
  refine ox rfl rfl rfl rfl (ex_move rfl rfl) ?_
  refine od rfl rfl rfl rfl (does_callk rfl callok121 rfl (slices_BinarySearchFunc_impl_Member.calls (x0 := x0) (x1 := x1) (HM.rd hp0) h4272)) ?_
  rintro _ w4273 ⟨rfl, hn⟩
  replace HM : Mem w [] w4273 [] := HM.call hn
  refine ox rfl rfl rfl rfl (ex_extract rfl rfl rfl) ?_
  refine ox rfl rfl rfl rfl (ex_extract rfl rfl rfl) ?_
  refine ox rfl rfl rfl rfl (ex_assign rfl rfl) ?_
  refine ox rfl rfl rfl rfl (ex_assign rfl rfl) ?_
  refine ops_nil (at_then ?_)
  refine run_ret ?_
  have hR := Option.some.inj H
  subst hR
  exact at_ret2 rfl rfl rfl ⟨_, rfl, rfl, HM⟩

def slices_Delete_impl_Member.f (k : Nat) (x0 : List Member) (x1 : Int) (x2 : Int) : Option ((List Member)) := (chk (cutOk x2 x0.length) (chk (cutOk x1 (x2).toNat) (bif (x1 == x2) then some x0 else (chk (cutOk x1 x0.length) (chk (cutOk x2 x0.length) (chk (cutOk x1 (x2).toNat) (chk (decide (x1 < x2)) (chk (decide (((x0.take (x1).toNat ++ x0.drop (x2).toNat).length : Int) ≤ (x0.length : Int))) (some (x0.take (x1).toNat ++ x0.drop (x2).toNat))))))))))
theorem slices_Delete_impl_Member.calls {k : Nat} {x0 : List Member} {x1 : Int} {x2 : Int} {p0 : Value} {w wo : World} {X : List Nat} (hwo : Olds wo w X) (hX : Hold w [own kMember 38 p0 x0] X) (hXn : X.Nodup) (hXl : ∀ b ∈ X, b < w.heap.size)  {r : (List Member)} (H : slices_Delete_impl_Member.f k x0 x1 x2 = some r) :
    Calls Try.prog 111 ([p0, .int .i64 x1, .int .i64 x2] : List Value).toArray w (fun e w_ => ∃ v, e = .returned v ∧ ∃ u0 : Value, v = u0 ∧ Mem w X w_ [own kMember 38 u0 r]) := by
  have HM := Mem.startX hX hXn hXl
  refine calls_run (N := 33) Try.func111 rfl rfl rfl rfl ?_
  unfold slices_Delete_impl_Member.f at H
  refine run_seq ?_
  refine run_region rfl ?_
  refine ox rfl rfl rfl rfl (ex_assign rfl rfl) ?_
  refine ops_nil (at_then (run_seq ?_))
  obtain ⟨e4291, H⟩ := chk_some H
  obtain ⟨e4292, H⟩ := chk_some H
  refine run_region rfl ?_
  refine ox rfl rfl rfl rfl (ex_move rfl rfl) ?_
  refine ox rfl rfl rfl rfl (ex_move rfl rfl) ?_
  refine ox rfl rfl rfl rfl (ex_move rfl rfl) ?_
  refine ox rfl rfl rfl rfl (ex_move rfl rfl) ?_
  refine ox rfl rfl rfl rfl (ex_len (d := kMember) (xs := x0) rfl rfl Try.underlying24 (HM.own_rd 0 rfl)) ?_
  refine ops_exE rfl (guard_none rfl) rfl rfl (ex_cut3 rfl rfl rfl rfl rfl Try.underlying24 tsz38 (cut_lo e4292) (cut_lt2 e4292 e4291) (cut_le2 e4291) ((HM.own_rd 0 rfl).cap.le (Nat.le_refl _))) ?_
  rintro _ _
  refine ops_nil (at_then (run_seq ?_))
  refine run_seq ?_
  refine run_region rfl ?_
  refine ox rfl rfl rfl rfl (ex_move rfl rfl) ?_
  refine ox rfl rfl rfl rfl (ex_move rfl rfl) ?_
  refine ox rfl rfl rfl rfl (ex_eql rfl rfl rfl) ?_
  refine ops_nil (at_then ?_)
  refine run_cond (b := (x1 == x2)) rfl (fun hb4294 => ?_) (fun hb4294 => ?_)
  · replace H := cond_t hb4294 H
    refine run_seq ?_
    refine run_region rfl ?_
    refine ox rfl rfl rfl rfl (ex_move rfl rfl) ?_
    refine ox rfl rfl rfl rfl (ex_assign rfl rfl) ?_
    refine ops_nil (at_then ?_)
    refine run_ret ?_
    refine at_then_ret ?_
    have hR := Option.some.inj H
    subst hR
    exact at_ret1 rfl rfl ⟨_, rfl, _, rfl, HM⟩
  · replace H := cond_f hb4294 H
    refine run_skip ?_
    refine at_then ?_
    refine run_seq ?_
    refine run_region rfl ?_
    refine ox rfl rfl rfl rfl (ex_move rfl rfl) ?_
    refine ox rfl rfl rfl rfl (ex_len (d := kMember) (xs := x0) rfl rfl Try.underlying24 (HM.own_rd 0 rfl)) ?_
    refine ox rfl rfl rfl rfl (ex_assign rfl rfl) ?_
    refine ops_nil (at_then (run_seq ?_))
    obtain ⟨e4295, H⟩ := chk_some H
    obtain ⟨e4296, H⟩ := chk_some H
    obtain ⟨e4297, H⟩ := chk_some H
    obtain ⟨e4298, H⟩ := chk_some H
    refine run_drawf (fun w_ => Mem w X w_ []) [(0, true), (1, true), (2, true), (3, true), (4, true), (5, true), (6, false), (7, true)] mixed rfl rfl (by kernel_rfl) ?_
    replace HM := HM.grow (fr_drew _)
    have hS := Mem.suf (M := [own kMember 38 p0 x0]) HM
    refine dp rfl rfl rfl rfl (ex_move rfl rfl) hS ?_
    refine dp rfl rfl rfl rfl (ex_move rfl rfl) hS ?_
    refine dp rfl rfl rfl rfl (ex_cutvH rfl rfl rfl Try.underlying24 tsz38 (cut_lo e4295) ((HM.own_rd 0 rfl).cap.le (cut_hi e4295))) hS ?_
    refine dp rfl rfl rfl rfl (ex_move rfl rfl) hS ?_
    refine dp rfl rfl rfl rfl (ex_move rfl rfl) hS ?_
    refine dp rfl rfl rfl rfl (ex_cutvL rfl rfl rfl Try.underlying24 tsz38 (HM.own_rd 0 rfl) e4296) hS ?_
    refine drwp_one rfl (guard_none rfl) rfl rfl (does_delApp (i := (x1).toNat) (j := (x2).toNat) kMember rfl rfl rfl Try.underlying24 tsz38 (lt_nat e4297 e4298) (cut_hi e4296) HM) ?_
    rintro v4299 w4302 ⟨hcap4301, HM⟩
    have hS := Mem.suf (M := [own kMember 38 v4299 (x0.take (x1).toNat ++ x0.drop (x2).toNat)]) HM
    refine ⟨hS, ?_⟩
    refine dp rfl rfl rfl rfl (ex_assign rfl rfl) hS ?_
    refine drwp_done ?_
    refine at_then ?_
    refine run_seq ?_
    obtain ⟨e4303, H⟩ := chk_some H
    refine run_region rfl ?_
    refine ox rfl rfl rfl rfl (ex_move rfl rfl) ?_
    refine ox rfl rfl rfl rfl (ex_move rfl rfl) ?_
    refine ox rfl rfl rfl rfl (ex_len (d := kMember) (xs := x0.take (x1).toNat ++ x0.drop (x2).toNat) rfl rfl Try.underlying24 (HM.own_rd 0 rfl)) ?_
    refine ox rfl rfl rfl rfl (ex_move rfl rfl) ?_
    refine ox rfl rfl rfl rfl (ex_cutvLH rfl rfl rfl rfl Try.underlying24 tsz38 (Int.natCast_nonneg _) (of_decide_eq_true e4303) hcap4301) ?_
    refine ops_doesN rfl (guard_none rfl) rfl (does_clear (n := x0.length) kMember rfl rfl Try.underlying24 tsz38 tz38 rfl rfl (onesC rfl (onesC rfl (onesC rfl onesN))) (Int.ofNat_le.1 (of_decide_eq_true e4303)) hcap4301 HM) ?_
    rintro _ w4304 HM
    refine ops_nil (at_then (run_seq ?_))
    refine run_region rfl ?_
    refine ox rfl rfl rfl rfl (ex_move rfl rfl) ?_
    refine ox rfl rfl rfl rfl (ex_assign rfl rfl) ?_
    refine ops_nil (at_then ?_)
    refine run_ret ?_
    have hR := Option.some.inj H
    subst hR
    exact at_ret1 rfl rfl ⟨_, rfl, _, rfl, HM⟩

def impl_takeMembers_1.f (k : Nat) (x0 : Member) (x1 : Tx) : Option Bool := ((slices_Contains_impl_Ref.f k x1.fIns x0.fRef).bind fun t4347 => some t4347)
theorem impl_takeMembers_1.calls {k : Nat} {x0 : Member} {x1 : Tx} {b1 f1 : Nat} {p1_0 : Value} {p1_1 : Value} {w : World} (hc1 : CellsAt w b1 f1 [.int .i64 x1.fKind, .int .i64 x1.fMember, p1_0, p1_1]) (hp1_0 : RdS kRef w p1_0 x1.fIns) (hp1_1 : RdS kOut w p1_1 x1.fOuts) {r : Bool} (H : impl_takeMembers_1.f k x0 x1 = some r) :
    Calls Try.prog 113 ([.agg #[(.int .i64 x0.fKey), (.int .i64 x0.fRef.fTx), (.int .i64 x0.fRef.fAt)], .pointer (some ⟨b1, f1, none⟩)] : List Value).toArray w (fun e w_ => ∃ v, e = .returned v ∧ v = (.bool r) ∧ Mem w [] w_ []) := by
  have HM := Mem.start w
  refine calls_run (N := 9) Try.func113 rfl rfl rfl rfl ?_
  unfold impl_takeMembers_1.f at H
  refine run_seq ?_
  refine run_region rfl ?_
  refine od rfl rfl rfl rfl (does_box (cs := [.int .i64 x0.fKey, .int .i64 x0.fRef.fTx, .int .i64 x0.fRef.fAt]) rfl rfl rfl HM) ?_
  rintro _ w4346 ⟨b4343, rfl, HM⟩
  refine ox rfl rfl rfl rfl (ex_assign rfl rfl) ?_
  refine ops_nil (at_then (run_seq ?_))
  obtain ⟨t4347, h4348, H⟩ := bind_some H
  refine run_region rfl ?_
  refine ox rfl rfl rfl rfl (ex_fieldAddr (off' := f1 + 2) rfl rfl Try.underlying28 rfl tsz25 rfl) ?_
  refine ox rfl rfl rfl rfl (ex_load1 rfl rfl Try.underlying25 rfl ((HM.at_ hc1) 2 _ rfl)) ?_
  refine ox rfl rfl rfl rfl (ex_fieldAddr (off' := 1) rfl rfl Try.underlying38 rfl tsz36 rfl) ?_
  refine ox rfl rfl rfl rfl (ex_loadN (cs := [(.int .i64 x0.fRef.fTx), (.int .i64 x0.fRef.fAt)]) rfl rfl Try.underlying36 rfl tsz36 rfl ((HM.box_at 0 rfl).sub 1 2 rfl)) ?_
  refine od rfl rfl rfl rfl (does_callk rfl callok107 rfl (slices_Contains_impl_Ref.calls (x0 := x1.fIns) (x1 := x0.fRef) (HM.rd hp1_0) h4348)) ?_
  rintro _ w4349 ⟨rfl, hn⟩
  replace HM : Mem w [] w4349 [box b4343 38 [.int .i64 x0.fKey, .int .i64 x0.fRef.fTx, .int .i64 x0.fRef.fAt]] := HM.call hn
  refine ox rfl rfl rfl rfl (ex_assign rfl rfl) ?_
  refine ops_nil (at_then ?_)
  refine run_ret ?_
  replace HM := (HM.front 0 rfl rfl).drop
  have hR := Option.some.inj H
  subst hR
  exact at_ret1 rfl rfl ⟨_, rfl, rfl, HM⟩

def slices_IndexFunc_impl_Member_v2.l0 (x0 : List Member) (x1_0 : Tx) : Nat → Int → Option (Int ⊕ Unit)
  | 0, _ => none
  | k + 1, a4395 => (bif (decide (a4395 < (x0.length : Int))) then (chk (idxOk a4395 x0.length) ((impl_takeMembers_1.f k (gt x0 a4395) x1_0).bind fun t4407 => (bif t4407 then some (.inl a4395) else slices_IndexFunc_impl_Member_v2.l0 x0 x1_0 k (wrap64 (a4395 + 1))))) else some (.inr ()))
theorem slices_IndexFunc_impl_Member_v2.l0_z (x0 : List Member) (x1_0 : Tx) (a4395 : Int) : slices_IndexFunc_impl_Member_v2.l0 x0 x1_0 0 a4395 = none := rfl
theorem slices_IndexFunc_impl_Member_v2.l0_s (x0 : List Member) (x1_0 : Tx) (k : Nat) (a4395 : Int) : slices_IndexFunc_impl_Member_v2.l0 x0 x1_0 (k + 1) a4395 = (bif (decide (a4395 < (x0.length : Int))) then (chk (idxOk a4395 x0.length) ((impl_takeMembers_1.f k (gt x0 a4395) x1_0).bind fun t4407 => (bif t4407 then some (.inl a4395) else slices_IndexFunc_impl_Member_v2.l0 x0 x1_0 k (wrap64 (a4395 + 1))))) else some (.inr ())) := rfl
def slices_IndexFunc_impl_Member_v2.f (k : Nat) (x0 : List Member) (x1_0 : Tx) : Option Int := ((slices_IndexFunc_impl_Member_v2.l0 x0 x1_0 k 0).bind fun o4387 => thn o4387 (fun r => some r) (fun _ => some (-1)))
theorem slices_IndexFunc_impl_Member_v2.calls {k : Nat} {x0 : List Member} {x1_0 : Tx} {p0 : Value} {b1_0 f1_0 : Nat} {p1_0_0 : Value} {p1_0_1 : Value} {w : World} (hp0 : RdS kMember w p0 x0) (hc1_0 : CellsAt w b1_0 f1_0 [.int .i64 x1_0.fKind, .int .i64 x1_0.fMember, p1_0_0, p1_0_1]) (hp1_0_0 : RdS kRef w p1_0_0 x1_0.fIns) (hp1_0_1 : RdS kOut w p1_0_1 x1_0.fOuts) {r : Int} (H : slices_IndexFunc_impl_Member_v2.f k x0 x1_0 = some r) :
    Calls Try.prog 124 ([p0, .func (.func 113) #[] #[(.pointer (some ⟨b1_0, f1_0, none⟩))]] : List Value).toArray w (fun e w_ => ∃ v, e = .returned v ∧ v = (.int .i64 r) ∧ Mem w [] w_ []) := by
  have HM := Mem.start w
  refine calls_run (N := 19) Try.func124 rfl rfl rfl rfl ?_
  unfold slices_IndexFunc_impl_Member_v2.f at H
  refine run_seq ?_
  refine run_region rfl ?_
  refine ox rfl rfl rfl rfl (ex_assign rfl rfl) ?_
  refine ops_nil (at_then ?_)
  obtain ⟨o4387, ho4388, H⟩ := bind_some H
  refine run_mid (fun ρ_ w_ => Sum.inr () = o4387 ∧ ρ_ = [] ∧ Mem w [] w_ []) ?_ ?_
  · skip
    refine run_seq ?_
    refine run_region rfl ?_
    refine ox rfl rfl rfl rfl (ex_move rfl rfl) ?_
    refine ox rfl rfl rfl rfl (ex_len (d := kMember) (xs := x0) rfl rfl Try.underlying24 hp0) ?_
    refine ox rfl rfl rfl rfl (ex_move rfl rfl) ?_
    refine ops_nil (at_then ?_)
    refine run_block ?_
    refine run_loop (fun k_ ρ_ w_ => ∃ a4395 : Int, slices_IndexFunc_impl_Member_v2.l0 x0 x1_0 k_ a4395 = some o4387 ∧ ρ_ = [(0, p0), (1, .func (.func 113) #[] #[(.pointer (some ⟨b1_0, f1_0, none⟩))]), (7, .int .i64 (x0.length : Int)), (8, .int .i64 a4395)] ∧ Mem w [] w_ []) k (ρ1 := [(0, p0), (1, .func (.func 113) #[] #[(.pointer (some ⟨b1_0, f1_0, none⟩))]), (7, .int .i64 (x0.length : Int)), (8, .int .i64 0)]) ⟨_, ho4388, rfl, HM⟩ (Sub.cons rfl (Sub.cons rfl (Sub.cons rfl (Sub.cons rfl Sub.nil)))) ?_
    clear HM ho4388
    rintro k4402 _ w4403 ⟨a4395, ho4388, rfl, HM⟩
    obtain _ | k4402 := k4402
    · exact nomatch ((slices_IndexFunc_impl_Member_v2.l0_z x0 x1_0 a4395).symm.trans ho4388)
    replace ho4388 := (slices_IndexFunc_impl_Member_v2.l0_s x0 x1_0 k4402 a4395).symm.trans ho4388
    refine run_seq ?_
    refine run_region rfl ?_
    refine ox rfl rfl rfl rfl (ex_lss rfl rfl rfl) ?_
    refine ops_nil (at_then (run_seq ?_))
    refine run_cond (b := (decide (a4395 < (x0.length : Int)))) rfl (fun hb4404 => ?_) (fun hb4404 => ?_)
    · replace ho4388 := cond_t hb4404 ho4388
      refine run_skip ?_
      refine at_then ?_
      refine run_seq ?_
      refine run_block ?_
      refine run_seq ?_
      refine run_region rfl ?_
      refine ox rfl rfl rfl rfl (ex_move rfl rfl) ?_
      refine ox rfl rfl rfl rfl (ex_assign rfl rfl) ?_
      refine ops_nil (at_then (run_seq ?_))
      obtain ⟨e4405, ho4388⟩ := chk_some ho4388
      obtain ⟨t4407, h4408, ho4388⟩ := bind_some ho4388
      refine run_region rfl ?_
      refine ox rfl rfl rfl rfl (ex_move rfl rfl) ?_
      refine ox rfl rfl rfl rfl (ex_move rfl rfl) ?_
      refine ox rfl rfl rfl rfl (ex_move rfl rfl) ?_
      have hc4406 : CellsAt _ (sb p0) (so p0 + (a4395).toNat * 3) [(.int .i64 ((gt x0 a4395).fKey)), (.int .i64 ((gt x0 a4395).fRef.fTx)), (.int .i64 ((gt x0 a4395).fRef.fAt))] := rd_plain hp0 e4405
      refine ox rfl rfl rfl rfl (ex_indexAddr (d := kMember) rfl rfl rfl Try.underlying24 tsz38 hp0 (idx_lo e4405) (idx_hi e4405)) ?_
      refine ox rfl rfl rfl rfl (ex_loadN (cs := [(.int .i64 ((gt x0 a4395).fKey)), (.int .i64 ((gt x0 a4395).fRef.fTx)), (.int .i64 ((gt x0 a4395).fRef.fAt))]) rfl rfl Try.underlying38 rfl tsz38 rfl ((HM.at_ hc4406).sub 0 3 rfl)) ?_
      refine od rfl rfl rfl rfl (does_callvk rfl callok113 rfl rfl rfl (impl_takeMembers_1.calls (x0 := (gt x0 a4395)) (x1 := x1_0) (HM.at_ hc1_0) (HM.rd hp1_0_0) (HM.rd hp1_0_1) h4408)) ?_
      rintro _ w4409 ⟨rfl, hn⟩
      replace HM : Mem w [] w4409 [] := HM.call hn
      refine ops_nil (at_then ?_)
      refine run_cond (b := t4407) rfl (fun hb4410 => ?_) (fun hb4410 => ?_)
      · replace ho4388 := cond_t hb4410 ho4388
        refine run_seq ?_
        refine run_region rfl ?_
        refine ox rfl rfl rfl rfl (ex_move rfl rfl) ?_
        refine ox rfl rfl rfl rfl (ex_assign rfl rfl) ?_
        refine ops_nil (at_then ?_)
        refine run_ret ?_
        refine at_block_ret ?_
        refine at_then_ret ?_
        refine at_then_ret ?_
        refine at_block_ret ?_
        refine at_then_ret ?_
        have hR := Option.some.inj ho4388
        subst hR
        have hT := thn_inl H
        have hR := Option.some.inj hT
        subst hR
        exact at_ret1 rfl rfl ⟨_, rfl, rfl, HM⟩
      · replace ho4388 := cond_f hb4410 ho4388
        refine run_skip ?_
        refine at_block ?_
        refine at_then ?_
        refine run_region rfl ?_
        refine ox rfl rfl rfl rfl (ex_add rfl rfl rfl) ?_
        refine ox rfl rfl rfl rfl (ex_move rfl rfl) ?_
        refine ops_nil ?_
        exact at_again k4402 (ρ1 := [(0, p0), (1, .func (.func 113) #[] #[(.pointer (some ⟨b1_0, f1_0, none⟩))]), (7, .int .i64 (x0.length : Int)), (8, .int .i64 (wrap64 (a4395 + 1)))]) (Nat.lt_succ_self _) ⟨_, ho4388, rfl, HM⟩ (Sub.cons rfl (Sub.cons rfl (Sub.cons rfl (Sub.cons rfl Sub.nil))))
    · replace ho4388 := cond_f hb4404 ho4388
      refine run_exit ?_
      refine at_then_exit ?_
      refine at_then_exit ?_
      refine at_block_exit ?_
      exact at_mid (ρ' := []) ⟨(Option.some.inj ho4388), rfl, HM⟩ Sub.nil
  · rintro _ w4411 ⟨rfl, rfl, HM⟩
    replace H := (thn_inr H)
    refine run_seq ?_
    refine run_region rfl ?_
    refine ox rfl rfl rfl rfl (ex_assign rfl rfl) ?_
    refine ops_nil (at_then ?_)
    refine run_ret ?_
    have hR := Option.some.inj H
    subst hR
    exact at_ret1 rfl rfl ⟨_, rfl, rfl, HM⟩

def slices_DeleteFunc_impl_Member.l0 (x1_0 : Tx) : Nat → (List Member) → Int → Int → Option ((List Member) × Int)
  | 0, _, _, _ => none
  | k + 1, a4520, a4522, a4523 => (bif (decide (a4523 < (a4520.length : Int))) then (chk (idxOk a4523 a4520.length) ((impl_takeMembers_1.f k (gt a4520 a4523) x1_0).bind fun t4542 => (bif !t4542 then (chk (idxOk a4522 a4520.length) (slices_DeleteFunc_impl_Member.l0 x1_0 k (a4520.set (a4522).toNat (gt a4520 a4523)) (wrap64 (a4522 + 1)) (wrap64 (a4523 + 1)))) else slices_DeleteFunc_impl_Member.l0 x1_0 k a4520 a4522 (wrap64 (a4523 + 1))))) else some (a4520, a4522))
theorem slices_DeleteFunc_impl_Member.l0_z (x1_0 : Tx) (a4520 : List Member) (a4522 : Int) (a4523 : Int) : slices_DeleteFunc_impl_Member.l0 x1_0 0 a4520 a4522 a4523 = none := rfl
theorem slices_DeleteFunc_impl_Member.l0_s (x1_0 : Tx) (k : Nat) (a4520 : List Member) (a4522 : Int) (a4523 : Int) : slices_DeleteFunc_impl_Member.l0 x1_0 (k + 1) a4520 a4522 a4523 = (bif (decide (a4523 < (a4520.length : Int))) then (chk (idxOk a4523 a4520.length) ((impl_takeMembers_1.f k (gt a4520 a4523) x1_0).bind fun t4542 => (bif !t4542 then (chk (idxOk a4522 a4520.length) (slices_DeleteFunc_impl_Member.l0 x1_0 k (a4520.set (a4522).toNat (gt a4520 a4523)) (wrap64 (a4522 + 1)) (wrap64 (a4523 + 1)))) else slices_DeleteFunc_impl_Member.l0 x1_0 k a4520 a4522 (wrap64 (a4523 + 1))))) else some (a4520, a4522)) := rfl
def slices_DeleteFunc_impl_Member.f (k : Nat) (x0 : List Member) (x1_0 : Tx) : Option ((List Member)) := ((slices_IndexFunc_impl_Member_v2.f k x0 x1_0).bind fun t4470 => (bif (t4470 == (-1)) then some x0 else ((slices_DeleteFunc_impl_Member.l0 x1_0 k x0 t4470 (wrap64 (t4470 + 1))).bind (cur2 (fun a4506 a4508 => (chk (cutOk a4508 a4506.length) (some (a4506.take (a4508).toNat))))))))
theorem slices_DeleteFunc_impl_Member.calls {k : Nat} {x0 : List Member} {x1_0 : Tx} {p0 : Value} {b1_0 f1_0 : Nat} {p1_0_0 : Value} {p1_0_1 : Value} {w wo : World} {X : List Nat} (hwo : Olds wo w X) (hX : Hold w [own kMember 38 p0 x0] X) (hXn : X.Nodup) (hXl : ∀ b ∈ X, b < w.heap.size) (hc1_0 : CellsAt wo b1_0 f1_0 [.int .i64 x1_0.fKind, .int .i64 x1_0.fMember, p1_0_0, p1_0_1]) (hp1_0_0 : RdS kRef wo p1_0_0 x1_0.fIns) (hp1_0_1 : RdS kOut wo p1_0_1 x1_0.fOuts) {r : (List Member)} (H : slices_DeleteFunc_impl_Member.f k x0 x1_0 = some r) :
    Calls Try.prog 112 ([p0, .func (.func 113) #[] #[(.pointer (some ⟨b1_0, f1_0, none⟩))]] : List Value).toArray w (fun e w_ => ∃ v, e = .returned v ∧ ∃ u0 : Value, v = u0 ∧ Mem w X w_ [own kMember 38 u0 r]) := by
  have HM := Mem.startX hX hXn hXl
  refine calls_run (N := 42) Try.func112 rfl rfl rfl rfl ?_
  unfold slices_DeleteFunc_impl_Member.f at H
  refine run_seq ?_
  refine run_region rfl ?_
  refine ox rfl rfl rfl rfl (ex_assign rfl rfl) ?_
  refine ops_nil (at_then (run_seq ?_))
  obtain ⟨t4470, h4471, H⟩ := bind_some H
  refine run_region rfl ?_
  refine ox rfl rfl rfl rfl (ex_move rfl rfl) ?_
  refine ox rfl rfl rfl rfl (ex_move rfl rfl) ?_
  refine od rfl rfl rfl rfl (does_callk rfl callok124 rfl (slices_IndexFunc_impl_Member_v2.calls (x0 := x0) (x1_0 := x1_0) (HM.own_rd 0 rfl) (HM.ato hwo hc1_0) (HM.rdo hwo hp1_0_0) (HM.rdo hwo hp1_0_1) h4471)) ?_
  rintro _ w4472 ⟨rfl, hn⟩
  replace HM : Mem w X w4472 [own kMember 38 p0 x0] := HM.call hn
  refine ox rfl rfl rfl rfl (ex_assign rfl rfl) ?_
  refine ops_nil (at_then (run_seq ?_))
  refine run_seq ?_
  refine run_region rfl ?_
  refine ox rfl rfl rfl rfl (ex_move rfl rfl) ?_
  refine ox rfl rfl rfl rfl (ex_eql rfl rfl rfl) ?_
  refine ops_nil (at_then ?_)
  refine run_cond (b := (t4470 == (-1))) rfl (fun hb4474 => ?_) (fun hb4474 => ?_)
  · replace H := cond_t hb4474 H
    refine run_seq ?_
    refine run_region rfl ?_
    refine ox rfl rfl rfl rfl (ex_move rfl rfl) ?_
    refine ox rfl rfl rfl rfl (ex_assign rfl rfl) ?_
    refine ops_nil (at_then ?_)
    refine run_ret ?_
    refine at_then_ret ?_
    have hR := Option.some.inj H
    subst hR
    exact at_ret1 rfl rfl ⟨_, rfl, _, rfl, HM⟩
  · replace H := cond_f hb4474 H
    refine run_skip ?_
    refine at_then ?_
    obtain ⟨o4509, ho4510, H⟩ := bind_some H
    refine run_mid (fun ρ_ w_ => ∃ a4506 : List Member, ∃ a4508 : Int, (a4506, a4508) = o4509 ∧ ρ_ = [(0, p0), (5, .int .i64 a4508)] ∧ Mem w X w_ [own kMember 38 p0 a4506]) ?_ ?_
    · clear H
      refine run_seq ?_
      refine run_region rfl ?_
      refine ox rfl rfl rfl rfl (ex_move rfl rfl) ?_
      refine ox rfl rfl rfl rfl (ex_add rfl rfl rfl) ?_
      refine ox rfl rfl rfl rfl (ex_assign rfl rfl) ?_
      refine ops_nil (at_then ?_)
      refine run_block ?_
      refine run_loop (fun k_ ρ_ w_ => ∃ a4520 : List Member, ∃ a4522 : Int, ∃ a4523 : Int, slices_DeleteFunc_impl_Member.l0 x1_0 k_ a4520 a4522 a4523 = some o4509 ∧ ρ_ = [(0, p0), (1, .func (.func 113) #[] #[(.pointer (some ⟨b1_0, f1_0, none⟩))]), (5, .int .i64 a4522), (6, .int .i64 a4523)] ∧ Mem w X w_ [own kMember 38 p0 a4520]) k (ρ1 := [(0, p0), (1, .func (.func 113) #[] #[(.pointer (some ⟨b1_0, f1_0, none⟩))]), (5, .int .i64 t4470), (6, .int .i64 (wrap64 (t4470 + 1)))]) ⟨_, _, _, ho4510, rfl, HM⟩ (Sub.cons rfl (Sub.cons rfl (Sub.cons rfl (Sub.cons rfl Sub.nil)))) ?_
      clear HM ho4510
      rintro k4533 _ w4534 ⟨a4520, a4522, a4523, ho4510, rfl, HM⟩
      obtain _ | k4533 := k4533
      · exact nomatch ((slices_DeleteFunc_impl_Member.l0_z x1_0 a4520 a4522 a4523).symm.trans ho4510)
      replace ho4510 := (slices_DeleteFunc_impl_Member.l0_s x1_0 k4533 a4520 a4522 a4523).symm.trans ho4510
      refine run_seq ?_
      refine run_seq ?_
      refine run_region rfl ?_
      refine ox rfl rfl rfl rfl (ex_move rfl rfl) ?_
      refine ox rfl rfl rfl rfl (ex_move rfl rfl) ?_
      refine ox rfl rfl rfl rfl (ex_len (d := kMember) (xs := a4520) rfl rfl Try.underlying24 (HM.own_rd 0 rfl)) ?_
      refine ox rfl rfl rfl rfl (ex_lss rfl rfl rfl) ?_
      refine ops_nil (at_then ?_)
      refine run_cond (b := (decide (a4523 < (a4520.length : Int)))) rfl (fun hb4535 => ?_) (fun hb4535 => ?_)
      · replace ho4510 := cond_t hb4535 ho4510
        refine run_skip ?_
        refine at_then ?_
        refine run_seq ?_
        refine run_block ?_
        refine run_seq ?_
        obtain ⟨e4536, ho4510⟩ := chk_some ho4510
        refine run_region rfl ?_
        refine ox rfl rfl rfl rfl (ex_move rfl rfl) ?_
        refine ox rfl rfl rfl rfl (ex_move rfl rfl) ?_
        refine ox rfl rfl rfl rfl (ex_indexAddr (d := kMember) rfl rfl rfl Try.underlying24 tsz38 (HM.own_rd 0 rfl) (idx_lo e4536) (idx_hi e4536)) ?_
        refine ox rfl rfl rfl rfl (ex_loadN (cs := [(.int .i64 ((gt a4520 a4523).fKey)), (.int .i64 ((gt a4520 a4523).fRef.fTx)), (.int .i64 ((gt a4520 a4523).fRef.fAt))]) rfl rfl Try.underlying38 rfl tsz38 rfl ((rd_plain (HM.own_rd 0 rfl) e4536).sub 0 3 rfl)) ?_
        refine od rfl rfl rfl rfl (does_alloc (cs := [.int .i64 0, .int .i64 0, .int .i64 0]) rfl tz38 rfl HM) ?_
        rintro _ w4540 ⟨b4537, rfl, HM⟩
        refine odS rfl rfl rfl (does_store (vs := [.int .i64 ((gt a4520 a4523).fKey), .int .i64 ((gt a4520 a4523).fRef.fTx), .int .i64 ((gt a4520 a4523).fRef.fAt)]) (cs' := [.int .i64 ((gt a4520 a4523).fKey), .int .i64 ((gt a4520 a4523).fRef.fTx), .int .i64 ((gt a4520 a4523).fRef.fAt)]) rfl rfl rfl rfl tsz38 (Ones.int (Ones.int (Ones.int Ones.nil))) rfl rfl HM) ?_
        rintro w4541 HM
        refine ops_nil (at_then (run_seq ?_))
        obtain ⟨t4542, h4543, ho4510⟩ := bind_some ho4510
        refine run_region rfl ?_
        refine ox rfl rfl rfl rfl (ex_move rfl rfl) ?_
        refine ox rfl rfl rfl rfl (ex_loadN (cs := [(.int .i64 ((gt a4520 a4523).fKey)), (.int .i64 ((gt a4520 a4523).fRef.fTx)), (.int .i64 ((gt a4520 a4523).fRef.fAt))]) rfl rfl Try.underlying38 rfl tsz38 rfl ((HM.box_at 0 rfl).sub 0 3 rfl)) ?_
        refine od rfl rfl rfl rfl (does_callvk rfl callok113 rfl rfl rfl (impl_takeMembers_1.calls (x0 := (gt a4520 a4523)) (x1 := x1_0) (HM.ato hwo hc1_0) (HM.rdo hwo hp1_0_0) (HM.rdo hwo hp1_0_1) h4543)) ?_
        rintro _ w4544 ⟨rfl, hn⟩
        replace HM : Mem w X w4544 [box b4537 38 [.int .i64 ((gt a4520 a4523).fKey), .int .i64 ((gt a4520 a4523).fRef.fTx), .int .i64 ((gt a4520 a4523).fRef.fAt)], own kMember 38 p0 a4520] := HM.call hn
        refine ox rfl rfl rfl rfl (ex_not rfl rfl) ?_
        refine ops_nil (at_then ?_)
        refine run_cond (b := !t4542) rfl (fun hb4545 => ?_) (fun hb4545 => ?_)
        · replace ho4510 := cond_t hb4545 ho4510
          refine run_seq ?_
          obtain ⟨e4546, ho4510⟩ := chk_some ho4510
          refine run_region rfl ?_
          refine ox rfl rfl rfl rfl (ex_move rfl rfl) ?_
          refine ox rfl rfl rfl rfl (ex_move rfl rfl) ?_
          refine ox rfl rfl rfl rfl (ex_loadN (cs := [(.int .i64 ((gt a4520 a4523).fKey)), (.int .i64 ((gt a4520 a4523).fRef.fTx)), (.int .i64 ((gt a4520 a4523).fRef.fAt))]) rfl rfl Try.underlying38 rfl tsz38 rfl ((HM.box_at 0 rfl).sub 0 3 rfl)) ?_
          refine ox rfl rfl rfl rfl (ex_indexAddr (d := kMember) rfl rfl rfl Try.underlying24 tsz38 (HM.own_rd 1 rfl) (idx_lo e4546) (idx_hi e4546)) ?_
          replace HM := HM.front 1 rfl rfl
          refine odS rfl rfl rfl (does_setElem (vs := [(.int .i64 ((gt a4520 a4523).fKey)), (.int .i64 ((gt a4520 a4523).fRef.fTx)), (.int .i64 ((gt a4520 a4523).fRef.fAt))]) (y := (gt a4520 a4523)) kMember rfl rfl rfl rfl rfl tsz38 rfl rfl (idx_nat e4546) (fun _ _ h => ⟨rfl, h⟩) (HM.emp.front 1 rfl rfl)) ?_
          rintro w4547 HM
          refine ops_nil (at_then ?_)
          refine run_region rfl ?_
          refine ox rfl rfl rfl rfl (ex_move rfl rfl) ?_
          refine ox rfl rfl rfl rfl (ex_add rfl rfl rfl) ?_
          refine ox rfl rfl rfl rfl (ex_assign rfl rfl) ?_
          refine ops_nil ?_
          refine at_block ?_
          refine at_then ?_
          refine run_region rfl ?_
          refine ox rfl rfl rfl rfl (ex_move rfl rfl) ?_
          refine ox rfl rfl rfl rfl (ex_add rfl rfl rfl) ?_
          refine ox rfl rfl rfl rfl (ex_assign rfl rfl) ?_
          refine ops_nil ?_
          replace HM := (HM.front 1 rfl rfl).drop
          exact at_again k4533 (ρ1 := [(0, p0), (1, .func (.func 113) #[] #[(.pointer (some ⟨b1_0, f1_0, none⟩))]), (5, .int .i64 (wrap64 (a4522 + 1))), (6, .int .i64 (wrap64 (a4523 + 1)))]) (Nat.lt_succ_self _) ⟨_, _, _, ho4510, rfl, HM⟩ (Sub.cons rfl (Sub.cons rfl (Sub.cons rfl (Sub.cons rfl Sub.nil))))
        · replace ho4510 := cond_f hb4545 ho4510
          refine run_skip ?_
          refine at_block ?_
          refine at_then ?_
          refine run_region rfl ?_
          refine ox rfl rfl rfl rfl (ex_move rfl rfl) ?_
          refine ox rfl rfl rfl rfl (ex_add rfl rfl rfl) ?_
          refine ox rfl rfl rfl rfl (ex_assign rfl rfl) ?_
          refine ops_nil ?_
          replace HM := (HM.front 0 rfl rfl).drop
          exact at_again k4533 (ρ1 := [(0, p0), (1, .func (.func 113) #[] #[(.pointer (some ⟨b1_0, f1_0, none⟩))]), (5, .int .i64 a4522), (6, .int .i64 (wrap64 (a4523 + 1)))]) (Nat.lt_succ_self _) ⟨_, _, _, ho4510, rfl, HM⟩ (Sub.cons rfl (Sub.cons rfl (Sub.cons rfl (Sub.cons rfl Sub.nil))))
      · replace ho4510 := cond_f hb4535 ho4510
        refine run_exit ?_
        refine at_then_exit ?_
        refine at_then_exit ?_
        refine at_block_exit ?_
        exact at_mid (ρ' := [(0, p0), (5, .int .i64 a4522)]) ⟨_, _, (Option.some.inj ho4510), rfl, HM⟩ (Sub.cons rfl (Sub.cons rfl Sub.nil))
    · rintro _ w4548 ⟨a4506, a4508, rfl, rfl, HM⟩
      replace H := cur2_mk H
      refine run_seq ?_
      obtain ⟨e4549, H⟩ := chk_some H
      refine run_region rfl ?_
      refine ox rfl rfl rfl rfl (ex_move rfl rfl) ?_
      refine ox rfl rfl rfl rfl (ex_move rfl rfl) ?_
      refine ox rfl rfl rfl rfl (ex_cutvL rfl rfl rfl Try.underlying24 tsz38 (HM.own_rd 0 rfl) e4549) ?_
      have hcp4550 := HM.capI e4549
      refine ops_doesN rfl (guard_none rfl) rfl (does_clearL kMember rfl rfl Try.underlying24 tsz38 tz38 rfl rfl (onesC rfl (onesC rfl (onesC rfl onesN))) e4549 HM) ?_
      rintro _ w4551 HM
      refine ops_nil (at_then (run_seq ?_))
      refine run_region rfl ?_
      refine ox rfl rfl rfl rfl (ex_move rfl rfl) ?_
      refine ox rfl rfl rfl rfl (ex_move rfl rfl) ?_
      refine ox rfl rfl rfl rfl (ex_cutvH rfl rfl rfl Try.underlying24 tsz38 (cut_lo e4549) hcp4550) ?_
      refine ox rfl rfl rfl rfl (ex_assign rfl rfl) ?_
      refine ops_nil (at_then ?_)
      refine run_ret ?_
      have hR := Option.some.inj H
      subst hR
      exact at_ret1 rfl rfl ⟨_, rfl, _, rfl, HM⟩

def impl_takeMembers_2.f (k : Nat) (x0 : Member) (x1 : Ref) : Option Bool := some ((x0.fRef.fTx == x1.fTx) && (x0.fRef.fAt == x1.fAt))
theorem impl_takeMembers_2.calls {k : Nat} {x0 : Member} {x1 : Ref} {b1 f1 : Nat} {w : World} (hc1 : CellsAt w b1 f1 [.int .i64 x1.fTx, .int .i64 x1.fAt]) {r : Bool} (H : impl_takeMembers_2.f k x0 x1 = some r) :
    Calls Try.prog 114 ([.agg #[(.int .i64 x0.fKey), (.int .i64 x0.fRef.fTx), (.int .i64 x0.fRef.fAt)], .pointer (some ⟨b1, f1, none⟩)] : List Value).toArray w (fun e w_ => ∃ v, e = .returned v ∧ v = (.bool r) ∧ Mem w [] w_ []) := by
  have HM := Mem.start w
  refine calls_run (N := 8) Try.func114 rfl rfl rfl rfl ?_
  unfold impl_takeMembers_2.f at H
  refine run_seq ?_
  refine run_region rfl ?_
  refine od rfl rfl rfl rfl (does_box (cs := [.int .i64 x0.fKey, .int .i64 x0.fRef.fTx, .int .i64 x0.fRef.fAt]) rfl rfl rfl HM) ?_
  rintro _ w4578 ⟨b4575, rfl, HM⟩
  refine ox rfl rfl rfl rfl (ex_assign rfl rfl) ?_
  refine ops_nil (at_then (run_seq ?_))
  refine run_region rfl ?_
  refine ox rfl rfl rfl rfl (ex_fieldAddr (off' := 1) rfl rfl Try.underlying38 rfl tsz36 rfl) ?_
  refine ox rfl rfl rfl rfl (ex_loadN (cs := [(.int .i64 x0.fRef.fTx), (.int .i64 x0.fRef.fAt)]) rfl rfl Try.underlying36 rfl tsz36 rfl ((HM.box_at 0 rfl).sub 1 2 rfl)) ?_
  refine ox rfl rfl rfl rfl (ex_loadN (cs := [(.int .i64 x1.fTx), (.int .i64 x1.fAt)]) rfl rfl Try.underlying36 rfl tsz36 rfl ((HM.at_ hc1).sub 0 2 rfl)) ?_
  refine ox rfl rfl rfl rfl (ex_aeql rfl rfl rfl (by kernel_rfl) (eqs36 _ _ _ _ _)) ?_
  refine ox rfl rfl rfl rfl (ex_assign rfl rfl) ?_
  refine ops_nil (at_then ?_)
  refine run_ret ?_
  replace HM := (HM.front 0 rfl rfl).drop
  have hR := Option.some.inj H
  subst hR
  exact at_ret1 rfl rfl ⟨_, rfl, rfl, HM⟩

def slices_IndexFunc_impl_Member_v3.l0 (x0 : List Member) (x1_0 : Ref) : Nat → Int → Option (Int ⊕ Unit)
  | 0, _ => none
  | k + 1, a4624 => (bif (decide (a4624 < (x0.length : Int))) then (chk (idxOk a4624 x0.length) ((impl_takeMembers_2.f k (gt x0 a4624) x1_0).bind fun t4636 => (bif t4636 then some (.inl a4624) else slices_IndexFunc_impl_Member_v3.l0 x0 x1_0 k (wrap64 (a4624 + 1))))) else some (.inr ()))
theorem slices_IndexFunc_impl_Member_v3.l0_z (x0 : List Member) (x1_0 : Ref) (a4624 : Int) : slices_IndexFunc_impl_Member_v3.l0 x0 x1_0 0 a4624 = none := rfl
theorem slices_IndexFunc_impl_Member_v3.l0_s (x0 : List Member) (x1_0 : Ref) (k : Nat) (a4624 : Int) : slices_IndexFunc_impl_Member_v3.l0 x0 x1_0 (k + 1) a4624 = (bif (decide (a4624 < (x0.length : Int))) then (chk (idxOk a4624 x0.length) ((impl_takeMembers_2.f k (gt x0 a4624) x1_0).bind fun t4636 => (bif t4636 then some (.inl a4624) else slices_IndexFunc_impl_Member_v3.l0 x0 x1_0 k (wrap64 (a4624 + 1))))) else some (.inr ())) := rfl
def slices_IndexFunc_impl_Member_v3.f (k : Nat) (x0 : List Member) (x1_0 : Ref) : Option Int := ((slices_IndexFunc_impl_Member_v3.l0 x0 x1_0 k 0).bind fun o4616 => thn o4616 (fun r => some r) (fun _ => some (-1)))
theorem slices_IndexFunc_impl_Member_v3.calls {k : Nat} {x0 : List Member} {x1_0 : Ref} {p0 : Value} {b1_0 f1_0 : Nat} {w : World} (hp0 : RdS kMember w p0 x0) (hc1_0 : CellsAt w b1_0 f1_0 [.int .i64 x1_0.fTx, .int .i64 x1_0.fAt]) {r : Int} (H : slices_IndexFunc_impl_Member_v3.f k x0 x1_0 = some r) :
    Calls Try.prog 124 ([p0, .func (.func 114) #[] #[(.pointer (some ⟨b1_0, f1_0, none⟩))]] : List Value).toArray w (fun e w_ => ∃ v, e = .returned v ∧ v = (.int .i64 r) ∧ Mem w [] w_ []) := by
  have HM := Mem.start w
  refine calls_run (N := 19) Try.func124 rfl rfl rfl rfl ?_
  unfold slices_IndexFunc_impl_Member_v3.f at H
  refine run_seq ?_
  refine run_region rfl ?_
  refine ox rfl rfl rfl rfl (ex_assign rfl rfl) ?_
  refine ops_nil (at_then ?_)
  obtain ⟨o4616, ho4617, H⟩ := bind_some H
  refine run_mid (fun ρ_ w_ => Sum.inr () = o4616 ∧ ρ_ = [] ∧ Mem w [] w_ []) ?_ ?_
  · skip
    refine run_seq ?_
    refine run_region rfl ?_
    refine ox rfl rfl rfl rfl (ex_move rfl rfl) ?_
    refine ox rfl rfl rfl rfl (ex_len (d := kMember) (xs := x0) rfl rfl Try.underlying24 hp0) ?_
    refine ox rfl rfl rfl rfl (ex_move rfl rfl) ?_
    refine ops_nil (at_then ?_)
    refine run_block ?_
    refine run_loop (fun k_ ρ_ w_ => ∃ a4624 : Int, slices_IndexFunc_impl_Member_v3.l0 x0 x1_0 k_ a4624 = some o4616 ∧ ρ_ = [(0, p0), (1, .func (.func 114) #[] #[(.pointer (some ⟨b1_0, f1_0, none⟩))]), (7, .int .i64 (x0.length : Int)), (8, .int .i64 a4624)] ∧ Mem w [] w_ []) k (ρ1 := [(0, p0), (1, .func (.func 114) #[] #[(.pointer (some ⟨b1_0, f1_0, none⟩))]), (7, .int .i64 (x0.length : Int)), (8, .int .i64 0)]) ⟨_, ho4617, rfl, HM⟩ (Sub.cons rfl (Sub.cons rfl (Sub.cons rfl (Sub.cons rfl Sub.nil)))) ?_
    clear HM ho4617
    rintro k4631 _ w4632 ⟨a4624, ho4617, rfl, HM⟩
    obtain _ | k4631 := k4631
    · exact nomatch ((slices_IndexFunc_impl_Member_v3.l0_z x0 x1_0 a4624).symm.trans ho4617)
    replace ho4617 := (slices_IndexFunc_impl_Member_v3.l0_s x0 x1_0 k4631 a4624).symm.trans ho4617
    refine run_seq ?_
    refine run_region rfl ?_
    refine ox rfl rfl rfl rfl (ex_lss rfl rfl rfl) ?_
    refine ops_nil (at_then (run_seq ?_))
    refine run_cond (b := (decide (a4624 < (x0.length : Int)))) rfl (fun hb4633 => ?_) (fun hb4633 => ?_)
    · replace ho4617 := cond_t hb4633 ho4617
      refine run_skip ?_
      refine at_then ?_
      refine run_seq ?_
      refine run_block ?_
      refine run_seq ?_
      refine run_region rfl ?_
      refine ox rfl rfl rfl rfl (ex_move rfl rfl) ?_
      refine ox rfl rfl rfl rfl (ex_assign rfl rfl) ?_
      refine ops_nil (at_then (run_seq ?_))
      obtain ⟨e4634, ho4617⟩ := chk_some ho4617
      obtain ⟨t4636, h4637, ho4617⟩ := bind_some ho4617
      refine run_region rfl ?_
      refine ox rfl rfl rfl rfl (ex_move rfl rfl) ?_
      refine ox rfl rfl rfl rfl (ex_move rfl rfl) ?_
      refine ox rfl rfl rfl rfl (ex_move rfl rfl) ?_
      have hc4635 : CellsAt _ (sb p0) (so p0 + (a4624).toNat * 3) [(.int .i64 ((gt x0 a4624).fKey)), (.int .i64 ((gt x0 a4624).fRef.fTx)), (.int .i64 ((gt x0 a4624).fRef.fAt))] := rd_plain hp0 e4634
      refine ox rfl rfl rfl rfl (ex_indexAddr (d := kMember) rfl rfl rfl Try.underlying24 tsz38 hp0 (idx_lo e4634) (idx_hi e4634)) ?_
      refine ox rfl rfl rfl rfl (ex_loadN (cs := [(.int .i64 ((gt x0 a4624).fKey)), (.int .i64 ((gt x0 a4624).fRef.fTx)), (.int .i64 ((gt x0 a4624).fRef.fAt))]) rfl rfl Try.underlying38 rfl tsz38 rfl ((HM.at_ hc4635).sub 0 3 rfl)) ?_
      refine od rfl rfl rfl rfl (does_callvk rfl callok114 rfl rfl rfl (impl_takeMembers_2.calls (x0 := (gt x0 a4624)) (x1 := x1_0) (HM.at_ hc1_0) h4637)) ?_
      rintro _ w4638 ⟨rfl, hn⟩
      replace HM : Mem w [] w4638 [] := HM.call hn
      refine ops_nil (at_then ?_)
      refine run_cond (b := t4636) rfl (fun hb4639 => ?_) (fun hb4639 => ?_)
      · replace ho4617 := cond_t hb4639 ho4617
        refine run_seq ?_
        refine run_region rfl ?_
        refine ox rfl rfl rfl rfl (ex_move rfl rfl) ?_
        refine ox rfl rfl rfl rfl (ex_assign rfl rfl) ?_
        refine ops_nil (at_then ?_)
        refine run_ret ?_
        refine at_block_ret ?_
        refine at_then_ret ?_
        refine at_then_ret ?_
        refine at_block_ret ?_
        refine at_then_ret ?_
        have hR := Option.some.inj ho4617
        subst hR
        have hT := thn_inl H
        have hR := Option.some.inj hT
        subst hR
        exact at_ret1 rfl rfl ⟨_, rfl, rfl, HM⟩
      · replace ho4617 := cond_f hb4639 ho4617
        refine run_skip ?_
        refine at_block ?_
        refine at_then ?_
        refine run_region rfl ?_
        refine ox rfl rfl rfl rfl (ex_add rfl rfl rfl) ?_
        refine ox rfl rfl rfl rfl (ex_move rfl rfl) ?_
        refine ops_nil ?_
        exact at_again k4631 (ρ1 := [(0, p0), (1, .func (.func 114) #[] #[(.pointer (some ⟨b1_0, f1_0, none⟩))]), (7, .int .i64 (x0.length : Int)), (8, .int .i64 (wrap64 (a4624 + 1)))]) (Nat.lt_succ_self _) ⟨_, ho4617, rfl, HM⟩ (Sub.cons rfl (Sub.cons rfl (Sub.cons rfl (Sub.cons rfl Sub.nil))))
    · replace ho4617 := cond_f hb4633 ho4617
      refine run_exit ?_
      refine at_then_exit ?_
      refine at_then_exit ?_
      refine at_block_exit ?_
      exact at_mid (ρ' := []) ⟨(Option.some.inj ho4617), rfl, HM⟩ Sub.nil
  · rintro _ w4640 ⟨rfl, rfl, HM⟩
    replace H := (thn_inr H)
    refine run_seq ?_
    refine run_region rfl ?_
    refine ox rfl rfl rfl rfl (ex_assign rfl rfl) ?_
    refine ops_nil (at_then ?_)
    refine run_ret ?_
    have hR := Option.some.inj H
    subst hR
    exact at_ret1 rfl rfl ⟨_, rfl, rfl, HM⟩
end Go.Proofs.Ytbbcabpnkdilgaa.Zk
