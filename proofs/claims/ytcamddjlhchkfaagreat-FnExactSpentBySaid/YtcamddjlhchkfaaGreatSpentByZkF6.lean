/- What functions of the program compute, each as a plain function, and that they do. Conditions: as each theorem states them. -/
import Derived.Test.YtcamddjlhchkfaaGreatSpentByZkF5
namespace Go.Proofs.YtcamddjlhchkfaaGreat.Zk
open Go Go.RowKit Go.IntWalk Go.Proofs
set_option linter.unusedVariables false
set_option linter.unusedSimpArgs false
set_option maxRecDepth 100000
set_option maxHeartbeats 4000000
def impl_findCoin.f (k : Nat) (x0 : List Coin) (x1 : Ref) : Option (Int × Bool) := ((slices_BinarySearchFunc_impl_Coin.f k x0 x1).bind fun t3963 => some (t3963.1, t3963.2))
theorem impl_findCoin.calls {k : Nat} {x0 : List Coin} {x1 : Ref} {p0 : Value} {w : World} (hp0 : RdS kCoin w p0 x0) {r : Int × Bool} (H : impl_findCoin.f k x0 x1 = some r) :
    Calls Tryz.prog 60 ([p0, .agg #[(.int .i64 x1.fTx), (.int .i64 x1.fAt)]] : List Value).toArray w (fun e w_ => ∃ v, e = .returned v ∧ v = (.tuple #[.int .i64 r.1, .bool r.2]) ∧ Mem w [] w_ []) := by
  have HM := Mem.start w
  refine calls_run (N := 11) Tryz.func60 rfl rfl rfl rfl ?_
  unfold impl_findCoin.f at H
  refine run_seq ?_
  refine run_region rfl ?_
  refine ops_does rfl (guard_none rfl) rfl rfl (does_box (cs := [.int .i64 x1.fTx, .int .i64 x1.fAt]) rfl rfl rfl HM) ?_
  rintro _ w3962 ⟨b3959, rfl, HM⟩
  refine ops_ex rfl (guard_none rfl) rfl rfl (ex_assign rfl rfl) ?_
  refine ops_ex rfl (guard_none rfl) rfl rfl (ex_assign rfl rfl) ?_
  refine ops_nil ?_
  refine at_then ?_
  refine run_seq ?_
  obtain ⟨t3963, h3964, H⟩ := bind_some H
  refine run_region rfl ?_
  refine ops_ex rfl (guard_none rfl) rfl rfl (ex_move rfl rfl) ?_
  refine ops_ex rfl (guard_none rfl) rfl rfl (ex_loadN (cs := [(.int .i64 x1.fTx), (.int .i64 x1.fAt)]) rfl rfl Tryz.underlying56 rfl tsz56 rfl ((HM.box_at 0 rfl).sub 0 2 rfl)) ?_
  refine ops_does rfl (guard_none rfl) rfl rfl (does_callk rfl callok105 rfl (slices_BinarySearchFunc_impl_Coin.calls (x0 := x0) (x1 := x1) (HM.rd hp0) h3964)) ?_
  rintro _ w3965 ⟨rfl, hn⟩
  replace HM : Mem w [] w3965 [box b3959 56 [.int .i64 x1.fTx, .int .i64 x1.fAt]] := HM.call hn
  refine ops_ex rfl (guard_none rfl) rfl rfl (ex_extract rfl rfl rfl) ?_
  refine ops_ex rfl (guard_none rfl) rfl rfl (ex_extract rfl rfl rfl) ?_
  refine ops_ex rfl (guard_none rfl) rfl rfl (ex_assign rfl rfl) ?_
  refine ops_ex rfl (guard_none rfl) rfl rfl (ex_assign rfl rfl) ?_
  refine ops_nil ?_
  refine at_then ?_
  refine run_ret ?_
  replace HM := (HM.front 0 rfl rfl).drop
  have hR := Option.some.inj H
  subst hR
  exact at_ret2 rfl rfl rfl ⟨_, rfl, rfl, HM⟩

def slices_Clone_int64.f (k : Nat) (x0 : List Int) : Option ((List Int)) := (chk (leB ((([] : List Int).length + x0.length) * 8) 140737488355328) (some (([] : List Int) ++ x0)))
theorem slices_Clone_int64.calls {k : Nat} {x0 : List Int} {p0 : Value} {w : World} (hp0 : RdS kInt w p0 x0) {r : (List Int)} (H : slices_Clone_int64.f k x0 = some r) :
    Calls Tryz.prog 159 ([p0] : List Value).toArray w (fun e w_ => ∃ v, e = .returned v ∧ ∃ u0 : Value, v = u0 ∧ Mem w [] w_ [own kInt 2 u0 r]) := by
  have HM := Mem.start w
  refine calls_run (N := 8) Tryz.func159 rfl rfl rfl rfl ?_
  unfold slices_Clone_int64.f at H
  refine run_seq ?_
  refine run_region rfl ?_
  refine ops_ex rfl (guard_none rfl) rfl rfl (ex_assign rfl rfl) ?_
  refine ops_nil ?_
  refine at_then ?_
  refine run_seq ?_
  refine run_seq ?_
  refine run_region rfl ?_
  refine ops_ex rfl (guard_none rfl) rfl rfl (ex_move rfl rfl) ?_
  refine ops_exE rfl (guard_none rfl) rfl rfl (ex_isnil rfl rfl rfl Tryz.underlying60 hp0) ?_
  rintro _ ⟨b4061, rfl, hb4062⟩
  refine ops_nil ?_
  refine at_then ?_
  refine run_cond (b := b4061) rfl (fun hb4063 => ?_) (fun hb4063 => ?_)
  · have hx_ := hb4062 hb4063
    subst hx_
    obtain ⟨_, H⟩ := chk_some H
    replace H : some ([] : List Int) = r := H
    refine run_seq ?_
    refine run_region rfl ?_
    refine ops_ex rfl (guard_none rfl) rfl rfl (ex_assign rfl rfl) ?_
    refine ops_nil ?_
    refine at_then ?_
    refine run_ret ?_
    refine at_then_ret ?_
    replace HM := HM.empty kInt 2 none
    have hR := Option.some.inj H
    subst hR
    exact at_ret1 rfl rfl ⟨_, rfl, _, rfl, HM⟩
  · skip
    refine run_skip ?_
    refine at_then ?_
    refine run_seq ?_
    obtain ⟨e4067, H⟩ := chk_some H
    refine run_region rfl ?_
    refine ops_does rfl (guard_none rfl) rfl rfl (does_lit (e := 2) (cs := []) (xs := ([] : List Int)) kInt rfl rfl (fun _ => by kernel_rfl) rfl rfl (fun _ _ h => by have h' : _ = [] := h; subst h'; exact .nil) HM.emp) ?_
    rintro v4064 w4070 HM
    refine ops_ex rfl (guard_none rfl) rfl rfl (ex_move rfl rfl) ?_
    refine ops_does rfl (guard_none rfl) rfl rfl (does_appendR kInt flat_plain rfl rfl rfl Tryz.underlying60 tsz2 rfl tby2 tz2 rfl rfl (leB_le e4067) (HM.rd hp0) HM) ?_
    rintro v4068 w4071 HM
    refine ops_ex rfl (guard_none rfl) rfl rfl (ex_assign rfl rfl) ?_
    refine ops_nil ?_
    refine at_then ?_
    refine run_ret ?_
    have hR := Option.some.inj H
    subst hR
    exact at_ret1 rfl rfl ⟨_, rfl, _, rfl, HM⟩

def impl_ownRule.f (k : Nat) (x0 : Rule) : Option Rule := ((slices_Clone_int64.f k x0.fKeys).bind fun t4085 => some (⟨t4085, x0.fNeed, x0.fAfter⟩ : Rule))
theorem impl_ownRule.calls {k : Nat} {x0 : Rule} {p0_0 : Value} {w : World} (hp0_0 : RdS kInt w p0_0 x0.fKeys) {r : Rule} (H : impl_ownRule.f k x0 = some r) :
    Calls Tryz.prog 140 ([.agg #[p0_0, (.int .i64 x0.fNeed), (.int .i64 x0.fAfter)]] : List Value).toArray w (fun e w_ => ∃ v, e = .returned v ∧ ∃ u0 : Value, v = (.agg #[u0, .int .i64 r.fNeed, .int .i64 r.fAfter]) ∧ Mem w [] w_ [own kInt 2 u0 r.fKeys]) := by
  have HM := Mem.start w
  refine calls_run (N := 8) Tryz.func140 rfl rfl rfl rfl ?_
  unfold impl_ownRule.f at H
  refine run_seq ?_
  refine run_region rfl ?_
  refine ops_does rfl (guard_none rfl) rfl rfl (does_box (cs := [p0_0, .int .i64 x0.fNeed, .int .i64 x0.fAfter]) rfl rfl rfl HM) ?_
  rintro _ w4083 ⟨b4077, rfl, HM⟩
  refine ops_does rfl (guard_none rfl) rfl rfl (does_alloc (cs := [.slice none 0 0, .int .i64 0, .int .i64 0]) rfl tz73 rfl HM) ?_
  rintro _ w4084 ⟨b4080, rfl, HM⟩
  refine ops_nil ?_
  refine at_then ?_
  refine run_seq ?_
  obtain ⟨t4085, h4086, H⟩ := bind_some H
  refine run_region rfl ?_
  refine ops_ex rfl (guard_none rfl) rfl rfl (ex_fieldAddr (off' := 0) rfl rfl Tryz.underlying73 rfl tsz60 rfl) ?_
  refine ops_ex rfl (guard_none rfl) rfl rfl (ex_load1 rfl rfl Tryz.underlying60 rfl ((HM.box_at 1 rfl) 0 _ rfl)) ?_
  refine ops_does rfl (guard_none rfl) rfl rfl (does_callk rfl callok159 rfl (slices_Clone_int64.calls (x0 := x0.fKeys) (HM.rd hp0_0) h4086)) ?_
  rintro u4087 w4089 ⟨_, rfl, hn⟩
  replace HM : Mem w [] w4089 [own kInt 2 u4087 t4085, box b4080 73 [.slice none 0 0, .int .i64 0, .int .i64 0], box b4077 73 [p0_0, .int .i64 x0.fNeed, .int .i64 x0.fAfter]] := HM.call hn
  refine ops_ex rfl (guard_none rfl) rfl rfl (ex_fieldAddr (off' := 0) rfl rfl Tryz.underlying73 rfl tsz60 rfl) ?_
  replace HM := HM.front 2 rfl rfl
  refine ops_doesS rfl (guard_none rfl) rfl (does_store (vs := [u4087]) (cs' := [u4087, .int .i64 x0.fNeed, .int .i64 x0.fAfter]) rfl rfl rfl (rd_cells (HM.own_rd 1 rfl)) tsz60 (Ones.rd (HM.own_rd 1 rfl) Ones.nil) rfl rfl HM) ?_
  rintro w4090 HM
  refine ops_nil ?_
  refine at_then ?_
  refine run_seq ?_
  refine run_region rfl ?_
  refine ops_ex rfl (guard_none rfl) rfl rfl (ex_loadN (cs := [u4087, (.int .i64 x0.fNeed), (.int .i64 x0.fAfter)]) rfl rfl Tryz.underlying73 rfl tsz73 rfl ((HM.box_at 0 rfl).sub 0 3 rfl)) ?_
  replace HM := HM.front 2 rfl rfl
  refine ops_doesS rfl (guard_none rfl) rfl (does_store (vs := [u4087, .int .i64 x0.fNeed, .int .i64 x0.fAfter]) (cs' := [u4087, .int .i64 x0.fNeed, .int .i64 x0.fAfter]) rfl rfl rfl rfl tsz73 (Ones.rd (HM.own_rd 2 rfl) (Ones.int (Ones.int Ones.nil))) rfl rfl HM) ?_
  rintro w4091 HM
  refine ops_nil ?_
  refine at_then ?_
  refine run_ret ?_
  replace HM := (HM.front 1 rfl rfl).drop
  have hcb0 := HM.box_at 0 rfl
  replace HM := (HM.front 0 rfl rfl).drop
  have hR := Option.some.inj H
  subst hR
  exact at_retN rfl rfl Tryz.underlying73 rfl tsz73 rfl hcb0 ⟨_, rfl, _, rfl, HM⟩

def impl_ownOut.f (k : Nat) (x0 : Out) : Option Out := ((impl_ownRule.f k x0.fRule).bind fun t4104 => some (⟨x0.fValue, t4104⟩ : Out))
theorem impl_ownOut.calls {k : Nat} {x0 : Out} {p0_0 : Value} {w : World} (hp0_0 : RdS kInt w p0_0 x0.fRule.fKeys) {r : Out} (H : impl_ownOut.f k x0 = some r) :
    Calls Tryz.prog 107 ([.agg #[(.int .i64 x0.fValue), p0_0, (.int .i64 x0.fRule.fNeed), (.int .i64 x0.fRule.fAfter)]] : List Value).toArray w (fun e w_ => ∃ v, e = .returned v ∧ ∃ u0 : Value, v = (.agg #[.int .i64 r.fValue, u0, .int .i64 r.fRule.fNeed, .int .i64 r.fRule.fAfter]) ∧ Mem w [] w_ [own kInt 2 u0 r.fRule.fKeys]) := by
  have HM := Mem.start w
  refine calls_run (N := 9) Tryz.func107 rfl rfl rfl rfl ?_
  unfold impl_ownOut.f at H
  refine run_seq ?_
  refine run_region rfl ?_
  refine ops_does rfl (guard_none rfl) rfl rfl (does_box (cs := [.int .i64 x0.fValue, p0_0, .int .i64 x0.fRule.fNeed, .int .i64 x0.fRule.fAfter]) rfl rfl rfl HM) ?_
  rintro _ w4102 ⟨b4096, rfl, HM⟩
  refine ops_does rfl (guard_none rfl) rfl rfl (does_alloc (cs := [.int .i64 0, .slice none 0 0, .int .i64 0, .int .i64 0]) rfl tz75 rfl HM) ?_
  rintro _ w4103 ⟨b4099, rfl, HM⟩
  refine ops_nil ?_
  refine at_then ?_
  refine run_seq ?_
  obtain ⟨t4104, h4105, H⟩ := bind_some H
  refine run_drawf (fun w_ => Mem w [] w_ [box b4096 75 [.int .i64 x0.fValue, p0_0, .int .i64 x0.fRule.fNeed, .int .i64 x0.fRule.fAfter]]) [(0, true), (1, true), (2, true), (3, true), (4, false), (5, true), (6, false)] mixed rfl rfl (by kernel_rfl) ?_
  replace HM := HM.grow (fr_drew _)
  have hS := Mem.suf (M := [box b4099 75 [.int .i64 0, .slice none 0 0, .int .i64 0, .int .i64 0]]) HM
  refine drwp_take rfl (guard_none rfl) rfl rfl (fun w_ hS_ => (ex_fieldAddr (off' := 0) rfl rfl Tryz.underlying75 rfl tsz2 rfl)) hS ?_
  refine drwp_take rfl (guard_none rfl) rfl rfl (fun w_ hS_ => (ex_load1 rfl rfl Tryz.underlying2 rfl ((hS_.box_at 0 rfl) 0 _ rfl))) hS ?_
  refine drwp_take rfl (guard_none rfl) rfl rfl (fun w_ hS_ => (ex_fieldAddr (off' := 1) rfl rfl Tryz.underlying75 rfl tsz73 rfl)) hS ?_
  refine drwp_take rfl (guard_none rfl) rfl rfl (fun w_ hS_ => (ex_loadN (cs := [p0_0, (.int .i64 x0.fRule.fNeed), (.int .i64 x0.fRule.fAfter)]) rfl rfl Tryz.underlying73 rfl tsz73 rfl ((hS_.box_at 0 rfl).sub 1 3 rfl))) hS ?_
  refine drwp_one rfl (guard_none rfl) rfl rfl (does_callk rfl callok140 rfl (impl_ownRule.calls (x0 := x0.fRule) (HM.rd hp0_0) h4105)) ?_
  rintro _ w4108 ⟨u4106, rfl, hn⟩
  replace HM : Mem w [] w4108 [own kInt 2 u4106 t4104.fKeys, box b4099 75 [.int .i64 0, .slice none 0 0, .int .i64 0, .int .i64 0], box b4096 75 [.int .i64 x0.fValue, p0_0, .int .i64 x0.fRule.fNeed, .int .i64 x0.fRule.fAfter]] := HM.call hn
  refine ⟨Mem.suf (M := [own kInt 2 u4106 t4104.fKeys, box b4099 75 [.int .i64 0, .slice none 0 0, .int .i64 0, .int .i64 0]]) HM, ?_⟩
  have hS := Mem.suf (M := [own kInt 2 u4106 t4104.fKeys, box b4099 75 [.int .i64 0, .slice none 0 0, .int .i64 0, .int .i64 0]]) HM
  refine drwp_take rfl (guard_none rfl) rfl rfl (fun w_ hS_ => (ex_build1 (fun u4106 => [(0, .int .i64 x0.fValue), (1, .agg #[u4106, (.int .i64 t4104.fNeed), (.int .i64 t4104.fAfter)])]) (fun u4106 => #[.int .i64 x0.fValue, u4106, .int .i64 t4104.fNeed, .int .i64 t4104.fAfter]) rfl rfl (fun _ _ _ => by kernel_rfl) (HM.own_rd 0 rfl).isSl)) hS ?_
  replace HM := HM.front 1 rfl rfl
  refine drwp_oneS rfl (guard_none rfl) rfl (does_store (vs := [.int .i64 x0.fValue, u4106, .int .i64 t4104.fNeed, .int .i64 t4104.fAfter]) (cs' := [.int .i64 x0.fValue, u4106, .int .i64 t4104.fNeed, .int .i64 t4104.fAfter]) rfl rfl rfl rfl tsz75 (Ones.int (Ones.rd (HM.own_rd 1 rfl) (Ones.int (Ones.int Ones.nil)))) rfl rfl HM) ?_
  rintro w4109 HM
  refine ⟨Mem.suf (M := [box b4099 75 [.int .i64 x0.fValue, u4106, .int .i64 t4104.fNeed, .int .i64 t4104.fAfter], own kInt 2 u4106 t4104.fKeys]) HM, ?_⟩
  have hS := Mem.suf (M := [box b4099 75 [.int .i64 x0.fValue, u4106, .int .i64 t4104.fNeed, .int .i64 t4104.fAfter], own kInt 2 u4106 t4104.fKeys]) HM
  refine drwp_done ?_
  refine at_then ?_
  refine run_ret ?_
  replace HM := (HM.front 2 rfl rfl).drop
  have hcb0 := HM.box_at 0 rfl
  replace HM := (HM.front 0 rfl rfl).drop
  have hR := Option.some.inj H
  subst hR
  exact at_retN rfl rfl Tryz.underlying75 rfl tsz75 rfl hcb0 ⟨_, rfl, _, rfl, HM⟩

def impl_ownCoins.l0 (x0 : List Coin) : Nat → (List Coin) → Int → Option ((List Coin))
  | 0, _, _ => none
  | k + 1, a4251, a4253 => (bif (decide (a4253 < (x0.length : Int))) then (chk (idxOk a4253 x0.length) ((impl_ownOut.f k ((gt x0 a4253).fOut)).bind fun t4284 => (chk (leB ((a4251.length + ([(⟨(gt x0 a4253).fRef, t4284, (gt x0 a4253).fHeight, (gt x0 a4253).fMined⟩ : Coin)] : List Coin).length) * 80) 140737488355328) (impl_ownCoins.l0 x0 k (a4251 ++ ([(⟨(gt x0 a4253).fRef, t4284, (gt x0 a4253).fHeight, (gt x0 a4253).fMined⟩ : Coin)] : List Coin)) (wrap64 (a4253 + 1)))))) else some a4251)
theorem impl_ownCoins.l0_z (x0 : List Coin) (a4251 : List Coin) (a4253 : Int) : impl_ownCoins.l0 x0 0 a4251 a4253 = none := rfl
theorem impl_ownCoins.l0_s (x0 : List Coin) (k : Nat) (a4251 : List Coin) (a4253 : Int) : impl_ownCoins.l0 x0 (k + 1) a4251 a4253 = (bif (decide (a4253 < (x0.length : Int))) then (chk (idxOk a4253 x0.length) ((impl_ownOut.f k ((gt x0 a4253).fOut)).bind fun t4284 => (chk (leB ((a4251.length + ([(⟨(gt x0 a4253).fRef, t4284, (gt x0 a4253).fHeight, (gt x0 a4253).fMined⟩ : Coin)] : List Coin).length) * 80) 140737488355328) (impl_ownCoins.l0 x0 k (a4251 ++ ([(⟨(gt x0 a4253).fRef, t4284, (gt x0 a4253).fHeight, (gt x0 a4253).fMined⟩ : Coin)] : List Coin)) (wrap64 (a4253 + 1)))))) else some a4251) := rfl
def impl_ownCoins.f (k : Nat) (x0 : List Coin) : Option ((List Coin)) := ((impl_ownCoins.l0 x0 k ([] : List Coin) 0).bind (fun a4228 => some a4228))
theorem impl_ownCoins.calls {k : Nat} {x0 : List Coin} {p0 : Value} {w : World} (hp0 : RdS kCoin w p0 x0) {r : (List Coin)} (H : impl_ownCoins.f k x0 = some r) :
    Calls Tryz.prog 61 ([p0] : List Value).toArray w (fun e w_ => ∃ v, e = .returned v ∧ ∃ u0 : Value, v = u0 ∧ Mem w [] w_ [own kCoin 77 u0 r]) := by
  have HM := Mem.start w
  refine calls_run (N := 23) Tryz.func61 rfl rfl rfl rfl ?_
  unfold impl_ownCoins.f at H
  refine run_seq ?_
  refine run_region rfl ?_
  refine ops_ex rfl (guard_none rfl) rfl rfl (ex_assign rfl rfl) ?_
  refine ops_nil ?_
  refine at_then ?_
  refine run_seq ?_
  refine run_region rfl ?_
  refine ops_does rfl (guard_none rfl) rfl rfl (does_lit (e := 77) (cs := []) (xs := ([] : List Coin)) kCoin rfl rfl (fun _ => by kernel_rfl) rfl rfl (fun _ _ h => by have h' : _ = [] := h; subst h'; exact .nil) HM.emp) ?_
  rintro v4165 w4168 HM
  refine ops_ex rfl (guard_none rfl) rfl rfl (ex_assign rfl rfl) ?_
  refine ops_nil ?_
  refine at_then ?_
  obtain ⟨o4230, ho4231, H⟩ := bind_some H
  refine run_mid (fun ρ_ w_ => ∃ v4227 : Value, ∃ a4228 : List Coin, a4228 = o4230 ∧ ρ_ = [(3, v4227)] ∧ Mem w [] w_ [own kCoin 77 v4227 a4228]) ?_ ?_
  · clear H
    refine run_seq ?_
    refine run_region rfl ?_
    refine ops_ex rfl (guard_none rfl) rfl rfl (ex_move rfl rfl) ?_
    refine ops_ex rfl (guard_none rfl) rfl rfl (ex_len (d := kCoin) (xs := x0) rfl rfl Tryz.underlying29 hp0) ?_
    refine ops_ex rfl (guard_none rfl) rfl rfl (ex_move rfl rfl) ?_
    refine ops_nil ?_
    refine at_then ?_
    refine run_block ?_
    refine run_loop (fun k_ ρ_ w_ => ∃ v4250 : Value, ∃ a4251 : List Coin, ∃ a4253 : Int, impl_ownCoins.l0 x0 k_ a4251 a4253 = some o4230 ∧ ρ_ = [(3, v4250), (7, p0), (8, .int .i64 (x0.length : Int)), (9, .int .i64 a4253)] ∧ Mem w [] w_ [own kCoin 77 v4250 a4251]) k (ρ1 := [(3, v4165), (7, p0), (8, .int .i64 (x0.length : Int)), (9, .int .i64 0)]) ⟨_, _, _, ho4231, rfl, HM⟩ (Sub.cons rfl (Sub.cons rfl (Sub.cons rfl (Sub.cons rfl Sub.nil)))) ?_
    clear HM ho4231
    rintro k4272 _ w4273 ⟨v4250, a4251, a4253, ho4231, rfl, HM⟩
    obtain _ | k4272 := k4272
    · exact nomatch ((impl_ownCoins.l0_z x0 a4251 a4253).symm.trans ho4231)
    replace ho4231 := (impl_ownCoins.l0_s x0 k4272 a4251 a4253).symm.trans ho4231
    refine run_seq ?_
    refine run_region rfl ?_
    refine ops_ex rfl (guard_none rfl) rfl rfl (ex_lss rfl rfl rfl) ?_
    refine ops_nil ?_
    refine at_then ?_
    refine run_seq ?_
    refine run_cond (b := (decide (a4253 < (x0.length : Int)))) rfl (fun hb4274 => ?_) (fun hb4274 => ?_)
    · replace ho4231 := cond_t hb4274 ho4231
      refine run_skip ?_
      refine at_then ?_
      refine run_seq ?_
      refine run_block ?_
      refine run_seq ?_
      obtain ⟨e4275, ho4231⟩ := chk_some ho4231
      refine run_region rfl ?_
      obtain ⟨kv4277, hc4276, hk4278⟩ : ∃ u, CellsAt _ (sb p0) (so p0 + (a4253).toNat * 8) [(.int .i64 ((gt x0 a4253).fRef.fTx)), (.int .i64 ((gt x0 a4253).fRef.fAt)), (.int .i64 ((gt x0 a4253).fOut.fValue)), u, (.int .i64 ((gt x0 a4253).fOut.fRule.fNeed)), (.int .i64 ((gt x0 a4253).fOut.fRule.fAfter)), (.int .i64 ((gt x0 a4253).fHeight)), (.bool ((gt x0 a4253).fMined))] ∧ RdS kInt _ u ((gt x0 a4253).fOut.fRule.fKeys) := rd_with1 hp0 e4275
      refine ops_ex rfl (guard_none rfl) rfl rfl (ex_indexAddr (d := kCoin) rfl rfl rfl Tryz.underlying29 tsz77 hp0 (idx_lo e4275) (idx_hi e4275)) ?_
      refine ops_ex rfl (guard_none rfl) rfl rfl (ex_loadN (cs := [(.int .i64 ((gt x0 a4253).fRef.fTx)), (.int .i64 ((gt x0 a4253).fRef.fAt)), (.int .i64 ((gt x0 a4253).fOut.fValue)), kv4277, (.int .i64 ((gt x0 a4253).fOut.fRule.fNeed)), (.int .i64 ((gt x0 a4253).fOut.fRule.fAfter)), (.int .i64 ((gt x0 a4253).fHeight)), (.bool ((gt x0 a4253).fMined))]) rfl rfl Tryz.underlying77 rfl tsz77 rfl ((HM.at_ hc4276).sub 0 8 rfl)) ?_
      refine ops_does rfl (guard_none rfl) rfl rfl (does_alloc (cs := [.int .i64 0, .int .i64 0, .int .i64 0, .slice none 0 0, .int .i64 0, .int .i64 0, .int .i64 0, .bool false]) rfl tz77 rfl HM) ?_
      rintro _ w4282 ⟨b4279, rfl, HM⟩
      refine ops_doesS rfl (guard_none rfl) rfl (does_store (vs := [.int .i64 ((gt x0 a4253).fRef.fTx), .int .i64 ((gt x0 a4253).fRef.fAt), .int .i64 ((gt x0 a4253).fOut.fValue), kv4277, .int .i64 ((gt x0 a4253).fOut.fRule.fNeed), .int .i64 ((gt x0 a4253).fOut.fRule.fAfter), .int .i64 ((gt x0 a4253).fHeight), .bool ((gt x0 a4253).fMined)]) (cs' := [.int .i64 ((gt x0 a4253).fRef.fTx), .int .i64 ((gt x0 a4253).fRef.fAt), .int .i64 ((gt x0 a4253).fOut.fValue), kv4277, .int .i64 ((gt x0 a4253).fOut.fRule.fNeed), .int .i64 ((gt x0 a4253).fOut.fRule.fAfter), .int .i64 ((gt x0 a4253).fHeight), .bool ((gt x0 a4253).fMined)]) rfl rfl rfl rfl tsz77 (Ones.int (Ones.int (Ones.int (Ones.rd hk4278 (Ones.int (Ones.int (Ones.int (Ones.bool Ones.nil)))))))) rfl rfl HM) ?_
      rintro w4283 HM
      refine ops_nil ?_
      refine at_then ?_
      refine run_seq ?_
      obtain ⟨t4284, h4285, ho4231⟩ := bind_some ho4231
      refine run_region rfl ?_
      refine ops_ex rfl (guard_none rfl) rfl rfl (ex_fieldAddr (off' := 2) rfl rfl Tryz.underlying77 rfl tsz75 rfl) ?_
      refine ops_ex rfl (guard_none rfl) rfl rfl (ex_loadN (cs := [(.int .i64 ((gt x0 a4253).fOut.fValue)), kv4277, (.int .i64 ((gt x0 a4253).fOut.fRule.fNeed)), (.int .i64 ((gt x0 a4253).fOut.fRule.fAfter))]) rfl rfl Tryz.underlying75 rfl tsz75 rfl ((HM.box_at 0 rfl).sub 2 4 rfl)) ?_
      refine ops_does rfl (guard_none rfl) rfl rfl (does_callk rfl callok107 rfl (impl_ownOut.calls (x0 := (gt x0 a4253).fOut) (HM.rd hk4278) h4285)) ?_
      rintro _ w4288 ⟨u4286, rfl, hn⟩
      replace HM : Mem w [] w4288 [own kInt 2 u4286 t4284.fRule.fKeys, box b4279 77 [.int .i64 ((gt x0 a4253).fRef.fTx), .int .i64 ((gt x0 a4253).fRef.fAt), .int .i64 ((gt x0 a4253).fOut.fValue), kv4277, .int .i64 ((gt x0 a4253).fOut.fRule.fNeed), .int .i64 ((gt x0 a4253).fOut.fRule.fAfter), .int .i64 ((gt x0 a4253).fHeight), .bool ((gt x0 a4253).fMined)], own kCoin 77 v4250 a4251] := HM.call hn
      refine ops_ex rfl (guard_none rfl) rfl rfl (ex_fieldAddr (off' := 2) rfl rfl Tryz.underlying77 rfl tsz75 rfl) ?_
      replace HM := HM.front 1 rfl rfl
      refine ops_doesS rfl (guard_none rfl) rfl (does_store (vs := [.int .i64 t4284.fValue, u4286, .int .i64 t4284.fRule.fNeed, .int .i64 t4284.fRule.fAfter]) (cs' := [.int .i64 ((gt x0 a4253).fRef.fTx), .int .i64 ((gt x0 a4253).fRef.fAt), .int .i64 t4284.fValue, u4286, .int .i64 t4284.fRule.fNeed, .int .i64 t4284.fRule.fAfter, .int .i64 ((gt x0 a4253).fHeight), .bool ((gt x0 a4253).fMined)]) rfl rfl rfl rfl tsz75 (Ones.int (Ones.rd (HM.own_rd 1 rfl) (Ones.int (Ones.int Ones.nil)))) rfl rfl HM) ?_
      rintro w4289 HM
      refine ops_nil ?_
      refine at_then ?_
      obtain ⟨e4293, ho4231⟩ := chk_some ho4231
      refine run_region rfl ?_
      refine ops_ex rfl (guard_none rfl) rfl rfl (ex_move rfl rfl) ?_
      refine ops_ex rfl (guard_none rfl) rfl rfl (ex_loadN (cs := [(.int .i64 ((gt x0 a4253).fRef.fTx)), (.int .i64 ((gt x0 a4253).fRef.fAt)), (.int .i64 t4284.fValue), u4286, (.int .i64 t4284.fRule.fNeed), (.int .i64 t4284.fRule.fAfter), (.int .i64 ((gt x0 a4253).fHeight)), (.bool ((gt x0 a4253).fMined))]) rfl rfl Tryz.underlying77 rfl tsz77 rfl ((HM.box_at 0 rfl).sub 0 8 rfl)) ?_
      replace HM := HM.front 1 rfl rfl
      refine ops_does rfl (guard_none rfl) rfl rfl (does_lit (e := 77) (cs := [(.int .i64 ((gt x0 a4253).fRef.fTx)), (.int .i64 ((gt x0 a4253).fRef.fAt)), (.int .i64 t4284.fValue), u4286, (.int .i64 t4284.fRule.fNeed), (.int .i64 t4284.fRule.fAfter), (.int .i64 ((gt x0 a4253).fHeight)), (.bool ((gt x0 a4253).fMined))]) (xs := ([(⟨(gt x0 a4253).fRef, t4284, (gt x0 a4253).fHeight, (gt x0 a4253).fMined⟩ : Coin)] : List Coin)) kCoin rfl rfl (fun _ => by kernel_rfl) rfl rfl (fun _ _ h => by have := Elems.cons (d := kCoin) (x := (⟨(gt x0 a4253).fRef, t4284, (gt x0 a4253).fHeight, (gt x0 a4253).fMined⟩ : Coin)) ⟨_, rfl, h⟩ .nil; rw [List.append_nil, List.append_nil] at this; exact this) HM) ?_
      rintro v4290 w4296 HM
      replace HM := HM.front 2 rfl rfl
      refine ops_does rfl (guard_none rfl) rfl rfl (does_append kCoin rfl rfl rfl Tryz.underlying29 tsz77 rfl tby77 tz77 rfl rfl (leB_le e4293) HM) ?_
      rintro v4294 w4297 HM
      refine ops_ex rfl (guard_none rfl) rfl rfl (ex_assign rfl rfl) ?_
      refine ops_nil ?_
      refine at_block ?_
      refine at_then ?_
      refine run_region rfl ?_
      refine ops_ex rfl (guard_none rfl) rfl rfl (ex_add rfl rfl rfl) ?_
      refine ops_ex rfl (guard_none rfl) rfl rfl (ex_move rfl rfl) ?_
      refine ops_nil ?_
      replace HM := (HM.front 1 rfl rfl).drop
      exact at_again k4272 (ρ1 := [(3, v4294), (7, p0), (8, .int .i64 (x0.length : Int)), (9, .int .i64 (wrap64 (a4253 + 1)))]) (Nat.lt_succ_self _) ⟨_, _, _, ho4231, rfl, HM⟩ (Sub.cons rfl (Sub.cons rfl (Sub.cons rfl (Sub.cons rfl Sub.nil))))
    · replace ho4231 := cond_f hb4274 ho4231
      refine run_exit ?_
      refine at_then_exit ?_
      refine at_then_exit ?_
      refine at_block_exit ?_
      exact at_mid (ρ' := [(3, v4250)]) ⟨_, _, (Option.some.inj ho4231), rfl, HM⟩ (Sub.cons rfl Sub.nil)
  · rintro _ w4298 ⟨v4227, a4228, rfl, rfl, HM⟩
    refine run_seq ?_
    refine run_region rfl ?_
    refine ops_ex rfl (guard_none rfl) rfl rfl (ex_move rfl rfl) ?_
    refine ops_ex rfl (guard_none rfl) rfl rfl (ex_assign rfl rfl) ?_
    refine ops_nil ?_
    refine at_then ?_
    refine run_ret ?_
    have hR := Option.some.inj H
    subst hR
    exact at_ret1 rfl rfl ⟨_, rfl, _, rfl, HM⟩

def impl_sorted_1.f (k : Nat) (x0 : Coin) (x1 : Coin) : Option Int := ((impl_compareRefs.f k x0.fRef x1.fRef).bind fun t4319 => some t4319)
theorem impl_sorted_1.calls {k : Nat} {x0 : Coin} {x1 : Coin} {p0_0 : Value} {p1_0 : Value} {w : World} (hp0_0 : IsSl p0_0) (hp1_0 : IsSl p1_0) {r : Int} (H : impl_sorted_1.f k x0 x1 = some r) :
    Calls Tryz.prog 119 ([.agg #[(.int .i64 x0.fRef.fTx), (.int .i64 x0.fRef.fAt), (.int .i64 x0.fOut.fValue), p0_0, (.int .i64 x0.fOut.fRule.fNeed), (.int .i64 x0.fOut.fRule.fAfter), (.int .i64 x0.fHeight), (.bool x0.fMined)], .agg #[(.int .i64 x1.fRef.fTx), (.int .i64 x1.fRef.fAt), (.int .i64 x1.fOut.fValue), p1_0, (.int .i64 x1.fOut.fRule.fNeed), (.int .i64 x1.fOut.fRule.fAfter), (.int .i64 x1.fHeight), (.bool x1.fMined)]] : List Value).toArray w (fun e w_ => ∃ v, e = .returned v ∧ v = (.int .i64 r) ∧ Mem w [] w_ []) := by
  have HM := Mem.start w
  refine calls_run (N := 10) Tryz.func119 rfl rfl rfl rfl ?_
  unfold impl_sorted_1.f at H
  refine run_seq ?_
  refine run_region rfl ?_
  refine ops_does rfl (guard_none rfl) rfl rfl (does_box (cs := [.int .i64 x0.fRef.fTx, .int .i64 x0.fRef.fAt, .int .i64 x0.fOut.fValue, p0_0, .int .i64 x0.fOut.fRule.fNeed, .int .i64 x0.fOut.fRule.fAfter, .int .i64 x0.fHeight, .bool x0.fMined]) rfl rfl rfl HM) ?_
  rintro _ w4317 ⟨b4311, rfl, HM⟩
  refine ops_does rfl (guard_none rfl) rfl rfl (does_box (cs := [.int .i64 x1.fRef.fTx, .int .i64 x1.fRef.fAt, .int .i64 x1.fOut.fValue, p1_0, .int .i64 x1.fOut.fRule.fNeed, .int .i64 x1.fOut.fRule.fAfter, .int .i64 x1.fHeight, .bool x1.fMined]) rfl rfl rfl HM) ?_
  rintro _ w4318 ⟨b4314, rfl, HM⟩
  refine ops_ex rfl (guard_none rfl) rfl rfl (ex_assign rfl rfl) ?_
  refine ops_nil ?_
  refine at_then ?_
  refine run_seq ?_
  obtain ⟨t4319, h4320, H⟩ := bind_some H
  refine run_region rfl ?_
  refine ops_ex rfl (guard_none rfl) rfl rfl (ex_fieldAddr (off' := 0) rfl rfl Tryz.underlying77 rfl tsz56 rfl) ?_
  refine ops_ex rfl (guard_none rfl) rfl rfl (ex_loadN (cs := [(.int .i64 x0.fRef.fTx), (.int .i64 x0.fRef.fAt)]) rfl rfl Tryz.underlying56 rfl tsz56 rfl ((HM.box_at 1 rfl).sub 0 2 rfl)) ?_
  refine ops_ex rfl (guard_none rfl) rfl rfl (ex_fieldAddr (off' := 0) rfl rfl Tryz.underlying77 rfl tsz56 rfl) ?_
  refine ops_ex rfl (guard_none rfl) rfl rfl (ex_loadN (cs := [(.int .i64 x1.fRef.fTx), (.int .i64 x1.fRef.fAt)]) rfl rfl Tryz.underlying56 rfl tsz56 rfl ((HM.box_at 0 rfl).sub 0 2 rfl)) ?_
  refine ops_does rfl (guard_none rfl) rfl rfl (does_callk rfl callok68 rfl (impl_compareRefs.calls (x0 := x0.fRef) (x1 := x1.fRef) h4320)) ?_
  rintro _ w4321 ⟨rfl, hn⟩
  replace HM : Mem w [] w4321 [box b4314 77 [.int .i64 x1.fRef.fTx, .int .i64 x1.fRef.fAt, .int .i64 x1.fOut.fValue, p1_0, .int .i64 x1.fOut.fRule.fNeed, .int .i64 x1.fOut.fRule.fAfter, .int .i64 x1.fHeight, .bool x1.fMined], box b4311 77 [.int .i64 x0.fRef.fTx, .int .i64 x0.fRef.fAt, .int .i64 x0.fOut.fValue, p0_0, .int .i64 x0.fOut.fRule.fNeed, .int .i64 x0.fOut.fRule.fAfter, .int .i64 x0.fHeight, .bool x0.fMined]] := HM.call hn
  refine ops_ex rfl (guard_none rfl) rfl rfl (ex_assign rfl rfl) ?_
  refine ops_nil ?_
  refine at_then ?_
  refine run_ret ?_
  replace HM := (HM.front 0 rfl rfl).drop
  replace HM := (HM.front 0 rfl rfl).drop
  have hR := Option.some.inj H
  subst hR
  exact at_ret1 rfl rfl ⟨_, rfl, rfl, HM⟩

def srtI (x y : Int) : Int := bif decide (x < y) then -1 else bif decide (y < x) then 1 else 0
def srtC (a b : Ref) : Int := bif srtI a.fTx b.fTx != 0 then srtI a.fTx b.fTx else srtI a.fAt b.fAt
theorem srtI_run (x y : Int) : cmp_Compare_int64.f 3 x y = some (srtI x y) := by
  have e : ∀ z : Int, (z != z) = false := fun z => by simp
  unfold cmp_Compare_int64.f cmp_isNaN_int64.f srtI
  simp only [Option.bind_some, e, cond_false]
  cases decide (x < y) <;> cases decide (y < x) <;> rfl
theorem srtO_run (p q : Int) : cmp_Or_int.f 3 [p, q] = some (bif p != 0 then p else q) := by
  have e0 : gt [p, q] (0 : Int) = p := rfl
  have e1 : gt [p, q] (1 : Int) = q := rfl
  have w0 : wrap64 ((0 : Int) + 1) = 1 := by rw [wrap64_in _ (by omega)]; rfl
  have w1 : wrap64 ((1 : Int) + 1) = 2 := by rw [wrap64_in _ (by omega)]; rfl
  have c0 : decide ((0 : Int) < (([p, q] : List Int).length : Int)) = true := rfl
  have c1 : decide ((1 : Int) < (([p, q] : List Int).length : Int)) = true := rfl
  have c2 : decide ((2 : Int) < (([p, q] : List Int).length : Int)) = false := rfl
  have k0 : idxOk (0 : Int) ([p, q] : List Int).length = true := rfl
  have k1 : idxOk (1 : Int) ([p, q] : List Int).length = true := rfl
  unfold cmp_Or_int.f
  rw [cmp_Or_int.l0_s, c0, cond_true, k0, e0, w0]
  unfold chk
  simp only [cond_true]
  cases hp : p != 0
  · rw [cond_false, cmp_Or_int.l0_s, c1, cond_true, k1, e1, w1]
    unfold chk
    simp only [cond_true, cond_false]
    cases hq : q != 0
    · rw [cond_false, cmp_Or_int.l0_s, c2]
      have : q = 0 := by simpa using hq
      subst this; rfl
    · rfl
  · rfl
theorem srt_run (a b : Coin) : impl_sorted_1.f 3 a b = some (srtC a.fRef b.fRef) := by
  unfold impl_sorted_1.f impl_compareRefs.f
  simp only [srtI_run, Option.bind_some, srtO_run]
  rfl
theorem srtI_lt {x y : Int} : srtI x y < 0 ↔ x < y := by
  unfold srtI
  by_cases h : x < y
  · simp [h]
  · by_cases h2 : y < x <;> simp [h, h2]
theorem srtI_0 {x y : Int} : srtI x y = 0 ↔ x = y := by
  unfold srtI
  by_cases h : x < y
  · simp [h]; omega
  · by_cases h2 : y < x
    · simp [h, h2]; omega
    · simp [h, h2]; omega
theorem srtC_lt {a b : Ref} : srtC a b < 0 ↔ a.fTx < b.fTx ∨ a.fTx = b.fTx ∧ a.fAt < b.fAt := by
  unfold srtC
  cases h : srtI a.fTx b.fTx != 0
  · have h0 : srtI a.fTx b.fTx = 0 := by simpa using h
    have h1 := srtI_0.1 h0
    rw [cond_false, srtI_lt]; omega
  · have h0 : srtI a.fTx b.fTx ≠ 0 := by simpa using h
    have h1 : a.fTx ≠ b.fTx := fun e => h0 (srtI_0.2 e)
    rw [cond_true, srtI_lt]; omega
/-- A coin with its row's place. -/
abbrev SrtT := Coin × (Option Addr × Nat × Nat)
def srtEnc (s : SrtT) : List Value := [.int .i64 s.1.fRef.fTx, .int .i64 s.1.fRef.fAt, .int .i64 s.1.fOut.fValue, .slice s.2.1 s.2.2.1 s.2.2.2, .int .i64 s.1.fOut.fRule.fNeed, .int .i64 s.1.fOut.fRule.fAfter, .int .i64 s.1.fHeight, .bool s.1.fMined]
theorem srt_swo : Go.Sort.SWO (ltOf fun x y : SrtT => srtC x.1.fRef y.1.fRef) where
  irrefl x := by
    show decide _ = false
    rw [decide_eq_false_iff_not, srtC_lt]; omega
  trans x y z h1 h2 := by
    have h1' := srtC_lt.1 (of_decide_eq_true h1)
    have h2' := srtC_lt.1 (of_decide_eq_true h2)
    show decide _ = true
    rw [decide_eq_true_eq, srtC_lt]; omega
  ntrans x y z h1 h2 := by
    have h1' : ¬ srtC x.1.fRef y.1.fRef < 0 := of_decide_eq_false h1
    have h2' : ¬ srtC y.1.fRef z.1.fRef < 0 := of_decide_eq_false h2
    rw [srtC_lt] at h1' h2'
    show decide _ = false
    rw [decide_eq_false_iff_not, srtC_lt]; omega
def refLe (a b : Coin) : Bool := decide (a.fRef.fTx < b.fRef.fTx) || (decide (a.fRef.fTx = b.fRef.fTx) && decide (a.fRef.fAt ≤ b.fRef.fAt))
theorem refLe_iff {a b : Coin} : refLe a b = true ↔ a.fRef.fTx < b.fRef.fTx ∨ a.fRef.fTx = b.fRef.fTx ∧ a.fRef.fAt ≤ b.fRef.fAt := by
  unfold refLe
  rw [Bool.or_eq_true, Bool.and_eq_true, decide_eq_true_eq, decide_eq_true_eq, decide_eq_true_eq]
theorem refLe_not {a b : Coin} : ltOf (fun x y : Coin => srtC x.fRef y.fRef) b a = false → refLe a b = true := fun h => by
  have h1 : ¬ srtC b.fRef a.fRef < 0 := of_decide_eq_false h
  rw [srtC_lt] at h1
  rw [refLe_iff]; omega
def refKey (c : Coin) : Int × Int := (c.fRef.fTx, c.fRef.fAt)
theorem key_inj : ∀ {xs : List Coin}, (xs.map refKey).Nodup → ∀ a ∈ xs, ∀ b ∈ xs, refKey a = refKey b → a = b
  | [], _, a, ha, _, _, _ => by simp at ha
  | x :: xs, h, a, ha, b, hb, e => by
    rw [List.map_cons, List.nodup_cons] at h
    rcases List.mem_cons.1 ha with ha | ha <;> rcases List.mem_cons.1 hb with hb | hb
    · rw [ha, hb]
    · exact absurd (List.mem_map.2 ⟨b, hb, by rw [← e, ha]⟩) h.1
    · exact absurd (List.mem_map.2 ⟨a, ha, by rw [e, hb]⟩) h.1
    · exact key_inj h.2 a ha b hb e
theorem sorted_uniq {α : Type} {le : α → α → Bool} : ∀ {l m : List α}, l.Perm m → l.Pairwise (fun a b => le a b = true) → m.Pairwise (fun a b => le a b = true) → (∀ a ∈ l, ∀ b ∈ l, le a b = true → le b a = true → a = b) → l = m
  | [], m, h, _, _, _ => (List.nil_perm.1 h).symm
  | a :: l, [], h, _, _, _ => by have := h.length_eq; simp at this
  | a :: l, b :: m, h, h1, h2, h3 => by
    rw [List.pairwise_cons] at h1 h2
    have hb : b ∈ a :: l := h.mem_iff.2 (by simp)
    have ha : a ∈ b :: m := h.mem_iff.1 (by simp)
    have e : a = b := by
      rcases List.mem_cons.1 hb with e | hb'
      · exact e.symm
      · rcases List.mem_cons.1 ha with e | ha'
        · exact e
        · exact h3 a (by simp) b hb (h1.1 b hb') (h2.1 a ha')
    subst e
    rw [sorted_uniq ((List.perm_cons a).1 h) h1.2 h2.2 (fun x hx y hy => h3 x (by simp [hx]) y (by simp [hy]))]
def slices_SortFunc_Coin.f (k : Nat) (x0 : List Coin) : Option (List Coin) := chk (leB x0.length 1000000 && decide ((x0.map refKey).Nodup)) (some (x0.mergeSort refLe))
theorem slices_SortFunc_Coin.calls {k : Nat} {x0 : List Coin} {p0 : Value} {w wo : World} {X : List Nat} (hwo : Olds wo w X) (hX : Hold w [own kCoin 77 p0 x0] X) (hXn : X.Nodup) (hXl : ∀ b ∈ X, b < w.heap.size) {r : List Coin} (H : slices_SortFunc_Coin.f k x0 = some r) :
    Calls Tryz.prog 118 ([p0, .func (.func 119) #[] #[]] : List Value).toArray w (fun e w_ => ∃ v, e = .returned v ∧ v = (.tuple #[]) ∧ Mem w X w_ [own kCoin 77 p0 r]) := by
  obtain ⟨h, H⟩ := chk_some H
  have hR := Option.some.inj H
  subst hR
  rw [Bool.and_eq_true, decide_eq_true_eq] at h
  have hlen := leB_le h.1
  have eg : ∀ args w, (callFunc 119 args).run Tryz.prog w = .ok (.enter 119 args) w := enters_of Tryz.func119 (by kernel_rfl) rfl
  have aE : ∀ w, (isAgg 77).run Tryz.prog w = .ok true w := fun w => by simp [isAgg, run_underlying Tryz.underlying77]
  have zE : ∀ w, (Go.sizeOf 77).run Tryz.prog w = .ok 8 w := fun w => run_sizeOf tsz77
  have hk : ∀ x : SrtT, (srtEnc x).length = 8 := fun _ => rfl
  have h1 : ∀ x : SrtT, ∀ v ∈ srtEnc x, v.oneCell' = true := fun x v hv => by
    simp only [srtEnc, List.mem_cons, List.not_mem_nil, or_false] at hv
    rcases hv with rfl | rfl | rfl | rfl | rfl | rfl | rfl | rfl <;> rfl
  refine (sort_own (d := kCoin) (enc := srtEnc) hk h1 (by decide) (cf := fun x y : SrtT => srtC x.1.fRef y.1.fRef) (fun s x => s.1 = x) ?_
    (fun blk cap dd w hc hH hb hs => AnyQ.slices_SortFunc Tryz.sortCoin 8 aE zE srtEnc hk h1 _ srt_swo 119 #[] blk 0 cap dd w eg hc hH hb hs)
    (fun p cap w => AnyF.slices_SortFunc_none { Tryz.sortCoin with } p cap _ w) trivial (fun W x y => ?_) hX hXn hXl (by omega)).mono fun e w' ⟨he, ys, hp, ⟨ps, q1, q2, q3⟩, hm⟩ => ⟨_, he, rfl, ?_⟩
  · rintro w x c f ⟨v, hv, ⟨cells, b, fs, hrow, _⟩⟩
    subst hv
    rcases hrow with ⟨A, rfl, _⟩ | ⟨g0, c0, cur, rfl, _⟩
    · exact ⟨(x, (A, 0, 0)), rfl, rfl⟩
    · exact ⟨(x, (some ⟨g0, 0, none⟩, _, c0)), rfl, rfl⟩
  · exact (impl_sorted_1.calls (w := W) (p0_0 := .slice x.2.1 x.2.2.1 x.2.2.2) (p1_0 := .slice y.2.1 y.2.2.1 y.2.2.2) ⟨_, _, _, rfl⟩ ⟨_, _, _, rfl⟩ (srt_run x.1 y.1)).mono fun e w' ⟨v, he, hv, hm⟩ => ⟨by rw [he, hv], hm.fr⟩
  · have hys : ys.Pairwise (fun a b => refLe a b = true) := by
      rw [← q1, List.pairwise_map]
      rw [List.pairwise_map] at q3
      refine q3.imp_of_mem fun {a b} ha hb hab => ?_
      rw [← q2 a ha, ← q2 b hb]
      exact refLe_not hab
    have hms : (x0.mergeSort refLe).Pairwise (fun a b => refLe a b = true) := List.pairwise_mergeSort (fun a b c h1 h2 => by rw [refLe_iff] at *; omega) (fun a b => by
      rw [Bool.or_eq_true, refLe_iff, refLe_iff]; omega) x0
    have e : ys = x0.mergeSort refLe := sorted_uniq (hp.trans (List.mergeSort_perm x0 refLe).symm) hys hms (fun a ha b hb h1 h2 => by
      refine key_inj h.2 a (hp.mem_iff.1 ha) b (hp.mem_iff.1 hb) ?_
      rw [refLe_iff] at h1 h2
      have e1 : a.fRef.fTx = b.fRef.fTx := by omega
      have e2 : a.fRef.fAt = b.fRef.fAt := by omega
      unfold refKey
      rw [e1, e2])
    rw [← e]; exact hm


def impl_sorted.f (k : Nat) (x0 : List Coin) : Option ((List Coin)) := ((slices_SortFunc_Coin.f k x0).bind fun t4333 => some t4333)
theorem impl_sorted.calls {k : Nat} {x0 : List Coin} {p0 : Value} {w wo : World} {X : List Nat} (hwo : Olds wo w X) (hX : Hold w [own kCoin 77 p0 x0] X) (hXn : X.Nodup) (hXl : ∀ b ∈ X, b < w.heap.size)  {r : (List Coin)} (H : impl_sorted.f k x0 = some r) :
    Calls Tryz.prog 84 ([p0] : List Value).toArray w (fun e w_ => ∃ v, e = .returned v ∧ ∃ u0 : Value, v = u0 ∧ Mem w X w_ [own kCoin 77 u0 r]) := by
  have HM := Mem.startX hX hXn hXl
  refine calls_run (N := 6) Tryz.func84 rfl rfl rfl rfl ?_
  unfold impl_sorted.f at H
  refine run_seq ?_
  refine run_region rfl ?_
  refine ops_ex rfl (guard_none rfl) rfl rfl (ex_assign rfl rfl) ?_
  refine ops_nil ?_
  refine at_then ?_
  refine run_seq ?_
  obtain ⟨t4333, h4334, H⟩ := bind_some H
  refine run_region rfl ?_
  refine ops_ex rfl (guard_none rfl) rfl rfl (ex_move rfl rfl) ?_
  obtain ⟨F4335, hF4336, hFn4337, hFl4338, HMh4339, hcl4340⟩ := HM.hide (Ms := [own kCoin 77 p0 x0])
  refine ops_does rfl (guard_none rfl) rfl rfl (does_callk rfl callok118 rfl (slices_SortFunc_Coin.calls (x0 := x0) (hide_olds _ _) hF4336 hFn4337 hFl4338 h4334)) ?_
  rintro _ w4341 ⟨rfl, hn⟩
  replace HM : Mem w X w4341 [own kCoin 77 p0 t4333] := hcl4340 _ _ hn
  refine ops_nil ?_
  refine at_then ?_
  refine run_seq ?_
  refine run_region rfl ?_
  refine ops_ex rfl (guard_none rfl) rfl rfl (ex_move rfl rfl) ?_
  refine ops_ex rfl (guard_none rfl) rfl rfl (ex_assign rfl rfl) ?_
  refine ops_nil ?_
  refine at_then ?_
  refine run_ret ?_
  have hR := Option.some.inj H
  subst hR
  exact at_ret1 rfl rfl ⟨_, rfl, _, rfl, HM⟩

def impl_spentBy.l0 (x0 : List Coin) (x1 : Tx) : Nat → (List Coin) → Int → Option (((List Coin) × Int) ⊕ ((List Coin)))
  | 0, _, _ => none
  | k + 1, a4450, a4452 => (bif (decide (a4452 < (x1.fIns.length : Int))) then (chk (idxOk a4452 x1.fIns.length) ((impl_findCoin.f k x0 (gt x1.fIns a4452)).bind fun t4483 => (bif !t4483.2 then some (.inl (([] : List Coin), 4)) else (chk (idxOk t4483.1 x0.length) (chk (leB ((a4450.length + ([(gt x0 t4483.1)] : List Coin).length) * 80) 140737488355328) (impl_spentBy.l0 x0 x1 k (a4450 ++ ([(gt x0 t4483.1)] : List Coin)) (wrap64 (a4452 + 1)))))))) else some (.inr a4450))
theorem impl_spentBy.l0_z (x0 : List Coin) (x1 : Tx) (a4450 : List Coin) (a4452 : Int) : impl_spentBy.l0 x0 x1 0 a4450 a4452 = none := rfl
theorem impl_spentBy.l0_s (x0 : List Coin) (x1 : Tx) (k : Nat) (a4450 : List Coin) (a4452 : Int) : impl_spentBy.l0 x0 x1 (k + 1) a4450 a4452 = (bif (decide (a4452 < (x1.fIns.length : Int))) then (chk (idxOk a4452 x1.fIns.length) ((impl_findCoin.f k x0 (gt x1.fIns a4452)).bind fun t4483 => (bif !t4483.2 then some (.inl (([] : List Coin), 4)) else (chk (idxOk t4483.1 x0.length) (chk (leB ((a4450.length + ([(gt x0 t4483.1)] : List Coin).length) * 80) 140737488355328) (impl_spentBy.l0 x0 x1 k (a4450 ++ ([(gt x0 t4483.1)] : List Coin)) (wrap64 (a4452 + 1)))))))) else some (.inr a4450)) := rfl
def impl_spentBy.f (k : Nat) (x0 : List Coin) (x1 : Tx) : Option ((List Coin) × Int) := ((impl_spentBy.l0 x0 x1 k ([] : List Coin) 0).bind fun o4427 => thn o4427 (fun r => some r) (fun a4425 => ((impl_ownCoins.f k a4425).bind fun t4502 => ((impl_sorted.f k t4502).bind fun t4506 => some (t4506, 0)))))
theorem impl_spentBy.calls {k : Nat} {x0 : List Coin} {x1 : Tx} {p0 : Value} {p1_0 : Value} {p1_1 : Value} {w : World} (hp0 : RdS kCoin w p0 x0) (hp1_0 : RdS kRef w p1_0 x1.fIns) (hp1_1 : RdS kOut w p1_1 x1.fOuts) {r : (List Coin) × Int} (H : impl_spentBy.f k x0 x1 = some r) :
    Calls Tryz.prog 39 ([p0, .agg #[(.int .i64 x1.fKind), (.int .i64 x1.fMember), p1_0, p1_1]] : List Value).toArray w (fun e w_ => ∃ v, e = .returned v ∧ ∃ u0 : Value, v = (.tuple #[u0, .int .i64 r.2]) ∧ Mem w [] w_ [own kCoin 77 u0 r.1]) := by
  have HM := Mem.start w
  refine calls_run (N := 38) Tryz.func39 rfl rfl rfl rfl ?_
  unfold impl_spentBy.f at H
  refine run_seq ?_
  refine run_region rfl ?_
  refine ops_does rfl (guard_none rfl) rfl rfl (does_box (cs := [.int .i64 x1.fKind, .int .i64 x1.fMember, p1_0, p1_1]) rfl rfl rfl HM) ?_
  rintro _ w4355 ⟨b4352, rfl, HM⟩
  refine ops_ex rfl (guard_none rfl) rfl rfl (ex_assign rfl rfl) ?_
  refine ops_ex rfl (guard_none rfl) rfl rfl (ex_assign rfl rfl) ?_
  refine ops_nil ?_
  refine at_then ?_
  refine run_seq ?_
  refine run_region rfl ?_
  refine ops_does rfl (guard_none rfl) rfl rfl (does_lit (e := 77) (cs := []) (xs := ([] : List Coin)) kCoin rfl rfl (fun _ => by kernel_rfl) rfl rfl (fun _ _ h => by have h' : _ = [] := h; subst h'; exact .nil) HM.emp) ?_
  rintro v4356 w4359 HM
  refine ops_ex rfl (guard_none rfl) rfl rfl (ex_assign rfl rfl) ?_
  refine ops_nil ?_
  refine at_then ?_
  obtain ⟨o4427, ho4428, H⟩ := bind_some H
  refine run_mid (fun ρ_ w_ => ∃ v4424 : Value, ∃ a4425 : List Coin, Sum.inr a4425 = o4427 ∧ ρ_ = [(6, v4424)] ∧ Mem w [] w_ [own (Kd.lent w kCoin with1_one) 77 v4424 a4425]) ?_ ?_
  · skip
    refine run_seq ?_
    refine run_region rfl ?_
    refine ops_ex rfl (guard_none rfl) rfl rfl (ex_fieldAddr (off' := 2) rfl rfl Tryz.underlying37 rfl tsz34 rfl) ?_
    refine ops_ex rfl (guard_none rfl) rfl rfl (ex_load1 rfl rfl Tryz.underlying34 rfl ((HM.box_at 1 rfl) 2 _ rfl)) ?_
    refine ops_ex rfl (guard_none rfl) rfl rfl (ex_len (d := kRef) (xs := x1.fIns) rfl rfl Tryz.underlying34 hp1_0) ?_
    refine ops_ex rfl (guard_none rfl) rfl rfl (ex_move rfl rfl) ?_
    refine ops_nil ?_
    refine at_then ?_
    refine run_block ?_
    replace HM := Mem.relent (d := kCoin) (d' := (Kd.lent w kCoin with1_one)) rfl HM
    replace HM := (HM.front 1 rfl rfl).drop
    refine run_loop (fun k_ ρ_ w_ => ∃ v4449 : Value, ∃ a4450 : List Coin, ∃ a4452 : Int, impl_spentBy.l0 x0 x1 k_ a4450 a4452 = some o4427 ∧ ρ_ = [(0, p0), (6, v4449), (13, p1_0), (14, .int .i64 (x1.fIns.length : Int)), (15, .int .i64 a4452)] ∧ Mem w [] w_ [own (Kd.lent w kCoin with1_one) 77 v4449 a4450]) k (ρ1 := [(0, p0), (6, v4356), (13, p1_0), (14, .int .i64 (x1.fIns.length : Int)), (15, .int .i64 0)]) ⟨_, _, _, ho4428, rfl, HM⟩ (Sub.cons rfl (Sub.cons rfl (Sub.cons rfl (Sub.cons rfl (Sub.cons rfl Sub.nil))))) ?_
    clear HM ho4428
    rintro k4473 _ w4474 ⟨v4449, a4450, a4452, ho4428, rfl, HM⟩
    obtain _ | k4473 := k4473
    · exact nomatch ((impl_spentBy.l0_z x0 x1 a4450 a4452).symm.trans ho4428)
    replace ho4428 := (impl_spentBy.l0_s x0 x1 k4473 a4450 a4452).symm.trans ho4428
    refine run_seq ?_
    refine run_region rfl ?_
    refine ops_ex rfl (guard_none rfl) rfl rfl (ex_lss rfl rfl rfl) ?_
    refine ops_nil ?_
    refine at_then ?_
    refine run_seq ?_
    refine run_cond (b := (decide (a4452 < (x1.fIns.length : Int)))) rfl (fun hb4475 => ?_) (fun hb4475 => ?_)
    · replace ho4428 := cond_t hb4475 ho4428
      refine run_skip ?_
      refine at_then ?_
      refine run_seq ?_
      refine run_block ?_
      refine run_seq ?_
      obtain ⟨e4476, ho4428⟩ := chk_some ho4428
      refine run_region rfl ?_
      have hc4477 : CellsAt _ (sb p1_0) (so p1_0 + (a4452).toNat * 2) [(.int .i64 ((gt x1.fIns a4452).fTx)), (.int .i64 ((gt x1.fIns a4452).fAt))] := rd_plain hp1_0 e4476
      refine ops_ex rfl (guard_none rfl) rfl rfl (ex_indexAddr (d := kRef) rfl rfl rfl Tryz.underlying34 tsz56 hp1_0 (idx_lo e4476) (idx_hi e4476)) ?_
      refine ops_ex rfl (guard_none rfl) rfl rfl (ex_loadN (cs := [(.int .i64 ((gt x1.fIns a4452).fTx)), (.int .i64 ((gt x1.fIns a4452).fAt))]) rfl rfl Tryz.underlying56 rfl tsz56 rfl ((HM.at_ hc4477).sub 0 2 rfl)) ?_
      refine ops_does rfl (guard_none rfl) rfl rfl (does_alloc (cs := [.int .i64 0, .int .i64 0]) rfl tz56 rfl HM) ?_
      rintro _ w4481 ⟨b4478, rfl, HM⟩
      refine ops_doesS rfl (guard_none rfl) rfl (does_store (vs := [.int .i64 ((gt x1.fIns a4452).fTx), .int .i64 ((gt x1.fIns a4452).fAt)]) (cs' := [.int .i64 ((gt x1.fIns a4452).fTx), .int .i64 ((gt x1.fIns a4452).fAt)]) rfl rfl rfl rfl tsz56 (Ones.int (Ones.int Ones.nil)) rfl rfl HM) ?_
      rintro w4482 HM
      refine ops_nil ?_
      refine at_then ?_
      refine run_seq ?_
      obtain ⟨t4483, h4484, ho4428⟩ := bind_some ho4428
      refine run_region rfl ?_
      refine ops_ex rfl (guard_none rfl) rfl rfl (ex_move rfl rfl) ?_
      refine ops_ex rfl (guard_none rfl) rfl rfl (ex_loadN (cs := [(.int .i64 ((gt x1.fIns a4452).fTx)), (.int .i64 ((gt x1.fIns a4452).fAt))]) rfl rfl Tryz.underlying56 rfl tsz56 rfl ((HM.box_at 0 rfl).sub 0 2 rfl)) ?_
      refine ops_does rfl (guard_none rfl) rfl rfl (does_callk rfl callok60 rfl (impl_findCoin.calls (x0 := x0) (x1 := (gt x1.fIns a4452)) (HM.rd hp0) h4484)) ?_
      rintro _ w4485 ⟨rfl, hn⟩
      replace HM : Mem w [] w4485 [box b4478 56 [.int .i64 ((gt x1.fIns a4452).fTx), .int .i64 ((gt x1.fIns a4452).fAt)], own (Kd.lent w kCoin with1_one) 77 v4449 a4450] := HM.call hn
      refine ops_ex rfl (guard_none rfl) rfl rfl (ex_move rfl rfl) ?_
      refine ops_ex rfl (guard_none rfl) rfl rfl (ex_extract rfl rfl rfl) ?_
      refine ops_ex rfl (guard_none rfl) rfl rfl (ex_extract rfl rfl rfl) ?_
      refine ops_ex rfl (guard_none rfl) rfl rfl (ex_assign rfl rfl) ?_
      refine ops_ex rfl (guard_none rfl) rfl rfl (ex_assign rfl rfl) ?_
      refine ops_nil ?_
      refine at_then ?_
      refine run_seq ?_
      refine run_seq ?_
      refine run_region rfl ?_
      refine ops_ex rfl (guard_none rfl) rfl rfl (ex_move rfl rfl) ?_
      refine ops_ex rfl (guard_none rfl) rfl rfl (ex_not rfl rfl) ?_
      refine ops_nil ?_
      refine at_then ?_
      refine run_cond (b := !t4483.2) rfl (fun hb4487 => ?_) (fun hb4487 => ?_)
      · replace ho4428 := cond_t hb4487 ho4428
        refine run_seq ?_
        refine run_region rfl ?_
        refine ops_ex rfl (guard_none rfl) rfl rfl (ex_assign rfl rfl) ?_
        refine ops_ex rfl (guard_none rfl) rfl rfl (ex_assign rfl rfl) ?_
        refine ops_nil ?_
        refine at_then ?_
        refine run_ret ?_
        refine at_then_ret ?_
        refine at_block_ret ?_
        refine at_then_ret ?_
        refine at_then_ret ?_
        refine at_block_ret ?_
        refine at_then_ret ?_
        replace HM := HM.empty kCoin 77 none
        replace HM := (HM.front 1 rfl rfl).drop
        replace HM := (HM.front 1 rfl rfl).drop
        have hR := Option.some.inj ho4428
        subst hR
        have hT := thn_inl H
        have hR := Option.some.inj hT
        subst hR
        exact at_ret2 rfl rfl rfl ⟨_, rfl, _, rfl, HM⟩
      · replace ho4428 := cond_f hb4487 ho4428
        refine run_skip ?_
        refine at_then ?_
        obtain ⟨e4489, ho4428⟩ := chk_some ho4428
        obtain ⟨e4496, ho4428⟩ := chk_some ho4428
        refine run_region rfl ?_
        refine ops_ex rfl (guard_none rfl) rfl rfl (ex_move rfl rfl) ?_
        refine ops_ex rfl (guard_none rfl) rfl rfl (ex_move rfl rfl) ?_
        refine ops_ex rfl (guard_none rfl) rfl rfl (ex_move rfl rfl) ?_
        obtain ⟨kv4491, hc4490, hk4492⟩ : ∃ u, CellsAt _ (sb p0) (so p0 + (t4483.1).toNat * 8) [(.int .i64 ((gt x0 t4483.1).fRef.fTx)), (.int .i64 ((gt x0 t4483.1).fRef.fAt)), (.int .i64 ((gt x0 t4483.1).fOut.fValue)), u, (.int .i64 ((gt x0 t4483.1).fOut.fRule.fNeed)), (.int .i64 ((gt x0 t4483.1).fOut.fRule.fAfter)), (.int .i64 ((gt x0 t4483.1).fHeight)), (.bool ((gt x0 t4483.1).fMined))] ∧ RdS kInt _ u ((gt x0 t4483.1).fOut.fRule.fKeys) := rd_with1 hp0 e4489
        refine ops_ex rfl (guard_none rfl) rfl rfl (ex_indexAddr (d := kCoin) rfl rfl rfl Tryz.underlying29 tsz77 hp0 (idx_lo e4489) (idx_hi e4489)) ?_
        refine ops_ex rfl (guard_none rfl) rfl rfl (ex_loadN (cs := [(.int .i64 ((gt x0 t4483.1).fRef.fTx)), (.int .i64 ((gt x0 t4483.1).fRef.fAt)), (.int .i64 ((gt x0 t4483.1).fOut.fValue)), kv4491, (.int .i64 ((gt x0 t4483.1).fOut.fRule.fNeed)), (.int .i64 ((gt x0 t4483.1).fOut.fRule.fAfter)), (.int .i64 ((gt x0 t4483.1).fHeight)), (.bool ((gt x0 t4483.1).fMined))]) rfl rfl Tryz.underlying77 rfl tsz77 rfl ((HM.at_ hc4490).sub 0 8 rfl)) ?_
        refine ops_does rfl (guard_none rfl) rfl rfl (does_lit (e := 77) (cs := [.int .i64 ((gt x0 t4483.1).fRef.fTx), .int .i64 ((gt x0 t4483.1).fRef.fAt), .int .i64 ((gt x0 t4483.1).fOut.fValue), kv4491, .int .i64 ((gt x0 t4483.1).fOut.fRule.fNeed), .int .i64 ((gt x0 t4483.1).fOut.fRule.fAfter), .int .i64 ((gt x0 t4483.1).fHeight), .bool ((gt x0 t4483.1).fMined)]) (xs := ([(gt x0 t4483.1)] : List Coin)) (Kd.lent w kCoin with1_one) rfl rfl (fun _ => by kernel_rfl) rfl rfl (fun _ _ h => by have h' : _ = [] := h; subst h'; exact (Elems.cons (d := (Kd.lent w kCoin with1_one)) (f := []) ⟨⟨_, rfl, hk4492⟩, rfl⟩ .nil)) HM.emp) ?_
        rintro v4493 w4499 HM
        replace HM := HM.front 2 rfl rfl
        refine ops_does rfl (guard_none rfl) rfl rfl (does_append (Kd.lent w kCoin with1_one) rfl rfl rfl Tryz.underlying29 tsz77 rfl tby77 tz77 rfl rfl (leB_le e4496) HM) ?_
        rintro v4497 w4500 HM
        refine ops_ex rfl (guard_none rfl) rfl rfl (ex_assign rfl rfl) ?_
        refine ops_nil ?_
        refine at_block ?_
        refine at_then ?_
        refine run_region rfl ?_
        refine ops_ex rfl (guard_none rfl) rfl rfl (ex_add rfl rfl rfl) ?_
        refine ops_ex rfl (guard_none rfl) rfl rfl (ex_move rfl rfl) ?_
        refine ops_nil ?_
        replace HM := (HM.front 1 rfl rfl).drop
        exact at_again k4473 (ρ1 := [(0, p0), (6, v4497), (13, p1_0), (14, .int .i64 (x1.fIns.length : Int)), (15, .int .i64 (wrap64 (a4452 + 1)))]) (Nat.lt_succ_self _) ⟨_, _, _, ho4428, rfl, HM⟩ (Sub.cons rfl (Sub.cons rfl (Sub.cons rfl (Sub.cons rfl (Sub.cons rfl Sub.nil)))))
    · replace ho4428 := cond_f hb4475 ho4428
      refine run_exit ?_
      refine at_then_exit ?_
      refine at_then_exit ?_
      refine at_block_exit ?_
      exact at_mid (ρ' := [(6, v4449)]) ⟨_, _, (Option.some.inj ho4428), rfl, HM⟩ (Sub.cons rfl Sub.nil)
  · rintro _ w4501 ⟨v4424, a4425, rfl, rfl, HM⟩
    replace H := (thn_inr H)
    refine run_seq ?_
    obtain ⟨t4502, h4503, H⟩ := bind_some H
    obtain ⟨t4506, h4507, H⟩ := bind_some H
    refine run_region rfl ?_
    refine ops_ex rfl (guard_none rfl) rfl rfl (ex_move rfl rfl) ?_
    refine ops_does rfl (guard_none rfl) rfl rfl (does_callk rfl callok61 rfl (impl_ownCoins.calls (x0 := a4425) ((HM.own_rd 0 rfl).unlent (HM.old)) h4503)) ?_
    rintro u4504 w4516 ⟨_, rfl, hn⟩
    replace HM : Mem w [] w4516 [own kCoin 77 u4504 t4502, own (Kd.lent w kCoin with1_one) 77 v4424 a4425] := HM.call hn
    obtain ⟨F4510, hF4511, hFn4512, hFl4513, HMh4514, hcl4515⟩ := HM.hide (Ms := [own kCoin 77 u4504 t4502])
    refine ops_does rfl (guard_none rfl) rfl rfl (does_callk rfl callok84 rfl (impl_sorted.calls (x0 := t4502) (hide_olds _ _) hF4511 hFn4512 hFl4513 h4507)) ?_
    rintro u4508 w4517 ⟨_, rfl, hn⟩
    replace HM : Mem w [] w4517 [own kCoin 77 u4508 t4506, own (Kd.lent w kCoin with1_one) 77 v4424 a4425] := hcl4515 _ _ hn
    refine ops_ex rfl (guard_none rfl) rfl rfl (ex_assign rfl rfl) ?_
    refine ops_ex rfl (guard_none rfl) rfl rfl (ex_assign rfl rfl) ?_
    refine ops_nil ?_
    refine at_then ?_
    refine run_ret ?_
    replace HM := (HM.front 1 rfl rfl).drop
    have hR := Option.some.inj H
    subst hR
    exact at_ret2 rfl rfl rfl ⟨_, rfl, _, rfl, HM⟩

def impl_SpentBy.f (k : Nat) (x0 : List Coin) (x1 : Tx) : Option CoinsResult := ((impl_CoinsFault.f k x0).bind fun t4533 => (bif (t4533 != 0) then some (⟨t4533, ([] : List Coin)⟩ : CoinsResult) else ((impl_TxFault.f k x1).bind fun t4542 => (bif (t4542 != 0) then some (⟨t4542, ([] : List Coin)⟩ : CoinsResult) else ((impl_spentBy.f k x0 x1).bind fun t4548 => some (⟨t4548.2, t4548.1⟩ : CoinsResult))))))
theorem impl_SpentBy.calls {k : Nat} {x0 : List Coin} {x1 : Tx} {p0 : Value} {p1_0 : Value} {p1_1 : Value} {w : World} (hp0 : RdS kCoin w p0 x0) (hp1_0 : RdS kRef w p1_0 x1.fIns) (hp1_1 : RdS kOut w p1_1 x1.fOuts) {r : CoinsResult} (H : impl_SpentBy.f k x0 x1 = some r) :
    Calls Tryz.prog 12 ([p0, .agg #[(.int .i64 x1.fKind), (.int .i64 x1.fMember), p1_0, p1_1]] : List Value).toArray w (fun e w_ => ∃ v, e = .returned v ∧ ∃ u0 : Value, v = (.agg #[.int .i64 r.fCode, u0]) ∧ Mem w [] w_ [own kCoin 77 u0 r.fCoins]) := by
  have HM := Mem.start w
  refine calls_run (N := 30) Tryz.func12 rfl rfl rfl rfl ?_
  unfold impl_SpentBy.f at H
  refine run_seq ?_
  refine run_region rfl ?_
  refine ops_does rfl (guard_none rfl) rfl rfl (does_box (cs := [.int .i64 x1.fKind, .int .i64 x1.fMember, p1_0, p1_1]) rfl rfl rfl HM) ?_
  rintro _ w4528 ⟨b4522, rfl, HM⟩
  refine ops_does rfl (guard_none rfl) rfl rfl (does_alloc (cs := [.int .i64 0, .slice none 0 0]) rfl tz31 rfl HM) ?_
  rintro _ w4529 ⟨b4525, rfl, HM⟩
  refine ops_nil ?_
  refine at_then ?_
  refine run_seq ?_
  refine run_seq ?_
  obtain ⟨t4533, h4534, H⟩ := bind_some H
  refine run_region rfl ?_
  refine ops_ex rfl (guard_none rfl) rfl rfl (ex_move rfl rfl) ?_
  refine ops_does rfl (guard_none rfl) rfl rfl (does_callk rfl callok28 rfl (impl_CoinsFault.calls (x0 := x0) (HM.rd hp0) h4534)) ?_
  rintro _ w4535 ⟨rfl, hn⟩
  replace HM : Mem w [] w4535 [box b4525 31 [.int .i64 0, .slice none 0 0], box b4522 37 [.int .i64 x1.fKind, .int .i64 x1.fMember, p1_0, p1_1]] := HM.call hn
  refine ops_ex rfl (guard_none rfl) rfl rfl (ex_assign rfl rfl) ?_
  refine ops_nil ?_
  refine at_then ?_
  refine run_seq ?_
  refine run_region rfl ?_
  refine ops_ex rfl (guard_none rfl) rfl rfl (ex_move rfl rfl) ?_
  refine ops_ex rfl (guard_none rfl) rfl rfl (ex_neq rfl rfl rfl) ?_
  refine ops_nil ?_
  refine at_then ?_
  refine run_cond (b := (t4533 != 0)) rfl (fun hb4536 => ?_) (fun hb4536 => ?_)
  · replace H := cond_t hb4536 H
    refine run_seq ?_
    refine run_region rfl ?_
    refine ops_ex rfl (guard_none rfl) rfl rfl (ex_move rfl rfl) ?_
    refine ops_ex rfl (guard_none rfl) rfl rfl (ex_build (cells := #[(.int .i64 t4533), (.slice none 0 0)]) rfl rfl (by kernel_rfl)) ?_
    refine ops_doesS rfl (guard_none rfl) rfl (does_store (vs := [.int .i64 t4533, .slice none 0 0]) (cs' := [.int .i64 t4533, .slice none 0 0]) rfl rfl rfl rfl tsz31 (Ones.int (Ones.sl Ones.nil)) rfl rfl HM) ?_
    rintro w4537 HM
    refine ops_nil ?_
    refine at_then ?_
    refine run_ret ?_
    refine at_then_ret ?_
    replace HM := HM.empty kCoin 77 none
    replace HM := (HM.front 2 rfl rfl).drop
    replace HM := HM.front 1 rfl rfl
    have hcb0 := HM.box_at 0 rfl
    replace HM := (HM.front 0 rfl rfl).drop
    have hR := Option.some.inj H
    subst hR
    exact at_retN rfl rfl Tryz.underlying31 rfl tsz31 rfl hcb0 ⟨_, rfl, _, rfl, HM⟩
  · replace H := cond_f hb4536 H
    refine run_skip ?_
    refine at_then ?_
    refine run_seq ?_
    refine run_seq ?_
    obtain ⟨t4542, h4543, H⟩ := bind_some H
    refine run_region rfl ?_
    refine ops_ex rfl (guard_none rfl) rfl rfl (ex_loadN (cs := [(.int .i64 x1.fKind), (.int .i64 x1.fMember), p1_0, p1_1]) rfl rfl Tryz.underlying37 rfl tsz37 rfl ((HM.box_at 1 rfl).sub 0 4 rfl)) ?_
    refine ops_does rfl (guard_none rfl) rfl rfl (does_callk rfl callok38 rfl (impl_TxFault.calls (x0 := x1) (HM.rd hp1_0) (HM.rd hp1_1) h4543)) ?_
    rintro _ w4544 ⟨rfl, hn⟩
    replace HM : Mem w [] w4544 [box b4525 31 [.int .i64 0, .slice none 0 0], box b4522 37 [.int .i64 x1.fKind, .int .i64 x1.fMember, p1_0, p1_1]] := HM.call hn
    refine ops_ex rfl (guard_none rfl) rfl rfl (ex_assign rfl rfl) ?_
    refine ops_nil ?_
    refine at_then ?_
    refine run_seq ?_
    refine run_region rfl ?_
    refine ops_ex rfl (guard_none rfl) rfl rfl (ex_move rfl rfl) ?_
    refine ops_ex rfl (guard_none rfl) rfl rfl (ex_neq rfl rfl rfl) ?_
    refine ops_nil ?_
    refine at_then ?_
    refine run_cond (b := (t4542 != 0)) rfl (fun hb4545 => ?_) (fun hb4545 => ?_)
    · replace H := cond_t hb4545 H
      refine run_seq ?_
      refine run_region rfl ?_
      refine ops_ex rfl (guard_none rfl) rfl rfl (ex_move rfl rfl) ?_
      refine ops_ex rfl (guard_none rfl) rfl rfl (ex_build (cells := #[(.int .i64 t4542), (.slice none 0 0)]) rfl rfl (by kernel_rfl)) ?_
      refine ops_doesS rfl (guard_none rfl) rfl (does_store (vs := [.int .i64 t4542, .slice none 0 0]) (cs' := [.int .i64 t4542, .slice none 0 0]) rfl rfl rfl rfl tsz31 (Ones.int (Ones.sl Ones.nil)) rfl rfl HM) ?_
      rintro w4546 HM
      refine ops_nil ?_
      refine at_then ?_
      refine run_ret ?_
      refine at_then_ret ?_
      replace HM := HM.empty kCoin 77 none
      replace HM := (HM.front 2 rfl rfl).drop
      replace HM := HM.front 1 rfl rfl
      have hcb0 := HM.box_at 0 rfl
      replace HM := (HM.front 0 rfl rfl).drop
      have hR := Option.some.inj H
      subst hR
      exact at_retN rfl rfl Tryz.underlying31 rfl tsz31 rfl hcb0 ⟨_, rfl, _, rfl, HM⟩
    · replace H := cond_f hb4545 H
      refine run_skip ?_
      refine at_then ?_
      refine run_seq ?_
      obtain ⟨t4548, h4549, H⟩ := bind_some H
      refine run_region rfl ?_
      refine ops_ex rfl (guard_none rfl) rfl rfl (ex_move rfl rfl) ?_
      refine ops_ex rfl (guard_none rfl) rfl rfl (ex_loadN (cs := [(.int .i64 x1.fKind), (.int .i64 x1.fMember), p1_0, p1_1]) rfl rfl Tryz.underlying37 rfl tsz37 rfl ((HM.box_at 1 rfl).sub 0 4 rfl)) ?_
      refine ops_does rfl (guard_none rfl) rfl rfl (does_callk rfl callok39 rfl (impl_spentBy.calls (x0 := x0) (x1 := x1) (HM.rd hp0) (HM.rd hp1_0) (HM.rd hp1_1) h4549)) ?_
      rintro _ w4552 ⟨u4550, rfl, hn⟩
      replace HM : Mem w [] w4552 [own kCoin 77 u4550 t4548.1, box b4525 31 [.int .i64 0, .slice none 0 0], box b4522 37 [.int .i64 x1.fKind, .int .i64 x1.fMember, p1_0, p1_1]] := HM.call hn
      refine ops_ex rfl (guard_none rfl) rfl rfl (ex_move rfl rfl) ?_
      refine ops_ex rfl (guard_none rfl) rfl rfl (ex_extract rfl rfl rfl) ?_
      refine ops_ex rfl (guard_none rfl) rfl rfl (ex_extract rfl rfl rfl) ?_
      refine ops_ex rfl (guard_none rfl) rfl rfl (ex_assign rfl rfl) ?_
      refine ops_ex rfl (guard_none rfl) rfl rfl (ex_assign rfl rfl) ?_
      refine ops_nil ?_
      refine at_then ?_
      refine run_seq ?_
      refine run_region rfl ?_
      refine ops_ex rfl (guard_none rfl) rfl rfl (ex_move rfl rfl) ?_
      refine ops_ex rfl (guard_none rfl) rfl rfl (ex_move rfl rfl) ?_
      refine ops_ex rfl (guard_none rfl) rfl rfl (ex_build1 (fun u4550 => [(0, .int .i64 t4548.2), (1, u4550)]) (fun u4550 => #[.int .i64 t4548.2, u4550]) rfl rfl (fun _ _ _ => by kernel_rfl) (HM.own_rd 0 rfl).isSl) ?_
      replace HM := HM.front 1 rfl rfl
      refine ops_doesS rfl (guard_none rfl) rfl (does_store (vs := [.int .i64 t4548.2, u4550]) (cs' := [.int .i64 t4548.2, u4550]) rfl rfl rfl rfl tsz31 (Ones.int (Ones.rd (HM.own_rd 1 rfl) Ones.nil)) rfl rfl HM) ?_
      rintro w4553 HM
      refine ops_nil ?_
      refine at_then ?_
      refine run_ret ?_
      replace HM := (HM.front 2 rfl rfl).drop
      have hcb0 := HM.box_at 0 rfl
      replace HM := (HM.front 0 rfl rfl).drop
      have hR := Option.some.inj H
      subst hR
      exact at_retN rfl rfl Tryz.underlying31 rfl tsz31 rfl hcb0 ⟨_, rfl, _, rfl, HM⟩

def laws_eqRef.f (k : Nat) (x0 : Ref) (x1 : Ref) : Option Bool := (bif (x0.fTx != x1.fTx) then some false else (bif (x0.fAt != x1.fAt) then some false else some true))
theorem laws_eqRef.calls {k : Nat} {x0 : Ref} {x1 : Ref}  {w : World}  {r : Bool} (H : laws_eqRef.f k x0 x1 = some r) :
    Calls Tryz.prog 85 ([.agg #[(.int .i64 x0.fTx), (.int .i64 x0.fAt)], .agg #[(.int .i64 x1.fTx), (.int .i64 x1.fAt)]] : List Value).toArray w (fun e w_ => ∃ v, e = .returned v ∧ v = (.bool r) ∧ Mem w [] w_ []) := by
  have HM := Mem.start w
  refine calls_run (N := 15) Tryz.func85 rfl rfl rfl rfl ?_
  unfold laws_eqRef.f at H
  refine run_seq ?_
  refine run_region rfl ?_
  refine ops_does rfl (guard_none rfl) rfl rfl (does_box (cs := [.int .i64 x0.fTx, .int .i64 x0.fAt]) rfl rfl rfl HM) ?_
  rintro _ w4601 ⟨b4595, rfl, HM⟩
  refine ops_does rfl (guard_none rfl) rfl rfl (does_box (cs := [.int .i64 x1.fTx, .int .i64 x1.fAt]) rfl rfl rfl HM) ?_
  rintro _ w4602 ⟨b4598, rfl, HM⟩
  refine ops_ex rfl (guard_none rfl) rfl rfl (ex_assign rfl rfl) ?_
  refine ops_nil ?_
  refine at_then ?_
  refine run_seq ?_
  refine run_seq ?_
  refine run_region rfl ?_
  refine ops_ex rfl (guard_none rfl) rfl rfl (ex_fieldAddr (off' := 0) rfl rfl Tryz.underlying56 rfl tsz2 rfl) ?_
  refine ops_ex rfl (guard_none rfl) rfl rfl (ex_load1 rfl rfl Tryz.underlying2 rfl ((HM.box_at 1 rfl) 0 _ rfl)) ?_
  refine ops_ex rfl (guard_none rfl) rfl rfl (ex_fieldAddr (off' := 0) rfl rfl Tryz.underlying56 rfl tsz2 rfl) ?_
  refine ops_ex rfl (guard_none rfl) rfl rfl (ex_load1 rfl rfl Tryz.underlying2 rfl ((HM.box_at 0 rfl) 0 _ rfl)) ?_
  refine ops_ex rfl (guard_none rfl) rfl rfl (ex_neq rfl rfl rfl) ?_
  refine ops_nil ?_
  refine at_then ?_
  refine run_cond (b := (x0.fTx != x1.fTx)) rfl (fun hb4604 => ?_) (fun hb4604 => ?_)
  · replace H := cond_t hb4604 H
    refine run_seq ?_
    refine run_region rfl ?_
    refine ops_ex rfl (guard_none rfl) rfl rfl (ex_assign rfl rfl) ?_
    refine ops_nil ?_
    refine at_then ?_
    refine run_ret ?_
    refine at_then_ret ?_
    replace HM := (HM.front 0 rfl rfl).drop
    replace HM := (HM.front 0 rfl rfl).drop
    have hR := Option.some.inj H
    subst hR
    exact at_ret1 rfl rfl ⟨_, rfl, rfl, HM⟩
  · replace H := cond_f hb4604 H
    refine run_skip ?_
    refine at_then ?_
    refine run_seq ?_
    refine run_seq ?_
    refine run_region rfl ?_
    refine ops_ex rfl (guard_none rfl) rfl rfl (ex_fieldAddr (off' := 1) rfl rfl Tryz.underlying56 rfl tsz2 rfl) ?_
    refine ops_ex rfl (guard_none rfl) rfl rfl (ex_load1 rfl rfl Tryz.underlying2 rfl ((HM.box_at 1 rfl) 1 _ rfl)) ?_
    refine ops_ex rfl (guard_none rfl) rfl rfl (ex_fieldAddr (off' := 1) rfl rfl Tryz.underlying56 rfl tsz2 rfl) ?_
    refine ops_ex rfl (guard_none rfl) rfl rfl (ex_load1 rfl rfl Tryz.underlying2 rfl ((HM.box_at 0 rfl) 1 _ rfl)) ?_
    refine ops_ex rfl (guard_none rfl) rfl rfl (ex_neq rfl rfl rfl) ?_
    refine ops_nil ?_
    refine at_then ?_
    refine run_cond (b := (x0.fAt != x1.fAt)) rfl (fun hb4605 => ?_) (fun hb4605 => ?_)
    · replace H := cond_t hb4605 H
      refine run_seq ?_
      refine run_region rfl ?_
      refine ops_ex rfl (guard_none rfl) rfl rfl (ex_assign rfl rfl) ?_
      refine ops_nil ?_
      refine at_then ?_
      refine run_ret ?_
      refine at_then_ret ?_
      replace HM := (HM.front 0 rfl rfl).drop
      replace HM := (HM.front 0 rfl rfl).drop
      have hR := Option.some.inj H
      subst hR
      exact at_ret1 rfl rfl ⟨_, rfl, rfl, HM⟩
    · replace H := cond_f hb4605 H
      refine run_skip ?_
      refine at_then ?_
      refine run_seq ?_
      refine run_region rfl ?_
      refine ops_ex rfl (guard_none rfl) rfl rfl (ex_assign rfl rfl) ?_
      refine ops_nil ?_
      refine at_then ?_
      refine run_ret ?_
      replace HM := (HM.front 0 rfl rfl).drop
      replace HM := (HM.front 0 rfl rfl).drop
      have hR := Option.some.inj H
      subst hR
      exact at_ret1 rfl rfl ⟨_, rfl, rfl, HM⟩
end Go.Proofs.YtcamddjlhchkfaaGreat.Zk
