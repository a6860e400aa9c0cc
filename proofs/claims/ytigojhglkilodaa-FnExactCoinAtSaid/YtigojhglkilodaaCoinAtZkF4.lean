/- What functions of the program compute, each as a plain function, and that they do. Conditions: as each theorem states them. -/
import Derived.Test.YtigojhglkilodaaCoinAtZkF3
namespace Go.Proofs.Ytigojhglkilodaa.Zk
open Go Go.RowKit Go.IntWalk Go.Proofs
set_option linter.unusedVariables false
set_option linter.unusedSimpArgs false
set_option maxRecDepth 100000
set_option maxHeartbeats 4000000
def impl_findCoin.f (k : Nat) (x0 : List Coin) (x1 : Ref) : Option (Int × Bool) := ((slices_BinarySearchFunc_impl_Coin.f k x0 x1).bind fun t2425 => some (t2425.1, t2425.2))
theorem impl_findCoin.calls {k : Nat} {x0 : List Coin} {x1 : Ref} {p0 : Value} {w : World} (hp0 : RdS kCoin w p0 x0) {r : Int × Bool} (H : impl_findCoin.f k x0 x1 = some r) :
    Calls Try.prog 82 ([p0, .agg #[(.int .i64 x1.fTx), (.int .i64 x1.fAt)]] : List Value).toArray w (fun e w_ => ∃ v, e = .returned v ∧ v = (.tuple #[.int .i64 r.1, .bool r.2]) ∧ Mem w [] w_ []) := by
  have HM := Mem.start w
  refine calls_run (N := 11) Try.func82 rfl rfl rfl rfl ?_
  unfold impl_findCoin.f at H
  refine run_seq ?_
  refine run_region rfl ?_
  refine ops_does rfl (guard_none rfl) rfl rfl (does_box (cs := [.int .i64 x1.fTx, .int .i64 x1.fAt]) rfl rfl rfl HM) ?_
  rintro _ w2424 ⟨b2421, rfl, HM⟩
  refine ops_ex rfl (guard_none rfl) rfl rfl (ex_assign rfl rfl) ?_
  refine ops_ex rfl (guard_none rfl) rfl rfl (ex_assign rfl rfl) ?_
  refine ops_nil ?_
  refine at_then ?_
  refine run_seq ?_
  obtain ⟨t2425, h2426, H⟩ := bind_some H
  refine run_region rfl ?_
  refine ops_ex rfl (guard_none rfl) rfl rfl (ex_move rfl rfl) ?_
  refine ops_ex rfl (guard_none rfl) rfl rfl (ex_loadN (cs := [(.int .i64 x1.fTx), (.int .i64 x1.fAt)]) rfl rfl Try.underlying54 rfl tsz54 rfl ((HM.box_at 0 rfl).sub 0 2 rfl)) ?_
  refine ops_does rfl (guard_none rfl) rfl rfl (does_callk rfl callok129 rfl (slices_BinarySearchFunc_impl_Coin.calls (x0 := x0) (x1 := x1) (HM.rd hp0) h2426)) ?_
  rintro _ w2427 ⟨rfl, hn⟩
  replace HM : Mem w [] w2427 [box b2421 54 [.int .i64 x1.fTx, .int .i64 x1.fAt]] := HM.call hn
  refine ops_ex rfl (guard_none rfl) rfl rfl (ex_extract rfl rfl rfl) ?_
  refine ops_ex rfl (guard_none rfl) rfl rfl (ex_extract rfl rfl rfl) ?_
  refine ops_ex rfl (guard_none rfl) rfl rfl (ex_assign rfl rfl) ?_
  refine ops_ex rfl (guard_none rfl) rfl rfl (ex_assign rfl rfl) ?_
  refine ops_nil ?_
  refine at_then ?_
  refine run_ret ?_
  replace HM := (HM.front 0 rfl rfl).drop
  have hR := Option.some.inj H
  subst hR
  exact at_ret2 rfl rfl rfl ⟨_, rfl, rfl, HM⟩

def slices_Clone_int64.f (k : Nat) (x0 : List Int) : Option ((List Int)) := (chk (leB ((([] : List Int).length + x0.length) * 8) 140737488355328) (some (([] : List Int) ++ x0)))
theorem slices_Clone_int64.calls {k : Nat} {x0 : List Int} {p0 : Value} {w : World} (hp0 : RdS kInt w p0 x0) {r : (List Int)} (H : slices_Clone_int64.f k x0 = some r) :
    Calls Try.prog 180 ([p0] : List Value).toArray w (fun e w_ => ∃ v, e = .returned v ∧ ∃ u0 : Value, v = u0 ∧ Mem w [] w_ [own kInt 2 u0 r]) := by
  have HM := Mem.start w
  refine calls_run (N := 8) Try.func180 rfl rfl rfl rfl ?_
  unfold slices_Clone_int64.f at H
  refine run_seq ?_
  refine run_region rfl ?_
  refine ops_ex rfl (guard_none rfl) rfl rfl (ex_assign rfl rfl) ?_
  refine ops_nil ?_
  refine at_then ?_
  refine run_seq ?_
  refine run_seq ?_
  refine run_region rfl ?_
  refine ops_ex rfl (guard_none rfl) rfl rfl (ex_move rfl rfl) ?_
  refine ops_exE rfl (guard_none rfl) rfl rfl (ex_isnil rfl rfl rfl Try.underlying111 hp0) ?_
  rintro _ ⟨b2469, rfl, hb2470⟩
  refine ops_nil ?_
  refine at_then ?_
  refine run_cond (b := b2469) rfl (fun hb2471 => ?_) (fun hb2471 => ?_)
  · have hx_ := hb2470 hb2471
    subst hx_
    obtain ⟨_, H⟩ := chk_some H
    replace H : some ([] : List Int) = r := H
    refine run_seq ?_
    refine run_region rfl ?_
    refine ops_ex rfl (guard_none rfl) rfl rfl (ex_assign rfl rfl) ?_
    refine ops_nil ?_
    refine at_then ?_
    refine run_ret ?_
    refine at_then_ret ?_
    replace HM := HM.empty kInt 2 none
    have hR := Option.some.inj H
    subst hR
    exact at_ret1 rfl rfl ⟨_, rfl, _, rfl, HM⟩
  · skip
    refine run_skip ?_
    refine at_then ?_
    refine run_seq ?_
    obtain ⟨e2475, H⟩ := chk_some H
    refine run_region rfl ?_
    refine ops_does rfl (guard_none rfl) rfl rfl (does_lit (e := 2) (cs := []) (xs := ([] : List Int)) kInt rfl rfl (fun _ => by kernel_rfl) rfl rfl (fun _ _ h => by have h' : _ = [] := h; subst h'; exact .nil) HM.emp) ?_
    rintro v2472 w2478 HM
    refine ops_ex rfl (guard_none rfl) rfl rfl (ex_move rfl rfl) ?_
    refine ops_does rfl (guard_none rfl) rfl rfl (does_appendR kInt flat_plain rfl rfl rfl Try.underlying111 tsz2 rfl tby2 tz2 rfl rfl (leB_le e2475) (HM.rd hp0) HM) ?_
    rintro v2476 w2479 HM
    refine ops_ex rfl (guard_none rfl) rfl rfl (ex_assign rfl rfl) ?_
    refine ops_nil ?_
    refine at_then ?_
    refine run_ret ?_
    have hR := Option.some.inj H
    subst hR
    exact at_ret1 rfl rfl ⟨_, rfl, _, rfl, HM⟩

def impl_ownRule.f (k : Nat) (x0 : Rule) : Option Rule := ((slices_Clone_int64.f k x0.fKeys).bind fun t2493 => some (⟨t2493, x0.fNeed, x0.fAfter⟩ : Rule))
theorem impl_ownRule.calls {k : Nat} {x0 : Rule} {p0_0 : Value} {w : World} (hp0_0 : RdS kInt w p0_0 x0.fKeys) {r : Rule} (H : impl_ownRule.f k x0 = some r) :
    Calls Try.prog 163 ([.agg #[p0_0, (.int .i64 x0.fNeed), (.int .i64 x0.fAfter)]] : List Value).toArray w (fun e w_ => ∃ v, e = .returned v ∧ ∃ u0 : Value, v = (.agg #[u0, .int .i64 r.fNeed, .int .i64 r.fAfter]) ∧ Mem w [] w_ [own kInt 2 u0 r.fKeys]) := by
  have HM := Mem.start w
  refine calls_run (N := 8) Try.func163 rfl rfl rfl rfl ?_
  unfold impl_ownRule.f at H
  refine run_seq ?_
  refine run_region rfl ?_
  refine ops_does rfl (guard_none rfl) rfl rfl (does_box (cs := [p0_0, .int .i64 x0.fNeed, .int .i64 x0.fAfter]) rfl rfl rfl HM) ?_
  rintro _ w2491 ⟨b2485, rfl, HM⟩
  refine ops_does rfl (guard_none rfl) rfl rfl (does_alloc (cs := [.slice none 0 0, .int .i64 0, .int .i64 0]) rfl tz119 rfl HM) ?_
  rintro _ w2492 ⟨b2488, rfl, HM⟩
  refine ops_nil ?_
  refine at_then ?_
  refine run_seq ?_
  obtain ⟨t2493, h2494, H⟩ := bind_some H
  refine run_region rfl ?_
  refine ops_ex rfl (guard_none rfl) rfl rfl (ex_fieldAddr (off' := 0) rfl rfl Try.underlying119 rfl tsz111 rfl) ?_
  refine ops_ex rfl (guard_none rfl) rfl rfl (ex_load1 rfl rfl Try.underlying111 rfl ((HM.box_at 1 rfl) 0 _ rfl)) ?_
  refine ops_does rfl (guard_none rfl) rfl rfl (does_callk rfl callok180 rfl (slices_Clone_int64.calls (x0 := x0.fKeys) (HM.rd hp0_0) h2494)) ?_
  rintro u2495 w2497 ⟨_, rfl, hn⟩
  replace HM : Mem w [] w2497 [own kInt 2 u2495 t2493, box b2488 119 [.slice none 0 0, .int .i64 0, .int .i64 0], box b2485 119 [p0_0, .int .i64 x0.fNeed, .int .i64 x0.fAfter]] := HM.call hn
  refine ops_ex rfl (guard_none rfl) rfl rfl (ex_fieldAddr (off' := 0) rfl rfl Try.underlying119 rfl tsz111 rfl) ?_
  replace HM := HM.front 2 rfl rfl
  refine ops_doesS rfl (guard_none rfl) rfl (does_store (vs := [u2495]) (cs' := [u2495, .int .i64 x0.fNeed, .int .i64 x0.fAfter]) rfl rfl rfl (rd_cells (HM.own_rd 1 rfl)) tsz111 (Ones.rd (HM.own_rd 1 rfl) Ones.nil) rfl rfl HM) ?_
  rintro w2498 HM
  refine ops_nil ?_
  refine at_then ?_
  refine run_seq ?_
  refine run_region rfl ?_
  refine ops_ex rfl (guard_none rfl) rfl rfl (ex_loadN (cs := [u2495, (.int .i64 x0.fNeed), (.int .i64 x0.fAfter)]) rfl rfl Try.underlying119 rfl tsz119 rfl ((HM.box_at 0 rfl).sub 0 3 rfl)) ?_
  replace HM := HM.front 2 rfl rfl
  refine ops_doesS rfl (guard_none rfl) rfl (does_store (vs := [u2495, .int .i64 x0.fNeed, .int .i64 x0.fAfter]) (cs' := [u2495, .int .i64 x0.fNeed, .int .i64 x0.fAfter]) rfl rfl rfl rfl tsz119 (Ones.rd (HM.own_rd 2 rfl) (Ones.int (Ones.int Ones.nil))) rfl rfl HM) ?_
  rintro w2499 HM
  refine ops_nil ?_
  refine at_then ?_
  refine run_ret ?_
  replace HM := (HM.front 1 rfl rfl).drop
  have hcb0 := HM.box_at 0 rfl
  replace HM := (HM.front 0 rfl rfl).drop
  have hR := Option.some.inj H
  subst hR
  exact at_retN rfl rfl Try.underlying119 rfl tsz119 rfl hcb0 ⟨_, rfl, _, rfl, HM⟩

def impl_ownOut.f (k : Nat) (x0 : Out) : Option Out := ((impl_ownRule.f k x0.fRule).bind fun t2512 => some (⟨x0.fValue, t2512⟩ : Out))
theorem impl_ownOut.calls {k : Nat} {x0 : Out} {p0_0 : Value} {w : World} (hp0_0 : RdS kInt w p0_0 x0.fRule.fKeys) {r : Out} (H : impl_ownOut.f k x0 = some r) :
    Calls Try.prog 131 ([.agg #[(.int .i64 x0.fValue), p0_0, (.int .i64 x0.fRule.fNeed), (.int .i64 x0.fRule.fAfter)]] : List Value).toArray w (fun e w_ => ∃ v, e = .returned v ∧ ∃ u0 : Value, v = (.agg #[.int .i64 r.fValue, u0, .int .i64 r.fRule.fNeed, .int .i64 r.fRule.fAfter]) ∧ Mem w [] w_ [own kInt 2 u0 r.fRule.fKeys]) := by
  have HM := Mem.start w
  refine calls_run (N := 9) Try.func131 rfl rfl rfl rfl ?_
  unfold impl_ownOut.f at H
  refine run_seq ?_
  refine run_region rfl ?_
  refine ops_does rfl (guard_none rfl) rfl rfl (does_box (cs := [.int .i64 x0.fValue, p0_0, .int .i64 x0.fRule.fNeed, .int .i64 x0.fRule.fAfter]) rfl rfl rfl HM) ?_
  rintro _ w2510 ⟨b2504, rfl, HM⟩
  refine ops_does rfl (guard_none rfl) rfl rfl (does_alloc (cs := [.int .i64 0, .slice none 0 0, .int .i64 0, .int .i64 0]) rfl tz121 rfl HM) ?_
  rintro _ w2511 ⟨b2507, rfl, HM⟩
  refine ops_nil ?_
  refine at_then ?_
  refine run_seq ?_
  obtain ⟨t2512, h2513, H⟩ := bind_some H
  refine run_drawf (fun w_ => Mem w [] w_ [box b2504 121 [.int .i64 x0.fValue, p0_0, .int .i64 x0.fRule.fNeed, .int .i64 x0.fRule.fAfter]]) [(0, true), (1, true), (2, true), (3, true), (4, false), (5, true), (6, false)] mixed rfl rfl (by kernel_rfl) ?_
  replace HM := HM.grow (fr_drew _)
  have hS := Mem.suf (M := [box b2507 121 [.int .i64 0, .slice none 0 0, .int .i64 0, .int .i64 0]]) HM
  refine drwp_take rfl (guard_none rfl) rfl rfl (fun w_ hS_ => (ex_fieldAddr (off' := 0) rfl rfl Try.underlying121 rfl tsz2 rfl)) hS ?_
  refine drwp_take rfl (guard_none rfl) rfl rfl (fun w_ hS_ => (ex_load1 rfl rfl Try.underlying2 rfl ((hS_.box_at 0 rfl) 0 _ rfl))) hS ?_
  refine drwp_take rfl (guard_none rfl) rfl rfl (fun w_ hS_ => (ex_fieldAddr (off' := 1) rfl rfl Try.underlying121 rfl tsz119 rfl)) hS ?_
  refine drwp_take rfl (guard_none rfl) rfl rfl (fun w_ hS_ => (ex_loadN (cs := [p0_0, (.int .i64 x0.fRule.fNeed), (.int .i64 x0.fRule.fAfter)]) rfl rfl Try.underlying119 rfl tsz119 rfl ((hS_.box_at 0 rfl).sub 1 3 rfl))) hS ?_
  refine drwp_one rfl (guard_none rfl) rfl rfl (does_callk rfl callok163 rfl (impl_ownRule.calls (x0 := x0.fRule) (HM.rd hp0_0) h2513)) ?_
  rintro _ w2516 ⟨u2514, rfl, hn⟩
  replace HM : Mem w [] w2516 [own kInt 2 u2514 t2512.fKeys, box b2507 121 [.int .i64 0, .slice none 0 0, .int .i64 0, .int .i64 0], box b2504 121 [.int .i64 x0.fValue, p0_0, .int .i64 x0.fRule.fNeed, .int .i64 x0.fRule.fAfter]] := HM.call hn
  refine ⟨Mem.suf (M := [own kInt 2 u2514 t2512.fKeys, box b2507 121 [.int .i64 0, .slice none 0 0, .int .i64 0, .int .i64 0]]) HM, ?_⟩
  have hS := Mem.suf (M := [own kInt 2 u2514 t2512.fKeys, box b2507 121 [.int .i64 0, .slice none 0 0, .int .i64 0, .int .i64 0]]) HM
  refine drwp_take rfl (guard_none rfl) rfl rfl (fun w_ hS_ => (ex_build1 (fun u2514 => [(0, .int .i64 x0.fValue), (1, .agg #[u2514, (.int .i64 t2512.fNeed), (.int .i64 t2512.fAfter)])]) (fun u2514 => #[.int .i64 x0.fValue, u2514, .int .i64 t2512.fNeed, .int .i64 t2512.fAfter]) rfl rfl (fun _ _ _ => by kernel_rfl) (HM.own_rd 0 rfl).isSl)) hS ?_
  replace HM := HM.front 1 rfl rfl
  refine drwp_oneS rfl (guard_none rfl) rfl (does_store (vs := [.int .i64 x0.fValue, u2514, .int .i64 t2512.fNeed, .int .i64 t2512.fAfter]) (cs' := [.int .i64 x0.fValue, u2514, .int .i64 t2512.fNeed, .int .i64 t2512.fAfter]) rfl rfl rfl rfl tsz121 (Ones.int (Ones.rd (HM.own_rd 1 rfl) (Ones.int (Ones.int Ones.nil)))) rfl rfl HM) ?_
  rintro w2517 HM
  refine ⟨Mem.suf (M := [box b2507 121 [.int .i64 x0.fValue, u2514, .int .i64 t2512.fNeed, .int .i64 t2512.fAfter], own kInt 2 u2514 t2512.fKeys]) HM, ?_⟩
  have hS := Mem.suf (M := [box b2507 121 [.int .i64 x0.fValue, u2514, .int .i64 t2512.fNeed, .int .i64 t2512.fAfter], own kInt 2 u2514 t2512.fKeys]) HM
  refine drwp_done ?_
  refine at_then ?_
  refine run_ret ?_
  replace HM := (HM.front 2 rfl rfl).drop
  have hcb0 := HM.box_at 0 rfl
  replace HM := (HM.front 0 rfl rfl).drop
  have hR := Option.some.inj H
  subst hR
  exact at_retN rfl rfl Try.underlying121 rfl tsz121 rfl hcb0 ⟨_, rfl, _, rfl, HM⟩

def impl_ownCoins.l0 (x0 : List Coin) : Nat → (List Coin) → Int → Option ((List Coin))
  | 0, _, _ => none
  | k + 1, a2659, a2661 => (bif (decide (a2661 < (x0.length : Int))) then (chk (idxOk a2661 x0.length) ((impl_ownOut.f k ((gt x0 a2661).fOut)).bind fun t2692 => (chk (leB ((a2659.length + ([(⟨(gt x0 a2661).fRef, t2692, (gt x0 a2661).fHeight, (gt x0 a2661).fMined⟩ : Coin)] : List Coin).length) * 80) 140737488355328) (impl_ownCoins.l0 x0 k (a2659 ++ ([(⟨(gt x0 a2661).fRef, t2692, (gt x0 a2661).fHeight, (gt x0 a2661).fMined⟩ : Coin)] : List Coin)) (wrap64 (a2661 + 1)))))) else some a2659)
theorem impl_ownCoins.l0_z (x0 : List Coin) (a2659 : List Coin) (a2661 : Int) : impl_ownCoins.l0 x0 0 a2659 a2661 = none := rfl
theorem impl_ownCoins.l0_s (x0 : List Coin) (k : Nat) (a2659 : List Coin) (a2661 : Int) : impl_ownCoins.l0 x0 (k + 1) a2659 a2661 = (bif (decide (a2661 < (x0.length : Int))) then (chk (idxOk a2661 x0.length) ((impl_ownOut.f k ((gt x0 a2661).fOut)).bind fun t2692 => (chk (leB ((a2659.length + ([(⟨(gt x0 a2661).fRef, t2692, (gt x0 a2661).fHeight, (gt x0 a2661).fMined⟩ : Coin)] : List Coin).length) * 80) 140737488355328) (impl_ownCoins.l0 x0 k (a2659 ++ ([(⟨(gt x0 a2661).fRef, t2692, (gt x0 a2661).fHeight, (gt x0 a2661).fMined⟩ : Coin)] : List Coin)) (wrap64 (a2661 + 1)))))) else some a2659) := rfl
def impl_ownCoins.f (k : Nat) (x0 : List Coin) : Option ((List Coin)) := ((impl_ownCoins.l0 x0 k ([] : List Coin) 0).bind (fun a2636 => some a2636))
theorem impl_ownCoins.calls {k : Nat} {x0 : List Coin} {p0 : Value} {w : World} (hp0 : RdS kCoin w p0 x0) {r : (List Coin)} (H : impl_ownCoins.f k x0 = some r) :
    Calls Try.prog 83 ([p0] : List Value).toArray w (fun e w_ => ∃ v, e = .returned v ∧ ∃ u0 : Value, v = u0 ∧ Mem w [] w_ [own kCoin 123 u0 r]) := by
  have HM := Mem.start w
  refine calls_run (N := 23) Try.func83 rfl rfl rfl rfl ?_
  unfold impl_ownCoins.f at H
  refine run_seq ?_
  refine run_region rfl ?_
  refine ops_ex rfl (guard_none rfl) rfl rfl (ex_assign rfl rfl) ?_
  refine ops_nil ?_
  refine at_then ?_
  refine run_seq ?_
  refine run_region rfl ?_
  refine ops_does rfl (guard_none rfl) rfl rfl (does_lit (e := 123) (cs := []) (xs := ([] : List Coin)) kCoin rfl rfl (fun _ => by kernel_rfl) rfl rfl (fun _ _ h => by have h' : _ = [] := h; subst h'; exact .nil) HM.emp) ?_
  rintro v2573 w2576 HM
  refine ops_ex rfl (guard_none rfl) rfl rfl (ex_assign rfl rfl) ?_
  refine ops_nil ?_
  refine at_then ?_
  obtain ⟨o2638, ho2639, H⟩ := bind_some H
  refine run_mid (fun ρ_ w_ => ∃ v2635 : Value, ∃ a2636 : List Coin, a2636 = o2638 ∧ ρ_ = [(3, v2635)] ∧ Mem w [] w_ [own kCoin 123 v2635 a2636]) ?_ ?_
  · clear H
    refine run_seq ?_
    refine run_region rfl ?_
    refine ops_ex rfl (guard_none rfl) rfl rfl (ex_move rfl rfl) ?_
    refine ops_ex rfl (guard_none rfl) rfl rfl (ex_len (d := kCoin) (xs := x0) rfl rfl Try.underlying44 hp0) ?_
    refine ops_ex rfl (guard_none rfl) rfl rfl (ex_move rfl rfl) ?_
    refine ops_nil ?_
    refine at_then ?_
    refine run_block ?_
    refine run_loop (fun k_ ρ_ w_ => ∃ v2658 : Value, ∃ a2659 : List Coin, ∃ a2661 : Int, impl_ownCoins.l0 x0 k_ a2659 a2661 = some o2638 ∧ ρ_ = [(3, v2658), (7, p0), (8, .int .i64 (x0.length : Int)), (9, .int .i64 a2661)] ∧ Mem w [] w_ [own kCoin 123 v2658 a2659]) k (ρ1 := [(3, v2573), (7, p0), (8, .int .i64 (x0.length : Int)), (9, .int .i64 0)]) ⟨_, _, _, ho2639, rfl, HM⟩ (Sub.cons rfl (Sub.cons rfl (Sub.cons rfl (Sub.cons rfl Sub.nil)))) ?_
    clear HM ho2639
    rintro k2680 _ w2681 ⟨v2658, a2659, a2661, ho2639, rfl, HM⟩
    obtain _ | k2680 := k2680
    · exact nomatch ((impl_ownCoins.l0_z x0 a2659 a2661).symm.trans ho2639)
    replace ho2639 := (impl_ownCoins.l0_s x0 k2680 a2659 a2661).symm.trans ho2639
    refine run_seq ?_
    refine run_region rfl ?_
    refine ops_ex rfl (guard_none rfl) rfl rfl (ex_lss rfl rfl rfl) ?_
    refine ops_nil ?_
    refine at_then ?_
    refine run_seq ?_
    refine run_cond (b := (decide (a2661 < (x0.length : Int)))) rfl (fun hb2682 => ?_) (fun hb2682 => ?_)
    · replace ho2639 := cond_t hb2682 ho2639
      refine run_skip ?_
      refine at_then ?_
      refine run_seq ?_
      refine run_block ?_
      refine run_seq ?_
      obtain ⟨e2683, ho2639⟩ := chk_some ho2639
      refine run_region rfl ?_
      obtain ⟨kv2685, hc2684, hk2686⟩ : ∃ u, CellsAt _ (sb p0) (so p0 + (a2661).toNat * 8) [(.int .i64 ((gt x0 a2661).fRef.fTx)), (.int .i64 ((gt x0 a2661).fRef.fAt)), (.int .i64 ((gt x0 a2661).fOut.fValue)), u, (.int .i64 ((gt x0 a2661).fOut.fRule.fNeed)), (.int .i64 ((gt x0 a2661).fOut.fRule.fAfter)), (.int .i64 ((gt x0 a2661).fHeight)), (.bool ((gt x0 a2661).fMined))] ∧ RdS kInt _ u ((gt x0 a2661).fOut.fRule.fKeys) := rd_with1 hp0 e2683
      refine ops_ex rfl (guard_none rfl) rfl rfl (ex_indexAddr (d := kCoin) rfl rfl rfl Try.underlying44 tsz123 hp0 (idx_lo e2683) (idx_hi e2683)) ?_
      refine ops_ex rfl (guard_none rfl) rfl rfl (ex_loadN (cs := [(.int .i64 ((gt x0 a2661).fRef.fTx)), (.int .i64 ((gt x0 a2661).fRef.fAt)), (.int .i64 ((gt x0 a2661).fOut.fValue)), kv2685, (.int .i64 ((gt x0 a2661).fOut.fRule.fNeed)), (.int .i64 ((gt x0 a2661).fOut.fRule.fAfter)), (.int .i64 ((gt x0 a2661).fHeight)), (.bool ((gt x0 a2661).fMined))]) rfl rfl Try.underlying123 rfl tsz123 rfl ((HM.at_ hc2684).sub 0 8 rfl)) ?_
      refine ops_does rfl (guard_none rfl) rfl rfl (does_alloc (cs := [.int .i64 0, .int .i64 0, .int .i64 0, .slice none 0 0, .int .i64 0, .int .i64 0, .int .i64 0, .bool false]) rfl tz123 rfl HM) ?_
      rintro _ w2690 ⟨b2687, rfl, HM⟩
      refine ops_doesS rfl (guard_none rfl) rfl (does_store (vs := [.int .i64 ((gt x0 a2661).fRef.fTx), .int .i64 ((gt x0 a2661).fRef.fAt), .int .i64 ((gt x0 a2661).fOut.fValue), kv2685, .int .i64 ((gt x0 a2661).fOut.fRule.fNeed), .int .i64 ((gt x0 a2661).fOut.fRule.fAfter), .int .i64 ((gt x0 a2661).fHeight), .bool ((gt x0 a2661).fMined)]) (cs' := [.int .i64 ((gt x0 a2661).fRef.fTx), .int .i64 ((gt x0 a2661).fRef.fAt), .int .i64 ((gt x0 a2661).fOut.fValue), kv2685, .int .i64 ((gt x0 a2661).fOut.fRule.fNeed), .int .i64 ((gt x0 a2661).fOut.fRule.fAfter), .int .i64 ((gt x0 a2661).fHeight), .bool ((gt x0 a2661).fMined)]) rfl rfl rfl rfl tsz123 (Ones.int (Ones.int (Ones.int (Ones.rd hk2686 (Ones.int (Ones.int (Ones.int (Ones.bool Ones.nil)))))))) rfl rfl HM) ?_
      rintro w2691 HM
      refine ops_nil ?_
      refine at_then ?_
      refine run_seq ?_
      obtain ⟨t2692, h2693, ho2639⟩ := bind_some ho2639
      refine run_region rfl ?_
      refine ops_ex rfl (guard_none rfl) rfl rfl (ex_fieldAddr (off' := 2) rfl rfl Try.underlying123 rfl tsz121 rfl) ?_
      refine ops_ex rfl (guard_none rfl) rfl rfl (ex_loadN (cs := [(.int .i64 ((gt x0 a2661).fOut.fValue)), kv2685, (.int .i64 ((gt x0 a2661).fOut.fRule.fNeed)), (.int .i64 ((gt x0 a2661).fOut.fRule.fAfter))]) rfl rfl Try.underlying121 rfl tsz121 rfl ((HM.box_at 0 rfl).sub 2 4 rfl)) ?_
      refine ops_does rfl (guard_none rfl) rfl rfl (does_callk rfl callok131 rfl (impl_ownOut.calls (x0 := (gt x0 a2661).fOut) (HM.rd hk2686) h2693)) ?_
      rintro _ w2696 ⟨u2694, rfl, hn⟩
      replace HM : Mem w [] w2696 [own kInt 2 u2694 t2692.fRule.fKeys, box b2687 123 [.int .i64 ((gt x0 a2661).fRef.fTx), .int .i64 ((gt x0 a2661).fRef.fAt), .int .i64 ((gt x0 a2661).fOut.fValue), kv2685, .int .i64 ((gt x0 a2661).fOut.fRule.fNeed), .int .i64 ((gt x0 a2661).fOut.fRule.fAfter), .int .i64 ((gt x0 a2661).fHeight), .bool ((gt x0 a2661).fMined)], own kCoin 123 v2658 a2659] := HM.call hn
      refine ops_ex rfl (guard_none rfl) rfl rfl (ex_fieldAddr (off' := 2) rfl rfl Try.underlying123 rfl tsz121 rfl) ?_
      replace HM := HM.front 1 rfl rfl
      refine ops_doesS rfl (guard_none rfl) rfl (does_store (vs := [.int .i64 t2692.fValue, u2694, .int .i64 t2692.fRule.fNeed, .int .i64 t2692.fRule.fAfter]) (cs' := [.int .i64 ((gt x0 a2661).fRef.fTx), .int .i64 ((gt x0 a2661).fRef.fAt), .int .i64 t2692.fValue, u2694, .int .i64 t2692.fRule.fNeed, .int .i64 t2692.fRule.fAfter, .int .i64 ((gt x0 a2661).fHeight), .bool ((gt x0 a2661).fMined)]) rfl rfl rfl rfl tsz121 (Ones.int (Ones.rd (HM.own_rd 1 rfl) (Ones.int (Ones.int Ones.nil)))) rfl rfl HM) ?_
      rintro w2697 HM
      refine ops_nil ?_
      refine at_then ?_
      obtain ⟨e2701, ho2639⟩ := chk_some ho2639
      refine run_region rfl ?_
      refine ops_ex rfl (guard_none rfl) rfl rfl (ex_move rfl rfl) ?_
      refine ops_ex rfl (guard_none rfl) rfl rfl (ex_loadN (cs := [(.int .i64 ((gt x0 a2661).fRef.fTx)), (.int .i64 ((gt x0 a2661).fRef.fAt)), (.int .i64 t2692.fValue), u2694, (.int .i64 t2692.fRule.fNeed), (.int .i64 t2692.fRule.fAfter), (.int .i64 ((gt x0 a2661).fHeight)), (.bool ((gt x0 a2661).fMined))]) rfl rfl Try.underlying123 rfl tsz123 rfl ((HM.box_at 0 rfl).sub 0 8 rfl)) ?_
      replace HM := HM.front 1 rfl rfl
      refine ops_does rfl (guard_none rfl) rfl rfl (does_lit (e := 123) (cs := [(.int .i64 ((gt x0 a2661).fRef.fTx)), (.int .i64 ((gt x0 a2661).fRef.fAt)), (.int .i64 t2692.fValue), u2694, (.int .i64 t2692.fRule.fNeed), (.int .i64 t2692.fRule.fAfter), (.int .i64 ((gt x0 a2661).fHeight)), (.bool ((gt x0 a2661).fMined))]) (xs := ([(⟨(gt x0 a2661).fRef, t2692, (gt x0 a2661).fHeight, (gt x0 a2661).fMined⟩ : Coin)] : List Coin)) kCoin rfl rfl (fun _ => by kernel_rfl) rfl rfl (fun _ _ h => by have := Elems.cons (d := kCoin) (x := (⟨(gt x0 a2661).fRef, t2692, (gt x0 a2661).fHeight, (gt x0 a2661).fMined⟩ : Coin)) ⟨_, rfl, h⟩ .nil; rw [List.append_nil, List.append_nil] at this; exact this) HM) ?_
      rintro v2698 w2704 HM
      replace HM := HM.front 2 rfl rfl
      refine ops_does rfl (guard_none rfl) rfl rfl (does_append kCoin rfl rfl rfl Try.underlying44 tsz123 rfl tby123 tz123 rfl rfl (leB_le e2701) HM) ?_
      rintro v2702 w2705 HM
      refine ops_ex rfl (guard_none rfl) rfl rfl (ex_assign rfl rfl) ?_
      refine ops_nil ?_
      refine at_block ?_
      refine at_then ?_
      refine run_region rfl ?_
      refine ops_ex rfl (guard_none rfl) rfl rfl (ex_add rfl rfl rfl) ?_
      refine ops_ex rfl (guard_none rfl) rfl rfl (ex_move rfl rfl) ?_
      refine ops_nil ?_
      replace HM := (HM.front 1 rfl rfl).drop
      exact at_again k2680 (ρ1 := [(3, v2702), (7, p0), (8, .int .i64 (x0.length : Int)), (9, .int .i64 (wrap64 (a2661 + 1)))]) (Nat.lt_succ_self _) ⟨_, _, _, ho2639, rfl, HM⟩ (Sub.cons rfl (Sub.cons rfl (Sub.cons rfl (Sub.cons rfl Sub.nil))))
    · replace ho2639 := cond_f hb2682 ho2639
      refine run_exit ?_
      refine at_then_exit ?_
      refine at_then_exit ?_
      refine at_block_exit ?_
      exact at_mid (ρ' := [(3, v2658)]) ⟨_, _, (Option.some.inj ho2639), rfl, HM⟩ (Sub.cons rfl Sub.nil)
  · rintro _ w2706 ⟨v2635, a2636, rfl, rfl, HM⟩
    refine run_seq ?_
    refine run_region rfl ?_
    refine ops_ex rfl (guard_none rfl) rfl rfl (ex_move rfl rfl) ?_
    refine ops_ex rfl (guard_none rfl) rfl rfl (ex_assign rfl rfl) ?_
    refine ops_nil ?_
    refine at_then ?_
    refine run_ret ?_
    have hR := Option.some.inj H
    subst hR
    exact at_ret1 rfl rfl ⟨_, rfl, _, rfl, HM⟩

def impl_CoinAt.f (k : Nat) (x0 : List Coin) (x1 : Ref) : Option CoinsResult := ((impl_CoinsFault.f k x0).bind fun t2722 => (bif (t2722 != 0) then some (⟨t2722, ([] : List Coin)⟩ : CoinsResult) else ((impl_findCoin.f k x0 x1).bind fun t2728 => (bif !t2728.2 then some (⟨4, ([] : List Coin)⟩ : CoinsResult) else (chk (cutOk (wrap64 (t2728.1 + 1)) x0.length) (chk (cutOk t2728.1 (wrap64 (t2728.1 + 1)).toNat) ((impl_ownCoins.f k ((x0.take (wrap64 (t2728.1 + 1)).toNat).drop (t2728.1).toNat)).bind fun t2740 => some (⟨0, t2740⟩ : CoinsResult))))))))
theorem impl_CoinAt.calls {k : Nat} {x0 : List Coin} {x1 : Ref} {p0 : Value} {w : World} (hp0 : RdS kCoin w p0 x0) {r : CoinsResult} (H : impl_CoinAt.f k x0 x1 = some r) :
    Calls Try.prog 26 ([p0, .agg #[(.int .i64 x1.fTx), (.int .i64 x1.fAt)]] : List Value).toArray w (fun e w_ => ∃ v, e = .returned v ∧ ∃ u0 : Value, v = (.agg #[.int .i64 r.fCode, u0]) ∧ Mem w [] w_ [own kCoin 123 u0 r.fCoins]) := by
  have HM := Mem.start w
  refine calls_run (N := 30) Try.func26 rfl rfl rfl rfl ?_
  unfold impl_CoinAt.f at H
  refine run_seq ?_
  refine run_region rfl ?_
  refine ops_does rfl (guard_none rfl) rfl rfl (does_box (cs := [.int .i64 x1.fTx, .int .i64 x1.fAt]) rfl rfl rfl HM) ?_
  rintro _ w2717 ⟨b2711, rfl, HM⟩
  refine ops_does rfl (guard_none rfl) rfl rfl (does_alloc (cs := [.int .i64 0, .slice none 0 0]) rfl tz52 rfl HM) ?_
  rintro _ w2718 ⟨b2714, rfl, HM⟩
  refine ops_nil ?_
  refine at_then ?_
  refine run_seq ?_
  refine run_seq ?_
  obtain ⟨t2722, h2723, H⟩ := bind_some H
  refine run_region rfl ?_
  refine ops_ex rfl (guard_none rfl) rfl rfl (ex_move rfl rfl) ?_
  refine ops_does rfl (guard_none rfl) rfl rfl (does_callk rfl callok76 rfl (impl_CoinsFault.calls (x0 := x0) (HM.rd hp0) h2723)) ?_
  rintro _ w2724 ⟨rfl, hn⟩
  replace HM : Mem w [] w2724 [box b2714 52 [.int .i64 0, .slice none 0 0], box b2711 54 [.int .i64 x1.fTx, .int .i64 x1.fAt]] := HM.call hn
  refine ops_ex rfl (guard_none rfl) rfl rfl (ex_assign rfl rfl) ?_
  refine ops_nil ?_
  refine at_then ?_
  refine run_seq ?_
  refine run_region rfl ?_
  refine ops_ex rfl (guard_none rfl) rfl rfl (ex_move rfl rfl) ?_
  refine ops_ex rfl (guard_none rfl) rfl rfl (ex_neq rfl rfl rfl) ?_
  refine ops_nil ?_
  refine at_then ?_
  refine run_cond (b := (t2722 != 0)) rfl (fun hb2725 => ?_) (fun hb2725 => ?_)
  · replace H := cond_t hb2725 H
    refine run_seq ?_
    refine run_region rfl ?_
    refine ops_ex rfl (guard_none rfl) rfl rfl (ex_move rfl rfl) ?_
    refine ops_ex rfl (guard_none rfl) rfl rfl (ex_build (cells := #[(.int .i64 t2722), (.slice none 0 0)]) rfl rfl (by kernel_rfl)) ?_
    refine ops_doesS rfl (guard_none rfl) rfl (does_store (vs := [.int .i64 t2722, .slice none 0 0]) (cs' := [.int .i64 t2722, .slice none 0 0]) rfl rfl rfl rfl tsz52 (Ones.int (Ones.sl Ones.nil)) rfl rfl HM) ?_
    rintro w2726 HM
    refine ops_nil ?_
    refine at_then ?_
    refine run_ret ?_
    refine at_then_ret ?_
    replace HM := HM.empty kCoin 123 none
    replace HM := (HM.front 2 rfl rfl).drop
    replace HM := HM.front 1 rfl rfl
    have hcb0 := HM.box_at 0 rfl
    replace HM := (HM.front 0 rfl rfl).drop
    have hR := Option.some.inj H
    subst hR
    exact at_retN rfl rfl Try.underlying52 rfl tsz52 rfl hcb0 ⟨_, rfl, _, rfl, HM⟩
  · replace H := cond_f hb2725 H
    refine run_skip ?_
    refine at_then ?_
    refine run_seq ?_
    obtain ⟨t2728, h2729, H⟩ := bind_some H
    refine run_region rfl ?_
    refine ops_ex rfl (guard_none rfl) rfl rfl (ex_move rfl rfl) ?_
    refine ops_ex rfl (guard_none rfl) rfl rfl (ex_loadN (cs := [(.int .i64 x1.fTx), (.int .i64 x1.fAt)]) rfl rfl Try.underlying54 rfl tsz54 rfl ((HM.box_at 1 rfl).sub 0 2 rfl)) ?_
    refine ops_does rfl (guard_none rfl) rfl rfl (does_callk rfl callok82 rfl (impl_findCoin.calls (x0 := x0) (x1 := x1) (HM.rd hp0) h2729)) ?_
    rintro _ w2730 ⟨rfl, hn⟩
    replace HM : Mem w [] w2730 [box b2714 52 [.int .i64 0, .slice none 0 0], box b2711 54 [.int .i64 x1.fTx, .int .i64 x1.fAt]] := HM.call hn
    refine ops_ex rfl (guard_none rfl) rfl rfl (ex_move rfl rfl) ?_
    refine ops_ex rfl (guard_none rfl) rfl rfl (ex_extract rfl rfl rfl) ?_
    refine ops_ex rfl (guard_none rfl) rfl rfl (ex_extract rfl rfl rfl) ?_
    refine ops_ex rfl (guard_none rfl) rfl rfl (ex_assign rfl rfl) ?_
    refine ops_ex rfl (guard_none rfl) rfl rfl (ex_assign rfl rfl) ?_
    refine ops_nil ?_
    refine at_then ?_
    refine run_seq ?_
    refine run_seq ?_
    refine run_region rfl ?_
    refine ops_ex rfl (guard_none rfl) rfl rfl (ex_move rfl rfl) ?_
    refine ops_ex rfl (guard_none rfl) rfl rfl (ex_not rfl rfl) ?_
    refine ops_nil ?_
    refine at_then ?_
    refine run_cond (b := !t2728.2) rfl (fun hb2732 => ?_) (fun hb2732 => ?_)
    · replace H := cond_t hb2732 H
      refine run_seq ?_
      refine run_region rfl ?_
      refine ops_ex rfl (guard_none rfl) rfl rfl (ex_build (cells := #[(.int .i64 4), (.slice none 0 0)]) rfl rfl (by kernel_rfl)) ?_
      refine ops_doesS rfl (guard_none rfl) rfl (does_store (vs := [.int .i64 4, .slice none 0 0]) (cs' := [.int .i64 4, .slice none 0 0]) rfl rfl rfl rfl tsz52 (Ones.int (Ones.sl Ones.nil)) rfl rfl HM) ?_
      rintro w2733 HM
      refine ops_nil ?_
      refine at_then ?_
      refine run_ret ?_
      refine at_then_ret ?_
      replace HM := HM.empty kCoin 123 none
      replace HM := (HM.front 2 rfl rfl).drop
      replace HM := HM.front 1 rfl rfl
      have hcb0 := HM.box_at 0 rfl
      replace HM := (HM.front 0 rfl rfl).drop
      have hR := Option.some.inj H
      subst hR
      exact at_retN rfl rfl Try.underlying52 rfl tsz52 rfl hcb0 ⟨_, rfl, _, rfl, HM⟩
    · replace H := cond_f hb2732 H
      refine run_skip ?_
      refine at_then ?_
      refine run_seq ?_
      obtain ⟨e2735, H⟩ := chk_some H
      obtain ⟨e2736, H⟩ := chk_some H
      obtain ⟨t2740, h2741, H⟩ := bind_some H
      refine run_region rfl ?_
      refine ops_ex rfl (guard_none rfl) rfl rfl (ex_move rfl rfl) ?_
      refine ops_ex rfl (guard_none rfl) rfl rfl (ex_move rfl rfl) ?_
      refine ops_ex rfl (guard_none rfl) rfl rfl (ex_move rfl rfl) ?_
      refine ops_ex rfl (guard_none rfl) rfl rfl (ex_add rfl rfl rfl) ?_
      refine ops_exE rfl (guard_none rfl) rfl rfl (ex_cutLH kCoin rfl rfl rfl rfl Try.underlying44 tsz123 hp0 e2736 e2735) ?_
      rintro u2737 hr2739
      refine ops_does rfl (guard_none rfl) rfl rfl (does_callk rfl callok83 rfl (impl_ownCoins.calls (x0 := (x0.take (wrap64 (t2728.1 + 1)).toNat).drop (t2728.1).toNat) (HM.rd hr2739) h2741)) ?_
      rintro u2742 w2744 ⟨_, rfl, hn⟩
      replace HM : Mem w [] w2744 [own kCoin 123 u2742 t2740, box b2714 52 [.int .i64 0, .slice none 0 0], box b2711 54 [.int .i64 x1.fTx, .int .i64 x1.fAt]] := HM.call hn
      refine ops_ex rfl (guard_none rfl) rfl rfl (ex_build1 (fun u2742 => [(1, u2742)]) (fun u2742 => #[.int .i64 0, u2742]) rfl rfl (fun _ _ _ => by kernel_rfl) (HM.own_rd 0 rfl).isSl) ?_
      replace HM := HM.front 1 rfl rfl
      refine ops_doesS rfl (guard_none rfl) rfl (does_store (vs := [.int .i64 0, u2742]) (cs' := [.int .i64 0, u2742]) rfl rfl rfl rfl tsz52 (Ones.int (Ones.rd (HM.own_rd 1 rfl) Ones.nil)) rfl rfl HM) ?_
      rintro w2745 HM
      refine ops_nil ?_
      refine at_then ?_
      refine run_ret ?_
      replace HM := (HM.front 2 rfl rfl).drop
      have hcb0 := HM.box_at 0 rfl
      replace HM := (HM.front 0 rfl rfl).drop
      have hR := Option.some.inj H
      subst hR
      exact at_retN rfl rfl Try.underlying52 rfl tsz52 rfl hcb0 ⟨_, rfl, _, rfl, HM⟩

def laws_eqRef.f (k : Nat) (x0 : Ref) (x1 : Ref) : Option Bool := (bif (x0.fTx != x1.fTx) then some false else (bif (x0.fAt != x1.fAt) then some false else some true))
theorem laws_eqRef.calls {k : Nat} {x0 : Ref} {x1 : Ref}  {w : World}  {r : Bool} (H : laws_eqRef.f k x0 x1 = some r) :
    Calls Try.prog 98 ([.agg #[(.int .i64 x0.fTx), (.int .i64 x0.fAt)], .agg #[(.int .i64 x1.fTx), (.int .i64 x1.fAt)]] : List Value).toArray w (fun e w_ => ∃ v, e = .returned v ∧ v = (.bool r) ∧ Mem w [] w_ []) := by
  have HM := Mem.start w
  refine calls_run (N := 15) Try.func98 rfl rfl rfl rfl ?_
  unfold laws_eqRef.f at H
  refine run_seq ?_
  refine run_region rfl ?_
  refine ops_does rfl (guard_none rfl) rfl rfl (does_box (cs := [.int .i64 x0.fTx, .int .i64 x0.fAt]) rfl rfl rfl HM) ?_
  rintro _ w2793 ⟨b2787, rfl, HM⟩
  refine ops_does rfl (guard_none rfl) rfl rfl (does_box (cs := [.int .i64 x1.fTx, .int .i64 x1.fAt]) rfl rfl rfl HM) ?_
  rintro _ w2794 ⟨b2790, rfl, HM⟩
  refine ops_ex rfl (guard_none rfl) rfl rfl (ex_assign rfl rfl) ?_
  refine ops_nil ?_
  refine at_then ?_
  refine run_seq ?_
  refine run_seq ?_
  refine run_region rfl ?_
  refine ops_ex rfl (guard_none rfl) rfl rfl (ex_fieldAddr (off' := 0) rfl rfl Try.underlying54 rfl tsz2 rfl) ?_
  refine ops_ex rfl (guard_none rfl) rfl rfl (ex_load1 rfl rfl Try.underlying2 rfl ((HM.box_at 1 rfl) 0 _ rfl)) ?_
  refine ops_ex rfl (guard_none rfl) rfl rfl (ex_fieldAddr (off' := 0) rfl rfl Try.underlying54 rfl tsz2 rfl) ?_
  refine ops_ex rfl (guard_none rfl) rfl rfl (ex_load1 rfl rfl Try.underlying2 rfl ((HM.box_at 0 rfl) 0 _ rfl)) ?_
  refine ops_ex rfl (guard_none rfl) rfl rfl (ex_neq rfl rfl rfl) ?_
  refine ops_nil ?_
  refine at_then ?_
  refine run_cond (b := (x0.fTx != x1.fTx)) rfl (fun hb2796 => ?_) (fun hb2796 => ?_)
  · replace H := cond_t hb2796 H
    refine run_seq ?_
    refine run_region rfl ?_
    refine ops_ex rfl (guard_none rfl) rfl rfl (ex_assign rfl rfl) ?_
    refine ops_nil ?_
    refine at_then ?_
    refine run_ret ?_
    refine at_then_ret ?_
    replace HM := (HM.front 0 rfl rfl).drop
    replace HM := (HM.front 0 rfl rfl).drop
    have hR := Option.some.inj H
    subst hR
    exact at_ret1 rfl rfl ⟨_, rfl, rfl, HM⟩
  · replace H := cond_f hb2796 H
    refine run_skip ?_
    refine at_then ?_
    refine run_seq ?_
    refine run_seq ?_
    refine run_region rfl ?_
    refine ops_ex rfl (guard_none rfl) rfl rfl (ex_fieldAddr (off' := 1) rfl rfl Try.underlying54 rfl tsz2 rfl) ?_
    refine ops_ex rfl (guard_none rfl) rfl rfl (ex_load1 rfl rfl Try.underlying2 rfl ((HM.box_at 1 rfl) 1 _ rfl)) ?_
    refine ops_ex rfl (guard_none rfl) rfl rfl (ex_fieldAddr (off' := 1) rfl rfl Try.underlying54 rfl tsz2 rfl) ?_
    refine ops_ex rfl (guard_none rfl) rfl rfl (ex_load1 rfl rfl Try.underlying2 rfl ((HM.box_at 0 rfl) 1 _ rfl)) ?_
    refine ops_ex rfl (guard_none rfl) rfl rfl (ex_neq rfl rfl rfl) ?_
    refine ops_nil ?_
    refine at_then ?_
    refine run_cond (b := (x0.fAt != x1.fAt)) rfl (fun hb2797 => ?_) (fun hb2797 => ?_)
    · replace H := cond_t hb2797 H
      refine run_seq ?_
      refine run_region rfl ?_
      refine ops_ex rfl (guard_none rfl) rfl rfl (ex_assign rfl rfl) ?_
      refine ops_nil ?_
      refine at_then ?_
      refine run_ret ?_
      refine at_then_ret ?_
      replace HM := (HM.front 0 rfl rfl).drop
      replace HM := (HM.front 0 rfl rfl).drop
      have hR := Option.some.inj H
      subst hR
      exact at_ret1 rfl rfl ⟨_, rfl, rfl, HM⟩
    · replace H := cond_f hb2797 H
      refine run_skip ?_
      refine at_then ?_
      refine run_seq ?_
      refine run_region rfl ?_
      refine ops_ex rfl (guard_none rfl) rfl rfl (ex_assign rfl rfl) ?_
      refine ops_nil ?_
      refine at_then ?_
      refine run_ret ?_
      replace HM := (HM.front 0 rfl rfl).drop
      replace HM := (HM.front 0 rfl rfl).drop
      have hR := Option.some.inj H
      subst hR
      exact at_ret1 rfl rfl ⟨_, rfl, rfl, HM⟩

def laws_eqInt64S.l0 (x0 : List Int) (x1 : List Int) : Nat → Int → Option (Bool ⊕ Unit)
  | 0, _ => none
  | k + 1, a2870 => (bif (decide (a2870 < (x0.length : Int))) then (chk (idxOk a2870 x0.length) (chk (idxOk a2870 x1.length) (bif ((gt x0 a2870) != (gt x1 a2870)) then some (.inl false) else laws_eqInt64S.l0 x0 x1 k (wrap64 (a2870 + 1))))) else some (.inr ()))
theorem laws_eqInt64S.l0_z (x0 : List Int) (x1 : List Int) (a2870 : Int) : laws_eqInt64S.l0 x0 x1 0 a2870 = none := rfl
theorem laws_eqInt64S.l0_s (x0 : List Int) (x1 : List Int) (k : Nat) (a2870 : Int) : laws_eqInt64S.l0 x0 x1 (k + 1) a2870 = (bif (decide (a2870 < (x0.length : Int))) then (chk (idxOk a2870 x0.length) (chk (idxOk a2870 x1.length) (bif ((gt x0 a2870) != (gt x1 a2870)) then some (.inl false) else laws_eqInt64S.l0 x0 x1 k (wrap64 (a2870 + 1))))) else some (.inr ())) := rfl
def laws_eqInt64S.f (k : Nat) (x0 : List Int) (x1 : List Int) : Option Bool := (bif ((x0.length : Int) != (x1.length : Int)) then some false else ((laws_eqInt64S.l0 x0 x1 k 0).bind fun o2862 => thn o2862 (fun r => some r) (fun _ => some true)))
theorem laws_eqInt64S.calls {k : Nat} {x0 : List Int} {x1 : List Int} {p0 : Value} {p1 : Value} {w : World} (hp0 : RdS kInt w p0 x0) (hp1 : RdS kInt w p1 x1) {r : Bool} (H : laws_eqInt64S.f k x0 x1 = some r) :
    Calls Try.prog 176 ([p0, p1] : List Value).toArray w (fun e w_ => ∃ v, e = .returned v ∧ v = (.bool r) ∧ Mem w [] w_ []) := by
  have HM := Mem.start w
  refine calls_run (N := 26) Try.func176 rfl rfl rfl rfl ?_
  unfold laws_eqInt64S.f at H
  refine run_seq ?_
  refine run_region rfl ?_
  refine ops_ex rfl (guard_none rfl) rfl rfl (ex_assign rfl rfl) ?_
  refine ops_nil ?_
  refine at_then ?_
  refine run_seq ?_
  refine run_seq ?_
  refine run_region rfl ?_
  refine ops_ex rfl (guard_none rfl) rfl rfl (ex_move rfl rfl) ?_
  refine ops_ex rfl (guard_none rfl) rfl rfl (ex_len (d := kInt) (xs := x0) rfl rfl Try.underlying111 hp0) ?_
  refine ops_ex rfl (guard_none rfl) rfl rfl (ex_move rfl rfl) ?_
  refine ops_ex rfl (guard_none rfl) rfl rfl (ex_len (d := kInt) (xs := x1) rfl rfl Try.underlying111 hp1) ?_
  refine ops_ex rfl (guard_none rfl) rfl rfl (ex_neq rfl rfl rfl) ?_
  refine ops_nil ?_
  refine at_then ?_
  refine run_cond (b := ((x0.length : Int) != (x1.length : Int))) rfl (fun hb2842 => ?_) (fun hb2842 => ?_)
  · replace H := cond_t hb2842 H
    refine run_seq ?_
    refine run_region rfl ?_
    refine ops_ex rfl (guard_none rfl) rfl rfl (ex_assign rfl rfl) ?_
    refine ops_nil ?_
    refine at_then ?_
    refine run_ret ?_
    refine at_then_ret ?_
    have hR := Option.some.inj H
    subst hR
    exact at_ret1 rfl rfl ⟨_, rfl, rfl, HM⟩
  · replace H := cond_f hb2842 H
    refine run_skip ?_
    refine at_then ?_
    obtain ⟨o2862, ho2863, H⟩ := bind_some H
    refine run_mid (fun ρ_ w_ => Sum.inr () = o2862 ∧ ρ_ = [] ∧ Mem w [] w_ []) ?_ ?_
    · skip
      refine run_seq ?_
      refine run_region rfl ?_
      refine ops_ex rfl (guard_none rfl) rfl rfl (ex_assign rfl rfl) ?_
      refine ops_nil ?_
      refine at_then ?_
      refine run_block ?_
      refine run_loop (fun k_ ρ_ w_ => ∃ a2870 : Int, laws_eqInt64S.l0 x0 x1 k_ a2870 = some o2862 ∧ ρ_ = [(0, p0), (1, p1), (5, .int .i64 a2870)] ∧ Mem w [] w_ []) k (ρ1 := [(0, p0), (1, p1), (5, .int .i64 0)]) ⟨_, ho2863, rfl, HM⟩ (Sub.cons rfl (Sub.cons rfl (Sub.cons rfl Sub.nil))) ?_
      clear HM ho2863
      rintro k2877 _ w2878 ⟨a2870, ho2863, rfl, HM⟩
      obtain _ | k2877 := k2877
      · exact nomatch ((laws_eqInt64S.l0_z x0 x1 a2870).symm.trans ho2863)
      replace ho2863 := (laws_eqInt64S.l0_s x0 x1 k2877 a2870).symm.trans ho2863
      refine run_seq ?_
      refine run_seq ?_
      refine run_region rfl ?_
      refine ops_ex rfl (guard_none rfl) rfl rfl (ex_move rfl rfl) ?_
      refine ops_ex rfl (guard_none rfl) rfl rfl (ex_move rfl rfl) ?_
      refine ops_ex rfl (guard_none rfl) rfl rfl (ex_len (d := kInt) (xs := x0) rfl rfl Try.underlying111 hp0) ?_
      refine ops_ex rfl (guard_none rfl) rfl rfl (ex_lss rfl rfl rfl) ?_
      refine ops_nil ?_
      refine at_then ?_
      refine run_cond (b := (decide (a2870 < (x0.length : Int)))) rfl (fun hb2879 => ?_) (fun hb2879 => ?_)
      · replace ho2863 := cond_t hb2879 ho2863
        refine run_skip ?_
        refine at_then ?_
        refine run_seq ?_
        refine run_block ?_
        refine run_seq ?_
        obtain ⟨e2880, ho2863⟩ := chk_some ho2863
        obtain ⟨e2882, ho2863⟩ := chk_some ho2863
        refine run_drawf (fun w_ => Mem w [] w_ []) [(0, true), (1, true), (2, true), (3, true), (4, true), (5, true), (6, true), (7, true), (8, true)] mixed rfl rfl (by kernel_rfl) ?_
        replace HM := HM.grow (fr_drew _)
        have hS := Mem.suf (M := []) HM
        refine drwp_take rfl (guard_none rfl) rfl rfl (fun w_ hS_ => (ex_move rfl rfl)) hS ?_
        refine drwp_take rfl (guard_none rfl) rfl rfl (fun w_ hS_ => (ex_move rfl rfl)) hS ?_
        have hc2881 : CellsAt _ (sb p0) (so p0 + (a2870).toNat * 1) [(.int .i64 (gt x0 a2870))] := rd_plain hp0 e2880
        refine drwp_take rfl (guard_none rfl) rfl rfl (fun w_ hS_ => (ex_indexAddr (d := kInt) rfl rfl rfl Try.underlying111 tsz2 hp0 (idx_lo e2880) (idx_hi e2880))) hS ?_
        refine drwp_take rfl (guard_none rfl) rfl rfl (fun w_ hS_ => (ex_load1 rfl rfl Try.underlying2 rfl ((hS_.at_ hc2881) 0 _ rfl))) hS ?_
        refine drwp_take rfl (guard_none rfl) rfl rfl (fun w_ hS_ => (ex_move rfl rfl)) hS ?_
        refine drwp_take rfl (guard_none rfl) rfl rfl (fun w_ hS_ => (ex_move rfl rfl)) hS ?_
        have hc2883 : CellsAt _ (sb p1) (so p1 + (a2870).toNat * 1) [(.int .i64 (gt x1 a2870))] := rd_plain hp1 e2882
        refine drwp_take rfl (guard_none rfl) rfl rfl (fun w_ hS_ => (ex_indexAddr (d := kInt) rfl rfl rfl Try.underlying111 tsz2 hp1 (idx_lo e2882) (idx_hi e2882))) hS ?_
        refine drwp_take rfl (guard_none rfl) rfl rfl (fun w_ hS_ => (ex_load1 rfl rfl Try.underlying2 rfl ((hS_.at_ hc2883) 0 _ rfl))) hS ?_
        refine drwp_take rfl (guard_none rfl) rfl rfl (fun w_ hS_ => (ex_neq rfl rfl rfl)) hS ?_
        refine drwp_done ?_
        refine at_then ?_
        refine run_cond (b := ((gt x0 a2870) != (gt x1 a2870))) rfl (fun hb2884 => ?_) (fun hb2884 => ?_)
        · replace ho2863 := cond_t hb2884 ho2863
          refine run_seq ?_
          refine run_region rfl ?_
          refine ops_ex rfl (guard_none rfl) rfl rfl (ex_assign rfl rfl) ?_
          refine ops_nil ?_
          refine at_then ?_
          refine run_ret ?_
          refine at_block_ret ?_
          refine at_then_ret ?_
          refine at_then_ret ?_
          refine at_block_ret ?_
          refine at_then_ret ?_
          have hR := Option.some.inj ho2863
          subst hR
          have hT := thn_inl H
          have hR := Option.some.inj hT
          subst hR
          exact at_ret1 rfl rfl ⟨_, rfl, rfl, HM⟩
        · replace ho2863 := cond_f hb2884 ho2863
          refine run_skip ?_
          refine at_block ?_
          refine at_then ?_
          refine run_region rfl ?_
          refine ops_ex rfl (guard_none rfl) rfl rfl (ex_move rfl rfl) ?_
          refine ops_ex rfl (guard_none rfl) rfl rfl (ex_add rfl rfl rfl) ?_
          refine ops_ex rfl (guard_none rfl) rfl rfl (ex_assign rfl rfl) ?_
          refine ops_nil ?_
          exact at_again k2877 (ρ1 := [(0, p0), (1, p1), (5, .int .i64 (wrap64 (a2870 + 1)))]) (Nat.lt_succ_self _) ⟨_, ho2863, rfl, HM⟩ (Sub.cons rfl (Sub.cons rfl (Sub.cons rfl Sub.nil)))
      · replace ho2863 := cond_f hb2879 ho2863
        refine run_exit ?_
        refine at_then_exit ?_
        refine at_then_exit ?_
        refine at_block_exit ?_
        exact at_mid (ρ' := []) ⟨(Option.some.inj ho2863), rfl, HM⟩ Sub.nil
    · rintro _ w2885 ⟨rfl, rfl, HM⟩
      replace H := (thn_inr H)
      refine run_seq ?_
      refine run_region rfl ?_
      refine ops_ex rfl (guard_none rfl) rfl rfl (ex_assign rfl rfl) ?_
      refine ops_nil ?_
      refine at_then ?_
      refine run_ret ?_
      have hR := Option.some.inj H
      subst hR
      exact at_ret1 rfl rfl ⟨_, rfl, rfl, HM⟩

def laws_eqRule.f (k : Nat) (x0 : Rule) (x1 : Rule) : Option Bool := ((laws_eqInt64S.f k x0.fKeys x1.fKeys).bind fun t2906 => (bif !t2906 then some false else (bif (x0.fNeed != x1.fNeed) then some false else (bif (x0.fAfter != x1.fAfter) then some false else some true))))
theorem laws_eqRule.calls {k : Nat} {x0 : Rule} {x1 : Rule} {p0_0 : Value} {p1_0 : Value} {w : World} (hp0_0 : RdS kInt w p0_0 x0.fKeys) (hp1_0 : RdS kInt w p1_0 x1.fKeys) {r : Bool} (H : laws_eqRule.f k x0 x1 = some r) :
    Calls Try.prog 157 ([.agg #[p0_0, (.int .i64 x0.fNeed), (.int .i64 x0.fAfter)], .agg #[p1_0, (.int .i64 x1.fNeed), (.int .i64 x1.fAfter)]] : List Value).toArray w (fun e w_ => ∃ v, e = .returned v ∧ v = (.bool r) ∧ Mem w [] w_ []) := by
  have HM := Mem.start w
  refine calls_run (N := 21) Try.func157 rfl rfl rfl rfl ?_
  unfold laws_eqRule.f at H
  refine run_seq ?_
  refine run_region rfl ?_
  refine ops_does rfl (guard_none rfl) rfl rfl (does_box (cs := [p0_0, .int .i64 x0.fNeed, .int .i64 x0.fAfter]) rfl rfl rfl HM) ?_
  rintro _ w2901 ⟨b2895, rfl, HM⟩
  refine ops_does rfl (guard_none rfl) rfl rfl (does_box (cs := [p1_0, .int .i64 x1.fNeed, .int .i64 x1.fAfter]) rfl rfl rfl HM) ?_
  rintro _ w2902 ⟨b2898, rfl, HM⟩
  refine ops_ex rfl (guard_none rfl) rfl rfl (ex_assign rfl rfl) ?_
  refine ops_nil ?_
  refine at_then ?_
  refine run_seq ?_
  refine run_seq ?_
  obtain ⟨t2906, h2907, H⟩ := bind_some H
  refine run_region rfl ?_
  refine ops_ex rfl (guard_none rfl) rfl rfl (ex_fieldAddr (off' := 0) rfl rfl Try.underlying119 rfl tsz111 rfl) ?_
  refine ops_ex rfl (guard_none rfl) rfl rfl (ex_load1 rfl rfl Try.underlying111 rfl ((HM.box_at 1 rfl) 0 _ rfl)) ?_
  refine ops_ex rfl (guard_none rfl) rfl rfl (ex_fieldAddr (off' := 0) rfl rfl Try.underlying119 rfl tsz111 rfl) ?_
  refine ops_ex rfl (guard_none rfl) rfl rfl (ex_load1 rfl rfl Try.underlying111 rfl ((HM.box_at 0 rfl) 0 _ rfl)) ?_
  refine ops_does rfl (guard_none rfl) rfl rfl (does_callk rfl callok176 rfl (laws_eqInt64S.calls (x0 := x0.fKeys) (x1 := x1.fKeys) (HM.rd hp0_0) (HM.rd hp1_0) h2907)) ?_
  rintro _ w2908 ⟨rfl, hn⟩
  replace HM : Mem w [] w2908 [box b2898 119 [p1_0, .int .i64 x1.fNeed, .int .i64 x1.fAfter], box b2895 119 [p0_0, .int .i64 x0.fNeed, .int .i64 x0.fAfter]] := HM.call hn
  refine ops_ex rfl (guard_none rfl) rfl rfl (ex_not rfl rfl) ?_
  refine ops_nil ?_
  refine at_then ?_
  refine run_cond (b := !t2906) rfl (fun hb2909 => ?_) (fun hb2909 => ?_)
  · replace H := cond_t hb2909 H
    refine run_seq ?_
    refine run_region rfl ?_
    refine ops_ex rfl (guard_none rfl) rfl rfl (ex_assign rfl rfl) ?_
    refine ops_nil ?_
    refine at_then ?_
    refine run_ret ?_
    refine at_then_ret ?_
    replace HM := (HM.front 0 rfl rfl).drop
    replace HM := (HM.front 0 rfl rfl).drop
    have hR := Option.some.inj H
    subst hR
    exact at_ret1 rfl rfl ⟨_, rfl, rfl, HM⟩
  · replace H := cond_f hb2909 H
    refine run_skip ?_
    refine at_then ?_
    refine run_seq ?_
    refine run_seq ?_
    refine run_region rfl ?_
    refine ops_ex rfl (guard_none rfl) rfl rfl (ex_fieldAddr (off' := 1) rfl rfl Try.underlying119 rfl tsz2 rfl) ?_
    refine ops_ex rfl (guard_none rfl) rfl rfl (ex_load1 rfl rfl Try.underlying2 rfl ((HM.box_at 1 rfl) 1 _ rfl)) ?_
    refine ops_ex rfl (guard_none rfl) rfl rfl (ex_fieldAddr (off' := 1) rfl rfl Try.underlying119 rfl tsz2 rfl) ?_
    refine ops_ex rfl (guard_none rfl) rfl rfl (ex_load1 rfl rfl Try.underlying2 rfl ((HM.box_at 0 rfl) 1 _ rfl)) ?_
    refine ops_ex rfl (guard_none rfl) rfl rfl (ex_neq rfl rfl rfl) ?_
    refine ops_nil ?_
    refine at_then ?_
    refine run_cond (b := (x0.fNeed != x1.fNeed)) rfl (fun hb2911 => ?_) (fun hb2911 => ?_)
    · replace H := cond_t hb2911 H
      refine run_seq ?_
      refine run_region rfl ?_
      refine ops_ex rfl (guard_none rfl) rfl rfl (ex_assign rfl rfl) ?_
      refine ops_nil ?_
      refine at_then ?_
      refine run_ret ?_
      refine at_then_ret ?_
      replace HM := (HM.front 0 rfl rfl).drop
      replace HM := (HM.front 0 rfl rfl).drop
      have hR := Option.some.inj H
      subst hR
      exact at_ret1 rfl rfl ⟨_, rfl, rfl, HM⟩
    · replace H := cond_f hb2911 H
      refine run_skip ?_
      refine at_then ?_
      refine run_seq ?_
      refine run_seq ?_
      refine run_region rfl ?_
      refine ops_ex rfl (guard_none rfl) rfl rfl (ex_fieldAddr (off' := 2) rfl rfl Try.underlying119 rfl tsz2 rfl) ?_
      refine ops_ex rfl (guard_none rfl) rfl rfl (ex_load1 rfl rfl Try.underlying2 rfl ((HM.box_at 1 rfl) 2 _ rfl)) ?_
      refine ops_ex rfl (guard_none rfl) rfl rfl (ex_fieldAddr (off' := 2) rfl rfl Try.underlying119 rfl tsz2 rfl) ?_
      refine ops_ex rfl (guard_none rfl) rfl rfl (ex_load1 rfl rfl Try.underlying2 rfl ((HM.box_at 0 rfl) 2 _ rfl)) ?_
      refine ops_ex rfl (guard_none rfl) rfl rfl (ex_neq rfl rfl rfl) ?_
      refine ops_nil ?_
      refine at_then ?_
      refine run_cond (b := (x0.fAfter != x1.fAfter)) rfl (fun hb2912 => ?_) (fun hb2912 => ?_)
      · replace H := cond_t hb2912 H
        refine run_seq ?_
        refine run_region rfl ?_
        refine ops_ex rfl (guard_none rfl) rfl rfl (ex_assign rfl rfl) ?_
        refine ops_nil ?_
        refine at_then ?_
        refine run_ret ?_
        refine at_then_ret ?_
        replace HM := (HM.front 0 rfl rfl).drop
        replace HM := (HM.front 0 rfl rfl).drop
        have hR := Option.some.inj H
        subst hR
        exact at_ret1 rfl rfl ⟨_, rfl, rfl, HM⟩
      · replace H := cond_f hb2912 H
        refine run_skip ?_
        refine at_then ?_
        refine run_seq ?_
        refine run_region rfl ?_
        refine ops_ex rfl (guard_none rfl) rfl rfl (ex_assign rfl rfl) ?_
        refine ops_nil ?_
        refine at_then ?_
        refine run_ret ?_
        replace HM := (HM.front 0 rfl rfl).drop
        replace HM := (HM.front 0 rfl rfl).drop
        have hR := Option.some.inj H
        subst hR
        exact at_ret1 rfl rfl ⟨_, rfl, rfl, HM⟩

def laws_eqOut.f (k : Nat) (x0 : Out) (x1 : Out) : Option Bool := (bif (x0.fValue != x1.fValue) then some false else ((laws_eqRule.f k x0.fRule x1.fRule).bind fun t2926 => (bif !t2926 then some false else some true)))
theorem laws_eqOut.calls {k : Nat} {x0 : Out} {x1 : Out} {p0_0 : Value} {p1_0 : Value} {w : World} (hp0_0 : RdS kInt w p0_0 x0.fRule.fKeys) (hp1_0 : RdS kInt w p1_0 x1.fRule.fKeys) {r : Bool} (H : laws_eqOut.f k x0 x1 = some r) :
    Calls Try.prog 106 ([.agg #[(.int .i64 x0.fValue), p0_0, (.int .i64 x0.fRule.fNeed), (.int .i64 x0.fRule.fAfter)], .agg #[(.int .i64 x1.fValue), p1_0, (.int .i64 x1.fRule.fNeed), (.int .i64 x1.fRule.fAfter)]] : List Value).toArray w (fun e w_ => ∃ v, e = .returned v ∧ v = (.bool r) ∧ Mem w [] w_ []) := by
  have HM := Mem.start w
  refine calls_run (N := 16) Try.func106 rfl rfl rfl rfl ?_
  unfold laws_eqOut.f at H
  refine run_seq ?_
  refine run_region rfl ?_
  refine ops_does rfl (guard_none rfl) rfl rfl (does_box (cs := [.int .i64 x0.fValue, p0_0, .int .i64 x0.fRule.fNeed, .int .i64 x0.fRule.fAfter]) rfl rfl rfl HM) ?_
  rintro _ w2922 ⟨b2916, rfl, HM⟩
  refine ops_does rfl (guard_none rfl) rfl rfl (does_box (cs := [.int .i64 x1.fValue, p1_0, .int .i64 x1.fRule.fNeed, .int .i64 x1.fRule.fAfter]) rfl rfl rfl HM) ?_
  rintro _ w2923 ⟨b2919, rfl, HM⟩
  refine ops_ex rfl (guard_none rfl) rfl rfl (ex_assign rfl rfl) ?_
  refine ops_nil ?_
  refine at_then ?_
  refine run_seq ?_
  refine run_seq ?_
  refine run_region rfl ?_
  refine ops_ex rfl (guard_none rfl) rfl rfl (ex_fieldAddr (off' := 0) rfl rfl Try.underlying121 rfl tsz2 rfl) ?_
  refine ops_ex rfl (guard_none rfl) rfl rfl (ex_load1 rfl rfl Try.underlying2 rfl ((HM.box_at 1 rfl) 0 _ rfl)) ?_
  refine ops_ex rfl (guard_none rfl) rfl rfl (ex_fieldAddr (off' := 0) rfl rfl Try.underlying121 rfl tsz2 rfl) ?_
  refine ops_ex rfl (guard_none rfl) rfl rfl (ex_load1 rfl rfl Try.underlying2 rfl ((HM.box_at 0 rfl) 0 _ rfl)) ?_
  refine ops_ex rfl (guard_none rfl) rfl rfl (ex_neq rfl rfl rfl) ?_
  refine ops_nil ?_
  refine at_then ?_
  refine run_cond (b := (x0.fValue != x1.fValue)) rfl (fun hb2925 => ?_) (fun hb2925 => ?_)
  · replace H := cond_t hb2925 H
    refine run_seq ?_
    refine run_region rfl ?_
    refine ops_ex rfl (guard_none rfl) rfl rfl (ex_assign rfl rfl) ?_
    refine ops_nil ?_
    refine at_then ?_
    refine run_ret ?_
    refine at_then_ret ?_
    replace HM := (HM.front 0 rfl rfl).drop
    replace HM := (HM.front 0 rfl rfl).drop
    have hR := Option.some.inj H
    subst hR
    exact at_ret1 rfl rfl ⟨_, rfl, rfl, HM⟩
  · replace H := cond_f hb2925 H
    refine run_skip ?_
    refine at_then ?_
    refine run_seq ?_
    refine run_seq ?_
    obtain ⟨t2926, h2927, H⟩ := bind_some H
    refine run_region rfl ?_
    refine ops_ex rfl (guard_none rfl) rfl rfl (ex_fieldAddr (off' := 1) rfl rfl Try.underlying121 rfl tsz119 rfl) ?_
    refine ops_ex rfl (guard_none rfl) rfl rfl (ex_loadN (cs := [p0_0, (.int .i64 x0.fRule.fNeed), (.int .i64 x0.fRule.fAfter)]) rfl rfl Try.underlying119 rfl tsz119 rfl ((HM.box_at 1 rfl).sub 1 3 rfl)) ?_
    refine ops_ex rfl (guard_none rfl) rfl rfl (ex_fieldAddr (off' := 1) rfl rfl Try.underlying121 rfl tsz119 rfl) ?_
    refine ops_ex rfl (guard_none rfl) rfl rfl (ex_loadN (cs := [p1_0, (.int .i64 x1.fRule.fNeed), (.int .i64 x1.fRule.fAfter)]) rfl rfl Try.underlying119 rfl tsz119 rfl ((HM.box_at 0 rfl).sub 1 3 rfl)) ?_
    refine ops_does rfl (guard_none rfl) rfl rfl (does_callk rfl callok157 rfl (laws_eqRule.calls (x0 := x0.fRule) (x1 := x1.fRule) (HM.rd hp0_0) (HM.rd hp1_0) h2927)) ?_
    rintro _ w2928 ⟨rfl, hn⟩
    replace HM : Mem w [] w2928 [box b2919 121 [.int .i64 x1.fValue, p1_0, .int .i64 x1.fRule.fNeed, .int .i64 x1.fRule.fAfter], box b2916 121 [.int .i64 x0.fValue, p0_0, .int .i64 x0.fRule.fNeed, .int .i64 x0.fRule.fAfter]] := HM.call hn
    refine ops_ex rfl (guard_none rfl) rfl rfl (ex_not rfl rfl) ?_
    refine ops_nil ?_
    refine at_then ?_
    refine run_cond (b := !t2926) rfl (fun hb2929 => ?_) (fun hb2929 => ?_)
    · replace H := cond_t hb2929 H
      refine run_seq ?_
      refine run_region rfl ?_
      refine ops_ex rfl (guard_none rfl) rfl rfl (ex_assign rfl rfl) ?_
      refine ops_nil ?_
      refine at_then ?_
      refine run_ret ?_
      refine at_then_ret ?_
      replace HM := (HM.front 0 rfl rfl).drop
      replace HM := (HM.front 0 rfl rfl).drop
      have hR := Option.some.inj H
      subst hR
      exact at_ret1 rfl rfl ⟨_, rfl, rfl, HM⟩
    · replace H := cond_f hb2929 H
      refine run_skip ?_
      refine at_then ?_
      refine run_seq ?_
      refine run_region rfl ?_
      refine ops_ex rfl (guard_none rfl) rfl rfl (ex_assign rfl rfl) ?_
      refine ops_nil ?_
      refine at_then ?_
      refine run_ret ?_
      replace HM := (HM.front 0 rfl rfl).drop
      replace HM := (HM.front 0 rfl rfl).drop
      have hR := Option.some.inj H
      subst hR
      exact at_ret1 rfl rfl ⟨_, rfl, rfl, HM⟩

def laws_eqCoin.f (k : Nat) (x0 : Coin) (x1 : Coin) : Option Bool := ((laws_eqRef.f k x0.fRef x1.fRef).bind fun t2950 => (bif !t2950 then some false else ((laws_eqOut.f k x0.fOut x1.fOut).bind fun t2957 => (bif !t2957 then some false else (bif (x0.fHeight != x1.fHeight) then some false else (bif (x0.fMined != x1.fMined) then some false else some true))))))
theorem laws_eqCoin.calls {k : Nat} {x0 : Coin} {x1 : Coin} {p0_0 : Value} {p1_0 : Value} {w : World} (hp0_0 : RdS kInt w p0_0 x0.fOut.fRule.fKeys) (hp1_0 : RdS kInt w p1_0 x1.fOut.fRule.fKeys) {r : Bool} (H : laws_eqCoin.f k x0 x1 = some r) :
    Calls Try.prog 79 ([.agg #[(.int .i64 x0.fRef.fTx), (.int .i64 x0.fRef.fAt), (.int .i64 x0.fOut.fValue), p0_0, (.int .i64 x0.fOut.fRule.fNeed), (.int .i64 x0.fOut.fRule.fAfter), (.int .i64 x0.fHeight), (.bool x0.fMined)], .agg #[(.int .i64 x1.fRef.fTx), (.int .i64 x1.fRef.fAt), (.int .i64 x1.fOut.fValue), p1_0, (.int .i64 x1.fOut.fRule.fNeed), (.int .i64 x1.fOut.fRule.fAfter), (.int .i64 x1.fHeight), (.bool x1.fMined)]] : List Value).toArray w (fun e w_ => ∃ v, e = .returned v ∧ v = (.bool r) ∧ Mem w [] w_ []) := by
  have HM := Mem.start w
  refine calls_run (N := 27) Try.func79 rfl rfl rfl rfl ?_
  unfold laws_eqCoin.f at H
  refine run_seq ?_
  refine run_region rfl ?_
  refine ops_does rfl (guard_none rfl) rfl rfl (does_box (cs := [.int .i64 x0.fRef.fTx, .int .i64 x0.fRef.fAt, .int .i64 x0.fOut.fValue, p0_0, .int .i64 x0.fOut.fRule.fNeed, .int .i64 x0.fOut.fRule.fAfter, .int .i64 x0.fHeight, .bool x0.fMined]) rfl rfl rfl HM) ?_
  rintro _ w2945 ⟨b2939, rfl, HM⟩
  refine ops_does rfl (guard_none rfl) rfl rfl (does_box (cs := [.int .i64 x1.fRef.fTx, .int .i64 x1.fRef.fAt, .int .i64 x1.fOut.fValue, p1_0, .int .i64 x1.fOut.fRule.fNeed, .int .i64 x1.fOut.fRule.fAfter, .int .i64 x1.fHeight, .bool x1.fMined]) rfl rfl rfl HM) ?_
  rintro _ w2946 ⟨b2942, rfl, HM⟩
  refine ops_ex rfl (guard_none rfl) rfl rfl (ex_assign rfl rfl) ?_
  refine ops_nil ?_
  refine at_then ?_
  refine run_seq ?_
  refine run_seq ?_
  obtain ⟨t2950, h2951, H⟩ := bind_some H
  refine run_region rfl ?_
  refine ops_ex rfl (guard_none rfl) rfl rfl (ex_fieldAddr (off' := 0) rfl rfl Try.underlying123 rfl tsz54 rfl) ?_
  refine ops_ex rfl (guard_none rfl) rfl rfl (ex_loadN (cs := [(.int .i64 x0.fRef.fTx), (.int .i64 x0.fRef.fAt)]) rfl rfl Try.underlying54 rfl tsz54 rfl ((HM.box_at 1 rfl).sub 0 2 rfl)) ?_
  refine ops_ex rfl (guard_none rfl) rfl rfl (ex_fieldAddr (off' := 0) rfl rfl Try.underlying123 rfl tsz54 rfl) ?_
  refine ops_ex rfl (guard_none rfl) rfl rfl (ex_loadN (cs := [(.int .i64 x1.fRef.fTx), (.int .i64 x1.fRef.fAt)]) rfl rfl Try.underlying54 rfl tsz54 rfl ((HM.box_at 0 rfl).sub 0 2 rfl)) ?_
  refine ops_does rfl (guard_none rfl) rfl rfl (does_callk rfl callok98 rfl (laws_eqRef.calls (x0 := x0.fRef) (x1 := x1.fRef) h2951)) ?_
  rintro _ w2952 ⟨rfl, hn⟩
  replace HM : Mem w [] w2952 [box b2942 123 [.int .i64 x1.fRef.fTx, .int .i64 x1.fRef.fAt, .int .i64 x1.fOut.fValue, p1_0, .int .i64 x1.fOut.fRule.fNeed, .int .i64 x1.fOut.fRule.fAfter, .int .i64 x1.fHeight, .bool x1.fMined], box b2939 123 [.int .i64 x0.fRef.fTx, .int .i64 x0.fRef.fAt, .int .i64 x0.fOut.fValue, p0_0, .int .i64 x0.fOut.fRule.fNeed, .int .i64 x0.fOut.fRule.fAfter, .int .i64 x0.fHeight, .bool x0.fMined]] := HM.call hn
  refine ops_ex rfl (guard_none rfl) rfl rfl (ex_not rfl rfl) ?_
  refine ops_nil ?_
  refine at_then ?_
  refine run_cond (b := !t2950) rfl (fun hb2953 => ?_) (fun hb2953 => ?_)
  · replace H := cond_t hb2953 H
    refine run_seq ?_
    refine run_region rfl ?_
    refine ops_ex rfl (guard_none rfl) rfl rfl (ex_assign rfl rfl) ?_
    refine ops_nil ?_
    refine at_then ?_
    refine run_ret ?_
    refine at_then_ret ?_
    replace HM := (HM.front 0 rfl rfl).drop
    replace HM := (HM.front 0 rfl rfl).drop
    have hR := Option.some.inj H
    subst hR
    exact at_ret1 rfl rfl ⟨_, rfl, rfl, HM⟩
  · replace H := cond_f hb2953 H
    refine run_skip ?_
    refine at_then ?_
    refine run_seq ?_
    refine run_seq ?_
    obtain ⟨t2957, h2958, H⟩ := bind_some H
    refine run_region rfl ?_
    refine ops_ex rfl (guard_none rfl) rfl rfl (ex_fieldAddr (off' := 2) rfl rfl Try.underlying123 rfl tsz121 rfl) ?_
    refine ops_ex rfl (guard_none rfl) rfl rfl (ex_loadN (cs := [(.int .i64 x0.fOut.fValue), p0_0, (.int .i64 x0.fOut.fRule.fNeed), (.int .i64 x0.fOut.fRule.fAfter)]) rfl rfl Try.underlying121 rfl tsz121 rfl ((HM.box_at 1 rfl).sub 2 4 rfl)) ?_
    refine ops_ex rfl (guard_none rfl) rfl rfl (ex_fieldAddr (off' := 2) rfl rfl Try.underlying123 rfl tsz121 rfl) ?_
    refine ops_ex rfl (guard_none rfl) rfl rfl (ex_loadN (cs := [(.int .i64 x1.fOut.fValue), p1_0, (.int .i64 x1.fOut.fRule.fNeed), (.int .i64 x1.fOut.fRule.fAfter)]) rfl rfl Try.underlying121 rfl tsz121 rfl ((HM.box_at 0 rfl).sub 2 4 rfl)) ?_
    refine ops_does rfl (guard_none rfl) rfl rfl (does_callk rfl callok106 rfl (laws_eqOut.calls (x0 := x0.fOut) (x1 := x1.fOut) (HM.rd hp0_0) (HM.rd hp1_0) h2958)) ?_
    rintro _ w2959 ⟨rfl, hn⟩
    replace HM : Mem w [] w2959 [box b2942 123 [.int .i64 x1.fRef.fTx, .int .i64 x1.fRef.fAt, .int .i64 x1.fOut.fValue, p1_0, .int .i64 x1.fOut.fRule.fNeed, .int .i64 x1.fOut.fRule.fAfter, .int .i64 x1.fHeight, .bool x1.fMined], box b2939 123 [.int .i64 x0.fRef.fTx, .int .i64 x0.fRef.fAt, .int .i64 x0.fOut.fValue, p0_0, .int .i64 x0.fOut.fRule.fNeed, .int .i64 x0.fOut.fRule.fAfter, .int .i64 x0.fHeight, .bool x0.fMined]] := HM.call hn
    refine ops_ex rfl (guard_none rfl) rfl rfl (ex_not rfl rfl) ?_
    refine ops_nil ?_
    refine at_then ?_
    refine run_cond (b := !t2957) rfl (fun hb2960 => ?_) (fun hb2960 => ?_)
    · replace H := cond_t hb2960 H
      refine run_seq ?_
      refine run_region rfl ?_
      refine ops_ex rfl (guard_none rfl) rfl rfl (ex_assign rfl rfl) ?_
      refine ops_nil ?_
      refine at_then ?_
      refine run_ret ?_
      refine at_then_ret ?_
      replace HM := (HM.front 0 rfl rfl).drop
      replace HM := (HM.front 0 rfl rfl).drop
      have hR := Option.some.inj H
      subst hR
      exact at_ret1 rfl rfl ⟨_, rfl, rfl, HM⟩
    · replace H := cond_f hb2960 H
      refine run_skip ?_
      refine at_then ?_
      refine run_seq ?_
      refine run_seq ?_
      refine run_region rfl ?_
      refine ops_ex rfl (guard_none rfl) rfl rfl (ex_fieldAddr (off' := 6) rfl rfl Try.underlying123 rfl tsz2 rfl) ?_
      refine ops_ex rfl (guard_none rfl) rfl rfl (ex_load1 rfl rfl Try.underlying2 rfl ((HM.box_at 1 rfl) 6 _ rfl)) ?_
      refine ops_ex rfl (guard_none rfl) rfl rfl (ex_fieldAddr (off' := 6) rfl rfl Try.underlying123 rfl tsz2 rfl) ?_
      refine ops_ex rfl (guard_none rfl) rfl rfl (ex_load1 rfl rfl Try.underlying2 rfl ((HM.box_at 0 rfl) 6 _ rfl)) ?_
      refine ops_ex rfl (guard_none rfl) rfl rfl (ex_neq rfl rfl rfl) ?_
      refine ops_nil ?_
      refine at_then ?_
      refine run_cond (b := (x0.fHeight != x1.fHeight)) rfl (fun hb2962 => ?_) (fun hb2962 => ?_)
      · replace H := cond_t hb2962 H
        refine run_seq ?_
        refine run_region rfl ?_
        refine ops_ex rfl (guard_none rfl) rfl rfl (ex_assign rfl rfl) ?_
        refine ops_nil ?_
        refine at_then ?_
        refine run_ret ?_
        refine at_then_ret ?_
        replace HM := (HM.front 0 rfl rfl).drop
        replace HM := (HM.front 0 rfl rfl).drop
        have hR := Option.some.inj H
        subst hR
        exact at_ret1 rfl rfl ⟨_, rfl, rfl, HM⟩
      · replace H := cond_f hb2962 H
        refine run_skip ?_
        refine at_then ?_
        refine run_seq ?_
        refine run_seq ?_
        refine run_region rfl ?_
        refine ops_ex rfl (guard_none rfl) rfl rfl (ex_fieldAddr (off' := 7) rfl rfl Try.underlying123 rfl tsz4 rfl) ?_
        refine ops_ex rfl (guard_none rfl) rfl rfl (ex_load1 rfl rfl Try.underlying4 rfl ((HM.box_at 1 rfl) 7 _ rfl)) ?_
        refine ops_ex rfl (guard_none rfl) rfl rfl (ex_fieldAddr (off' := 7) rfl rfl Try.underlying123 rfl tsz4 rfl) ?_
        refine ops_ex rfl (guard_none rfl) rfl rfl (ex_load1 rfl rfl Try.underlying4 rfl ((HM.box_at 0 rfl) 7 _ rfl)) ?_
        refine ops_ex rfl (guard_none rfl) rfl rfl (ex_bneq rfl rfl rfl Try.underlying4) ?_
        refine ops_nil ?_
        refine at_then ?_
        refine run_cond (b := (x0.fMined != x1.fMined)) rfl (fun hb2963 => ?_) (fun hb2963 => ?_)
        · replace H := cond_t hb2963 H
          refine run_seq ?_
          refine run_region rfl ?_
          refine ops_ex rfl (guard_none rfl) rfl rfl (ex_assign rfl rfl) ?_
          refine ops_nil ?_
          refine at_then ?_
          refine run_ret ?_
          refine at_then_ret ?_
          replace HM := (HM.front 0 rfl rfl).drop
          replace HM := (HM.front 0 rfl rfl).drop
          have hR := Option.some.inj H
          subst hR
          exact at_ret1 rfl rfl ⟨_, rfl, rfl, HM⟩
        · replace H := cond_f hb2963 H
          refine run_skip ?_
          refine at_then ?_
          refine run_seq ?_
          refine run_region rfl ?_
          refine ops_ex rfl (guard_none rfl) rfl rfl (ex_assign rfl rfl) ?_
          refine ops_nil ?_
          refine at_then ?_
          refine run_ret ?_
          replace HM := (HM.front 0 rfl rfl).drop
          replace HM := (HM.front 0 rfl rfl).drop
          have hR := Option.some.inj H
          subst hR
          exact at_ret1 rfl rfl ⟨_, rfl, rfl, HM⟩
end Go.Proofs.Ytigojhglkilodaa.Zk
