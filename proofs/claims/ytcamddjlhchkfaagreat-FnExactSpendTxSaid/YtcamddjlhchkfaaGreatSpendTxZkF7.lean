/- What functions of the program compute, each as a plain function, and that they do. Conditions: as each theorem states them. -/
import Derived.Test.YtcamddjlhchkfaaGreatSpendTxZkF6
namespace Go.Proofs.YtcamddjlhchkfaaGreat.Zk
open Go Go.RowKit Go.IntWalk Go.Proofs
set_option linter.unusedVariables false
set_option linter.unusedSimpArgs false
set_option maxRecDepth 100000
set_option maxHeartbeats 4000000
def impl_findCoin.f (k : Nat) (x0 : List Coin) (x1 : Ref) : Option (Int × Bool) := ((slices_BinarySearchFunc_impl_Coin.f k x0 x1).bind fun t4985 => some (t4985.1, t4985.2))
theorem impl_findCoin.calls {k : Nat} {x0 : List Coin} {x1 : Ref} {p0 : Value} {w : World} (hp0 : RdS kCoin w p0 x0) {r : Int × Bool} (H : impl_findCoin.f k x0 x1 = some r) :
    Calls Tryz.prog 60 ([p0, .agg #[(.int .i64 x1.fTx), (.int .i64 x1.fAt)]] : List Value).toArray w (fun e w_ => ∃ v, e = .returned v ∧ v = (.tuple #[.int .i64 r.1, .bool r.2]) ∧ Mem w [] w_ []) := by
  have HM := Mem.start w
  refine calls_run (N := 11) Tryz.func60 rfl rfl rfl rfl ?_
  unfold impl_findCoin.f at H
  refine run_seq ?_
  refine run_region rfl ?_
  refine ops_does rfl (guard_none rfl) rfl rfl (does_box (cs := [.int .i64 x1.fTx, .int .i64 x1.fAt]) rfl rfl rfl HM) ?_
  rintro _ w4984 ⟨b4981, rfl, HM⟩
  refine ops_ex rfl (guard_none rfl) rfl rfl (ex_assign rfl rfl) ?_
  refine ops_ex rfl (guard_none rfl) rfl rfl (ex_assign rfl rfl) ?_
  refine ops_nil ?_
  refine at_then ?_
  refine run_seq ?_
  obtain ⟨t4985, h4986, H⟩ := bind_some H
  refine run_region rfl ?_
  refine ops_ex rfl (guard_none rfl) rfl rfl (ex_move rfl rfl) ?_
  refine ops_ex rfl (guard_none rfl) rfl rfl (ex_loadN (cs := [(.int .i64 x1.fTx), (.int .i64 x1.fAt)]) rfl rfl Tryz.underlying56 rfl tsz56 rfl ((HM.box_at 0 rfl).sub 0 2 rfl)) ?_
  refine ops_does rfl (guard_none rfl) rfl rfl (does_callk rfl callok105 rfl (slices_BinarySearchFunc_impl_Coin.calls (x0 := x0) (x1 := x1) (HM.rd hp0) h4986)) ?_
  rintro _ w4987 ⟨rfl, hn⟩
  replace HM : Mem w [] w4987 [box b4981 56 [.int .i64 x1.fTx, .int .i64 x1.fAt]] := HM.call hn
  refine ops_ex rfl (guard_none rfl) rfl rfl (ex_extract rfl rfl rfl) ?_
  refine ops_ex rfl (guard_none rfl) rfl rfl (ex_extract rfl rfl rfl) ?_
  refine ops_ex rfl (guard_none rfl) rfl rfl (ex_assign rfl rfl) ?_
  refine ops_ex rfl (guard_none rfl) rfl rfl (ex_assign rfl rfl) ?_
  refine ops_nil ?_
  refine at_then ?_
  refine run_ret ?_
  replace HM := (HM.front 0 rfl rfl).drop
  have hR := Option.some.inj H
  subst hR
  exact at_ret2 rfl rfl rfl ⟨_, rfl, rfl, HM⟩

def slices_Clone_int64.f (k : Nat) (x0 : List Int) : Option ((List Int)) := (chk (leB ((([] : List Int).length + x0.length) * 8) 140737488355328) (some (([] : List Int) ++ x0)))
theorem slices_Clone_int64.calls {k : Nat} {x0 : List Int} {p0 : Value} {w : World} (hp0 : RdS kInt w p0 x0) {r : (List Int)} (H : slices_Clone_int64.f k x0 = some r) :
    Calls Tryz.prog 159 ([p0] : List Value).toArray w (fun e w_ => ∃ v, e = .returned v ∧ ∃ u0 : Value, v = u0 ∧ Mem w [] w_ [own kInt 2 u0 r]) := by
  have HM := Mem.start w
  refine calls_run (N := 8) Tryz.func159 rfl rfl rfl rfl ?_
  unfold slices_Clone_int64.f at H
  refine run_seq ?_
  refine run_region rfl ?_
  refine ops_ex rfl (guard_none rfl) rfl rfl (ex_assign rfl rfl) ?_
  refine ops_nil ?_
  refine at_then ?_
  refine run_seq ?_
  refine run_seq ?_
  refine run_region rfl ?_
  refine ops_ex rfl (guard_none rfl) rfl rfl (ex_move rfl rfl) ?_
  refine ops_exE rfl (guard_none rfl) rfl rfl (ex_isnil rfl rfl rfl Tryz.underlying60 hp0) ?_
  rintro _ ⟨b5083, rfl, hb5084⟩
  refine ops_nil ?_
  refine at_then ?_
  refine run_cond (b := b5083) rfl (fun hb5085 => ?_) (fun hb5085 => ?_)
  · have hx_ := hb5084 hb5085
    subst hx_
    obtain ⟨_, H⟩ := chk_some H
    replace H : some ([] : List Int) = r := H
    refine run_seq ?_
    refine run_region rfl ?_
    refine ops_ex rfl (guard_none rfl) rfl rfl (ex_assign rfl rfl) ?_
    refine ops_nil ?_
    refine at_then ?_
    refine run_ret ?_
    refine at_then_ret ?_
    replace HM := HM.empty kInt 2 none
    have hR := Option.some.inj H
    subst hR
    exact at_ret1 rfl rfl ⟨_, rfl, _, rfl, HM⟩
  · skip
    refine run_skip ?_
    refine at_then ?_
    refine run_seq ?_
    obtain ⟨e5089, H⟩ := chk_some H
    refine run_region rfl ?_
    refine ops_does rfl (guard_none rfl) rfl rfl (does_lit (e := 2) (cs := []) (xs := ([] : List Int)) kInt rfl rfl (fun _ => by kernel_rfl) rfl rfl (fun _ _ h => by have h' : _ = [] := h; subst h'; exact .nil) HM.emp) ?_
    rintro v5086 w5092 HM
    refine ops_ex rfl (guard_none rfl) rfl rfl (ex_move rfl rfl) ?_
    refine ops_does rfl (guard_none rfl) rfl rfl (does_appendR kInt flat_plain rfl rfl rfl Tryz.underlying60 tsz2 rfl tby2 tz2 rfl rfl (leB_le e5089) (HM.rd hp0) HM) ?_
    rintro v5090 w5093 HM
    refine ops_ex rfl (guard_none rfl) rfl rfl (ex_assign rfl rfl) ?_
    refine ops_nil ?_
    refine at_then ?_
    refine run_ret ?_
    have hR := Option.some.inj H
    subst hR
    exact at_ret1 rfl rfl ⟨_, rfl, _, rfl, HM⟩

def impl_ownRule.f (k : Nat) (x0 : Rule) : Option Rule := ((slices_Clone_int64.f k x0.fKeys).bind fun t5107 => some (⟨t5107, x0.fNeed, x0.fAfter⟩ : Rule))
theorem impl_ownRule.calls {k : Nat} {x0 : Rule} {p0_0 : Value} {w : World} (hp0_0 : RdS kInt w p0_0 x0.fKeys) {r : Rule} (H : impl_ownRule.f k x0 = some r) :
    Calls Tryz.prog 140 ([.agg #[p0_0, (.int .i64 x0.fNeed), (.int .i64 x0.fAfter)]] : List Value).toArray w (fun e w_ => ∃ v, e = .returned v ∧ ∃ u0 : Value, v = (.agg #[u0, .int .i64 r.fNeed, .int .i64 r.fAfter]) ∧ Mem w [] w_ [own kInt 2 u0 r.fKeys]) := by
  have HM := Mem.start w
  refine calls_run (N := 8) Tryz.func140 rfl rfl rfl rfl ?_
  unfold impl_ownRule.f at H
  refine run_seq ?_
  refine run_region rfl ?_
  refine ops_does rfl (guard_none rfl) rfl rfl (does_box (cs := [p0_0, .int .i64 x0.fNeed, .int .i64 x0.fAfter]) rfl rfl rfl HM) ?_
  rintro _ w5105 ⟨b5099, rfl, HM⟩
  refine ops_does rfl (guard_none rfl) rfl rfl (does_alloc (cs := [.slice none 0 0, .int .i64 0, .int .i64 0]) rfl tz73 rfl HM) ?_
  rintro _ w5106 ⟨b5102, rfl, HM⟩
  refine ops_nil ?_
  refine at_then ?_
  refine run_seq ?_
  obtain ⟨t5107, h5108, H⟩ := bind_some H
  refine run_region rfl ?_
  refine ops_ex rfl (guard_none rfl) rfl rfl (ex_fieldAddr (off' := 0) rfl rfl Tryz.underlying73 rfl tsz60 rfl) ?_
  refine ops_ex rfl (guard_none rfl) rfl rfl (ex_load1 rfl rfl Tryz.underlying60 rfl ((HM.box_at 1 rfl) 0 _ rfl)) ?_
  refine ops_does rfl (guard_none rfl) rfl rfl (does_callk rfl callok159 rfl (slices_Clone_int64.calls (x0 := x0.fKeys) (HM.rd hp0_0) h5108)) ?_
  rintro u5109 w5111 ⟨_, rfl, hn⟩
  replace HM : Mem w [] w5111 [own kInt 2 u5109 t5107, box b5102 73 [.slice none 0 0, .int .i64 0, .int .i64 0], box b5099 73 [p0_0, .int .i64 x0.fNeed, .int .i64 x0.fAfter]] := HM.call hn
  refine ops_ex rfl (guard_none rfl) rfl rfl (ex_fieldAddr (off' := 0) rfl rfl Tryz.underlying73 rfl tsz60 rfl) ?_
  replace HM := HM.front 2 rfl rfl
  refine ops_doesS rfl (guard_none rfl) rfl (does_store (vs := [u5109]) (cs' := [u5109, .int .i64 x0.fNeed, .int .i64 x0.fAfter]) rfl rfl rfl (rd_cells (HM.own_rd 1 rfl)) tsz60 (Ones.rd (HM.own_rd 1 rfl) Ones.nil) rfl rfl HM) ?_
  rintro w5112 HM
  refine ops_nil ?_
  refine at_then ?_
  refine run_seq ?_
  refine run_region rfl ?_
  refine ops_ex rfl (guard_none rfl) rfl rfl (ex_loadN (cs := [u5109, (.int .i64 x0.fNeed), (.int .i64 x0.fAfter)]) rfl rfl Tryz.underlying73 rfl tsz73 rfl ((HM.box_at 0 rfl).sub 0 3 rfl)) ?_
  replace HM := HM.front 2 rfl rfl
  refine ops_doesS rfl (guard_none rfl) rfl (does_store (vs := [u5109, .int .i64 x0.fNeed, .int .i64 x0.fAfter]) (cs' := [u5109, .int .i64 x0.fNeed, .int .i64 x0.fAfter]) rfl rfl rfl rfl tsz73 (Ones.rd (HM.own_rd 2 rfl) (Ones.int (Ones.int Ones.nil))) rfl rfl HM) ?_
  rintro w5113 HM
  refine ops_nil ?_
  refine at_then ?_
  refine run_ret ?_
  replace HM := (HM.front 1 rfl rfl).drop
  have hcb0 := HM.box_at 0 rfl
  replace HM := (HM.front 0 rfl rfl).drop
  have hR := Option.some.inj H
  subst hR
  exact at_retN rfl rfl Tryz.underlying73 rfl tsz73 rfl hcb0 ⟨_, rfl, _, rfl, HM⟩

def impl_ownOut.f (k : Nat) (x0 : Out) : Option Out := ((impl_ownRule.f k x0.fRule).bind fun t5126 => some (⟨x0.fValue, t5126⟩ : Out))
theorem impl_ownOut.calls {k : Nat} {x0 : Out} {p0_0 : Value} {w : World} (hp0_0 : RdS kInt w p0_0 x0.fRule.fKeys) {r : Out} (H : impl_ownOut.f k x0 = some r) :
    Calls Tryz.prog 107 ([.agg #[(.int .i64 x0.fValue), p0_0, (.int .i64 x0.fRule.fNeed), (.int .i64 x0.fRule.fAfter)]] : List Value).toArray w (fun e w_ => ∃ v, e = .returned v ∧ ∃ u0 : Value, v = (.agg #[.int .i64 r.fValue, u0, .int .i64 r.fRule.fNeed, .int .i64 r.fRule.fAfter]) ∧ Mem w [] w_ [own kInt 2 u0 r.fRule.fKeys]) := by
  have HM := Mem.start w
  refine calls_run (N := 9) Tryz.func107 rfl rfl rfl rfl ?_
  unfold impl_ownOut.f at H
  refine run_seq ?_
  refine run_region rfl ?_
  refine ops_does rfl (guard_none rfl) rfl rfl (does_box (cs := [.int .i64 x0.fValue, p0_0, .int .i64 x0.fRule.fNeed, .int .i64 x0.fRule.fAfter]) rfl rfl rfl HM) ?_
  rintro _ w5124 ⟨b5118, rfl, HM⟩
  refine ops_does rfl (guard_none rfl) rfl rfl (does_alloc (cs := [.int .i64 0, .slice none 0 0, .int .i64 0, .int .i64 0]) rfl tz75 rfl HM) ?_
  rintro _ w5125 ⟨b5121, rfl, HM⟩
  refine ops_nil ?_
  refine at_then ?_
  refine run_seq ?_
  obtain ⟨t5126, h5127, H⟩ := bind_some H
  refine run_drawf (fun w_ => Mem w [] w_ [box b5118 75 [.int .i64 x0.fValue, p0_0, .int .i64 x0.fRule.fNeed, .int .i64 x0.fRule.fAfter]]) [(0, true), (1, true), (2, true), (3, true), (4, false), (5, true), (6, false)] mixed rfl rfl (by kernel_rfl) ?_
  replace HM := HM.grow (fr_drew _)
  have hS := Mem.suf (M := [box b5121 75 [.int .i64 0, .slice none 0 0, .int .i64 0, .int .i64 0]]) HM
  refine drwp_take rfl (guard_none rfl) rfl rfl (fun w_ hS_ => (ex_fieldAddr (off' := 0) rfl rfl Tryz.underlying75 rfl tsz2 rfl)) hS ?_
  refine drwp_take rfl (guard_none rfl) rfl rfl (fun w_ hS_ => (ex_load1 rfl rfl Tryz.underlying2 rfl ((hS_.box_at 0 rfl) 0 _ rfl))) hS ?_
  refine drwp_take rfl (guard_none rfl) rfl rfl (fun w_ hS_ => (ex_fieldAddr (off' := 1) rfl rfl Tryz.underlying75 rfl tsz73 rfl)) hS ?_
  refine drwp_take rfl (guard_none rfl) rfl rfl (fun w_ hS_ => (ex_loadN (cs := [p0_0, (.int .i64 x0.fRule.fNeed), (.int .i64 x0.fRule.fAfter)]) rfl rfl Tryz.underlying73 rfl tsz73 rfl ((hS_.box_at 0 rfl).sub 1 3 rfl))) hS ?_
  refine drwp_one rfl (guard_none rfl) rfl rfl (does_callk rfl callok140 rfl (impl_ownRule.calls (x0 := x0.fRule) (HM.rd hp0_0) h5127)) ?_
  rintro _ w5130 ⟨u5128, rfl, hn⟩
  replace HM : Mem w [] w5130 [own kInt 2 u5128 t5126.fKeys, box b5121 75 [.int .i64 0, .slice none 0 0, .int .i64 0, .int .i64 0], box b5118 75 [.int .i64 x0.fValue, p0_0, .int .i64 x0.fRule.fNeed, .int .i64 x0.fRule.fAfter]] := HM.call hn
  refine ⟨Mem.suf (M := [own kInt 2 u5128 t5126.fKeys, box b5121 75 [.int .i64 0, .slice none 0 0, .int .i64 0, .int .i64 0]]) HM, ?_⟩
  have hS := Mem.suf (M := [own kInt 2 u5128 t5126.fKeys, box b5121 75 [.int .i64 0, .slice none 0 0, .int .i64 0, .int .i64 0]]) HM
  refine drwp_take rfl (guard_none rfl) rfl rfl (fun w_ hS_ => (ex_build1 (fun u5128 => [(0, .int .i64 x0.fValue), (1, .agg #[u5128, (.int .i64 t5126.fNeed), (.int .i64 t5126.fAfter)])]) (fun u5128 => #[.int .i64 x0.fValue, u5128, .int .i64 t5126.fNeed, .int .i64 t5126.fAfter]) rfl rfl (fun _ _ _ => by kernel_rfl) (HM.own_rd 0 rfl).isSl)) hS ?_
  replace HM := HM.front 1 rfl rfl
  refine drwp_oneS rfl (guard_none rfl) rfl (does_store (vs := [.int .i64 x0.fValue, u5128, .int .i64 t5126.fNeed, .int .i64 t5126.fAfter]) (cs' := [.int .i64 x0.fValue, u5128, .int .i64 t5126.fNeed, .int .i64 t5126.fAfter]) rfl rfl rfl rfl tsz75 (Ones.int (Ones.rd (HM.own_rd 1 rfl) (Ones.int (Ones.int Ones.nil)))) rfl rfl HM) ?_
  rintro w5131 HM
  refine ⟨Mem.suf (M := [box b5121 75 [.int .i64 x0.fValue, u5128, .int .i64 t5126.fNeed, .int .i64 t5126.fAfter], own kInt 2 u5128 t5126.fKeys]) HM, ?_⟩
  have hS := Mem.suf (M := [box b5121 75 [.int .i64 x0.fValue, u5128, .int .i64 t5126.fNeed, .int .i64 t5126.fAfter], own kInt 2 u5128 t5126.fKeys]) HM
  refine drwp_done ?_
  refine at_then ?_
  refine run_ret ?_
  replace HM := (HM.front 2 rfl rfl).drop
  have hcb0 := HM.box_at 0 rfl
  replace HM := (HM.front 0 rfl rfl).drop
  have hR := Option.some.inj H
  subst hR
  exact at_retN rfl rfl Tryz.underlying75 rfl tsz75 rfl hcb0 ⟨_, rfl, _, rfl, HM⟩

def impl_ownCoins.l0 (x0 : List Coin) : Nat → (List Coin) → Int → Option ((List Coin))
  | 0, _, _ => none
  | k + 1, a5273, a5275 => (bif (decide (a5275 < (x0.length : Int))) then (chk (idxOk a5275 x0.length) ((impl_ownOut.f k ((gt x0 a5275).fOut)).bind fun t5306 => (chk (leB ((a5273.length + ([(⟨(gt x0 a5275).fRef, t5306, (gt x0 a5275).fHeight, (gt x0 a5275).fMined⟩ : Coin)] : List Coin).length) * 80) 140737488355328) (impl_ownCoins.l0 x0 k (a5273 ++ ([(⟨(gt x0 a5275).fRef, t5306, (gt x0 a5275).fHeight, (gt x0 a5275).fMined⟩ : Coin)] : List Coin)) (wrap64 (a5275 + 1)))))) else some a5273)
theorem impl_ownCoins.l0_z (x0 : List Coin) (a5273 : List Coin) (a5275 : Int) : impl_ownCoins.l0 x0 0 a5273 a5275 = none := rfl
theorem impl_ownCoins.l0_s (x0 : List Coin) (k : Nat) (a5273 : List Coin) (a5275 : Int) : impl_ownCoins.l0 x0 (k + 1) a5273 a5275 = (bif (decide (a5275 < (x0.length : Int))) then (chk (idxOk a5275 x0.length) ((impl_ownOut.f k ((gt x0 a5275).fOut)).bind fun t5306 => (chk (leB ((a5273.length + ([(⟨(gt x0 a5275).fRef, t5306, (gt x0 a5275).fHeight, (gt x0 a5275).fMined⟩ : Coin)] : List Coin).length) * 80) 140737488355328) (impl_ownCoins.l0 x0 k (a5273 ++ ([(⟨(gt x0 a5275).fRef, t5306, (gt x0 a5275).fHeight, (gt x0 a5275).fMined⟩ : Coin)] : List Coin)) (wrap64 (a5275 + 1)))))) else some a5273) := rfl
def impl_ownCoins.f (k : Nat) (x0 : List Coin) : Option ((List Coin)) := ((impl_ownCoins.l0 x0 k ([] : List Coin) 0).bind (fun a5250 => some a5250))
theorem impl_ownCoins.calls {k : Nat} {x0 : List Coin} {p0 : Value} {w : World} (hp0 : RdS kCoin w p0 x0) {r : (List Coin)} (H : impl_ownCoins.f k x0 = some r) :
    Calls Tryz.prog 61 ([p0] : List Value).toArray w (fun e w_ => ∃ v, e = .returned v ∧ ∃ u0 : Value, v = u0 ∧ Mem w [] w_ [own kCoin 77 u0 r]) := by
  have HM := Mem.start w
  refine calls_run (N := 23) Tryz.func61 rfl rfl rfl rfl ?_
  unfold impl_ownCoins.f at H
  refine run_seq ?_
  refine run_region rfl ?_
  refine ops_ex rfl (guard_none rfl) rfl rfl (ex_assign rfl rfl) ?_
  refine ops_nil ?_
  refine at_then ?_
  refine run_seq ?_
  refine run_region rfl ?_
  refine ops_does rfl (guard_none rfl) rfl rfl (does_lit (e := 77) (cs := []) (xs := ([] : List Coin)) kCoin rfl rfl (fun _ => by kernel_rfl) rfl rfl (fun _ _ h => by have h' : _ = [] := h; subst h'; exact .nil) HM.emp) ?_
  rintro v5187 w5190 HM
  refine ops_ex rfl (guard_none rfl) rfl rfl (ex_assign rfl rfl) ?_
  refine ops_nil ?_
  refine at_then ?_
  obtain ⟨o5252, ho5253, H⟩ := bind_some H
  refine run_mid (fun ρ_ w_ => ∃ v5249 : Value, ∃ a5250 : List Coin, a5250 = o5252 ∧ ρ_ = [(3, v5249)] ∧ Mem w [] w_ [own kCoin 77 v5249 a5250]) ?_ ?_
  · clear H
    refine run_seq ?_
    refine run_region rfl ?_
    refine ops_ex rfl (guard_none rfl) rfl rfl (ex_move rfl rfl) ?_
    refine ops_ex rfl (guard_none rfl) rfl rfl (ex_len (d := kCoin) (xs := x0) rfl rfl Tryz.underlying29 hp0) ?_
    refine ops_ex rfl (guard_none rfl) rfl rfl (ex_move rfl rfl) ?_
    refine ops_nil ?_
    refine at_then ?_
    refine run_block ?_
    refine run_loop (fun k_ ρ_ w_ => ∃ v5272 : Value, ∃ a5273 : List Coin, ∃ a5275 : Int, impl_ownCoins.l0 x0 k_ a5273 a5275 = some o5252 ∧ ρ_ = [(3, v5272), (7, p0), (8, .int .i64 (x0.length : Int)), (9, .int .i64 a5275)] ∧ Mem w [] w_ [own kCoin 77 v5272 a5273]) k (ρ1 := [(3, v5187), (7, p0), (8, .int .i64 (x0.length : Int)), (9, .int .i64 0)]) ⟨_, _, _, ho5253, rfl, HM⟩ (Sub.cons rfl (Sub.cons rfl (Sub.cons rfl (Sub.cons rfl Sub.nil)))) ?_
    clear HM ho5253
    rintro k5294 _ w5295 ⟨v5272, a5273, a5275, ho5253, rfl, HM⟩
    obtain _ | k5294 := k5294
    · exact nomatch ((impl_ownCoins.l0_z x0 a5273 a5275).symm.trans ho5253)
    replace ho5253 := (impl_ownCoins.l0_s x0 k5294 a5273 a5275).symm.trans ho5253
    refine run_seq ?_
    refine run_region rfl ?_
    refine ops_ex rfl (guard_none rfl) rfl rfl (ex_lss rfl rfl rfl) ?_
    refine ops_nil ?_
    refine at_then ?_
    refine run_seq ?_
    refine run_cond (b := (decide (a5275 < (x0.length : Int)))) rfl (fun hb5296 => ?_) (fun hb5296 => ?_)
    · replace ho5253 := cond_t hb5296 ho5253
      refine run_skip ?_
      refine at_then ?_
      refine run_seq ?_
      refine run_block ?_
      refine run_seq ?_
      obtain ⟨e5297, ho5253⟩ := chk_some ho5253
      refine run_region rfl ?_
      obtain ⟨kv5299, hc5298, hk5300⟩ : ∃ u, CellsAt _ (sb p0) (so p0 + (a5275).toNat * 8) [(.int .i64 ((gt x0 a5275).fRef.fTx)), (.int .i64 ((gt x0 a5275).fRef.fAt)), (.int .i64 ((gt x0 a5275).fOut.fValue)), u, (.int .i64 ((gt x0 a5275).fOut.fRule.fNeed)), (.int .i64 ((gt x0 a5275).fOut.fRule.fAfter)), (.int .i64 ((gt x0 a5275).fHeight)), (.bool ((gt x0 a5275).fMined))] ∧ RdS kInt _ u ((gt x0 a5275).fOut.fRule.fKeys) := rd_with1 hp0 e5297
      refine ops_ex rfl (guard_none rfl) rfl rfl (ex_indexAddr (d := kCoin) rfl rfl rfl Tryz.underlying29 tsz77 hp0 (idx_lo e5297) (idx_hi e5297)) ?_
      refine ops_ex rfl (guard_none rfl) rfl rfl (ex_loadN (cs := [(.int .i64 ((gt x0 a5275).fRef.fTx)), (.int .i64 ((gt x0 a5275).fRef.fAt)), (.int .i64 ((gt x0 a5275).fOut.fValue)), kv5299, (.int .i64 ((gt x0 a5275).fOut.fRule.fNeed)), (.int .i64 ((gt x0 a5275).fOut.fRule.fAfter)), (.int .i64 ((gt x0 a5275).fHeight)), (.bool ((gt x0 a5275).fMined))]) rfl rfl Tryz.underlying77 rfl tsz77 rfl ((HM.at_ hc5298).sub 0 8 rfl)) ?_
      refine ops_does rfl (guard_none rfl) rfl rfl (does_alloc (cs := [.int .i64 0, .int .i64 0, .int .i64 0, .slice none 0 0, .int .i64 0, .int .i64 0, .int .i64 0, .bool false]) rfl tz77 rfl HM) ?_
      rintro _ w5304 ⟨b5301, rfl, HM⟩
      refine ops_doesS rfl (guard_none rfl) rfl (does_store (vs := [.int .i64 ((gt x0 a5275).fRef.fTx), .int .i64 ((gt x0 a5275).fRef.fAt), .int .i64 ((gt x0 a5275).fOut.fValue), kv5299, .int .i64 ((gt x0 a5275).fOut.fRule.fNeed), .int .i64 ((gt x0 a5275).fOut.fRule.fAfter), .int .i64 ((gt x0 a5275).fHeight), .bool ((gt x0 a5275).fMined)]) (cs' := [.int .i64 ((gt x0 a5275).fRef.fTx), .int .i64 ((gt x0 a5275).fRef.fAt), .int .i64 ((gt x0 a5275).fOut.fValue), kv5299, .int .i64 ((gt x0 a5275).fOut.fRule.fNeed), .int .i64 ((gt x0 a5275).fOut.fRule.fAfter), .int .i64 ((gt x0 a5275).fHeight), .bool ((gt x0 a5275).fMined)]) rfl rfl rfl rfl tsz77 (Ones.int (Ones.int (Ones.int (Ones.rd hk5300 (Ones.int (Ones.int (Ones.int (Ones.bool Ones.nil)))))))) rfl rfl HM) ?_
      rintro w5305 HM
      refine ops_nil ?_
      refine at_then ?_
      refine run_seq ?_
      obtain ⟨t5306, h5307, ho5253⟩ := bind_some ho5253
      refine run_region rfl ?_
      refine ops_ex rfl (guard_none rfl) rfl rfl (ex_fieldAddr (off' := 2) rfl rfl Tryz.underlying77 rfl tsz75 rfl) ?_
      refine ops_ex rfl (guard_none rfl) rfl rfl (ex_loadN (cs := [(.int .i64 ((gt x0 a5275).fOut.fValue)), kv5299, (.int .i64 ((gt x0 a5275).fOut.fRule.fNeed)), (.int .i64 ((gt x0 a5275).fOut.fRule.fAfter))]) rfl rfl Tryz.underlying75 rfl tsz75 rfl ((HM.box_at 0 rfl).sub 2 4 rfl)) ?_
      refine ops_does rfl (guard_none rfl) rfl rfl (does_callk rfl callok107 rfl (impl_ownOut.calls (x0 := (gt x0 a5275).fOut) (HM.rd hk5300) h5307)) ?_
      rintro _ w5310 ⟨u5308, rfl, hn⟩
      replace HM : Mem w [] w5310 [own kInt 2 u5308 t5306.fRule.fKeys, box b5301 77 [.int .i64 ((gt x0 a5275).fRef.fTx), .int .i64 ((gt x0 a5275).fRef.fAt), .int .i64 ((gt x0 a5275).fOut.fValue), kv5299, .int .i64 ((gt x0 a5275).fOut.fRule.fNeed), .int .i64 ((gt x0 a5275).fOut.fRule.fAfter), .int .i64 ((gt x0 a5275).fHeight), .bool ((gt x0 a5275).fMined)], own kCoin 77 v5272 a5273] := HM.call hn
      refine ops_ex rfl (guard_none rfl) rfl rfl (ex_fieldAddr (off' := 2) rfl rfl Tryz.underlying77 rfl tsz75 rfl) ?_
      replace HM := HM.front 1 rfl rfl
      refine ops_doesS rfl (guard_none rfl) rfl (does_store (vs := [.int .i64 t5306.fValue, u5308, .int .i64 t5306.fRule.fNeed, .int .i64 t5306.fRule.fAfter]) (cs' := [.int .i64 ((gt x0 a5275).fRef.fTx), .int .i64 ((gt x0 a5275).fRef.fAt), .int .i64 t5306.fValue, u5308, .int .i64 t5306.fRule.fNeed, .int .i64 t5306.fRule.fAfter, .int .i64 ((gt x0 a5275).fHeight), .bool ((gt x0 a5275).fMined)]) rfl rfl rfl rfl tsz75 (Ones.int (Ones.rd (HM.own_rd 1 rfl) (Ones.int (Ones.int Ones.nil)))) rfl rfl HM) ?_
      rintro w5311 HM
      refine ops_nil ?_
      refine at_then ?_
      obtain ⟨e5315, ho5253⟩ := chk_some ho5253
      refine run_region rfl ?_
      refine ops_ex rfl (guard_none rfl) rfl rfl (ex_move rfl rfl) ?_
      refine ops_ex rfl (guard_none rfl) rfl rfl (ex_loadN (cs := [(.int .i64 ((gt x0 a5275).fRef.fTx)), (.int .i64 ((gt x0 a5275).fRef.fAt)), (.int .i64 t5306.fValue), u5308, (.int .i64 t5306.fRule.fNeed), (.int .i64 t5306.fRule.fAfter), (.int .i64 ((gt x0 a5275).fHeight)), (.bool ((gt x0 a5275).fMined))]) rfl rfl Tryz.underlying77 rfl tsz77 rfl ((HM.box_at 0 rfl).sub 0 8 rfl)) ?_
      replace HM := HM.front 1 rfl rfl
      refine ops_does rfl (guard_none rfl) rfl rfl (does_lit (e := 77) (cs := [(.int .i64 ((gt x0 a5275).fRef.fTx)), (.int .i64 ((gt x0 a5275).fRef.fAt)), (.int .i64 t5306.fValue), u5308, (.int .i64 t5306.fRule.fNeed), (.int .i64 t5306.fRule.fAfter), (.int .i64 ((gt x0 a5275).fHeight)), (.bool ((gt x0 a5275).fMined))]) (xs := ([(⟨(gt x0 a5275).fRef, t5306, (gt x0 a5275).fHeight, (gt x0 a5275).fMined⟩ : Coin)] : List Coin)) kCoin rfl rfl (fun _ => by kernel_rfl) rfl rfl (fun _ _ h => by have := Elems.cons (d := kCoin) (x := (⟨(gt x0 a5275).fRef, t5306, (gt x0 a5275).fHeight, (gt x0 a5275).fMined⟩ : Coin)) ⟨_, rfl, h⟩ .nil; rw [List.append_nil, List.append_nil] at this; exact this) HM) ?_
      rintro v5312 w5318 HM
      replace HM := HM.front 2 rfl rfl
      refine ops_does rfl (guard_none rfl) rfl rfl (does_append kCoin rfl rfl rfl Tryz.underlying29 tsz77 rfl tby77 tz77 rfl rfl (leB_le e5315) HM) ?_
      rintro v5316 w5319 HM
      refine ops_ex rfl (guard_none rfl) rfl rfl (ex_assign rfl rfl) ?_
      refine ops_nil ?_
      refine at_block ?_
      refine at_then ?_
      refine run_region rfl ?_
      refine ops_ex rfl (guard_none rfl) rfl rfl (ex_add rfl rfl rfl) ?_
      refine ops_ex rfl (guard_none rfl) rfl rfl (ex_move rfl rfl) ?_
      refine ops_nil ?_
      replace HM := (HM.front 1 rfl rfl).drop
      exact at_again k5294 (ρ1 := [(3, v5316), (7, p0), (8, .int .i64 (x0.length : Int)), (9, .int .i64 (wrap64 (a5275 + 1)))]) (Nat.lt_succ_self _) ⟨_, _, _, ho5253, rfl, HM⟩ (Sub.cons rfl (Sub.cons rfl (Sub.cons rfl (Sub.cons rfl Sub.nil))))
    · replace ho5253 := cond_f hb5296 ho5253
      refine run_exit ?_
      refine at_then_exit ?_
      refine at_then_exit ?_
      refine at_block_exit ?_
      exact at_mid (ρ' := [(3, v5272)]) ⟨_, _, (Option.some.inj ho5253), rfl, HM⟩ (Sub.cons rfl Sub.nil)
  · rintro _ w5320 ⟨v5249, a5250, rfl, rfl, HM⟩
    refine run_seq ?_
    refine run_region rfl ?_
    refine ops_ex rfl (guard_none rfl) rfl rfl (ex_move rfl rfl) ?_
    refine ops_ex rfl (guard_none rfl) rfl rfl (ex_assign rfl rfl) ?_
    refine ops_nil ?_
    refine at_then ?_
    refine run_ret ?_
    have hR := Option.some.inj H
    subst hR
    exact at_ret1 rfl rfl ⟨_, rfl, _, rfl, HM⟩

def impl_sorted_1.f (k : Nat) (x0 : Coin) (x1 : Coin) : Option Int := ((impl_compareRefs.f k x0.fRef x1.fRef).bind fun t5341 => some t5341)
theorem impl_sorted_1.calls {k : Nat} {x0 : Coin} {x1 : Coin} {p0_0 : Value} {p1_0 : Value} {w : World} (hp0_0 : IsSl p0_0) (hp1_0 : IsSl p1_0) {r : Int} (H : impl_sorted_1.f k x0 x1 = some r) :
    Calls Tryz.prog 119 ([.agg #[(.int .i64 x0.fRef.fTx), (.int .i64 x0.fRef.fAt), (.int .i64 x0.fOut.fValue), p0_0, (.int .i64 x0.fOut.fRule.fNeed), (.int .i64 x0.fOut.fRule.fAfter), (.int .i64 x0.fHeight), (.bool x0.fMined)], .agg #[(.int .i64 x1.fRef.fTx), (.int .i64 x1.fRef.fAt), (.int .i64 x1.fOut.fValue), p1_0, (.int .i64 x1.fOut.fRule.fNeed), (.int .i64 x1.fOut.fRule.fAfter), (.int .i64 x1.fHeight), (.bool x1.fMined)]] : List Value).toArray w (fun e w_ => ∃ v, e = .returned v ∧ v = (.int .i64 r) ∧ Mem w [] w_ []) := by
  have HM := Mem.start w
  refine calls_run (N := 10) Tryz.func119 rfl rfl rfl rfl ?_
  unfold impl_sorted_1.f at H
  refine run_seq ?_
  refine run_region rfl ?_
  refine ops_does rfl (guard_none rfl) rfl rfl (does_box (cs := [.int .i64 x0.fRef.fTx, .int .i64 x0.fRef.fAt, .int .i64 x0.fOut.fValue, p0_0, .int .i64 x0.fOut.fRule.fNeed, .int .i64 x0.fOut.fRule.fAfter, .int .i64 x0.fHeight, .bool x0.fMined]) rfl rfl rfl HM) ?_
  rintro _ w5339 ⟨b5333, rfl, HM⟩
  refine ops_does rfl (guard_none rfl) rfl rfl (does_box (cs := [.int .i64 x1.fRef.fTx, .int .i64 x1.fRef.fAt, .int .i64 x1.fOut.fValue, p1_0, .int .i64 x1.fOut.fRule.fNeed, .int .i64 x1.fOut.fRule.fAfter, .int .i64 x1.fHeight, .bool x1.fMined]) rfl rfl rfl HM) ?_
  rintro _ w5340 ⟨b5336, rfl, HM⟩
  refine ops_ex rfl (guard_none rfl) rfl rfl (ex_assign rfl rfl) ?_
  refine ops_nil ?_
  refine at_then ?_
  refine run_seq ?_
  obtain ⟨t5341, h5342, H⟩ := bind_some H
  refine run_region rfl ?_
  refine ops_ex rfl (guard_none rfl) rfl rfl (ex_fieldAddr (off' := 0) rfl rfl Tryz.underlying77 rfl tsz56 rfl) ?_
  refine ops_ex rfl (guard_none rfl) rfl rfl (ex_loadN (cs := [(.int .i64 x0.fRef.fTx), (.int .i64 x0.fRef.fAt)]) rfl rfl Tryz.underlying56 rfl tsz56 rfl ((HM.box_at 1 rfl).sub 0 2 rfl)) ?_
  refine ops_ex rfl (guard_none rfl) rfl rfl (ex_fieldAddr (off' := 0) rfl rfl Tryz.underlying77 rfl tsz56 rfl) ?_
  refine ops_ex rfl (guard_none rfl) rfl rfl (ex_loadN (cs := [(.int .i64 x1.fRef.fTx), (.int .i64 x1.fRef.fAt)]) rfl rfl Tryz.underlying56 rfl tsz56 rfl ((HM.box_at 0 rfl).sub 0 2 rfl)) ?_
  refine ops_does rfl (guard_none rfl) rfl rfl (does_callk rfl callok68 rfl (impl_compareRefs.calls (x0 := x0.fRef) (x1 := x1.fRef) h5342)) ?_
  rintro _ w5343 ⟨rfl, hn⟩
  replace HM : Mem w [] w5343 [box b5336 77 [.int .i64 x1.fRef.fTx, .int .i64 x1.fRef.fAt, .int .i64 x1.fOut.fValue, p1_0, .int .i64 x1.fOut.fRule.fNeed, .int .i64 x1.fOut.fRule.fAfter, .int .i64 x1.fHeight, .bool x1.fMined], box b5333 77 [.int .i64 x0.fRef.fTx, .int .i64 x0.fRef.fAt, .int .i64 x0.fOut.fValue, p0_0, .int .i64 x0.fOut.fRule.fNeed, .int .i64 x0.fOut.fRule.fAfter, .int .i64 x0.fHeight, .bool x0.fMined]] := HM.call hn
  refine ops_ex rfl (guard_none rfl) rfl rfl (ex_assign rfl rfl) ?_
  refine ops_nil ?_
  refine at_then ?_
  refine run_ret ?_
  replace HM := (HM.front 0 rfl rfl).drop
  replace HM := (HM.front 0 rfl rfl).drop
  have hR := Option.some.inj H
  subst hR
  exact at_ret1 rfl rfl ⟨_, rfl, rfl, HM⟩

def srtI (x y : Int) : Int := bif decide (x < y) then -1 else bif decide (y < x) then 1 else 0
def srtC (a b : Ref) : Int := bif srtI a.fTx b.fTx != 0 then srtI a.fTx b.fTx else srtI a.fAt b.fAt
theorem srtI_run (x y : Int) : cmp_Compare_int64.f 3 x y = some (srtI x y) := by
  have e : ∀ z : Int, (z != z) = false := fun z => by simp
  unfold cmp_Compare_int64.f cmp_isNaN_int64.f srtI
  simp only [Option.bind_some, e, cond_false]
  cases decide (x < y) <;> cases decide (y < x) <;> rfl
theorem srtO_run (p q : Int) : cmp_Or_int.f 3 [p, q] = some (bif p != 0 then p else q) := by
  have e0 : gt [p, q] (0 : Int) = p := rfl
  have e1 : gt [p, q] (1 : Int) = q := rfl
  have w0 : wrap64 ((0 : Int) + 1) = 1 := by rw [wrap64_in _ (by omega)]; rfl
  have w1 : wrap64 ((1 : Int) + 1) = 2 := by rw [wrap64_in _ (by omega)]; rfl
  have c0 : decide ((0 : Int) < (([p, q] : List Int).length : Int)) = true := rfl
  have c1 : decide ((1 : Int) < (([p, q] : List Int).length : Int)) = true := rfl
  have c2 : decide ((2 : Int) < (([p, q] : List Int).length : Int)) = false := rfl
  have k0 : idxOk (0 : Int) ([p, q] : List Int).length = true := rfl
  have k1 : idxOk (1 : Int) ([p, q] : List Int).length = true := rfl
  unfold cmp_Or_int.f
  rw [cmp_Or_int.l0_s, c0, cond_true, k0, e0, w0]
  unfold chk
  simp only [cond_true]
  cases hp : p != 0
  · rw [cond_false, cmp_Or_int.l0_s, c1, cond_true, k1, e1, w1]
    unfold chk
    simp only [cond_true, cond_false]
    cases hq : q != 0
    · rw [cond_false, cmp_Or_int.l0_s, c2]
      have : q = 0 := by simpa using hq
      subst this; rfl
    · rfl
  · rfl
theorem srt_run (a b : Coin) : impl_sorted_1.f 3 a b = some (srtC a.fRef b.fRef) := by
  unfold impl_sorted_1.f impl_compareRefs.f
  simp only [srtI_run, Option.bind_some, srtO_run]
  rfl
theorem srtI_lt {x y : Int} : srtI x y < 0 ↔ x < y := by
  unfold srtI
  by_cases h : x < y
  · simp [h]
  · by_cases h2 : y < x <;> simp [h, h2]
theorem srtI_0 {x y : Int} : srtI x y = 0 ↔ x = y := by
  unfold srtI
  by_cases h : x < y
  · simp [h]; omega
  · by_cases h2 : y < x
    · simp [h, h2]; omega
    · simp [h, h2]; omega
theorem srtC_lt {a b : Ref} : srtC a b < 0 ↔ a.fTx < b.fTx ∨ a.fTx = b.fTx ∧ a.fAt < b.fAt := by
  unfold srtC
  cases h : srtI a.fTx b.fTx != 0
  · have h0 : srtI a.fTx b.fTx = 0 := by simpa using h
    have h1 := srtI_0.1 h0
    rw [cond_false, srtI_lt]; omega
  · have h0 : srtI a.fTx b.fTx ≠ 0 := by simpa using h
    have h1 : a.fTx ≠ b.fTx := fun e => h0 (srtI_0.2 e)
    rw [cond_true, srtI_lt]; omega
/-- A coin with its row's place. -/
abbrev SrtT := Coin × (Option Addr × Nat × Nat)
def srtEnc (s : SrtT) : List Value := [.int .i64 s.1.fRef.fTx, .int .i64 s.1.fRef.fAt, .int .i64 s.1.fOut.fValue, .slice s.2.1 s.2.2.1 s.2.2.2, .int .i64 s.1.fOut.fRule.fNeed, .int .i64 s.1.fOut.fRule.fAfter, .int .i64 s.1.fHeight, .bool s.1.fMined]
theorem srt_swo : Go.Sort.SWO (ltOf fun x y : SrtT => srtC x.1.fRef y.1.fRef) where
  irrefl x := by
    show decide _ = false
    rw [decide_eq_false_iff_not, srtC_lt]; omega
  trans x y z h1 h2 := by
    have h1' := srtC_lt.1 (of_decide_eq_true h1)
    have h2' := srtC_lt.1 (of_decide_eq_true h2)
    show decide _ = true
    rw [decide_eq_true_eq, srtC_lt]; omega
  ntrans x y z h1 h2 := by
    have h1' : ¬ srtC x.1.fRef y.1.fRef < 0 := of_decide_eq_false h1
    have h2' : ¬ srtC y.1.fRef z.1.fRef < 0 := of_decide_eq_false h2
    rw [srtC_lt] at h1' h2'
    show decide _ = false
    rw [decide_eq_false_iff_not, srtC_lt]; omega
def refLe (a b : Coin) : Bool := decide (a.fRef.fTx < b.fRef.fTx) || (decide (a.fRef.fTx = b.fRef.fTx) && decide (a.fRef.fAt ≤ b.fRef.fAt))
theorem refLe_iff {a b : Coin} : refLe a b = true ↔ a.fRef.fTx < b.fRef.fTx ∨ a.fRef.fTx = b.fRef.fTx ∧ a.fRef.fAt ≤ b.fRef.fAt := by
  unfold refLe
  rw [Bool.or_eq_true, Bool.and_eq_true, decide_eq_true_eq, decide_eq_true_eq, decide_eq_true_eq]
theorem refLe_not {a b : Coin} : ltOf (fun x y : Coin => srtC x.fRef y.fRef) b a = false → refLe a b = true := fun h => by
  have h1 : ¬ srtC b.fRef a.fRef < 0 := of_decide_eq_false h
  rw [srtC_lt] at h1
  rw [refLe_iff]; omega
def refKey (c : Coin) : Int × Int := (c.fRef.fTx, c.fRef.fAt)
theorem key_inj : ∀ {xs : List Coin}, (xs.map refKey).Nodup → ∀ a ∈ xs, ∀ b ∈ xs, refKey a = refKey b → a = b
  | [], _, a, ha, _, _, _ => by simp at ha
  | x :: xs, h, a, ha, b, hb, e => by
    rw [List.map_cons, List.nodup_cons] at h
    rcases List.mem_cons.1 ha with ha | ha <;> rcases List.mem_cons.1 hb with hb | hb
    · rw [ha, hb]
    · exact absurd (List.mem_map.2 ⟨b, hb, by rw [← e, ha]⟩) h.1
    · exact absurd (List.mem_map.2 ⟨a, ha, by rw [e, hb]⟩) h.1
    · exact key_inj h.2 a ha b hb e
theorem sorted_uniq {α : Type} {le : α → α → Bool} : ∀ {l m : List α}, l.Perm m → l.Pairwise (fun a b => le a b = true) → m.Pairwise (fun a b => le a b = true) → (∀ a ∈ l, ∀ b ∈ l, le a b = true → le b a = true → a = b) → l = m
  | [], m, h, _, _, _ => (List.nil_perm.1 h).symm
  | a :: l, [], h, _, _, _ => by have := h.length_eq; simp at this
  | a :: l, b :: m, h, h1, h2, h3 => by
    rw [List.pairwise_cons] at h1 h2
    have hb : b ∈ a :: l := h.mem_iff.2 (by simp)
    have ha : a ∈ b :: m := h.mem_iff.1 (by simp)
    have e : a = b := by
      rcases List.mem_cons.1 hb with e | hb'
      · exact e.symm
      · rcases List.mem_cons.1 ha with e | ha'
        · exact e
        · exact h3 a (by simp) b hb (h1.1 b hb') (h2.1 a ha')
    subst e
    rw [sorted_uniq ((List.perm_cons a).1 h) h1.2 h2.2 (fun x hx y hy => h3 x (by simp [hx]) y (by simp [hy]))]
def slices_SortFunc_Coin.f (k : Nat) (x0 : List Coin) : Option (List Coin) := chk (leB x0.length 1000000 && decide ((x0.map refKey).Nodup)) (some (x0.mergeSort refLe))
theorem slices_SortFunc_Coin.calls {k : Nat} {x0 : List Coin} {p0 : Value} {w wo : World} {X : List Nat} (hwo : Olds wo w X) (hX : Hold w [own kCoin 77 p0 x0] X) (hXn : X.Nodup) (hXl : ∀ b ∈ X, b < w.heap.size) {r : List Coin} (H : slices_SortFunc_Coin.f k x0 = some r) :
    Calls Tryz.prog 118 ([p0, .func (.func 119) #[] #[]] : List Value).toArray w (fun e w_ => ∃ v, e = .returned v ∧ v = (.tuple #[]) ∧ Mem w X w_ [own kCoin 77 p0 r]) := by
  obtain ⟨h, H⟩ := chk_some H
  have hR := Option.some.inj H
  subst hR
  rw [Bool.and_eq_true, decide_eq_true_eq] at h
  have hlen := leB_le h.1
  have eg : ∀ args w, (callFunc 119 args).run Tryz.prog w = .ok (.enter 119 args) w := enters_of Tryz.func119 (by kernel_rfl) rfl
  have aE : ∀ w, (isAgg 77).run Tryz.prog w = .ok true w := fun w => by simp [isAgg, run_underlying Tryz.underlying77]
  have zE : ∀ w, (Go.sizeOf 77).run Tryz.prog w = .ok 8 w := fun w => run_sizeOf tsz77
  have hk : ∀ x : SrtT, (srtEnc x).length = 8 := fun _ => rfl
  have h1 : ∀ x : SrtT, ∀ v ∈ srtEnc x, v.oneCell' = true := fun x v hv => by
    simp only [srtEnc, List.mem_cons, List.not_mem_nil, or_false] at hv
    rcases hv with rfl | rfl | rfl | rfl | rfl | rfl | rfl | rfl <;> rfl
  refine (sort_own (d := kCoin) (enc := srtEnc) hk h1 (by decide) (cf := fun x y : SrtT => srtC x.1.fRef y.1.fRef) (fun s x => s.1 = x) ?_
    (fun blk cap dd w hc hH hb hs => AnyQ.slices_SortFunc Tryz.sortCoin 8 aE zE srtEnc hk h1 _ srt_swo 119 #[] blk 0 cap dd w eg hc hH hb hs)
    (fun p cap w => AnyF.slices_SortFunc_none { Tryz.sortCoin with } p cap _ w) trivial (fun W x y => ?_) hX hXn hXl (by omega)).mono fun e w' ⟨he, ys, hp, ⟨ps, q1, q2, q3⟩, hm⟩ => ⟨_, he, rfl, ?_⟩
  · rintro w x c f ⟨v, hv, ⟨cells, b, fs, hrow, _⟩⟩
    subst hv
    rcases hrow with ⟨A, rfl, _⟩ | ⟨g0, c0, cur, rfl, _⟩
    · exact ⟨(x, (A, 0, 0)), rfl, rfl⟩
    · exact ⟨(x, (some ⟨g0, 0, none⟩, _, c0)), rfl, rfl⟩
  · exact (impl_sorted_1.calls (w := W) (p0_0 := .slice x.2.1 x.2.2.1 x.2.2.2) (p1_0 := .slice y.2.1 y.2.2.1 y.2.2.2) ⟨_, _, _, rfl⟩ ⟨_, _, _, rfl⟩ (srt_run x.1 y.1)).mono fun e w' ⟨v, he, hv, hm⟩ => ⟨by rw [he, hv], hm.fr⟩
  · have hys : ys.Pairwise (fun a b => refLe a b = true) := by
      rw [← q1, List.pairwise_map]
      rw [List.pairwise_map] at q3
      refine q3.imp_of_mem fun {a b} ha hb hab => ?_
      rw [← q2 a ha, ← q2 b hb]
      exact refLe_not hab
    have hms : (x0.mergeSort refLe).Pairwise (fun a b => refLe a b = true) := List.pairwise_mergeSort (fun a b c h1 h2 => by rw [refLe_iff] at *; omega) (fun a b => by
      rw [Bool.or_eq_true, refLe_iff, refLe_iff]; omega) x0
    have e : ys = x0.mergeSort refLe := sorted_uniq (hp.trans (List.mergeSort_perm x0 refLe).symm) hys hms (fun a ha b hb h1 h2 => by
      refine key_inj h.2 a (hp.mem_iff.1 ha) b (hp.mem_iff.1 hb) ?_
      rw [refLe_iff] at h1 h2
      have e1 : a.fRef.fTx = b.fRef.fTx := by omega
      have e2 : a.fRef.fAt = b.fRef.fAt := by omega
      unfold refKey
      rw [e1, e2])
    rw [← e]; exact hm


def impl_sorted.f (k : Nat) (x0 : List Coin) : Option ((List Coin)) := ((slices_SortFunc_Coin.f k x0).bind fun t5355 => some t5355)
theorem impl_sorted.calls {k : Nat} {x0 : List Coin} {p0 : Value} {w wo : World} {X : List Nat} (hwo : Olds wo w X) (hX : Hold w [own kCoin 77 p0 x0] X) (hXn : X.Nodup) (hXl : ∀ b ∈ X, b < w.heap.size)  {r : (List Coin)} (H : impl_sorted.f k x0 = some r) :
    Calls Tryz.prog 84 ([p0] : List Value).toArray w (fun e w_ => ∃ v, e = .returned v ∧ ∃ u0 : Value, v = u0 ∧ Mem w X w_ [own kCoin 77 u0 r]) := by
  have HM := Mem.startX hX hXn hXl
  refine calls_run (N := 6) Tryz.func84 rfl rfl rfl rfl ?_
  unfold impl_sorted.f at H
  refine run_seq ?_
  refine run_region rfl ?_
  refine ops_ex rfl (guard_none rfl) rfl rfl (ex_assign rfl rfl) ?_
  refine ops_nil ?_
  refine at_then ?_
  refine run_seq ?_
  obtain ⟨t5355, h5356, H⟩ := bind_some H
  refine run_region rfl ?_
  refine ops_ex rfl (guard_none rfl) rfl rfl (ex_move rfl rfl) ?_
  obtain ⟨F5357, hF5358, hFn5359, hFl5360, HMh5361, hcl5362⟩ := HM.hide (Ms := [own kCoin 77 p0 x0])
  refine ops_does rfl (guard_none rfl) rfl rfl (does_callk rfl callok118 rfl (slices_SortFunc_Coin.calls (x0 := x0) (hide_olds _ _) hF5358 hFn5359 hFl5360 h5356)) ?_
  rintro _ w5363 ⟨rfl, hn⟩
  replace HM : Mem w X w5363 [own kCoin 77 p0 t5355] := hcl5362 _ _ hn
  refine ops_nil ?_
  refine at_then ?_
  refine run_seq ?_
  refine run_region rfl ?_
  refine ops_ex rfl (guard_none rfl) rfl rfl (ex_move rfl rfl) ?_
  refine ops_ex rfl (guard_none rfl) rfl rfl (ex_assign rfl rfl) ?_
  refine ops_nil ?_
  refine at_then ?_
  refine run_ret ?_
  have hR := Option.some.inj H
  subst hR
  exact at_ret1 rfl rfl ⟨_, rfl, _, rfl, HM⟩

def impl_spentBy.l0 (x0 : List Coin) (x1 : Tx) : Nat → (List Coin) → Int → Option (((List Coin) × Int) ⊕ ((List Coin)))
  | 0, _, _ => none
  | k + 1, a5472, a5474 => (bif (decide (a5474 < (x1.fIns.length : Int))) then (chk (idxOk a5474 x1.fIns.length) ((impl_findCoin.f k x0 (gt x1.fIns a5474)).bind fun t5505 => (bif !t5505.2 then some (.inl (([] : List Coin), 4)) else (chk (idxOk t5505.1 x0.length) (chk (leB ((a5472.length + ([(gt x0 t5505.1)] : List Coin).length) * 80) 140737488355328) (impl_spentBy.l0 x0 x1 k (a5472 ++ ([(gt x0 t5505.1)] : List Coin)) (wrap64 (a5474 + 1)))))))) else some (.inr a5472))
theorem impl_spentBy.l0_z (x0 : List Coin) (x1 : Tx) (a5472 : List Coin) (a5474 : Int) : impl_spentBy.l0 x0 x1 0 a5472 a5474 = none := rfl
theorem impl_spentBy.l0_s (x0 : List Coin) (x1 : Tx) (k : Nat) (a5472 : List Coin) (a5474 : Int) : impl_spentBy.l0 x0 x1 (k + 1) a5472 a5474 = (bif (decide (a5474 < (x1.fIns.length : Int))) then (chk (idxOk a5474 x1.fIns.length) ((impl_findCoin.f k x0 (gt x1.fIns a5474)).bind fun t5505 => (bif !t5505.2 then some (.inl (([] : List Coin), 4)) else (chk (idxOk t5505.1 x0.length) (chk (leB ((a5472.length + ([(gt x0 t5505.1)] : List Coin).length) * 80) 140737488355328) (impl_spentBy.l0 x0 x1 k (a5472 ++ ([(gt x0 t5505.1)] : List Coin)) (wrap64 (a5474 + 1)))))))) else some (.inr a5472)) := rfl
def impl_spentBy.f (k : Nat) (x0 : List Coin) (x1 : Tx) : Option ((List Coin) × Int) := ((impl_spentBy.l0 x0 x1 k ([] : List Coin) 0).bind fun o5449 => thn o5449 (fun r => some r) (fun a5447 => ((impl_ownCoins.f k a5447).bind fun t5524 => ((impl_sorted.f k t5524).bind fun t5528 => some (t5528, 0)))))
theorem impl_spentBy.calls {k : Nat} {x0 : List Coin} {x1 : Tx} {p0 : Value} {p1_0 : Value} {p1_1 : Value} {w : World} (hp0 : RdS kCoin w p0 x0) (hp1_0 : RdS kRef w p1_0 x1.fIns) (hp1_1 : RdS kOut w p1_1 x1.fOuts) {r : (List Coin) × Int} (H : impl_spentBy.f k x0 x1 = some r) :
    Calls Tryz.prog 39 ([p0, .agg #[(.int .i64 x1.fKind), (.int .i64 x1.fMember), p1_0, p1_1]] : List Value).toArray w (fun e w_ => ∃ v, e = .returned v ∧ ∃ u0 : Value, v = (.tuple #[u0, .int .i64 r.2]) ∧ Mem w [] w_ [own kCoin 77 u0 r.1]) := by
  have HM := Mem.start w
  refine calls_run (N := 38) Tryz.func39 rfl rfl rfl rfl ?_
  unfold impl_spentBy.f at H
  refine run_seq ?_
  refine run_region rfl ?_
  refine ops_does rfl (guard_none rfl) rfl rfl (does_box (cs := [.int .i64 x1.fKind, .int .i64 x1.fMember, p1_0, p1_1]) rfl rfl rfl HM) ?_
  rintro _ w5377 ⟨b5374, rfl, HM⟩
  refine ops_ex rfl (guard_none rfl) rfl rfl (ex_assign rfl rfl) ?_
  refine ops_ex rfl (guard_none rfl) rfl rfl (ex_assign rfl rfl) ?_
  refine ops_nil ?_
  refine at_then ?_
  refine run_seq ?_
  refine run_region rfl ?_
  refine ops_does rfl (guard_none rfl) rfl rfl (does_lit (e := 77) (cs := []) (xs := ([] : List Coin)) kCoin rfl rfl (fun _ => by kernel_rfl) rfl rfl (fun _ _ h => by have h' : _ = [] := h; subst h'; exact .nil) HM.emp) ?_
  rintro v5378 w5381 HM
  refine ops_ex rfl (guard_none rfl) rfl rfl (ex_assign rfl rfl) ?_
  refine ops_nil ?_
  refine at_then ?_
  obtain ⟨o5449, ho5450, H⟩ := bind_some H
  refine run_mid (fun ρ_ w_ => ∃ v5446 : Value, ∃ a5447 : List Coin, Sum.inr a5447 = o5449 ∧ ρ_ = [(6, v5446)] ∧ Mem w [] w_ [own (Kd.lent w kCoin with1_one) 77 v5446 a5447]) ?_ ?_
  · skip
    refine run_seq ?_
    refine run_region rfl ?_
    refine ops_ex rfl (guard_none rfl) rfl rfl (ex_fieldAddr (off' := 2) rfl rfl Tryz.underlying37 rfl tsz34 rfl) ?_
    refine ops_ex rfl (guard_none rfl) rfl rfl (ex_load1 rfl rfl Tryz.underlying34 rfl ((HM.box_at 1 rfl) 2 _ rfl)) ?_
    refine ops_ex rfl (guard_none rfl) rfl rfl (ex_len (d := kRef) (xs := x1.fIns) rfl rfl Tryz.underlying34 hp1_0) ?_
    refine ops_ex rfl (guard_none rfl) rfl rfl (ex_move rfl rfl) ?_
    refine ops_nil ?_
    refine at_then ?_
    refine run_block ?_
    replace HM := Mem.relent (d := kCoin) (d' := (Kd.lent w kCoin with1_one)) rfl HM
    replace HM := (HM.front 1 rfl rfl).drop
    refine run_loop (fun k_ ρ_ w_ => ∃ v5471 : Value, ∃ a5472 : List Coin, ∃ a5474 : Int, impl_spentBy.l0 x0 x1 k_ a5472 a5474 = some o5449 ∧ ρ_ = [(0, p0), (6, v5471), (13, p1_0), (14, .int .i64 (x1.fIns.length : Int)), (15, .int .i64 a5474)] ∧ Mem w [] w_ [own (Kd.lent w kCoin with1_one) 77 v5471 a5472]) k (ρ1 := [(0, p0), (6, v5378), (13, p1_0), (14, .int .i64 (x1.fIns.length : Int)), (15, .int .i64 0)]) ⟨_, _, _, ho5450, rfl, HM⟩ (Sub.cons rfl (Sub.cons rfl (Sub.cons rfl (Sub.cons rfl (Sub.cons rfl Sub.nil))))) ?_
    clear HM ho5450
    rintro k5495 _ w5496 ⟨v5471, a5472, a5474, ho5450, rfl, HM⟩
    obtain _ | k5495 := k5495
    · exact nomatch ((impl_spentBy.l0_z x0 x1 a5472 a5474).symm.trans ho5450)
    replace ho5450 := (impl_spentBy.l0_s x0 x1 k5495 a5472 a5474).symm.trans ho5450
    refine run_seq ?_
    refine run_region rfl ?_
    refine ops_ex rfl (guard_none rfl) rfl rfl (ex_lss rfl rfl rfl) ?_
    refine ops_nil ?_
    refine at_then ?_
    refine run_seq ?_
    refine run_cond (b := (decide (a5474 < (x1.fIns.length : Int)))) rfl (fun hb5497 => ?_) (fun hb5497 => ?_)
    · replace ho5450 := cond_t hb5497 ho5450
      refine run_skip ?_
      refine at_then ?_
      refine run_seq ?_
      refine run_block ?_
      refine run_seq ?_
      obtain ⟨e5498, ho5450⟩ := chk_some ho5450
      refine run_region rfl ?_
      have hc5499 : CellsAt _ (sb p1_0) (so p1_0 + (a5474).toNat * 2) [(.int .i64 ((gt x1.fIns a5474).fTx)), (.int .i64 ((gt x1.fIns a5474).fAt))] := rd_plain hp1_0 e5498
      refine ops_ex rfl (guard_none rfl) rfl rfl (ex_indexAddr (d := kRef) rfl rfl rfl Tryz.underlying34 tsz56 hp1_0 (idx_lo e5498) (idx_hi e5498)) ?_
      refine ops_ex rfl (guard_none rfl) rfl rfl (ex_loadN (cs := [(.int .i64 ((gt x1.fIns a5474).fTx)), (.int .i64 ((gt x1.fIns a5474).fAt))]) rfl rfl Tryz.underlying56 rfl tsz56 rfl ((HM.at_ hc5499).sub 0 2 rfl)) ?_
      refine ops_does rfl (guard_none rfl) rfl rfl (does_alloc (cs := [.int .i64 0, .int .i64 0]) rfl tz56 rfl HM) ?_
      rintro _ w5503 ⟨b5500, rfl, HM⟩
      refine ops_doesS rfl (guard_none rfl) rfl (does_store (vs := [.int .i64 ((gt x1.fIns a5474).fTx), .int .i64 ((gt x1.fIns a5474).fAt)]) (cs' := [.int .i64 ((gt x1.fIns a5474).fTx), .int .i64 ((gt x1.fIns a5474).fAt)]) rfl rfl rfl rfl tsz56 (Ones.int (Ones.int Ones.nil)) rfl rfl HM) ?_
      rintro w5504 HM
      refine ops_nil ?_
      refine at_then ?_
      refine run_seq ?_
      obtain ⟨t5505, h5506, ho5450⟩ := bind_some ho5450
      refine run_region rfl ?_
      refine ops_ex rfl (guard_none rfl) rfl rfl (ex_move rfl rfl) ?_
      refine ops_ex rfl (guard_none rfl) rfl rfl (ex_loadN (cs := [(.int .i64 ((gt x1.fIns a5474).fTx)), (.int .i64 ((gt x1.fIns a5474).fAt))]) rfl rfl Tryz.underlying56 rfl tsz56 rfl ((HM.box_at 0 rfl).sub 0 2 rfl)) ?_
      refine ops_does rfl (guard_none rfl) rfl rfl (does_callk rfl callok60 rfl (impl_findCoin.calls (x0 := x0) (x1 := (gt x1.fIns a5474)) (HM.rd hp0) h5506)) ?_
      rintro _ w5507 ⟨rfl, hn⟩
      replace HM : Mem w [] w5507 [box b5500 56 [.int .i64 ((gt x1.fIns a5474).fTx), .int .i64 ((gt x1.fIns a5474).fAt)], own (Kd.lent w kCoin with1_one) 77 v5471 a5472] := HM.call hn
      refine ops_ex rfl (guard_none rfl) rfl rfl (ex_move rfl rfl) ?_
      refine ops_ex rfl (guard_none rfl) rfl rfl (ex_extract rfl rfl rfl) ?_
      refine ops_ex rfl (guard_none rfl) rfl rfl (ex_extract rfl rfl rfl) ?_
      refine ops_ex rfl (guard_none rfl) rfl rfl (ex_assign rfl rfl) ?_
      refine ops_ex rfl (guard_none rfl) rfl rfl (ex_assign rfl rfl) ?_
      refine ops_nil ?_
      refine at_then ?_
      refine run_seq ?_
      refine run_seq ?_
      refine run_region rfl ?_
      refine ops_ex rfl (guard_none rfl) rfl rfl (ex_move rfl rfl) ?_
      refine ops_ex rfl (guard_none rfl) rfl rfl (ex_not rfl rfl) ?_
      refine ops_nil ?_
      refine at_then ?_
      refine run_cond (b := !t5505.2) rfl (fun hb5509 => ?_) (fun hb5509 => ?_)
      · replace ho5450 := cond_t hb5509 ho5450
        refine run_seq ?_
        refine run_region rfl ?_
        refine ops_ex rfl (guard_none rfl) rfl rfl (ex_assign rfl rfl) ?_
        refine ops_ex rfl (guard_none rfl) rfl rfl (ex_assign rfl rfl) ?_
        refine ops_nil ?_
        refine at_then ?_
        refine run_ret ?_
        refine at_then_ret ?_
        refine at_block_ret ?_
        refine at_then_ret ?_
        refine at_then_ret ?_
        refine at_block_ret ?_
        refine at_then_ret ?_
        replace HM := HM.empty kCoin 77 none
        replace HM := (HM.front 1 rfl rfl).drop
        replace HM := (HM.front 1 rfl rfl).drop
        have hR := Option.some.inj ho5450
        subst hR
        have hT := thn_inl H
        have hR := Option.some.inj hT
        subst hR
        exact at_ret2 rfl rfl rfl ⟨_, rfl, _, rfl, HM⟩
      · replace ho5450 := cond_f hb5509 ho5450
        refine run_skip ?_
        refine at_then ?_
        obtain ⟨e5511, ho5450⟩ := chk_some ho5450
        obtain ⟨e5518, ho5450⟩ := chk_some ho5450
        refine run_region rfl ?_
        refine ops_ex rfl (guard_none rfl) rfl rfl (ex_move rfl rfl) ?_
        refine ops_ex rfl (guard_none rfl) rfl rfl (ex_move rfl rfl) ?_
        refine ops_ex rfl (guard_none rfl) rfl rfl (ex_move rfl rfl) ?_
        obtain ⟨kv5513, hc5512, hk5514⟩ : ∃ u, CellsAt _ (sb p0) (so p0 + (t5505.1).toNat * 8) [(.int .i64 ((gt x0 t5505.1).fRef.fTx)), (.int .i64 ((gt x0 t5505.1).fRef.fAt)), (.int .i64 ((gt x0 t5505.1).fOut.fValue)), u, (.int .i64 ((gt x0 t5505.1).fOut.fRule.fNeed)), (.int .i64 ((gt x0 t5505.1).fOut.fRule.fAfter)), (.int .i64 ((gt x0 t5505.1).fHeight)), (.bool ((gt x0 t5505.1).fMined))] ∧ RdS kInt _ u ((gt x0 t5505.1).fOut.fRule.fKeys) := rd_with1 hp0 e5511
        refine ops_ex rfl (guard_none rfl) rfl rfl (ex_indexAddr (d := kCoin) rfl rfl rfl Tryz.underlying29 tsz77 hp0 (idx_lo e5511) (idx_hi e5511)) ?_
        refine ops_ex rfl (guard_none rfl) rfl rfl (ex_loadN (cs := [(.int .i64 ((gt x0 t5505.1).fRef.fTx)), (.int .i64 ((gt x0 t5505.1).fRef.fAt)), (.int .i64 ((gt x0 t5505.1).fOut.fValue)), kv5513, (.int .i64 ((gt x0 t5505.1).fOut.fRule.fNeed)), (.int .i64 ((gt x0 t5505.1).fOut.fRule.fAfter)), (.int .i64 ((gt x0 t5505.1).fHeight)), (.bool ((gt x0 t5505.1).fMined))]) rfl rfl Tryz.underlying77 rfl tsz77 rfl ((HM.at_ hc5512).sub 0 8 rfl)) ?_
        refine ops_does rfl (guard_none rfl) rfl rfl (does_lit (e := 77) (cs := [.int .i64 ((gt x0 t5505.1).fRef.fTx), .int .i64 ((gt x0 t5505.1).fRef.fAt), .int .i64 ((gt x0 t5505.1).fOut.fValue), kv5513, .int .i64 ((gt x0 t5505.1).fOut.fRule.fNeed), .int .i64 ((gt x0 t5505.1).fOut.fRule.fAfter), .int .i64 ((gt x0 t5505.1).fHeight), .bool ((gt x0 t5505.1).fMined)]) (xs := ([(gt x0 t5505.1)] : List Coin)) (Kd.lent w kCoin with1_one) rfl rfl (fun _ => by kernel_rfl) rfl rfl (fun _ _ h => by have h' : _ = [] := h; subst h'; exact (Elems.cons (d := (Kd.lent w kCoin with1_one)) (f := []) ⟨⟨_, rfl, hk5514⟩, rfl⟩ .nil)) HM.emp) ?_
        rintro v5515 w5521 HM
        replace HM := HM.front 2 rfl rfl
        refine ops_does rfl (guard_none rfl) rfl rfl (does_append (Kd.lent w kCoin with1_one) rfl rfl rfl Tryz.underlying29 tsz77 rfl tby77 tz77 rfl rfl (leB_le e5518) HM) ?_
        rintro v5519 w5522 HM
        refine ops_ex rfl (guard_none rfl) rfl rfl (ex_assign rfl rfl) ?_
        refine ops_nil ?_
        refine at_block ?_
        refine at_then ?_
        refine run_region rfl ?_
        refine ops_ex rfl (guard_none rfl) rfl rfl (ex_add rfl rfl rfl) ?_
        refine ops_ex rfl (guard_none rfl) rfl rfl (ex_move rfl rfl) ?_
        refine ops_nil ?_
        replace HM := (HM.front 1 rfl rfl).drop
        exact at_again k5495 (ρ1 := [(0, p0), (6, v5519), (13, p1_0), (14, .int .i64 (x1.fIns.length : Int)), (15, .int .i64 (wrap64 (a5474 + 1)))]) (Nat.lt_succ_self _) ⟨_, _, _, ho5450, rfl, HM⟩ (Sub.cons rfl (Sub.cons rfl (Sub.cons rfl (Sub.cons rfl (Sub.cons rfl Sub.nil)))))
    · replace ho5450 := cond_f hb5497 ho5450
      refine run_exit ?_
      refine at_then_exit ?_
      refine at_then_exit ?_
      refine at_block_exit ?_
      exact at_mid (ρ' := [(6, v5471)]) ⟨_, _, (Option.some.inj ho5450), rfl, HM⟩ (Sub.cons rfl Sub.nil)
  · rintro _ w5523 ⟨v5446, a5447, rfl, rfl, HM⟩
    replace H := (thn_inr H)
    refine run_seq ?_
    obtain ⟨t5524, h5525, H⟩ := bind_some H
    obtain ⟨t5528, h5529, H⟩ := bind_some H
    refine run_region rfl ?_
    refine ops_ex rfl (guard_none rfl) rfl rfl (ex_move rfl rfl) ?_
    refine ops_does rfl (guard_none rfl) rfl rfl (does_callk rfl callok61 rfl (impl_ownCoins.calls (x0 := a5447) ((HM.own_rd 0 rfl).unlent (HM.old)) h5525)) ?_
    rintro u5526 w5538 ⟨_, rfl, hn⟩
    replace HM : Mem w [] w5538 [own kCoin 77 u5526 t5524, own (Kd.lent w kCoin with1_one) 77 v5446 a5447] := HM.call hn
    obtain ⟨F5532, hF5533, hFn5534, hFl5535, HMh5536, hcl5537⟩ := HM.hide (Ms := [own kCoin 77 u5526 t5524])
    refine ops_does rfl (guard_none rfl) rfl rfl (does_callk rfl callok84 rfl (impl_sorted.calls (x0 := t5524) (hide_olds _ _) hF5533 hFn5534 hFl5535 h5529)) ?_
    rintro u5530 w5539 ⟨_, rfl, hn⟩
    replace HM : Mem w [] w5539 [own kCoin 77 u5530 t5528, own (Kd.lent w kCoin with1_one) 77 v5446 a5447] := hcl5537 _ _ hn
    refine ops_ex rfl (guard_none rfl) rfl rfl (ex_assign rfl rfl) ?_
    refine ops_ex rfl (guard_none rfl) rfl rfl (ex_assign rfl rfl) ?_
    refine ops_nil ?_
    refine at_then ?_
    refine run_ret ?_
    replace HM := (HM.front 1 rfl rfl).drop
    have hR := Option.some.inj H
    subst hR
    exact at_ret2 rfl rfl rfl ⟨_, rfl, _, rfl, HM⟩

def impl_hasTx_1.f (k : Nat) (x0 : Coin) (x1 : Int) : Option Bool := some (x0.fRef.fTx == x1)
theorem impl_hasTx_1.calls {k : Nat} {x0 : Coin} {x1 : Int} {p0_0 : Value} {b1 f1 : Nat} {w : World} (hp0_0 : RdS kInt w p0_0 x0.fOut.fRule.fKeys) (hc1 : CellsAt w b1 f1 [.int .i64 x1]) {r : Bool} (H : impl_hasTx_1.f k x0 x1 = some r) :
    Calls Tryz.prog 128 ([.agg #[(.int .i64 x0.fRef.fTx), (.int .i64 x0.fRef.fAt), (.int .i64 x0.fOut.fValue), p0_0, (.int .i64 x0.fOut.fRule.fNeed), (.int .i64 x0.fOut.fRule.fAfter), (.int .i64 x0.fHeight), (.bool x0.fMined)], .pointer (some ⟨b1, f1, none⟩)] : List Value).toArray w (fun e w_ => ∃ v, e = .returned v ∧ v = (.bool r) ∧ Mem w [] w_ []) := by
  have HM := Mem.start w
  refine calls_run (N := 9) Tryz.func128 rfl rfl rfl rfl ?_
  unfold impl_hasTx_1.f at H
  refine run_seq ?_
  refine run_region rfl ?_
  refine ops_does rfl (guard_none rfl) rfl rfl (does_box (cs := [.int .i64 x0.fRef.fTx, .int .i64 x0.fRef.fAt, .int .i64 x0.fOut.fValue, p0_0, .int .i64 x0.fOut.fRule.fNeed, .int .i64 x0.fOut.fRule.fAfter, .int .i64 x0.fHeight, .bool x0.fMined]) rfl rfl rfl HM) ?_
  rintro _ w5564 ⟨b5561, rfl, HM⟩
  refine ops_ex rfl (guard_none rfl) rfl rfl (ex_assign rfl rfl) ?_
  refine ops_nil ?_
  refine at_then ?_
  refine run_seq ?_
  refine run_region rfl ?_
  refine ops_ex rfl (guard_none rfl) rfl rfl (ex_fieldAddr (off' := 0) rfl rfl Tryz.underlying77 rfl tsz56 rfl) ?_
  refine ops_ex rfl (guard_none rfl) rfl rfl (ex_fieldAddr (off' := 0) rfl rfl Tryz.underlying56 rfl tsz2 rfl) ?_
  refine ops_ex rfl (guard_none rfl) rfl rfl (ex_load1 rfl rfl Tryz.underlying2 rfl ((HM.box_at 0 rfl) 0 _ rfl)) ?_
  refine ops_ex rfl (guard_none rfl) rfl rfl (ex_load1 rfl rfl Tryz.underlying2 rfl ((HM.at_ hc1) 0 _ rfl)) ?_
  refine ops_ex rfl (guard_none rfl) rfl rfl (ex_eql rfl rfl rfl) ?_
  refine ops_ex rfl (guard_none rfl) rfl rfl (ex_assign rfl rfl) ?_
  refine ops_nil ?_
  refine at_then ?_
  refine run_ret ?_
  replace HM := (HM.front 0 rfl rfl).drop
  have hR := Option.some.inj H
  subst hR
  exact at_ret1 rfl rfl ⟨_, rfl, rfl, HM⟩

def slices_IndexFunc_impl_Coin.l0 (x0 : List Coin) (x1_0 : Int) : Nat → Int → Option (Int ⊕ Unit)
  | 0, _ => none
  | k + 1, a5622 => (bif (decide (a5622 < (x0.length : Int))) then (chk (idxOk a5622 x0.length) ((impl_hasTx_1.f k (gt x0 a5622) x1_0).bind fun t5638 => (bif t5638 then some (.inl a5622) else slices_IndexFunc_impl_Coin.l0 x0 x1_0 k (wrap64 (a5622 + 1))))) else some (.inr ()))
theorem slices_IndexFunc_impl_Coin.l0_z (x0 : List Coin) (x1_0 : Int) (a5622 : Int) : slices_IndexFunc_impl_Coin.l0 x0 x1_0 0 a5622 = none := rfl
theorem slices_IndexFunc_impl_Coin.l0_s (x0 : List Coin) (x1_0 : Int) (k : Nat) (a5622 : Int) : slices_IndexFunc_impl_Coin.l0 x0 x1_0 (k + 1) a5622 = (bif (decide (a5622 < (x0.length : Int))) then (chk (idxOk a5622 x0.length) ((impl_hasTx_1.f k (gt x0 a5622) x1_0).bind fun t5638 => (bif t5638 then some (.inl a5622) else slices_IndexFunc_impl_Coin.l0 x0 x1_0 k (wrap64 (a5622 + 1))))) else some (.inr ())) := rfl
def slices_IndexFunc_impl_Coin.f (k : Nat) (x0 : List Coin) (x1_0 : Int) : Option Int := ((slices_IndexFunc_impl_Coin.l0 x0 x1_0 k 0).bind fun o5612 => thn o5612 (fun r => some r) (fun _ => some (-1)))
theorem slices_IndexFunc_impl_Coin.calls {k : Nat} {x0 : List Coin} {x1_0 : Int} {p0 : Value} {b1_0 f1_0 : Nat} {w : World} (hp0 : RdS kCoin w p0 x0) (hc1_0 : CellsAt w b1_0 f1_0 [.int .i64 x1_0]) {r : Int} (H : slices_IndexFunc_impl_Coin.f k x0 x1_0 = some r) :
    Calls Tryz.prog 127 ([p0, .func (.func 128) #[] #[(.pointer (some ⟨b1_0, f1_0, none⟩))]] : List Value).toArray w (fun e w_ => ∃ v, e = .returned v ∧ v = (.int .i64 r) ∧ Mem w [] w_ []) := by
  have HM := Mem.start w
  refine calls_run (N := 19) Tryz.func127 rfl rfl rfl rfl ?_
  unfold slices_IndexFunc_impl_Coin.f at H
  refine run_seq ?_
  refine run_region rfl ?_
  refine ops_ex rfl (guard_none rfl) rfl rfl (ex_assign rfl rfl) ?_
  refine ops_nil ?_
  refine at_then ?_
  obtain ⟨o5612, ho5613, H⟩ := bind_some H
  refine run_mid (fun ρ_ w_ => Sum.inr () = o5612 ∧ ρ_ = [] ∧ Mem w [] w_ []) ?_ ?_
  · skip
    refine run_seq ?_
    refine run_region rfl ?_
    refine ops_ex rfl (guard_none rfl) rfl rfl (ex_move rfl rfl) ?_
    refine ops_ex rfl (guard_none rfl) rfl rfl (ex_len (d := kCoin) (xs := x0) rfl rfl Tryz.underlying29 hp0) ?_
    refine ops_ex rfl (guard_none rfl) rfl rfl (ex_move rfl rfl) ?_
    refine ops_nil ?_
    refine at_then ?_
    refine run_block ?_
    refine run_loop (fun k_ ρ_ w_ => ∃ a5622 : Int, slices_IndexFunc_impl_Coin.l0 x0 x1_0 k_ a5622 = some o5612 ∧ ρ_ = [(0, p0), (1, .func (.func 128) #[] #[(.pointer (some ⟨b1_0, f1_0, none⟩))]), (7, .int .i64 (x0.length : Int)), (8, .int .i64 a5622)] ∧ Mem w [] w_ []) k (ρ1 := [(0, p0), (1, .func (.func 128) #[] #[(.pointer (some ⟨b1_0, f1_0, none⟩))]), (7, .int .i64 (x0.length : Int)), (8, .int .i64 0)]) ⟨_, ho5613, rfl, HM⟩ (Sub.cons rfl (Sub.cons rfl (Sub.cons rfl (Sub.cons rfl Sub.nil)))) ?_
    clear HM ho5613
    rintro k5631 _ w5632 ⟨a5622, ho5613, rfl, HM⟩
    obtain _ | k5631 := k5631
    · exact nomatch ((slices_IndexFunc_impl_Coin.l0_z x0 x1_0 a5622).symm.trans ho5613)
    replace ho5613 := (slices_IndexFunc_impl_Coin.l0_s x0 x1_0 k5631 a5622).symm.trans ho5613
    refine run_seq ?_
    refine run_region rfl ?_
    refine ops_ex rfl (guard_none rfl) rfl rfl (ex_lss rfl rfl rfl) ?_
    refine ops_nil ?_
    refine at_then ?_
    refine run_seq ?_
    refine run_cond (b := (decide (a5622 < (x0.length : Int)))) rfl (fun hb5633 => ?_) (fun hb5633 => ?_)
    · replace ho5613 := cond_t hb5633 ho5613
      refine run_skip ?_
      refine at_then ?_
      refine run_seq ?_
      refine run_block ?_
      refine run_seq ?_
      refine run_region rfl ?_
      refine ops_ex rfl (guard_none rfl) rfl rfl (ex_move rfl rfl) ?_
      refine ops_ex rfl (guard_none rfl) rfl rfl (ex_assign rfl rfl) ?_
      refine ops_nil ?_
      refine at_then ?_
      refine run_seq ?_
      obtain ⟨e5634, ho5613⟩ := chk_some ho5613
      obtain ⟨t5638, h5639, ho5613⟩ := bind_some ho5613
      refine run_region rfl ?_
      refine ops_ex rfl (guard_none rfl) rfl rfl (ex_move rfl rfl) ?_
      refine ops_ex rfl (guard_none rfl) rfl rfl (ex_move rfl rfl) ?_
      refine ops_ex rfl (guard_none rfl) rfl rfl (ex_move rfl rfl) ?_
      obtain ⟨kv5636, hc5635, hk5637⟩ : ∃ u, CellsAt _ (sb p0) (so p0 + (a5622).toNat * 8) [(.int .i64 ((gt x0 a5622).fRef.fTx)), (.int .i64 ((gt x0 a5622).fRef.fAt)), (.int .i64 ((gt x0 a5622).fOut.fValue)), u, (.int .i64 ((gt x0 a5622).fOut.fRule.fNeed)), (.int .i64 ((gt x0 a5622).fOut.fRule.fAfter)), (.int .i64 ((gt x0 a5622).fHeight)), (.bool ((gt x0 a5622).fMined))] ∧ RdS kInt _ u ((gt x0 a5622).fOut.fRule.fKeys) := rd_with1 hp0 e5634
      refine ops_ex rfl (guard_none rfl) rfl rfl (ex_indexAddr (d := kCoin) rfl rfl rfl Tryz.underlying29 tsz77 hp0 (idx_lo e5634) (idx_hi e5634)) ?_
      refine ops_ex rfl (guard_none rfl) rfl rfl (ex_loadN (cs := [(.int .i64 ((gt x0 a5622).fRef.fTx)), (.int .i64 ((gt x0 a5622).fRef.fAt)), (.int .i64 ((gt x0 a5622).fOut.fValue)), kv5636, (.int .i64 ((gt x0 a5622).fOut.fRule.fNeed)), (.int .i64 ((gt x0 a5622).fOut.fRule.fAfter)), (.int .i64 ((gt x0 a5622).fHeight)), (.bool ((gt x0 a5622).fMined))]) rfl rfl Tryz.underlying77 rfl tsz77 rfl ((HM.at_ hc5635).sub 0 8 rfl)) ?_
      refine ops_does rfl (guard_none rfl) rfl rfl (does_callvk rfl callok128 rfl rfl rfl (impl_hasTx_1.calls (x0 := (gt x0 a5622)) (x1 := x1_0) (HM.rd hk5637) (HM.at_ hc1_0) h5639)) ?_
      rintro _ w5640 ⟨rfl, hn⟩
      replace HM : Mem w [] w5640 [] := HM.call hn
      refine ops_nil ?_
      refine at_then ?_
      refine run_cond (b := t5638) rfl (fun hb5641 => ?_) (fun hb5641 => ?_)
      · replace ho5613 := cond_t hb5641 ho5613
        refine run_seq ?_
        refine run_region rfl ?_
        refine ops_ex rfl (guard_none rfl) rfl rfl (ex_move rfl rfl) ?_
        refine ops_ex rfl (guard_none rfl) rfl rfl (ex_assign rfl rfl) ?_
        refine ops_nil ?_
        refine at_then ?_
        refine run_ret ?_
        refine at_block_ret ?_
        refine at_then_ret ?_
        refine at_then_ret ?_
        refine at_block_ret ?_
        refine at_then_ret ?_
        have hR := Option.some.inj ho5613
        subst hR
        have hT := thn_inl H
        have hR := Option.some.inj hT
        subst hR
        exact at_ret1 rfl rfl ⟨_, rfl, rfl, HM⟩
      · replace ho5613 := cond_f hb5641 ho5613
        refine run_skip ?_
        refine at_block ?_
        refine at_then ?_
        refine run_region rfl ?_
        refine ops_ex rfl (guard_none rfl) rfl rfl (ex_add rfl rfl rfl) ?_
        refine ops_ex rfl (guard_none rfl) rfl rfl (ex_move rfl rfl) ?_
        refine ops_nil ?_
        exact at_again k5631 (ρ1 := [(0, p0), (1, .func (.func 128) #[] #[(.pointer (some ⟨b1_0, f1_0, none⟩))]), (7, .int .i64 (x0.length : Int)), (8, .int .i64 (wrap64 (a5622 + 1)))]) (Nat.lt_succ_self _) ⟨_, ho5613, rfl, HM⟩ (Sub.cons rfl (Sub.cons rfl (Sub.cons rfl (Sub.cons rfl Sub.nil))))
    · replace ho5613 := cond_f hb5633 ho5613
      refine run_exit ?_
      refine at_then_exit ?_
      refine at_then_exit ?_
      refine at_block_exit ?_
      exact at_mid (ρ' := []) ⟨(Option.some.inj ho5613), rfl, HM⟩ Sub.nil
  · rintro _ w5642 ⟨rfl, rfl, HM⟩
    replace H := (thn_inr H)
    refine run_seq ?_
    refine run_region rfl ?_
    refine ops_ex rfl (guard_none rfl) rfl rfl (ex_assign rfl rfl) ?_
    refine ops_nil ?_
    refine at_then ?_
    refine run_ret ?_
    have hR := Option.some.inj H
    subst hR
    exact at_ret1 rfl rfl ⟨_, rfl, rfl, HM⟩

def slices_ContainsFunc_impl_Coin.f (k : Nat) (x0 : List Coin) (x1_0 : Int) : Option Bool := ((slices_IndexFunc_impl_Coin.f k x0 x1_0).bind fun t5645 => some (decide (0 ≤ t5645)))
theorem slices_ContainsFunc_impl_Coin.calls {k : Nat} {x0 : List Coin} {x1_0 : Int} {p0 : Value} {b1_0 f1_0 : Nat} {w : World} (hp0 : RdS kCoin w p0 x0) (hc1_0 : CellsAt w b1_0 f1_0 [.int .i64 x1_0]) {r : Bool} (H : slices_ContainsFunc_impl_Coin.f k x0 x1_0 = some r) :
    Calls Tryz.prog 122 ([p0, .func (.func 128) #[] #[(.pointer (some ⟨b1_0, f1_0, none⟩))]] : List Value).toArray w (fun e w_ => ∃ v, e = .returned v ∧ v = (.bool r) ∧ Mem w [] w_ []) := by
  have HM := Mem.start w
  refine calls_run (N := 9) Tryz.func122 rfl rfl rfl rfl ?_
  unfold slices_ContainsFunc_impl_Coin.f at H
  refine run_seq ?_
  refine run_region rfl ?_
  refine ops_ex rfl (guard_none rfl) rfl rfl (ex_assign rfl rfl) ?_
  refine ops_nil ?_
  refine at_then ?_
  refine run_seq ?_
  obtain ⟨t5645, h5646, H⟩ := bind_some H
  refine run_region rfl ?_
  refine ops_ex rfl (guard_none rfl) rfl rfl (ex_move rfl rfl) ?_
  refine ops_ex rfl (guard_none rfl) rfl rfl (ex_move rfl rfl) ?_
  refine ops_does rfl (guard_none rfl) rfl rfl (does_callk rfl callok127 rfl (slices_IndexFunc_impl_Coin.calls (x0 := x0) (x1_0 := x1_0) (HM.rd hp0) (HM.at_ hc1_0) h5646)) ?_
  rintro _ w5647 ⟨rfl, hn⟩
  replace HM : Mem w [] w5647 [] := HM.call hn
  refine ops_ex rfl (guard_none rfl) rfl rfl (ex_geq rfl rfl rfl) ?_
  refine ops_ex rfl (guard_none rfl) rfl rfl (ex_assign rfl rfl) ?_
  refine ops_nil ?_
  refine at_then ?_
  refine run_ret ?_
  have hR := Option.some.inj H
  subst hR
  exact at_ret1 rfl rfl ⟨_, rfl, rfl, HM⟩
end Go.Proofs.YtcamddjlhchkfaaGreat.Zk
