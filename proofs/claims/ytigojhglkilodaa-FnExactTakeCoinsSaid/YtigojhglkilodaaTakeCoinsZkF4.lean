/- What functions of the program compute, each as a plain function, and that they do. Conditions: as each theorem states them. -/
import Derived.Test.YtigojhglkilodaaTakeCoinsZkF3
namespace Go.Proofs.Ytigojhglkilodaa.Zk
open Go Go.RowKit Go.IntWalk Go.Proofs
set_option linter.unusedVariables false
set_option linter.unusedSimpArgs false
set_option maxRecDepth 100000
set_option maxHeartbeats 4000000
def impl_ownRule.f (k : Nat) (x0 : Rule) : Option Rule := ((slices_Clone_int64.f k x0.fKeys).bind fun t2614 => some (⟨t2614, x0.fNeed, x0.fAfter⟩ : Rule))
theorem impl_ownRule.calls {k : Nat} {x0 : Rule} {p0_0 : Value} {w : World} (hp0_0 : RdS kInt w p0_0 x0.fKeys) {r : Rule} (H : impl_ownRule.f k x0 = some r) :
    Calls Try.prog 163 ([.agg #[p0_0, (.int .i64 x0.fNeed), (.int .i64 x0.fAfter)]] : List Value).toArray w (fun e w_ => ∃ v, e = .returned v ∧ ∃ u0 : Value, v = (.agg #[u0, .int .i64 r.fNeed, .int .i64 r.fAfter]) ∧ Mem w [] w_ [own kInt 2 u0 r.fKeys]) := by
  have HM := Mem.start w
  refine calls_run (N := 8) Try.func163 rfl rfl rfl rfl ?_
  unfold impl_ownRule.f at H
  refine run_seq ?_
  refine run_region rfl ?_
  refine ops_does rfl (guard_none rfl) rfl rfl (does_box (cs := [p0_0, .int .i64 x0.fNeed, .int .i64 x0.fAfter]) rfl rfl rfl HM) ?_
  rintro _ w2612 ⟨b2606, rfl, HM⟩
  refine ops_does rfl (guard_none rfl) rfl rfl (does_alloc (cs := [.slice none 0 0, .int .i64 0, .int .i64 0]) rfl tz119 rfl HM) ?_
  rintro _ w2613 ⟨b2609, rfl, HM⟩
  refine ops_nil ?_
  refine at_then ?_
  refine run_seq ?_
  obtain ⟨t2614, h2615, H⟩ := bind_some H
  refine run_region rfl ?_
  refine ops_ex rfl (guard_none rfl) rfl rfl (ex_fieldAddr (off' := 0) rfl rfl Try.underlying119 rfl tsz111 rfl) ?_
  refine ops_ex rfl (guard_none rfl) rfl rfl (ex_load1 rfl rfl Try.underlying111 rfl ((HM.box_at 1 rfl) 0 _ rfl)) ?_
  refine ops_does rfl (guard_none rfl) rfl rfl (does_callk rfl callok180 rfl (slices_Clone_int64.calls (x0 := x0.fKeys) (HM.rd hp0_0) h2615)) ?_
  rintro u2616 w2618 ⟨_, rfl, hn⟩
  replace HM : Mem w [] w2618 [own kInt 2 u2616 t2614, box b2609 119 [.slice none 0 0, .int .i64 0, .int .i64 0], box b2606 119 [p0_0, .int .i64 x0.fNeed, .int .i64 x0.fAfter]] := HM.call hn
  refine ops_ex rfl (guard_none rfl) rfl rfl (ex_fieldAddr (off' := 0) rfl rfl Try.underlying119 rfl tsz111 rfl) ?_
  replace HM := HM.front 2 rfl rfl
  refine ops_doesS rfl (guard_none rfl) rfl (does_store (vs := [u2616]) (cs' := [u2616, .int .i64 x0.fNeed, .int .i64 x0.fAfter]) rfl rfl rfl (rd_cells (HM.own_rd 1 rfl)) tsz111 (Ones.rd (HM.own_rd 1 rfl) Ones.nil) rfl rfl HM) ?_
  rintro w2619 HM
  refine ops_nil ?_
  refine at_then ?_
  refine run_seq ?_
  refine run_region rfl ?_
  refine ops_ex rfl (guard_none rfl) rfl rfl (ex_loadN (cs := [u2616, (.int .i64 x0.fNeed), (.int .i64 x0.fAfter)]) rfl rfl Try.underlying119 rfl tsz119 rfl ((HM.box_at 0 rfl).sub 0 3 rfl)) ?_
  replace HM := HM.front 2 rfl rfl
  refine ops_doesS rfl (guard_none rfl) rfl (does_store (vs := [u2616, .int .i64 x0.fNeed, .int .i64 x0.fAfter]) (cs' := [u2616, .int .i64 x0.fNeed, .int .i64 x0.fAfter]) rfl rfl rfl rfl tsz119 (Ones.rd (HM.own_rd 2 rfl) (Ones.int (Ones.int Ones.nil))) rfl rfl HM) ?_
  rintro w2620 HM
  refine ops_nil ?_
  refine at_then ?_
  refine run_ret ?_
  replace HM := (HM.front 1 rfl rfl).drop
  have hcb0 := HM.box_at 0 rfl
  replace HM := (HM.front 0 rfl rfl).drop
  have hR := Option.some.inj H
  subst hR
  exact at_retN rfl rfl Try.underlying119 rfl tsz119 rfl hcb0 ⟨_, rfl, _, rfl, HM⟩

def impl_ownOut.f (k : Nat) (x0 : Out) : Option Out := ((impl_ownRule.f k x0.fRule).bind fun t2633 => some (⟨x0.fValue, t2633⟩ : Out))
theorem impl_ownOut.calls {k : Nat} {x0 : Out} {p0_0 : Value} {w : World} (hp0_0 : RdS kInt w p0_0 x0.fRule.fKeys) {r : Out} (H : impl_ownOut.f k x0 = some r) :
    Calls Try.prog 131 ([.agg #[(.int .i64 x0.fValue), p0_0, (.int .i64 x0.fRule.fNeed), (.int .i64 x0.fRule.fAfter)]] : List Value).toArray w (fun e w_ => ∃ v, e = .returned v ∧ ∃ u0 : Value, v = (.agg #[.int .i64 r.fValue, u0, .int .i64 r.fRule.fNeed, .int .i64 r.fRule.fAfter]) ∧ Mem w [] w_ [own kInt 2 u0 r.fRule.fKeys]) := by
  have HM := Mem.start w
  refine calls_run (N := 9) Try.func131 rfl rfl rfl rfl ?_
  unfold impl_ownOut.f at H
  refine run_seq ?_
  refine run_region rfl ?_
  refine ops_does rfl (guard_none rfl) rfl rfl (does_box (cs := [.int .i64 x0.fValue, p0_0, .int .i64 x0.fRule.fNeed, .int .i64 x0.fRule.fAfter]) rfl rfl rfl HM) ?_
  rintro _ w2631 ⟨b2625, rfl, HM⟩
  refine ops_does rfl (guard_none rfl) rfl rfl (does_alloc (cs := [.int .i64 0, .slice none 0 0, .int .i64 0, .int .i64 0]) rfl tz121 rfl HM) ?_
  rintro _ w2632 ⟨b2628, rfl, HM⟩
  refine ops_nil ?_
  refine at_then ?_
  refine run_seq ?_
  obtain ⟨t2633, h2634, H⟩ := bind_some H
  refine run_drawf (fun w_ => Mem w [] w_ [box b2625 121 [.int .i64 x0.fValue, p0_0, .int .i64 x0.fRule.fNeed, .int .i64 x0.fRule.fAfter]]) [(0, true), (1, true), (2, true), (3, true), (4, false), (5, true), (6, false)] mixed rfl rfl (by kernel_rfl) ?_
  replace HM := HM.grow (fr_drew _)
  have hS := Mem.suf (M := [box b2628 121 [.int .i64 0, .slice none 0 0, .int .i64 0, .int .i64 0]]) HM
  refine drwp_take rfl (guard_none rfl) rfl rfl (fun w_ hS_ => (ex_fieldAddr (off' := 0) rfl rfl Try.underlying121 rfl tsz2 rfl)) hS ?_
  refine drwp_take rfl (guard_none rfl) rfl rfl (fun w_ hS_ => (ex_load1 rfl rfl Try.underlying2 rfl ((hS_.box_at 0 rfl) 0 _ rfl))) hS ?_
  refine drwp_take rfl (guard_none rfl) rfl rfl (fun w_ hS_ => (ex_fieldAddr (off' := 1) rfl rfl Try.underlying121 rfl tsz119 rfl)) hS ?_
  refine drwp_take rfl (guard_none rfl) rfl rfl (fun w_ hS_ => (ex_loadN (cs := [p0_0, (.int .i64 x0.fRule.fNeed), (.int .i64 x0.fRule.fAfter)]) rfl rfl Try.underlying119 rfl tsz119 rfl ((hS_.box_at 0 rfl).sub 1 3 rfl))) hS ?_
  refine drwp_one rfl (guard_none rfl) rfl rfl (does_callk rfl callok163 rfl (impl_ownRule.calls (x0 := x0.fRule) (HM.rd hp0_0) h2634)) ?_
  rintro _ w2637 ⟨u2635, rfl, hn⟩
  replace HM : Mem w [] w2637 [own kInt 2 u2635 t2633.fKeys, box b2628 121 [.int .i64 0, .slice none 0 0, .int .i64 0, .int .i64 0], box b2625 121 [.int .i64 x0.fValue, p0_0, .int .i64 x0.fRule.fNeed, .int .i64 x0.fRule.fAfter]] := HM.call hn
  refine ⟨Mem.suf (M := [own kInt 2 u2635 t2633.fKeys, box b2628 121 [.int .i64 0, .slice none 0 0, .int .i64 0, .int .i64 0]]) HM, ?_⟩
  have hS := Mem.suf (M := [own kInt 2 u2635 t2633.fKeys, box b2628 121 [.int .i64 0, .slice none 0 0, .int .i64 0, .int .i64 0]]) HM
  refine drwp_take rfl (guard_none rfl) rfl rfl (fun w_ hS_ => (ex_build1 (fun u2635 => [(0, .int .i64 x0.fValue), (1, .agg #[u2635, (.int .i64 t2633.fNeed), (.int .i64 t2633.fAfter)])]) (fun u2635 => #[.int .i64 x0.fValue, u2635, .int .i64 t2633.fNeed, .int .i64 t2633.fAfter]) rfl rfl (fun _ _ _ => by kernel_rfl) (HM.own_rd 0 rfl).isSl)) hS ?_
  replace HM := HM.front 1 rfl rfl
  refine drwp_oneS rfl (guard_none rfl) rfl (does_store (vs := [.int .i64 x0.fValue, u2635, .int .i64 t2633.fNeed, .int .i64 t2633.fAfter]) (cs' := [.int .i64 x0.fValue, u2635, .int .i64 t2633.fNeed, .int .i64 t2633.fAfter]) rfl rfl rfl rfl tsz121 (Ones.int (Ones.rd (HM.own_rd 1 rfl) (Ones.int (Ones.int Ones.nil)))) rfl rfl HM) ?_
  rintro w2638 HM
  refine ⟨Mem.suf (M := [box b2628 121 [.int .i64 x0.fValue, u2635, .int .i64 t2633.fNeed, .int .i64 t2633.fAfter], own kInt 2 u2635 t2633.fKeys]) HM, ?_⟩
  have hS := Mem.suf (M := [box b2628 121 [.int .i64 x0.fValue, u2635, .int .i64 t2633.fNeed, .int .i64 t2633.fAfter], own kInt 2 u2635 t2633.fKeys]) HM
  refine drwp_done ?_
  refine at_then ?_
  refine run_ret ?_
  replace HM := (HM.front 2 rfl rfl).drop
  have hcb0 := HM.box_at 0 rfl
  replace HM := (HM.front 0 rfl rfl).drop
  have hR := Option.some.inj H
  subst hR
  exact at_retN rfl rfl Try.underlying121 rfl tsz121 rfl hcb0 ⟨_, rfl, _, rfl, HM⟩

def impl_ownCoins.l0 (x0 : List Coin) : Nat → (List Coin) → Int → Option ((List Coin))
  | 0, _, _ => none
  | k + 1, a2780, a2782 => (bif (decide (a2782 < (x0.length : Int))) then (chk (idxOk a2782 x0.length) ((impl_ownOut.f k ((gt x0 a2782).fOut)).bind fun t2813 => (chk (leB ((a2780.length + ([(⟨(gt x0 a2782).fRef, t2813, (gt x0 a2782).fHeight, (gt x0 a2782).fMined⟩ : Coin)] : List Coin).length) * 80) 140737488355328) (impl_ownCoins.l0 x0 k (a2780 ++ ([(⟨(gt x0 a2782).fRef, t2813, (gt x0 a2782).fHeight, (gt x0 a2782).fMined⟩ : Coin)] : List Coin)) (wrap64 (a2782 + 1)))))) else some a2780)
theorem impl_ownCoins.l0_z (x0 : List Coin) (a2780 : List Coin) (a2782 : Int) : impl_ownCoins.l0 x0 0 a2780 a2782 = none := rfl
theorem impl_ownCoins.l0_s (x0 : List Coin) (k : Nat) (a2780 : List Coin) (a2782 : Int) : impl_ownCoins.l0 x0 (k + 1) a2780 a2782 = (bif (decide (a2782 < (x0.length : Int))) then (chk (idxOk a2782 x0.length) ((impl_ownOut.f k ((gt x0 a2782).fOut)).bind fun t2813 => (chk (leB ((a2780.length + ([(⟨(gt x0 a2782).fRef, t2813, (gt x0 a2782).fHeight, (gt x0 a2782).fMined⟩ : Coin)] : List Coin).length) * 80) 140737488355328) (impl_ownCoins.l0 x0 k (a2780 ++ ([(⟨(gt x0 a2782).fRef, t2813, (gt x0 a2782).fHeight, (gt x0 a2782).fMined⟩ : Coin)] : List Coin)) (wrap64 (a2782 + 1)))))) else some a2780) := rfl
def impl_ownCoins.f (k : Nat) (x0 : List Coin) : Option ((List Coin)) := ((impl_ownCoins.l0 x0 k ([] : List Coin) 0).bind (fun a2757 => some a2757))
theorem impl_ownCoins.calls {k : Nat} {x0 : List Coin} {p0 : Value} {w : World} (hp0 : RdS kCoin w p0 x0) {r : (List Coin)} (H : impl_ownCoins.f k x0 = some r) :
    Calls Try.prog 83 ([p0] : List Value).toArray w (fun e w_ => ∃ v, e = .returned v ∧ ∃ u0 : Value, v = u0 ∧ Mem w [] w_ [own kCoin 123 u0 r]) := by
  have HM := Mem.start w
  refine calls_run (N := 23) Try.func83 rfl rfl rfl rfl ?_
  unfold impl_ownCoins.f at H
  refine run_seq ?_
  refine run_region rfl ?_
  refine ops_ex rfl (guard_none rfl) rfl rfl (ex_assign rfl rfl) ?_
  refine ops_nil ?_
  refine at_then ?_
  refine run_seq ?_
  refine run_region rfl ?_
  refine ops_does rfl (guard_none rfl) rfl rfl (does_lit (e := 123) (cs := []) (xs := ([] : List Coin)) kCoin rfl rfl (fun _ => by kernel_rfl) rfl rfl (fun _ _ h => by have h' : _ = [] := h; subst h'; exact .nil) HM.emp) ?_
  rintro v2694 w2697 HM
  refine ops_ex rfl (guard_none rfl) rfl rfl (ex_assign rfl rfl) ?_
  refine ops_nil ?_
  refine at_then ?_
  obtain ⟨o2759, ho2760, H⟩ := bind_some H
  refine run_mid (fun ρ_ w_ => ∃ v2756 : Value, ∃ a2757 : List Coin, a2757 = o2759 ∧ ρ_ = [(3, v2756)] ∧ Mem w [] w_ [own kCoin 123 v2756 a2757]) ?_ ?_
  · clear H
    refine run_seq ?_
    refine run_region rfl ?_
    refine ops_ex rfl (guard_none rfl) rfl rfl (ex_move rfl rfl) ?_
    refine ops_ex rfl (guard_none rfl) rfl rfl (ex_len (d := kCoin) (xs := x0) rfl rfl Try.underlying44 hp0) ?_
    refine ops_ex rfl (guard_none rfl) rfl rfl (ex_move rfl rfl) ?_
    refine ops_nil ?_
    refine at_then ?_
    refine run_block ?_
    refine run_loop (fun k_ ρ_ w_ => ∃ v2779 : Value, ∃ a2780 : List Coin, ∃ a2782 : Int, impl_ownCoins.l0 x0 k_ a2780 a2782 = some o2759 ∧ ρ_ = [(3, v2779), (7, p0), (8, .int .i64 (x0.length : Int)), (9, .int .i64 a2782)] ∧ Mem w [] w_ [own kCoin 123 v2779 a2780]) k (ρ1 := [(3, v2694), (7, p0), (8, .int .i64 (x0.length : Int)), (9, .int .i64 0)]) ⟨_, _, _, ho2760, rfl, HM⟩ (Sub.cons rfl (Sub.cons rfl (Sub.cons rfl (Sub.cons rfl Sub.nil)))) ?_
    clear HM ho2760
    rintro k2801 _ w2802 ⟨v2779, a2780, a2782, ho2760, rfl, HM⟩
    obtain _ | k2801 := k2801
    · exact nomatch ((impl_ownCoins.l0_z x0 a2780 a2782).symm.trans ho2760)
    replace ho2760 := (impl_ownCoins.l0_s x0 k2801 a2780 a2782).symm.trans ho2760
    refine run_seq ?_
    refine run_region rfl ?_
    refine ops_ex rfl (guard_none rfl) rfl rfl (ex_lss rfl rfl rfl) ?_
    refine ops_nil ?_
    refine at_then ?_
    refine run_seq ?_
    refine run_cond (b := (decide (a2782 < (x0.length : Int)))) rfl (fun hb2803 => ?_) (fun hb2803 => ?_)
    · replace ho2760 := cond_t hb2803 ho2760
      refine run_skip ?_
      refine at_then ?_
      refine run_seq ?_
      refine run_block ?_
      refine run_seq ?_
      obtain ⟨e2804, ho2760⟩ := chk_some ho2760
      refine run_region rfl ?_
      obtain ⟨kv2806, hc2805, hk2807⟩ : ∃ u, CellsAt _ (sb p0) (so p0 + (a2782).toNat * 8) [(.int .i64 ((gt x0 a2782).fRef.fTx)), (.int .i64 ((gt x0 a2782).fRef.fAt)), (.int .i64 ((gt x0 a2782).fOut.fValue)), u, (.int .i64 ((gt x0 a2782).fOut.fRule.fNeed)), (.int .i64 ((gt x0 a2782).fOut.fRule.fAfter)), (.int .i64 ((gt x0 a2782).fHeight)), (.bool ((gt x0 a2782).fMined))] ∧ RdS kInt _ u ((gt x0 a2782).fOut.fRule.fKeys) := rd_with1 hp0 e2804
      refine ops_ex rfl (guard_none rfl) rfl rfl (ex_indexAddr (d := kCoin) rfl rfl rfl Try.underlying44 tsz123 hp0 (idx_lo e2804) (idx_hi e2804)) ?_
      refine ops_ex rfl (guard_none rfl) rfl rfl (ex_loadN (cs := [(.int .i64 ((gt x0 a2782).fRef.fTx)), (.int .i64 ((gt x0 a2782).fRef.fAt)), (.int .i64 ((gt x0 a2782).fOut.fValue)), kv2806, (.int .i64 ((gt x0 a2782).fOut.fRule.fNeed)), (.int .i64 ((gt x0 a2782).fOut.fRule.fAfter)), (.int .i64 ((gt x0 a2782).fHeight)), (.bool ((gt x0 a2782).fMined))]) rfl rfl Try.underlying123 rfl tsz123 rfl ((HM.at_ hc2805).sub 0 8 rfl)) ?_
      refine ops_does rfl (guard_none rfl) rfl rfl (does_alloc (cs := [.int .i64 0, .int .i64 0, .int .i64 0, .slice none 0 0, .int .i64 0, .int .i64 0, .int .i64 0, .bool false]) rfl tz123 rfl HM) ?_
      rintro _ w2811 ⟨b2808, rfl, HM⟩
      refine ops_doesS rfl (guard_none rfl) rfl (does_store (vs := [.int .i64 ((gt x0 a2782).fRef.fTx), .int .i64 ((gt x0 a2782).fRef.fAt), .int .i64 ((gt x0 a2782).fOut.fValue), kv2806, .int .i64 ((gt x0 a2782).fOut.fRule.fNeed), .int .i64 ((gt x0 a2782).fOut.fRule.fAfter), .int .i64 ((gt x0 a2782).fHeight), .bool ((gt x0 a2782).fMined)]) (cs' := [.int .i64 ((gt x0 a2782).fRef.fTx), .int .i64 ((gt x0 a2782).fRef.fAt), .int .i64 ((gt x0 a2782).fOut.fValue), kv2806, .int .i64 ((gt x0 a2782).fOut.fRule.fNeed), .int .i64 ((gt x0 a2782).fOut.fRule.fAfter), .int .i64 ((gt x0 a2782).fHeight), .bool ((gt x0 a2782).fMined)]) rfl rfl rfl rfl tsz123 (Ones.int (Ones.int (Ones.int (Ones.rd hk2807 (Ones.int (Ones.int (Ones.int (Ones.bool Ones.nil)))))))) rfl rfl HM) ?_
      rintro w2812 HM
      refine ops_nil ?_
      refine at_then ?_
      refine run_seq ?_
      obtain ⟨t2813, h2814, ho2760⟩ := bind_some ho2760
      refine run_region rfl ?_
      refine ops_ex rfl (guard_none rfl) rfl rfl (ex_fieldAddr (off' := 2) rfl rfl Try.underlying123 rfl tsz121 rfl) ?_
      refine ops_ex rfl (guard_none rfl) rfl rfl (ex_loadN (cs := [(.int .i64 ((gt x0 a2782).fOut.fValue)), kv2806, (.int .i64 ((gt x0 a2782).fOut.fRule.fNeed)), (.int .i64 ((gt x0 a2782).fOut.fRule.fAfter))]) rfl rfl Try.underlying121 rfl tsz121 rfl ((HM.box_at 0 rfl).sub 2 4 rfl)) ?_
      refine ops_does rfl (guard_none rfl) rfl rfl (does_callk rfl callok131 rfl (impl_ownOut.calls (x0 := (gt x0 a2782).fOut) (HM.rd hk2807) h2814)) ?_
      rintro _ w2817 ⟨u2815, rfl, hn⟩
      replace HM : Mem w [] w2817 [own kInt 2 u2815 t2813.fRule.fKeys, box b2808 123 [.int .i64 ((gt x0 a2782).fRef.fTx), .int .i64 ((gt x0 a2782).fRef.fAt), .int .i64 ((gt x0 a2782).fOut.fValue), kv2806, .int .i64 ((gt x0 a2782).fOut.fRule.fNeed), .int .i64 ((gt x0 a2782).fOut.fRule.fAfter), .int .i64 ((gt x0 a2782).fHeight), .bool ((gt x0 a2782).fMined)], own kCoin 123 v2779 a2780] := HM.call hn
      refine ops_ex rfl (guard_none rfl) rfl rfl (ex_fieldAddr (off' := 2) rfl rfl Try.underlying123 rfl tsz121 rfl) ?_
      replace HM := HM.front 1 rfl rfl
      refine ops_doesS rfl (guard_none rfl) rfl (does_store (vs := [.int .i64 t2813.fValue, u2815, .int .i64 t2813.fRule.fNeed, .int .i64 t2813.fRule.fAfter]) (cs' := [.int .i64 ((gt x0 a2782).fRef.fTx), .int .i64 ((gt x0 a2782).fRef.fAt), .int .i64 t2813.fValue, u2815, .int .i64 t2813.fRule.fNeed, .int .i64 t2813.fRule.fAfter, .int .i64 ((gt x0 a2782).fHeight), .bool ((gt x0 a2782).fMined)]) rfl rfl rfl rfl tsz121 (Ones.int (Ones.rd (HM.own_rd 1 rfl) (Ones.int (Ones.int Ones.nil)))) rfl rfl HM) ?_
      rintro w2818 HM
      refine ops_nil ?_
      refine at_then ?_
      obtain ⟨e2822, ho2760⟩ := chk_some ho2760
      refine run_region rfl ?_
      refine ops_ex rfl (guard_none rfl) rfl rfl (ex_move rfl rfl) ?_
      refine ops_ex rfl (guard_none rfl) rfl rfl (ex_loadN (cs := [(.int .i64 ((gt x0 a2782).fRef.fTx)), (.int .i64 ((gt x0 a2782).fRef.fAt)), (.int .i64 t2813.fValue), u2815, (.int .i64 t2813.fRule.fNeed), (.int .i64 t2813.fRule.fAfter), (.int .i64 ((gt x0 a2782).fHeight)), (.bool ((gt x0 a2782).fMined))]) rfl rfl Try.underlying123 rfl tsz123 rfl ((HM.box_at 0 rfl).sub 0 8 rfl)) ?_
      replace HM := HM.front 1 rfl rfl
      refine ops_does rfl (guard_none rfl) rfl rfl (does_lit (e := 123) (cs := [(.int .i64 ((gt x0 a2782).fRef.fTx)), (.int .i64 ((gt x0 a2782).fRef.fAt)), (.int .i64 t2813.fValue), u2815, (.int .i64 t2813.fRule.fNeed), (.int .i64 t2813.fRule.fAfter), (.int .i64 ((gt x0 a2782).fHeight)), (.bool ((gt x0 a2782).fMined))]) (xs := ([(⟨(gt x0 a2782).fRef, t2813, (gt x0 a2782).fHeight, (gt x0 a2782).fMined⟩ : Coin)] : List Coin)) kCoin rfl rfl (fun _ => by kernel_rfl) rfl rfl (fun _ _ h => by have := Elems.cons (d := kCoin) (x := (⟨(gt x0 a2782).fRef, t2813, (gt x0 a2782).fHeight, (gt x0 a2782).fMined⟩ : Coin)) ⟨_, rfl, h⟩ .nil; rw [List.append_nil, List.append_nil] at this; exact this) HM) ?_
      rintro v2819 w2825 HM
      replace HM := HM.front 2 rfl rfl
      refine ops_does rfl (guard_none rfl) rfl rfl (does_append kCoin rfl rfl rfl Try.underlying44 tsz123 rfl tby123 tz123 rfl rfl (leB_le e2822) HM) ?_
      rintro v2823 w2826 HM
      refine ops_ex rfl (guard_none rfl) rfl rfl (ex_assign rfl rfl) ?_
      refine ops_nil ?_
      refine at_block ?_
      refine at_then ?_
      refine run_region rfl ?_
      refine ops_ex rfl (guard_none rfl) rfl rfl (ex_add rfl rfl rfl) ?_
      refine ops_ex rfl (guard_none rfl) rfl rfl (ex_move rfl rfl) ?_
      refine ops_nil ?_
      replace HM := (HM.front 1 rfl rfl).drop
      exact at_again k2801 (ρ1 := [(3, v2823), (7, p0), (8, .int .i64 (x0.length : Int)), (9, .int .i64 (wrap64 (a2782 + 1)))]) (Nat.lt_succ_self _) ⟨_, _, _, ho2760, rfl, HM⟩ (Sub.cons rfl (Sub.cons rfl (Sub.cons rfl (Sub.cons rfl Sub.nil))))
    · replace ho2760 := cond_f hb2803 ho2760
      refine run_exit ?_
      refine at_then_exit ?_
      refine at_then_exit ?_
      refine at_block_exit ?_
      exact at_mid (ρ' := [(3, v2779)]) ⟨_, _, (Option.some.inj ho2760), rfl, HM⟩ (Sub.cons rfl Sub.nil)
  · rintro _ w2827 ⟨v2756, a2757, rfl, rfl, HM⟩
    refine run_seq ?_
    refine run_region rfl ?_
    refine ops_ex rfl (guard_none rfl) rfl rfl (ex_move rfl rfl) ?_
    refine ops_ex rfl (guard_none rfl) rfl rfl (ex_assign rfl rfl) ?_
    refine ops_nil ?_
    refine at_then ?_
    refine run_ret ?_
    have hR := Option.some.inj H
    subst hR
    exact at_ret1 rfl rfl ⟨_, rfl, _, rfl, HM⟩

def impl_findCoin_1.f (k : Nat) (x0 : Coin) (x1 : Ref) : Option Int := ((impl_compareRefs.f k x0.fRef x1).bind fun t2866 => some t2866)
theorem impl_findCoin_1.calls {k : Nat} {x0 : Coin} {x1 : Ref} {p0_0 : Value} {w : World} (hp0_0 : RdS kInt w p0_0 x0.fOut.fRule.fKeys) {r : Int} (H : impl_findCoin_1.f k x0 x1 = some r) :
    Calls Try.prog 130 ([.agg #[(.int .i64 x0.fRef.fTx), (.int .i64 x0.fRef.fAt), (.int .i64 x0.fOut.fValue), p0_0, (.int .i64 x0.fOut.fRule.fNeed), (.int .i64 x0.fOut.fRule.fAfter), (.int .i64 x0.fHeight), (.bool x0.fMined)], .agg #[(.int .i64 x1.fTx), (.int .i64 x1.fAt)]] : List Value).toArray w (fun e w_ => ∃ v, e = .returned v ∧ v = (.int .i64 r) ∧ Mem w [] w_ []) := by
  have HM := Mem.start w
  refine calls_run (N := 9) Try.func130 rfl rfl rfl rfl ?_
  unfold impl_findCoin_1.f at H
  refine run_seq ?_
  refine run_region rfl ?_
  refine ops_does rfl (guard_none rfl) rfl rfl (does_box (cs := [.int .i64 x0.fRef.fTx, .int .i64 x0.fRef.fAt, .int .i64 x0.fOut.fValue, p0_0, .int .i64 x0.fOut.fRule.fNeed, .int .i64 x0.fOut.fRule.fAfter, .int .i64 x0.fHeight, .bool x0.fMined]) rfl rfl rfl HM) ?_
  rintro _ w2864 ⟨b2858, rfl, HM⟩
  refine ops_does rfl (guard_none rfl) rfl rfl (does_box (cs := [.int .i64 x1.fTx, .int .i64 x1.fAt]) rfl rfl rfl HM) ?_
  rintro _ w2865 ⟨b2861, rfl, HM⟩
  refine ops_ex rfl (guard_none rfl) rfl rfl (ex_assign rfl rfl) ?_
  refine ops_nil ?_
  refine at_then ?_
  refine run_seq ?_
  obtain ⟨t2866, h2867, H⟩ := bind_some H
  refine run_region rfl ?_
  refine ops_ex rfl (guard_none rfl) rfl rfl (ex_fieldAddr (off' := 0) rfl rfl Try.underlying123 rfl tsz54 rfl) ?_
  refine ops_ex rfl (guard_none rfl) rfl rfl (ex_loadN (cs := [(.int .i64 x0.fRef.fTx), (.int .i64 x0.fRef.fAt)]) rfl rfl Try.underlying54 rfl tsz54 rfl ((HM.box_at 1 rfl).sub 0 2 rfl)) ?_
  refine ops_ex rfl (guard_none rfl) rfl rfl (ex_loadN (cs := [(.int .i64 x1.fTx), (.int .i64 x1.fAt)]) rfl rfl Try.underlying54 rfl tsz54 rfl ((HM.box_at 0 rfl).sub 0 2 rfl)) ?_
  refine ops_does rfl (guard_none rfl) rfl rfl (does_callk rfl callok126 rfl (impl_compareRefs.calls (x0 := x0.fRef) (x1 := x1) h2867)) ?_
  rintro _ w2868 ⟨rfl, hn⟩
  replace HM : Mem w [] w2868 [box b2861 54 [.int .i64 x1.fTx, .int .i64 x1.fAt], box b2858 123 [.int .i64 x0.fRef.fTx, .int .i64 x0.fRef.fAt, .int .i64 x0.fOut.fValue, p0_0, .int .i64 x0.fOut.fRule.fNeed, .int .i64 x0.fOut.fRule.fAfter, .int .i64 x0.fHeight, .bool x0.fMined]] := HM.call hn
  refine ops_ex rfl (guard_none rfl) rfl rfl (ex_assign rfl rfl) ?_
  refine ops_nil ?_
  refine at_then ?_
  refine run_ret ?_
  replace HM := (HM.front 0 rfl rfl).drop
  replace HM := (HM.front 0 rfl rfl).drop
  have hR := Option.some.inj H
  subst hR
  exact at_ret1 rfl rfl ⟨_, rfl, rfl, HM⟩

def slices_BinarySearchFunc_impl_Coin.l0 (x0 : List Coin) (x1 : Ref) : Nat → Int → Int → Option Int
  | 0, _, _ => none
  | k + 1, a2946, a2947 => (bif (decide (a2946 < a2947)) then (chk (decide (0 ≤ (1 : Int)) && decide ((1 : Int) ≤ IntKind.u64.bits)) (chk (idxOk (wrap64 ((IntKind.u64.wrap (wrap64 (a2946 + a2947))) / 2 ^ ((1 : Int)).toNat)) x0.length) ((impl_findCoin_1.f k (gt x0 (wrap64 ((IntKind.u64.wrap (wrap64 (a2946 + a2947))) / 2 ^ ((1 : Int)).toNat))) x1).bind fun t2965 => (bif (decide (t2965 < 0)) then slices_BinarySearchFunc_impl_Coin.l0 x0 x1 k (wrap64 ((wrap64 ((IntKind.u64.wrap (wrap64 (a2946 + a2947))) / 2 ^ ((1 : Int)).toNat)) + 1)) a2947 else slices_BinarySearchFunc_impl_Coin.l0 x0 x1 k a2946 (wrap64 ((IntKind.u64.wrap (wrap64 (a2946 + a2947))) / 2 ^ ((1 : Int)).toNat)))))) else some a2946)
theorem slices_BinarySearchFunc_impl_Coin.l0_z (x0 : List Coin) (x1 : Ref) (a2946 : Int) (a2947 : Int) : slices_BinarySearchFunc_impl_Coin.l0 x0 x1 0 a2946 a2947 = none := rfl
theorem slices_BinarySearchFunc_impl_Coin.l0_s (x0 : List Coin) (x1 : Ref) (k : Nat) (a2946 : Int) (a2947 : Int) : slices_BinarySearchFunc_impl_Coin.l0 x0 x1 (k + 1) a2946 a2947 = (bif (decide (a2946 < a2947)) then (chk (decide (0 ≤ (1 : Int)) && decide ((1 : Int) ≤ IntKind.u64.bits)) (chk (idxOk (wrap64 ((IntKind.u64.wrap (wrap64 (a2946 + a2947))) / 2 ^ ((1 : Int)).toNat)) x0.length) ((impl_findCoin_1.f k (gt x0 (wrap64 ((IntKind.u64.wrap (wrap64 (a2946 + a2947))) / 2 ^ ((1 : Int)).toNat))) x1).bind fun t2965 => (bif (decide (t2965 < 0)) then slices_BinarySearchFunc_impl_Coin.l0 x0 x1 k (wrap64 ((wrap64 ((IntKind.u64.wrap (wrap64 (a2946 + a2947))) / 2 ^ ((1 : Int)).toNat)) + 1)) a2947 else slices_BinarySearchFunc_impl_Coin.l0 x0 x1 k a2946 (wrap64 ((IntKind.u64.wrap (wrap64 (a2946 + a2947))) / 2 ^ ((1 : Int)).toNat)))))) else some a2946) := rfl
def slices_BinarySearchFunc_impl_Coin.f (k : Nat) (x0 : List Coin) (x1 : Ref) : Option (Int × Bool) := ((slices_BinarySearchFunc_impl_Coin.l0 x0 x1 k 0 (x0.length : Int)).bind (fun a2934 => (chk (!(decide (a2934 < (x0.length : Int))) || (idxOk a2934 x0.length)) ((bif (decide (a2934 < (x0.length : Int))) then impl_findCoin_1.f k (gt x0 a2934) x1 else some default).bind fun t2974 => some (a2934, ((decide (a2934 < (x0.length : Int))) && (t2974 == 0)))))))
theorem slices_BinarySearchFunc_impl_Coin.calls {k : Nat} {x0 : List Coin} {x1 : Ref} {p0 : Value} {w : World} (hp0 : RdS kCoin w p0 x0) {r : Int × Bool} (H : slices_BinarySearchFunc_impl_Coin.f k x0 x1 = some r) :
    Calls Try.prog 129 ([p0, .agg #[(.int .i64 x1.fTx), (.int .i64 x1.fAt)], .func (.func 130) #[] #[]] : List Value).toArray w (fun e w_ => ∃ v, e = .returned v ∧ v = (.tuple #[.int .i64 r.1, .bool r.2]) ∧ Mem w [] w_ []) := by
  have HM := Mem.start w
  refine calls_run (N := 49) Try.func129 rfl rfl rfl rfl ?_
  unfold slices_BinarySearchFunc_impl_Coin.f at H
  refine run_seq ?_
  refine run_region rfl ?_
  refine ops_does rfl (guard_none rfl) rfl rfl (does_box (cs := [.int .i64 x1.fTx, .int .i64 x1.fAt]) rfl rfl rfl HM) ?_
  rintro _ w2904 ⟨b2901, rfl, HM⟩
  refine ops_ex rfl (guard_none rfl) rfl rfl (ex_assign rfl rfl) ?_
  refine ops_ex rfl (guard_none rfl) rfl rfl (ex_assign rfl rfl) ?_
  refine ops_nil ?_
  refine at_then ?_
  refine run_seq ?_
  refine run_region rfl ?_
  refine ops_ex rfl (guard_none rfl) rfl rfl (ex_move rfl rfl) ?_
  refine ops_ex rfl (guard_none rfl) rfl rfl (ex_len (d := kCoin) (xs := x0) rfl rfl Try.underlying44 hp0) ?_
  refine ops_ex rfl (guard_none rfl) rfl rfl (ex_assign rfl rfl) ?_
  refine ops_nil ?_
  refine at_then ?_
  refine run_seq ?_
  refine run_region rfl ?_
  refine ops_ex rfl (guard_none rfl) rfl rfl (ex_move rfl rfl) ?_
  refine ops_ex rfl (guard_none rfl) rfl rfl (ex_assign rfl rfl) ?_
  refine ops_ex rfl (guard_none rfl) rfl rfl (ex_assign rfl rfl) ?_
  refine ops_nil ?_
  refine at_then ?_
  obtain ⟨o2935, ho2936, H⟩ := bind_some H
  refine run_mid (fun ρ_ w_ => ∃ a2934 : Int, a2934 = o2935 ∧ ρ_ = [(0, p0), (2, .func (.func 130) #[] #[]), (4, .pointer (some ⟨b2901, 0, none⟩)), (8, .int .i64 (x0.length : Int)), (9, .int .i64 a2934)] ∧ Mem w [] w_ [box b2901 54 [.int .i64 x1.fTx, .int .i64 x1.fAt]]) ?_ ?_
  · clear H
    refine run_block ?_
    refine run_loop (fun k_ ρ_ w_ => ∃ a2946 : Int, ∃ a2947 : Int, slices_BinarySearchFunc_impl_Coin.l0 x0 x1 k_ a2946 a2947 = some o2935 ∧ ρ_ = [(0, p0), (2, .func (.func 130) #[] #[]), (4, .pointer (some ⟨b2901, 0, none⟩)), (8, .int .i64 (x0.length : Int)), (9, .int .i64 a2946), (10, .int .i64 a2947)] ∧ Mem w [] w_ [box b2901 54 [.int .i64 x1.fTx, .int .i64 x1.fAt]]) k (ρ1 := [(0, p0), (2, .func (.func 130) #[] #[]), (4, .pointer (some ⟨b2901, 0, none⟩)), (8, .int .i64 (x0.length : Int)), (9, .int .i64 0), (10, .int .i64 (x0.length : Int))]) ⟨_, _, ho2936, rfl, HM⟩ (Sub.cons rfl (Sub.cons rfl (Sub.cons rfl (Sub.cons rfl (Sub.cons rfl (Sub.cons rfl Sub.nil)))))) ?_
    clear HM ho2936
    rintro k2957 _ w2958 ⟨a2946, a2947, ho2936, rfl, HM⟩
    obtain _ | k2957 := k2957
    · exact nomatch ((slices_BinarySearchFunc_impl_Coin.l0_z x0 x1 a2946 a2947).symm.trans ho2936)
    replace ho2936 := (slices_BinarySearchFunc_impl_Coin.l0_s x0 x1 k2957 a2946 a2947).symm.trans ho2936
    refine run_seq ?_
    refine run_seq ?_
    refine run_region rfl ?_
    refine ops_ex rfl (guard_none rfl) rfl rfl (ex_move rfl rfl) ?_
    refine ops_ex rfl (guard_none rfl) rfl rfl (ex_move rfl rfl) ?_
    refine ops_ex rfl (guard_none rfl) rfl rfl (ex_lss rfl rfl rfl) ?_
    refine ops_nil ?_
    refine at_then ?_
    refine run_cond (b := (decide (a2946 < a2947))) rfl (fun hb2959 => ?_) (fun hb2959 => ?_)
    · replace ho2936 := cond_t hb2959 ho2936
      refine run_skip ?_
      refine at_then ?_
      refine run_block ?_
      refine run_seq ?_
      obtain ⟨e2960, ho2936⟩ := chk_some ho2936
      refine run_region rfl ?_
      refine ops_ex rfl (guard_none rfl) rfl rfl (ex_move rfl rfl) ?_
      refine ops_ex rfl (guard_none rfl) rfl rfl (ex_move rfl rfl) ?_
      refine ops_ex rfl (guard_none rfl) rfl rfl (ex_add rfl rfl rfl) ?_
      refine ops_ex rfl (guard_none rfl) rfl rfl (ex_conv rfl rfl (by rw [Try.underlying3]; rfl) Try.underlying202) ?_
      refine ops_ex rfl (guard_none rfl) rfl rfl (ex_shr rfl rfl rfl e2960) ?_
      refine ops_ex rfl (guard_none rfl) rfl rfl (ex_conv64 rfl rfl (by rw [Try.underlying202]; rfl) Try.underlying3) ?_
      refine ops_ex rfl (guard_none rfl) rfl rfl (ex_assign rfl rfl) ?_
      refine ops_nil ?_
      refine at_then ?_
      refine run_seq ?_
      obtain ⟨e2961, ho2936⟩ := chk_some ho2936
      obtain ⟨t2965, h2966, ho2936⟩ := bind_some ho2936
      refine run_drawf (fun w_ => Mem w [] w_ [box b2901 54 [.int .i64 x1.fTx, .int .i64 x1.fAt]]) [(0, true), (1, true), (2, true), (3, true), (4, true), (5, true), (6, false), (7, true)] mixed rfl rfl (by kernel_rfl) ?_
      replace HM := HM.grow (fr_drew _)
      have hS := Mem.suf (M := []) HM
      refine drwp_take rfl (guard_none rfl) rfl rfl (fun w_ hS_ => (ex_move rfl rfl)) hS ?_
      refine drwp_take rfl (guard_none rfl) rfl rfl (fun w_ hS_ => (ex_move rfl rfl)) hS ?_
      refine drwp_take rfl (guard_none rfl) rfl rfl (fun w_ hS_ => (ex_move rfl rfl)) hS ?_
      obtain ⟨kv2963, hc2962, hk2964⟩ : ∃ u, CellsAt _ (sb p0) (so p0 + (wrap64 ((IntKind.u64.wrap (wrap64 (a2946 + a2947))) / 2 ^ ((1 : Int)).toNat)).toNat * 8) [(.int .i64 ((gt x0 (wrap64 ((IntKind.u64.wrap (wrap64 (a2946 + a2947))) / 2 ^ ((1 : Int)).toNat))).fRef.fTx)), (.int .i64 ((gt x0 (wrap64 ((IntKind.u64.wrap (wrap64 (a2946 + a2947))) / 2 ^ ((1 : Int)).toNat))).fRef.fAt)), (.int .i64 ((gt x0 (wrap64 ((IntKind.u64.wrap (wrap64 (a2946 + a2947))) / 2 ^ ((1 : Int)).toNat))).fOut.fValue)), u, (.int .i64 ((gt x0 (wrap64 ((IntKind.u64.wrap (wrap64 (a2946 + a2947))) / 2 ^ ((1 : Int)).toNat))).fOut.fRule.fNeed)), (.int .i64 ((gt x0 (wrap64 ((IntKind.u64.wrap (wrap64 (a2946 + a2947))) / 2 ^ ((1 : Int)).toNat))).fOut.fRule.fAfter)), (.int .i64 ((gt x0 (wrap64 ((IntKind.u64.wrap (wrap64 (a2946 + a2947))) / 2 ^ ((1 : Int)).toNat))).fHeight)), (.bool ((gt x0 (wrap64 ((IntKind.u64.wrap (wrap64 (a2946 + a2947))) / 2 ^ ((1 : Int)).toNat))).fMined))] ∧ RdS kInt _ u ((gt x0 (wrap64 ((IntKind.u64.wrap (wrap64 (a2946 + a2947))) / 2 ^ ((1 : Int)).toNat))).fOut.fRule.fKeys) := rd_with1 hp0 e2961
      refine drwp_take rfl (guard_none rfl) rfl rfl (fun w_ hS_ => (ex_indexAddr (d := kCoin) rfl rfl rfl Try.underlying44 tsz123 hp0 (idx_lo e2961) (idx_hi e2961))) hS ?_
      refine drwp_take rfl (guard_none rfl) rfl rfl (fun w_ hS_ => (ex_loadN (cs := [(.int .i64 ((gt x0 (wrap64 ((IntKind.u64.wrap (wrap64 (a2946 + a2947))) / 2 ^ ((1 : Int)).toNat))).fRef.fTx)), (.int .i64 ((gt x0 (wrap64 ((IntKind.u64.wrap (wrap64 (a2946 + a2947))) / 2 ^ ((1 : Int)).toNat))).fRef.fAt)), (.int .i64 ((gt x0 (wrap64 ((IntKind.u64.wrap (wrap64 (a2946 + a2947))) / 2 ^ ((1 : Int)).toNat))).fOut.fValue)), kv2963, (.int .i64 ((gt x0 (wrap64 ((IntKind.u64.wrap (wrap64 (a2946 + a2947))) / 2 ^ ((1 : Int)).toNat))).fOut.fRule.fNeed)), (.int .i64 ((gt x0 (wrap64 ((IntKind.u64.wrap (wrap64 (a2946 + a2947))) / 2 ^ ((1 : Int)).toNat))).fOut.fRule.fAfter)), (.int .i64 ((gt x0 (wrap64 ((IntKind.u64.wrap (wrap64 (a2946 + a2947))) / 2 ^ ((1 : Int)).toNat))).fHeight)), (.bool ((gt x0 (wrap64 ((IntKind.u64.wrap (wrap64 (a2946 + a2947))) / 2 ^ ((1 : Int)).toNat))).fMined))]) rfl rfl Try.underlying123 rfl tsz123 rfl ((hS_.at_ hc2962).sub 0 8 rfl))) hS ?_
      refine drwp_take rfl (guard_none rfl) rfl rfl (fun w_ hS_ => (ex_loadN (cs := [(.int .i64 x1.fTx), (.int .i64 x1.fAt)]) rfl rfl Try.underlying54 rfl tsz54 rfl ((hS_.box_at 0 rfl).sub 0 2 rfl))) hS ?_
      refine drwp_one rfl (guard_none rfl) rfl rfl (does_callvk rfl callok130 rfl rfl rfl (impl_findCoin_1.calls (x0 := (gt x0 (wrap64 ((IntKind.u64.wrap (wrap64 (a2946 + a2947))) / 2 ^ ((1 : Int)).toNat)))) (x1 := x1) (HM.rd hk2964) h2966)) ?_
      rintro _ w2967 ⟨rfl, hn⟩
      replace HM : Mem w [] w2967 [box b2901 54 [.int .i64 x1.fTx, .int .i64 x1.fAt]] := HM.call hn
      refine ⟨Mem.suf (M := []) HM, ?_⟩
      have hS := Mem.suf (M := []) HM
      refine drwp_take rfl (guard_none rfl) rfl rfl (fun w_ hS_ => (ex_lss rfl rfl rfl)) hS ?_
      refine drwp_done ?_
      refine at_then ?_
      refine run_cond (b := (decide (t2965 < 0))) rfl (fun hb2968 => ?_) (fun hb2968 => ?_)
      · replace ho2936 := cond_t hb2968 ho2936
        refine run_region rfl ?_
        refine ops_ex rfl (guard_none rfl) rfl rfl (ex_move rfl rfl) ?_
        refine ops_ex rfl (guard_none rfl) rfl rfl (ex_add rfl rfl rfl) ?_
        refine ops_ex rfl (guard_none rfl) rfl rfl (ex_assign rfl rfl) ?_
        refine ops_nil ?_
        refine at_block ?_
        exact at_again k2957 (ρ1 := [(0, p0), (2, .func (.func 130) #[] #[]), (4, .pointer (some ⟨b2901, 0, none⟩)), (8, .int .i64 (x0.length : Int)), (9, .int .i64 (wrap64 ((wrap64 ((IntKind.u64.wrap (wrap64 (a2946 + a2947))) / 2 ^ ((1 : Int)).toNat)) + 1))), (10, .int .i64 a2947)]) (Nat.lt_succ_self _) ⟨_, _, ho2936, rfl, HM⟩ (Sub.cons rfl (Sub.cons rfl (Sub.cons rfl (Sub.cons rfl (Sub.cons rfl (Sub.cons rfl Sub.nil))))))
      · replace ho2936 := cond_f hb2968 ho2936
        refine run_region rfl ?_
        refine ops_ex rfl (guard_none rfl) rfl rfl (ex_move rfl rfl) ?_
        refine ops_ex rfl (guard_none rfl) rfl rfl (ex_assign rfl rfl) ?_
        refine ops_nil ?_
        refine at_block ?_
        exact at_again k2957 (ρ1 := [(0, p0), (2, .func (.func 130) #[] #[]), (4, .pointer (some ⟨b2901, 0, none⟩)), (8, .int .i64 (x0.length : Int)), (9, .int .i64 a2946), (10, .int .i64 (wrap64 ((IntKind.u64.wrap (wrap64 (a2946 + a2947))) / 2 ^ ((1 : Int)).toNat)))]) (Nat.lt_succ_self _) ⟨_, _, ho2936, rfl, HM⟩ (Sub.cons rfl (Sub.cons rfl (Sub.cons rfl (Sub.cons rfl (Sub.cons rfl (Sub.cons rfl Sub.nil))))))
    · replace ho2936 := cond_f hb2959 ho2936
      refine run_exit ?_
      refine at_then_exit ?_
      refine at_then_exit ?_
      refine at_block_exit ?_
      exact at_mid (ρ' := [(0, p0), (2, .func (.func 130) #[] #[]), (4, .pointer (some ⟨b2901, 0, none⟩)), (8, .int .i64 (x0.length : Int)), (9, .int .i64 a2946)]) ⟨_, (Option.some.inj ho2936), rfl, HM⟩ (Sub.cons rfl (Sub.cons rfl (Sub.cons rfl (Sub.cons rfl (Sub.cons rfl Sub.nil)))))
  · rintro _ w2969 ⟨a2934, rfl, rfl, HM⟩
    refine run_seq ?_
    obtain ⟨e2970, H⟩ := chk_some H
    obtain ⟨t2974, h2975, H⟩ := bind_some H
    refine run_meet (fun ρ_ w_ => ρ_ = [(6, .int .i64 a2934), (7, .bool ((decide (a2934 < (x0.length : Int))) && (t2974 == 0)))] ∧ Mem w [] w_ []) ?_ ?_
    · skip
      refine run_drawf (fun w_ => Mem w [] w_ [box b2901 54 [.int .i64 x1.fTx, .int .i64 x1.fAt]]) [(0, true), (1, true), (2, true), (3, true), (4, true), (5, true), (6, true), (7, true), (8, true), (9, true), (10, true), (11, false), (12, true), (13, true), (14, true), (15, true)] mixed rfl rfl (by kernel_rfl) ?_
      replace HM := HM.grow (fr_drew _)
      have hS := Mem.suf (M := []) HM
      refine drwp_take rfl (guard_none rfl) rfl rfl (fun w_ hS_ => (ex_move rfl rfl)) hS ?_
      refine drwp_take rfl (guard_none rfl) rfl rfl (fun w_ hS_ => (ex_move rfl rfl)) hS ?_
      refine drwp_take rfl (guard_none rfl) rfl rfl (fun w_ hS_ => (ex_move rfl rfl)) hS ?_
      refine drwp_take rfl (guard_none rfl) rfl rfl (fun w_ hS_ => (ex_lss rfl rfl rfl)) hS ?_
      refine drwp_take rfl (guard_none rfl) rfl rfl (fun w_ hS_ => (ex_move rfl rfl)) hS ?_
      refine bool_cases (decide (a2934 < (x0.length : Int))) (fun hg2976 => ?_) (fun hg2976 => ?_)
      · skip
        refine drwp_take rfl (guard_on rfl rfl rfl hg2976) rfl rfl (fun w_ hS_ => (ex_move rfl rfl)) hS ?_
        refine drwp_take rfl (guard_on rfl rfl rfl hg2976) rfl rfl (fun w_ hS_ => (ex_move rfl rfl)) hS ?_
        refine drwp_take rfl (guard_on rfl rfl rfl hg2976) rfl rfl (fun w_ hS_ => (ex_move rfl rfl)) hS ?_
        obtain ⟨kv2972, hc2971, hk2973⟩ : ∃ u, CellsAt _ (sb p0) (so p0 + (a2934).toNat * 8) [(.int .i64 ((gt x0 a2934).fRef.fTx)), (.int .i64 ((gt x0 a2934).fRef.fAt)), (.int .i64 ((gt x0 a2934).fOut.fValue)), u, (.int .i64 ((gt x0 a2934).fOut.fRule.fNeed)), (.int .i64 ((gt x0 a2934).fOut.fRule.fAfter)), (.int .i64 ((gt x0 a2934).fHeight)), (.bool ((gt x0 a2934).fMined))] ∧ RdS kInt _ u ((gt x0 a2934).fOut.fRule.fKeys) := rd_with1 hp0 (or_t e2970 hg2976)
        refine drwp_take rfl (guard_on rfl rfl rfl hg2976) rfl rfl (fun w_ hS_ => (ex_indexAddr (d := kCoin) rfl rfl rfl Try.underlying44 tsz123 hp0 (idx_lo (or_t e2970 hg2976)) (idx_hi (or_t e2970 hg2976)))) hS ?_
        refine drwp_take rfl (guard_on rfl rfl rfl hg2976) rfl rfl (fun w_ hS_ => (ex_loadN (cs := [(.int .i64 ((gt x0 a2934).fRef.fTx)), (.int .i64 ((gt x0 a2934).fRef.fAt)), (.int .i64 ((gt x0 a2934).fOut.fValue)), kv2972, (.int .i64 ((gt x0 a2934).fOut.fRule.fNeed)), (.int .i64 ((gt x0 a2934).fOut.fRule.fAfter)), (.int .i64 ((gt x0 a2934).fHeight)), (.bool ((gt x0 a2934).fMined))]) rfl rfl Try.underlying123 rfl tsz123 rfl ((hS_.at_ hc2971).sub 0 8 rfl))) hS ?_
        refine drwp_take rfl (guard_on rfl rfl rfl hg2976) rfl rfl (fun w_ hS_ => (ex_loadN (cs := [(.int .i64 x1.fTx), (.int .i64 x1.fAt)]) rfl rfl Try.underlying54 rfl tsz54 rfl ((hS_.box_at 0 rfl).sub 0 2 rfl))) hS ?_
        refine drwp_one rfl (guard_on rfl rfl rfl hg2976) rfl rfl (does_callvk rfl callok130 rfl rfl rfl (impl_findCoin_1.calls (x0 := (gt x0 a2934)) (x1 := x1) (HM.rd hk2973) (cond_t hg2976 h2975))) ?_
        rintro _ w2977 ⟨rfl, hn⟩
        replace HM : Mem w [] w2977 [box b2901 54 [.int .i64 x1.fTx, .int .i64 x1.fAt]] := HM.call hn
        refine ⟨Mem.suf (M := []) HM, ?_⟩
        have hS := Mem.suf (M := []) HM
        refine drwp_take rfl (guard_on rfl rfl rfl hg2976) rfl rfl (fun w_ hS_ => (ex_eql rfl rfl rfl)) hS ?_
        refine drwp_take (v := .bool ((decide (a2934 < (x0.length : Int))) && (t2974 == 0))) rfl (guard_none rfl) rfl rfl (fun w_ hS_ => (ex_pand_t rfl rfl hg2976 rfl)) hS ?_
        refine drwp_take rfl (guard_none rfl) rfl rfl (fun w_ hS_ => (ex_assign rfl rfl)) hS ?_
        refine drwp_take rfl (guard_none rfl) rfl rfl (fun w_ hS_ => (ex_assign rfl rfl)) hS ?_
        refine drwp_done ?_
        replace HM := (HM.front 0 rfl rfl).drop
        exact at_meet [(6, .int .i64 a2934), (7, .bool ((decide (a2934 < (x0.length : Int))) && (t2974 == 0)))] ⟨rfl, HM⟩ (Sub.cons rfl (Sub.cons rfl Sub.nil))
      · skip
        refine drwp_off rfl (guard_off rfl rfl rfl hg2976) rfl rfl hS ?_
        refine drwp_off rfl (guard_off rfl rfl rfl hg2976) rfl rfl hS ?_
        refine drwp_off rfl (guard_off rfl rfl rfl hg2976) rfl rfl hS ?_
        refine drwp_off rfl (guard_off rfl rfl rfl hg2976) rfl rfl hS ?_
        refine drwp_off rfl (guard_off rfl rfl rfl hg2976) rfl rfl hS ?_
        refine drwp_off rfl (guard_off rfl rfl rfl hg2976) rfl rfl hS ?_
        refine drwp_off1 rfl (guard_off rfl rfl rfl hg2976) rfl rfl ⟨hS, ?_⟩
        refine drwp_off rfl (guard_off rfl rfl rfl hg2976) rfl rfl hS ?_
        have hg2978 : ((decide (a2934 < (x0.length : Int))) && (t2974 == 0)) = false := by simp only [hg2976, Bool.and_true, Bool.true_and, Bool.and_false, Bool.false_and, Bool.or_true, Bool.true_or, Bool.or_false, Bool.false_or, Bool.not_true, Bool.not_false, Bool.not_not]
        refine drwp_take (v := .bool ((decide (a2934 < (x0.length : Int))) && (t2974 == 0))) rfl (guard_none rfl) rfl rfl (fun w_ hS_ => (ex_pand_f rfl rfl hg2976)) hS ?_
        refine drwp_take rfl (guard_none rfl) rfl rfl (fun w_ hS_ => (ex_assign rfl rfl)) hS ?_
        refine drwp_take rfl (guard_none rfl) rfl rfl (fun w_ hS_ => (ex_assign rfl rfl)) hS ?_
        refine drwp_done ?_
        replace HM := (HM.front 0 rfl rfl).drop
        exact at_meet [(6, .int .i64 a2934), (7, .bool ((decide (a2934 < (x0.length : Int))) && (t2974 == 0)))] ⟨rfl, HM⟩ (Sub.cons rfl (Sub.cons rfl Sub.nil))
    · rintro _ w2979 ⟨rfl, HM⟩
      refine at_then ?_
      refine run_ret ?_
      have hR := Option.some.inj H
      subst hR
      exact at_ret2 rfl rfl rfl ⟨_, rfl, rfl, HM⟩

def impl_findCoin.f (k : Nat) (x0 : List Coin) (x1 : Ref) : Option (Int × Bool) := ((slices_BinarySearchFunc_impl_Coin.f k x0 x1).bind fun t2986 => some (t2986.1, t2986.2))
theorem impl_findCoin.calls {k : Nat} {x0 : List Coin} {x1 : Ref} {p0 : Value} {w : World} (hp0 : RdS kCoin w p0 x0) {r : Int × Bool} (H : impl_findCoin.f k x0 x1 = some r) :
    Calls Try.prog 82 ([p0, .agg #[(.int .i64 x1.fTx), (.int .i64 x1.fAt)]] : List Value).toArray w (fun e w_ => ∃ v, e = .returned v ∧ v = (.tuple #[.int .i64 r.1, .bool r.2]) ∧ Mem w [] w_ []) := by
  have HM := Mem.start w
  refine calls_run (N := 11) Try.func82 rfl rfl rfl rfl ?_
  unfold impl_findCoin.f at H
  refine run_seq ?_
  refine run_region rfl ?_
  refine ops_does rfl (guard_none rfl) rfl rfl (does_box (cs := [.int .i64 x1.fTx, .int .i64 x1.fAt]) rfl rfl rfl HM) ?_
  rintro _ w2985 ⟨b2982, rfl, HM⟩
  refine ops_ex rfl (guard_none rfl) rfl rfl (ex_assign rfl rfl) ?_
  refine ops_ex rfl (guard_none rfl) rfl rfl (ex_assign rfl rfl) ?_
  refine ops_nil ?_
  refine at_then ?_
  refine run_seq ?_
  obtain ⟨t2986, h2987, H⟩ := bind_some H
  refine run_region rfl ?_
  refine ops_ex rfl (guard_none rfl) rfl rfl (ex_move rfl rfl) ?_
  refine ops_ex rfl (guard_none rfl) rfl rfl (ex_loadN (cs := [(.int .i64 x1.fTx), (.int .i64 x1.fAt)]) rfl rfl Try.underlying54 rfl tsz54 rfl ((HM.box_at 0 rfl).sub 0 2 rfl)) ?_
  refine ops_does rfl (guard_none rfl) rfl rfl (does_callk rfl callok129 rfl (slices_BinarySearchFunc_impl_Coin.calls (x0 := x0) (x1 := x1) (HM.rd hp0) h2987)) ?_
  rintro _ w2988 ⟨rfl, hn⟩
  replace HM : Mem w [] w2988 [box b2982 54 [.int .i64 x1.fTx, .int .i64 x1.fAt]] := HM.call hn
  refine ops_ex rfl (guard_none rfl) rfl rfl (ex_extract rfl rfl rfl) ?_
  refine ops_ex rfl (guard_none rfl) rfl rfl (ex_extract rfl rfl rfl) ?_
  refine ops_ex rfl (guard_none rfl) rfl rfl (ex_assign rfl rfl) ?_
  refine ops_ex rfl (guard_none rfl) rfl rfl (ex_assign rfl rfl) ?_
  refine ops_nil ?_
  refine at_then ?_
  refine run_ret ?_
  replace HM := (HM.front 0 rfl rfl).drop
  have hR := Option.some.inj H
  subst hR
  exact at_ret2 rfl rfl rfl ⟨_, rfl, rfl, HM⟩

def slices_Delete_impl_Coin.f (k : Nat) (x0 : List Coin) (x1 : Int) (x2 : Int) : Option ((List Coin)) := (chk (cutOk x2 x0.length) (chk (cutOk x1 (x2).toNat) (bif (x1 == x2) then some x0 else (chk (cutOk x1 x0.length) (chk (cutOk x2 x0.length) (chk (cutOk x1 (x2).toNat) (chk (decide (x1 < x2)) (chk (decide (((x0.take (x1).toNat ++ x0.drop (x2).toNat).length : Int) ≤ (x0.length : Int))) (some (x0.take (x1).toNat ++ x0.drop (x2).toNat))))))))))
theorem slices_Delete_impl_Coin.calls {k : Nat} {x0 : List Coin} {x1 : Int} {x2 : Int} {p0 : Value} {w wo : World} {X : List Nat} (hwo : Olds wo w X) (hX : Hold w [own kCoin 123 p0 x0] X) (hXn : X.Nodup) (hXl : ∀ b ∈ X, b < w.heap.size)  {r : (List Coin)} (H : slices_Delete_impl_Coin.f k x0 x1 x2 = some r) :
    Calls Try.prog 150 ([p0, .int .i64 x1, .int .i64 x2] : List Value).toArray w (fun e w_ => ∃ v, e = .returned v ∧ ∃ u0 : Value, v = u0 ∧ Mem w X w_ [own kCoin 123 u0 r]) := by
  have HM := Mem.startX hX hXn hXl
  refine calls_run (N := 33) Try.func150 rfl rfl rfl rfl ?_
  unfold slices_Delete_impl_Coin.f at H
  refine run_seq ?_
  refine run_region rfl ?_
  refine ops_ex rfl (guard_none rfl) rfl rfl (ex_assign rfl rfl) ?_
  refine ops_nil ?_
  refine at_then ?_
  refine run_seq ?_
  obtain ⟨e3006, H⟩ := chk_some H
  obtain ⟨e3007, H⟩ := chk_some H
  refine run_region rfl ?_
  refine ops_ex rfl (guard_none rfl) rfl rfl (ex_move rfl rfl) ?_
  refine ops_ex rfl (guard_none rfl) rfl rfl (ex_move rfl rfl) ?_
  refine ops_ex rfl (guard_none rfl) rfl rfl (ex_move rfl rfl) ?_
  refine ops_ex rfl (guard_none rfl) rfl rfl (ex_move rfl rfl) ?_
  refine ops_ex rfl (guard_none rfl) rfl rfl (ex_len (d := kCoin) (xs := x0) rfl rfl Try.underlying44 (HM.own_rd 0 rfl)) ?_
  refine ops_exE rfl (guard_none rfl) rfl rfl (ex_cut3 rfl rfl rfl rfl rfl Try.underlying44 tsz123 (cut_lo e3007) (cut_lt2 e3007 e3006) (cut_le2 e3006) ((HM.own_rd 0 rfl).cap.le (Nat.le_refl _))) ?_
  rintro _ _
  refine ops_nil ?_
  refine at_then ?_
  refine run_seq ?_
  refine run_seq ?_
  refine run_region rfl ?_
  refine ops_ex rfl (guard_none rfl) rfl rfl (ex_move rfl rfl) ?_
  refine ops_ex rfl (guard_none rfl) rfl rfl (ex_move rfl rfl) ?_
  refine ops_ex rfl (guard_none rfl) rfl rfl (ex_eql rfl rfl rfl) ?_
  refine ops_nil ?_
  refine at_then ?_
  refine run_cond (b := (x1 == x2)) rfl (fun hb3009 => ?_) (fun hb3009 => ?_)
  · replace H := cond_t hb3009 H
    refine run_seq ?_
    refine run_region rfl ?_
    refine ops_ex rfl (guard_none rfl) rfl rfl (ex_move rfl rfl) ?_
    refine ops_ex rfl (guard_none rfl) rfl rfl (ex_assign rfl rfl) ?_
    refine ops_nil ?_
    refine at_then ?_
    refine run_ret ?_
    refine at_then_ret ?_
    have hR := Option.some.inj H
    subst hR
    exact at_ret1 rfl rfl ⟨_, rfl, _, rfl, HM⟩
  · replace H := cond_f hb3009 H
    refine run_skip ?_
    refine at_then ?_
    refine run_seq ?_
    refine run_region rfl ?_
    refine ops_ex rfl (guard_none rfl) rfl rfl (ex_move rfl rfl) ?_
    refine ops_ex rfl (guard_none rfl) rfl rfl (ex_len (d := kCoin) (xs := x0) rfl rfl Try.underlying44 (HM.own_rd 0 rfl)) ?_
    refine ops_ex rfl (guard_none rfl) rfl rfl (ex_assign rfl rfl) ?_
    refine ops_nil ?_
    refine at_then ?_
    refine run_seq ?_
    obtain ⟨e3010, H⟩ := chk_some H
    obtain ⟨e3011, H⟩ := chk_some H
    obtain ⟨e3012, H⟩ := chk_some H
    obtain ⟨e3013, H⟩ := chk_some H
    refine run_drawf (fun w_ => Mem w X w_ []) [(0, true), (1, true), (2, true), (3, true), (4, true), (5, true), (6, false), (7, true)] mixed rfl rfl (by kernel_rfl) ?_
    replace HM := HM.grow (fr_drew _)
    have hS := Mem.suf (M := [own kCoin 123 p0 x0]) HM
    refine drwp_take rfl (guard_none rfl) rfl rfl (fun w_ hS_ => (ex_move rfl rfl)) hS ?_
    refine drwp_take rfl (guard_none rfl) rfl rfl (fun w_ hS_ => (ex_move rfl rfl)) hS ?_
    refine drwp_take rfl (guard_none rfl) rfl rfl (fun w_ hS_ => (ex_cutvH rfl rfl rfl Try.underlying44 tsz123 (cut_lo e3010) ((HM.own_rd 0 rfl).cap.le (cut_hi e3010)))) hS ?_
    refine drwp_take rfl (guard_none rfl) rfl rfl (fun w_ hS_ => (ex_move rfl rfl)) hS ?_
    refine drwp_take rfl (guard_none rfl) rfl rfl (fun w_ hS_ => (ex_move rfl rfl)) hS ?_
    refine drwp_take rfl (guard_none rfl) rfl rfl (fun w_ hS_ => (ex_cutvL rfl rfl rfl Try.underlying44 tsz123 (HM.own_rd 0 rfl) e3011)) hS ?_
    refine drwp_one rfl (guard_none rfl) rfl rfl (does_delApp (i := (x1).toNat) (j := (x2).toNat) kCoin rfl rfl rfl Try.underlying44 tsz123 (lt_nat e3012 e3013) (cut_hi e3011) HM) ?_
    rintro v3014 w3017 ⟨hcap3016, HM⟩
    refine ⟨Mem.suf (M := [own kCoin 123 v3014 (x0.take (x1).toNat ++ x0.drop (x2).toNat)]) HM, ?_⟩
    have hS := Mem.suf (M := [own kCoin 123 v3014 (x0.take (x1).toNat ++ x0.drop (x2).toNat)]) HM
    refine drwp_take rfl (guard_none rfl) rfl rfl (fun w_ hS_ => (ex_assign rfl rfl)) hS ?_
    refine drwp_done ?_
    refine at_then ?_
    refine run_seq ?_
    obtain ⟨e3018, H⟩ := chk_some H
    refine run_region rfl ?_
    refine ops_ex rfl (guard_none rfl) rfl rfl (ex_move rfl rfl) ?_
    refine ops_ex rfl (guard_none rfl) rfl rfl (ex_move rfl rfl) ?_
    refine ops_ex rfl (guard_none rfl) rfl rfl (ex_len (d := kCoin) (xs := x0.take (x1).toNat ++ x0.drop (x2).toNat) rfl rfl Try.underlying44 (HM.own_rd 0 rfl)) ?_
    refine ops_ex rfl (guard_none rfl) rfl rfl (ex_move rfl rfl) ?_
    refine ops_ex rfl (guard_none rfl) rfl rfl (ex_cutvLH rfl rfl rfl rfl Try.underlying44 tsz123 (Int.natCast_nonneg _) (of_decide_eq_true e3018) hcap3016) ?_
    refine ops_doesN rfl (guard_none rfl) rfl (does_clear (n := x0.length) kCoin rfl rfl Try.underlying44 tsz123 tz123 rfl rfl (onesC rfl (onesC rfl (onesC rfl (onesC rfl (onesC rfl (onesC rfl (onesC rfl (onesC rfl onesN)))))))) (Int.ofNat_le.1 (of_decide_eq_true e3018)) hcap3016 HM) ?_
    rintro _ w3019 HM
    refine ops_nil ?_
    refine at_then ?_
    refine run_seq ?_
    refine run_region rfl ?_
    refine ops_ex rfl (guard_none rfl) rfl rfl (ex_move rfl rfl) ?_
    refine ops_ex rfl (guard_none rfl) rfl rfl (ex_assign rfl rfl) ?_
    refine ops_nil ?_
    refine at_then ?_
    refine run_ret ?_
    have hR := Option.some.inj H
    subst hR
    exact at_ret1 rfl rfl ⟨_, rfl, _, rfl, HM⟩

def impl_takeCoins.l0 (x1 : List Ref) : Nat → (List Coin) → Int → Option (((List Coin) × Int) ⊕ ((List Coin)))
  | 0, _, _ => none
  | k + 1, a3174, a3176 => (bif (decide (a3176 < (x1.length : Int))) then (chk (idxOk a3176 x1.length) ((impl_findCoin.f k a3174 (gt x1 a3176)).bind fun t3207 => (bif !t3207.2 then some (.inl (([] : List Coin), 4)) else ((slices_Delete_impl_Coin.f k a3174 t3207.1 (wrap64 (t3207.1 + 1))).bind fun t3213 => impl_takeCoins.l0 x1 k t3213 (wrap64 (a3176 + 1)))))) else some (.inr a3174))
theorem impl_takeCoins.l0_z (x1 : List Ref) (a3174 : List Coin) (a3176 : Int) : impl_takeCoins.l0 x1 0 a3174 a3176 = none := rfl
theorem impl_takeCoins.l0_s (x1 : List Ref) (k : Nat) (a3174 : List Coin) (a3176 : Int) : impl_takeCoins.l0 x1 (k + 1) a3174 a3176 = (bif (decide (a3176 < (x1.length : Int))) then (chk (idxOk a3176 x1.length) ((impl_findCoin.f k a3174 (gt x1 a3176)).bind fun t3207 => (bif !t3207.2 then some (.inl (([] : List Coin), 4)) else ((slices_Delete_impl_Coin.f k a3174 t3207.1 (wrap64 (t3207.1 + 1))).bind fun t3213 => impl_takeCoins.l0 x1 k t3213 (wrap64 (a3176 + 1)))))) else some (.inr a3174)) := rfl
def impl_takeCoins.f (k : Nat) (x0 : List Coin) (x1 : List Ref) : Option ((List Coin) × Int) := ((impl_ownCoins.f k x0).bind fun t3079 => ((impl_takeCoins.l0 x1 k t3079 0).bind fun o3151 => thn o3151 (fun r => some r) (fun a3149 => some (a3149, 0))))
theorem impl_takeCoins.calls {k : Nat} {x0 : List Coin} {x1 : List Ref} {p0 : Value} {p1 : Value} {w : World} (hp0 : RdS kCoin w p0 x0) (hp1 : RdS kRef w p1 x1) {r : (List Coin) × Int} (H : impl_takeCoins.f k x0 x1 = some r) :
    Calls Try.prog 97 ([p0, p1] : List Value).toArray w (fun e w_ => ∃ v, e = .returned v ∧ ∃ u0 : Value, v = (.tuple #[u0, .int .i64 r.2]) ∧ Mem w [] w_ [own kCoin 123 u0 r.1]) := by
  have HM := Mem.start w
  refine calls_run (N := 34) Try.func97 rfl rfl rfl rfl ?_
  unfold impl_takeCoins.f at H
  refine run_seq ?_
  refine run_region rfl ?_
  refine ops_ex rfl (guard_none rfl) rfl rfl (ex_assign rfl rfl) ?_
  refine ops_ex rfl (guard_none rfl) rfl rfl (ex_assign rfl rfl) ?_
  refine ops_nil ?_
  refine at_then ?_
  refine run_seq ?_
  obtain ⟨t3079, h3080, H⟩ := bind_some H
  refine run_region rfl ?_
  refine ops_ex rfl (guard_none rfl) rfl rfl (ex_move rfl rfl) ?_
  refine ops_does rfl (guard_none rfl) rfl rfl (does_callk rfl callok83 rfl (impl_ownCoins.calls (x0 := x0) (HM.rd hp0) h3080)) ?_
  rintro u3081 w3083 ⟨_, rfl, hn⟩
  replace HM : Mem w [] w3083 [own kCoin 123 u3081 t3079] := HM.call hn
  refine ops_ex rfl (guard_none rfl) rfl rfl (ex_assign rfl rfl) ?_
  refine ops_nil ?_
  refine at_then ?_
  obtain ⟨o3151, ho3152, H⟩ := bind_some H
  refine run_mid (fun ρ_ w_ => ∃ v3148 : Value, ∃ a3149 : List Coin, Sum.inr a3149 = o3151 ∧ ρ_ = [(6, v3148)] ∧ Mem w [] w_ [own kCoin 123 v3148 a3149]) ?_ ?_
  · skip
    refine run_seq ?_
    refine run_region rfl ?_
    refine ops_ex rfl (guard_none rfl) rfl rfl (ex_move rfl rfl) ?_
    refine ops_ex rfl (guard_none rfl) rfl rfl (ex_len (d := kRef) (xs := x1) rfl rfl Try.underlying72 hp1) ?_
    refine ops_ex rfl (guard_none rfl) rfl rfl (ex_move rfl rfl) ?_
    refine ops_nil ?_
    refine at_then ?_
    refine run_block ?_
    refine run_loop (fun k_ ρ_ w_ => ∃ v3173 : Value, ∃ a3174 : List Coin, ∃ a3176 : Int, impl_takeCoins.l0 x1 k_ a3174 a3176 = some o3151 ∧ ρ_ = [(6, v3173), (13, p1), (14, .int .i64 (x1.length : Int)), (15, .int .i64 a3176)] ∧ Mem w [] w_ [own kCoin 123 v3173 a3174]) k (ρ1 := [(6, u3081), (13, p1), (14, .int .i64 (x1.length : Int)), (15, .int .i64 0)]) ⟨_, _, _, ho3152, rfl, HM⟩ (Sub.cons rfl (Sub.cons rfl (Sub.cons rfl (Sub.cons rfl Sub.nil)))) ?_
    clear HM ho3152
    rintro k3197 _ w3198 ⟨v3173, a3174, a3176, ho3152, rfl, HM⟩
    obtain _ | k3197 := k3197
    · exact nomatch ((impl_takeCoins.l0_z x1 a3174 a3176).symm.trans ho3152)
    replace ho3152 := (impl_takeCoins.l0_s x1 k3197 a3174 a3176).symm.trans ho3152
    refine run_seq ?_
    refine run_region rfl ?_
    refine ops_ex rfl (guard_none rfl) rfl rfl (ex_lss rfl rfl rfl) ?_
    refine ops_nil ?_
    refine at_then ?_
    refine run_seq ?_
    refine run_cond (b := (decide (a3176 < (x1.length : Int)))) rfl (fun hb3199 => ?_) (fun hb3199 => ?_)
    · replace ho3152 := cond_t hb3199 ho3152
      refine run_skip ?_
      refine at_then ?_
      refine run_seq ?_
      refine run_block ?_
      refine run_seq ?_
      obtain ⟨e3200, ho3152⟩ := chk_some ho3152
      refine run_region rfl ?_
      have hc3201 : CellsAt _ (sb p1) (so p1 + (a3176).toNat * 2) [(.int .i64 ((gt x1 a3176).fTx)), (.int .i64 ((gt x1 a3176).fAt))] := rd_plain hp1 e3200
      refine ops_ex rfl (guard_none rfl) rfl rfl (ex_indexAddr (d := kRef) rfl rfl rfl Try.underlying72 tsz54 hp1 (idx_lo e3200) (idx_hi e3200)) ?_
      refine ops_ex rfl (guard_none rfl) rfl rfl (ex_loadN (cs := [(.int .i64 ((gt x1 a3176).fTx)), (.int .i64 ((gt x1 a3176).fAt))]) rfl rfl Try.underlying54 rfl tsz54 rfl ((HM.at_ hc3201).sub 0 2 rfl)) ?_
      refine ops_does rfl (guard_none rfl) rfl rfl (does_alloc (cs := [.int .i64 0, .int .i64 0]) rfl tz54 rfl HM) ?_
      rintro _ w3205 ⟨b3202, rfl, HM⟩
      refine ops_doesS rfl (guard_none rfl) rfl (does_store (vs := [.int .i64 ((gt x1 a3176).fTx), .int .i64 ((gt x1 a3176).fAt)]) (cs' := [.int .i64 ((gt x1 a3176).fTx), .int .i64 ((gt x1 a3176).fAt)]) rfl rfl rfl rfl tsz54 (Ones.int (Ones.int Ones.nil)) rfl rfl HM) ?_
      rintro w3206 HM
      refine ops_nil ?_
      refine at_then ?_
      refine run_seq ?_
      obtain ⟨t3207, h3208, ho3152⟩ := bind_some ho3152
      refine run_region rfl ?_
      refine ops_ex rfl (guard_none rfl) rfl rfl (ex_move rfl rfl) ?_
      refine ops_ex rfl (guard_none rfl) rfl rfl (ex_loadN (cs := [(.int .i64 ((gt x1 a3176).fTx)), (.int .i64 ((gt x1 a3176).fAt))]) rfl rfl Try.underlying54 rfl tsz54 rfl ((HM.box_at 0 rfl).sub 0 2 rfl)) ?_
      refine ops_does rfl (guard_none rfl) rfl rfl (does_callk rfl callok82 rfl (impl_findCoin.calls (x0 := a3174) (x1 := (gt x1 a3176)) (HM.own_rd 1 rfl) h3208)) ?_
      rintro _ w3209 ⟨rfl, hn⟩
      replace HM : Mem w [] w3209 [box b3202 54 [.int .i64 ((gt x1 a3176).fTx), .int .i64 ((gt x1 a3176).fAt)], own kCoin 123 v3173 a3174] := HM.call hn
      refine ops_ex rfl (guard_none rfl) rfl rfl (ex_move rfl rfl) ?_
      refine ops_ex rfl (guard_none rfl) rfl rfl (ex_extract rfl rfl rfl) ?_
      refine ops_ex rfl (guard_none rfl) rfl rfl (ex_extract rfl rfl rfl) ?_
      refine ops_ex rfl (guard_none rfl) rfl rfl (ex_assign rfl rfl) ?_
      refine ops_ex rfl (guard_none rfl) rfl rfl (ex_assign rfl rfl) ?_
      refine ops_nil ?_
      refine at_then ?_
      refine run_seq ?_
      refine run_seq ?_
      refine run_region rfl ?_
      refine ops_ex rfl (guard_none rfl) rfl rfl (ex_move rfl rfl) ?_
      refine ops_ex rfl (guard_none rfl) rfl rfl (ex_not rfl rfl) ?_
      refine ops_nil ?_
      refine at_then ?_
      refine run_cond (b := !t3207.2) rfl (fun hb3211 => ?_) (fun hb3211 => ?_)
      · replace ho3152 := cond_t hb3211 ho3152
        refine run_seq ?_
        refine run_region rfl ?_
        refine ops_ex rfl (guard_none rfl) rfl rfl (ex_assign rfl rfl) ?_
        refine ops_ex rfl (guard_none rfl) rfl rfl (ex_assign rfl rfl) ?_
        refine ops_nil ?_
        refine at_then ?_
        refine run_ret ?_
        refine at_then_ret ?_
        refine at_block_ret ?_
        refine at_then_ret ?_
        refine at_then_ret ?_
        refine at_block_ret ?_
        refine at_then_ret ?_
        replace HM := HM.empty kCoin 123 none
        replace HM := (HM.front 1 rfl rfl).drop
        replace HM := (HM.front 1 rfl rfl).drop
        have hR := Option.some.inj ho3152
        subst hR
        have hT := thn_inl H
        have hR := Option.some.inj hT
        subst hR
        exact at_ret2 rfl rfl rfl ⟨_, rfl, _, rfl, HM⟩
      · replace ho3152 := cond_f hb3211 ho3152
        refine run_skip ?_
        refine at_then ?_
        obtain ⟨t3213, h3214, ho3152⟩ := bind_some ho3152
        refine run_region rfl ?_
        refine ops_ex rfl (guard_none rfl) rfl rfl (ex_move rfl rfl) ?_
        refine ops_ex rfl (guard_none rfl) rfl rfl (ex_move rfl rfl) ?_
        refine ops_ex rfl (guard_none rfl) rfl rfl (ex_move rfl rfl) ?_
        refine ops_ex rfl (guard_none rfl) rfl rfl (ex_add rfl rfl rfl) ?_
        replace HM := HM.front 1 rfl rfl
        obtain ⟨F3217, hF3218, hFn3219, hFl3220, HMh3221, hcl3222⟩ := HM.hide (Ms := [own kCoin 123 v3173 a3174])
        refine ops_does rfl (guard_none rfl) rfl rfl (does_callk rfl callok150 rfl (slices_Delete_impl_Coin.calls (x0 := a3174) (x1 := t3207.1) (x2 := wrap64 (t3207.1 + 1)) (hide_olds _ _) hF3218 hFn3219 hFl3220 h3214)) ?_
        rintro u3215 w3223 ⟨_, rfl, hn⟩
        replace HM : Mem w [] w3223 [own kCoin 123 u3215 t3213, box b3202 54 [.int .i64 ((gt x1 a3176).fTx), .int .i64 ((gt x1 a3176).fAt)]] := hcl3222 _ _ hn
        refine ops_ex rfl (guard_none rfl) rfl rfl (ex_assign rfl rfl) ?_
        refine ops_nil ?_
        refine at_block ?_
        refine at_then ?_
        refine run_region rfl ?_
        refine ops_ex rfl (guard_none rfl) rfl rfl (ex_add rfl rfl rfl) ?_
        refine ops_ex rfl (guard_none rfl) rfl rfl (ex_move rfl rfl) ?_
        refine ops_nil ?_
        replace HM := (HM.front 1 rfl rfl).drop
        exact at_again k3197 (ρ1 := [(6, u3215), (13, p1), (14, .int .i64 (x1.length : Int)), (15, .int .i64 (wrap64 (a3176 + 1)))]) (Nat.lt_succ_self _) ⟨_, _, _, ho3152, rfl, HM⟩ (Sub.cons rfl (Sub.cons rfl (Sub.cons rfl (Sub.cons rfl Sub.nil))))
    · replace ho3152 := cond_f hb3199 ho3152
      refine run_exit ?_
      refine at_then_exit ?_
      refine at_then_exit ?_
      refine at_block_exit ?_
      exact at_mid (ρ' := [(6, v3173)]) ⟨_, _, (Option.some.inj ho3152), rfl, HM⟩ (Sub.cons rfl Sub.nil)
  · rintro _ w3224 ⟨v3148, a3149, rfl, rfl, HM⟩
    replace H := (thn_inr H)
    refine run_seq ?_
    refine run_region rfl ?_
    refine ops_ex rfl (guard_none rfl) rfl rfl (ex_move rfl rfl) ?_
    refine ops_ex rfl (guard_none rfl) rfl rfl (ex_assign rfl rfl) ?_
    refine ops_ex rfl (guard_none rfl) rfl rfl (ex_assign rfl rfl) ?_
    refine ops_nil ?_
    refine at_then ?_
    refine run_ret ?_
    have hR := Option.some.inj H
    subst hR
    exact at_ret2 rfl rfl rfl ⟨_, rfl, _, rfl, HM⟩

def impl_TakeCoins.f (k : Nat) (x0 : List Coin) (x1 : List Ref) : Option CoinsResult := ((impl_CoinsFault.f k x0).bind fun t3236 => (bif (t3236 != 0) then some (⟨t3236, ([] : List Coin)⟩ : CoinsResult) else (bif (decide (4 < (x1.length : Int))) then some (⟨2, ([] : List Coin)⟩ : CoinsResult) else ((impl_takeCoins.f k x0 x1).bind fun t3246 => some (⟨t3246.2, t3246.1⟩ : CoinsResult)))))
theorem impl_TakeCoins.calls {k : Nat} {x0 : List Coin} {x1 : List Ref} {p0 : Value} {p1 : Value} {w : World} (hp0 : RdS kCoin w p0 x0) (hp1 : RdS kRef w p1 x1) {r : CoinsResult} (H : impl_TakeCoins.f k x0 x1 = some r) :
    Calls Try.prog 47 ([p0, p1] : List Value).toArray w (fun e w_ => ∃ v, e = .returned v ∧ ∃ u0 : Value, v = (.agg #[.int .i64 r.fCode, u0]) ∧ Mem w [] w_ [own kCoin 123 u0 r.fCoins]) := by
  have HM := Mem.start w
  refine calls_run (N := 27) Try.func47 rfl rfl rfl rfl ?_
  unfold impl_TakeCoins.f at H
  refine run_seq ?_
  refine run_region rfl ?_
  refine ops_does rfl (guard_none rfl) rfl rfl (does_alloc (cs := [.int .i64 0, .slice none 0 0]) rfl tz52 rfl HM) ?_
  rintro _ w3232 ⟨b3229, rfl, HM⟩
  refine ops_nil ?_
  refine at_then ?_
  refine run_seq ?_
  refine run_seq ?_
  obtain ⟨t3236, h3237, H⟩ := bind_some H
  refine run_region rfl ?_
  refine ops_ex rfl (guard_none rfl) rfl rfl (ex_move rfl rfl) ?_
  refine ops_does rfl (guard_none rfl) rfl rfl (does_callk rfl callok76 rfl (impl_CoinsFault.calls (x0 := x0) (HM.rd hp0) h3237)) ?_
  rintro _ w3238 ⟨rfl, hn⟩
  replace HM : Mem w [] w3238 [box b3229 52 [.int .i64 0, .slice none 0 0]] := HM.call hn
  refine ops_ex rfl (guard_none rfl) rfl rfl (ex_assign rfl rfl) ?_
  refine ops_nil ?_
  refine at_then ?_
  refine run_seq ?_
  refine run_region rfl ?_
  refine ops_ex rfl (guard_none rfl) rfl rfl (ex_move rfl rfl) ?_
  refine ops_ex rfl (guard_none rfl) rfl rfl (ex_neq rfl rfl rfl) ?_
  refine ops_nil ?_
  refine at_then ?_
  refine run_cond (b := (t3236 != 0)) rfl (fun hb3239 => ?_) (fun hb3239 => ?_)
  · replace H := cond_t hb3239 H
    refine run_seq ?_
    refine run_region rfl ?_
    refine ops_ex rfl (guard_none rfl) rfl rfl (ex_move rfl rfl) ?_
    refine ops_ex rfl (guard_none rfl) rfl rfl (ex_build (cells := #[(.int .i64 t3236), (.slice none 0 0)]) rfl rfl (by kernel_rfl)) ?_
    refine ops_doesS rfl (guard_none rfl) rfl (does_store (vs := [.int .i64 t3236, .slice none 0 0]) (cs' := [.int .i64 t3236, .slice none 0 0]) rfl rfl rfl rfl tsz52 (Ones.int (Ones.sl Ones.nil)) rfl rfl HM) ?_
    rintro w3240 HM
    refine ops_nil ?_
    refine at_then ?_
    refine run_ret ?_
    refine at_then_ret ?_
    replace HM := HM.empty kCoin 123 none
    replace HM := HM.front 1 rfl rfl
    have hcb0 := HM.box_at 0 rfl
    replace HM := (HM.front 0 rfl rfl).drop
    have hR := Option.some.inj H
    subst hR
    exact at_retN rfl rfl Try.underlying52 rfl tsz52 rfl hcb0 ⟨_, rfl, _, rfl, HM⟩
  · replace H := cond_f hb3239 H
    refine run_skip ?_
    refine at_then ?_
    refine run_seq ?_
    refine run_seq ?_
    refine run_region rfl ?_
    refine ops_ex rfl (guard_none rfl) rfl rfl (ex_move rfl rfl) ?_
    refine ops_ex rfl (guard_none rfl) rfl rfl (ex_len (d := kRef) (xs := x1) rfl rfl Try.underlying72 hp1) ?_
    refine ops_ex rfl (guard_none rfl) rfl rfl (ex_gtr rfl rfl rfl) ?_
    refine ops_nil ?_
    refine at_then ?_
    refine run_cond (b := (decide (4 < (x1.length : Int)))) rfl (fun hb3243 => ?_) (fun hb3243 => ?_)
    · replace H := cond_t hb3243 H
      refine run_seq ?_
      refine run_region rfl ?_
      refine ops_ex rfl (guard_none rfl) rfl rfl (ex_build (cells := #[(.int .i64 2), (.slice none 0 0)]) rfl rfl (by kernel_rfl)) ?_
      refine ops_doesS rfl (guard_none rfl) rfl (does_store (vs := [.int .i64 2, .slice none 0 0]) (cs' := [.int .i64 2, .slice none 0 0]) rfl rfl rfl rfl tsz52 (Ones.int (Ones.sl Ones.nil)) rfl rfl HM) ?_
      rintro w3244 HM
      refine ops_nil ?_
      refine at_then ?_
      refine run_ret ?_
      refine at_then_ret ?_
      replace HM := HM.empty kCoin 123 none
      replace HM := HM.front 1 rfl rfl
      have hcb0 := HM.box_at 0 rfl
      replace HM := (HM.front 0 rfl rfl).drop
      have hR := Option.some.inj H
      subst hR
      exact at_retN rfl rfl Try.underlying52 rfl tsz52 rfl hcb0 ⟨_, rfl, _, rfl, HM⟩
    · replace H := cond_f hb3243 H
      refine run_skip ?_
      refine at_then ?_
      refine run_seq ?_
      obtain ⟨t3246, h3247, H⟩ := bind_some H
      refine run_region rfl ?_
      refine ops_ex rfl (guard_none rfl) rfl rfl (ex_move rfl rfl) ?_
      refine ops_ex rfl (guard_none rfl) rfl rfl (ex_move rfl rfl) ?_
      refine ops_does rfl (guard_none rfl) rfl rfl (does_callk rfl callok97 rfl (impl_takeCoins.calls (x0 := x0) (x1 := x1) (HM.rd hp0) (HM.rd hp1) h3247)) ?_
      rintro _ w3250 ⟨u3248, rfl, hn⟩
      replace HM : Mem w [] w3250 [own kCoin 123 u3248 t3246.1, box b3229 52 [.int .i64 0, .slice none 0 0]] := HM.call hn
      refine ops_ex rfl (guard_none rfl) rfl rfl (ex_move rfl rfl) ?_
      refine ops_ex rfl (guard_none rfl) rfl rfl (ex_extract rfl rfl rfl) ?_
      refine ops_ex rfl (guard_none rfl) rfl rfl (ex_extract rfl rfl rfl) ?_
      refine ops_ex rfl (guard_none rfl) rfl rfl (ex_assign rfl rfl) ?_
      refine ops_ex rfl (guard_none rfl) rfl rfl (ex_assign rfl rfl) ?_
      refine ops_nil ?_
      refine at_then ?_
      refine run_seq ?_
      refine run_region rfl ?_
      refine ops_ex rfl (guard_none rfl) rfl rfl (ex_move rfl rfl) ?_
      refine ops_ex rfl (guard_none rfl) rfl rfl (ex_move rfl rfl) ?_
      refine ops_ex rfl (guard_none rfl) rfl rfl (ex_build1 (fun u3248 => [(0, .int .i64 t3246.2), (1, u3248)]) (fun u3248 => #[.int .i64 t3246.2, u3248]) rfl rfl (fun _ _ _ => by kernel_rfl) (HM.own_rd 0 rfl).isSl) ?_
      replace HM := HM.front 1 rfl rfl
      refine ops_doesS rfl (guard_none rfl) rfl (does_store (vs := [.int .i64 t3246.2, u3248]) (cs' := [.int .i64 t3246.2, u3248]) rfl rfl rfl rfl tsz52 (Ones.int (Ones.rd (HM.own_rd 1 rfl) Ones.nil)) rfl rfl HM) ?_
      rintro w3251 HM
      refine ops_nil ?_
      refine at_then ?_
      refine run_ret ?_
      have hcb0 := HM.box_at 0 rfl
      replace HM := (HM.front 0 rfl rfl).drop
      have hR := Option.some.inj H
      subst hR
      exact at_retN rfl rfl Try.underlying52 rfl tsz52 rfl hcb0 ⟨_, rfl, _, rfl, HM⟩
end Go.Proofs.Ytigojhglkilodaa.Zk
