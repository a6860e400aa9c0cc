/- What functions of the program compute, each as a plain function, and that they do. Conditions: as each theorem states them. -/
import Derived.Test.YtecgbhfgkkpmhabGreatUndoTxZkF2
namespace Go.Proofs.YtecgbhfgkkpmhabGreat.Zk
open Go Go.RowKit Go.IntWalk Go.Proofs
set_option linter.unusedVariables false
set_option linter.unusedSimpArgs false
set_option maxRecDepth 100000
set_option maxHeartbeats 4000000
def spec_l5Spent.l0 (x0 : List Coin) (x1 : Tx) : Nat → (List Coin) → Int → Option ((List Coin))
  | 0, _, _ => none
  | k + 1, a2553, a2555 => (bif (decide (a2555 < (x0.length : Int))) then (chk (idxOk a2555 x0.length) ((spec_l3Among.f k x1.fIns ((gt x0 a2555).fRef)).bind fun t2581 => (bif t2581 then (chk (idxOk a2555 x0.length) (chk (leB ((a2553.length + ([(gt x0 a2555)] : List Coin).length) * 80) 140737488355328) (spec_l5Spent.l0 x0 x1 k (a2553 ++ ([(gt x0 a2555)] : List Coin)) (wrap64 (a2555 + 1))))) else spec_l5Spent.l0 x0 x1 k a2553 (wrap64 (a2555 + 1))))) else some a2553)
theorem spec_l5Spent.l0_z (x0 : List Coin) (x1 : Tx) (a2553 : List Coin) (a2555 : Int) : spec_l5Spent.l0 x0 x1 0 a2553 a2555 = none := rfl
theorem spec_l5Spent.l0_s (x0 : List Coin) (x1 : Tx) (k : Nat) (a2553 : List Coin) (a2555 : Int) : spec_l5Spent.l0 x0 x1 (k + 1) a2553 a2555 = (bif (decide (a2555 < (x0.length : Int))) then (chk (idxOk a2555 x0.length) ((spec_l3Among.f k x1.fIns ((gt x0 a2555).fRef)).bind fun t2581 => (bif t2581 then (chk (idxOk a2555 x0.length) (chk (leB ((a2553.length + ([(gt x0 a2555)] : List Coin).length) * 80) 140737488355328) (spec_l5Spent.l0 x0 x1 k (a2553 ++ ([(gt x0 a2555)] : List Coin)) (wrap64 (a2555 + 1))))) else spec_l5Spent.l0 x0 x1 k a2553 (wrap64 (a2555 + 1))))) else some a2553) := rfl
def spec_l5Spent.f (k : Nat) (x0 : List Coin) (x1 : Tx) : Option ((List Coin) × Bool) := ((spec_l5Spent.l0 x0 x1 k ([] : List Coin) 0).bind (fun a2530 => ((spec_l4Copy.f k a2530).bind fun t2598 => some (t2598, ((a2530.length : Int) == (x1.fIns.length : Int))))))
theorem spec_l5Spent.calls {k : Nat} {x0 : List Coin} {x1 : Tx} {p0 : Value} {b1 f1 : Nat} {p1_0 : Value} {p1_1 : Value} {w : World} (hp0 : RdS kCoin w p0 x0) (hc1 : CellsAt w b1 f1 [.int .i64 x1.fKind, .int .i64 x1.fMember, p1_0, p1_1]) (hp1_0 : RdS kRef w p1_0 x1.fIns) (hp1_1 : RdS kOut w p1_1 x1.fOuts) {r : (List Coin) × Bool} (H : spec_l5Spent.f k x0 x1 = some r) :
    Calls Tryz.prog 23 ([p0, .pointer (some ⟨b1, f1, none⟩)] : List Value).toArray w (fun e w_ => ∃ v, e = .returned v ∧ ∃ u0 : Value, v = (.tuple #[u0, .bool r.2]) ∧ Mem w [] w_ [own kCoin 72 u0 r.1]) := by
  have HM := Mem.start w
  refine calls_run (N := 42) Tryz.func23 rfl rfl rfl rfl ?_
  unfold spec_l5Spent.f at H
  refine run_seq ?_
  refine run_region rfl ?_
  refine ox rfl rfl rfl rfl (ex_assign rfl rfl) ?_
  refine ox rfl rfl rfl rfl (ex_assign rfl rfl) ?_
  refine ops_nil (at_then (run_seq ?_))
  refine run_region rfl ?_
  refine od rfl rfl rfl rfl (does_lit (e := 72) (cs := []) (xs := ([] : List Coin)) kCoin rfl rfl (fun _ => by kernel_rfl) rfl rfl (fun _ _ h => by have h' : _ = [] := h; subst h'; exact .nil) HM.emp) ?_
  rintro v2467 w2470 HM
  refine ox rfl rfl rfl rfl (ex_assign rfl rfl) ?_
  refine ops_nil (at_then ?_)
  obtain ⟨o2532, ho2533, H⟩ := bind_some H
  refine run_mid (fun ρ_ w_ => ∃ v2529 : Value, ∃ a2530 : List Coin, a2530 = o2532 ∧ ρ_ = [(1, .pointer (some ⟨b1, f1, none⟩)), (6, v2529)] ∧ Mem w [] w_ [own (Kd.lent w kCoin with1_one) 72 v2529 a2530]) ?_ ?_
  · clear H
    refine run_seq ?_
    refine run_region rfl ?_
    refine ox rfl rfl rfl rfl (ex_assign rfl rfl) ?_
    refine ops_nil (at_then ?_)
    refine run_block ?_
    replace HM := Mem.relent (d := kCoin) (d' := (Kd.lent w kCoin with1_one)) rfl HM
    refine run_loop (fun k_ ρ_ w_ => ∃ v2552 : Value, ∃ a2553 : List Coin, ∃ a2555 : Int, spec_l5Spent.l0 x0 x1 k_ a2553 a2555 = some o2532 ∧ ρ_ = [(0, p0), (1, .pointer (some ⟨b1, f1, none⟩)), (6, v2552), (7, .int .i64 a2555)] ∧ Mem w [] w_ [own (Kd.lent w kCoin with1_one) 72 v2552 a2553]) k (ρ1 := [(0, p0), (1, .pointer (some ⟨b1, f1, none⟩)), (6, v2467), (7, .int .i64 0)]) ⟨_, _, _, ho2533, rfl, HM⟩ (Sub.cons rfl (Sub.cons rfl (Sub.cons rfl (Sub.cons rfl Sub.nil)))) ?_
    clear HM ho2533
    rintro k2574 _ w2575 ⟨v2552, a2553, a2555, ho2533, rfl, HM⟩
    obtain _ | k2574 := k2574
    · exact nomatch ((spec_l5Spent.l0_z x0 x1 a2553 a2555).symm.trans ho2533)
    replace ho2533 := (spec_l5Spent.l0_s x0 x1 k2574 a2553 a2555).symm.trans ho2533
    refine run_seq ?_
    refine run_seq ?_
    refine run_region rfl ?_
    refine ox rfl rfl rfl rfl (ex_move rfl rfl) ?_
    refine ox rfl rfl rfl rfl (ex_move rfl rfl) ?_
    refine ox rfl rfl rfl rfl (ex_len (d := kCoin) (xs := x0) rfl rfl Tryz.underlying29 hp0) ?_
    refine ox rfl rfl rfl rfl (ex_lss rfl rfl rfl) ?_
    refine ops_nil (at_then ?_)
    refine run_cond (b := (decide (a2555 < (x0.length : Int)))) rfl (fun hb2576 => ?_) (fun hb2576 => ?_)
    · replace ho2533 := cond_t hb2576 ho2533
      refine run_skip ?_
      refine at_then ?_
      refine run_seq ?_
      refine run_block ?_
      refine run_seq ?_
      obtain ⟨e2577, ho2533⟩ := chk_some ho2533
      obtain ⟨t2581, h2582, ho2533⟩ := bind_some ho2533
      refine run_drawf (fun w_ => Mem w [] w_ [own (Kd.lent w kCoin with1_one) 72 v2552 a2553]) [(0, true), (1, true), (2, true), (3, true), (4, true), (5, true), (6, true), (7, true), (8, true), (9, false)] mixed rfl rfl (by kernel_rfl) ?_
      replace HM := HM.grow (fr_drew _)
      have hS := Mem.suf (M := []) HM
      refine dp rfl rfl rfl rfl (ex_move rfl rfl) hS ?_
      refine dp rfl rfl rfl rfl (ex_nilCheck rfl rfl) hS ?_
      refine dp rfl rfl rfl rfl (ex_fieldAddr (off' := f1 + 2) rfl rfl Tryz.underlying37 rfl tsz34 rfl) hS ?_
      refine drwp_take rfl (guard_none rfl) rfl rfl (fun w_ hS_ => (ex_load1 rfl rfl Tryz.underlying34 rfl ((hS_.at_ hc1) 2 _ rfl))) hS ?_
      refine dp rfl rfl rfl rfl (ex_move rfl rfl) hS ?_
      refine dp rfl rfl rfl rfl (ex_move rfl rfl) hS ?_
      obtain ⟨kv2579, hc2578, hk2580⟩ : ∃ u, CellsAt _ (sb p0) (so p0 + (a2555).toNat * 8) [(.int .i64 ((gt x0 a2555).fRef.fTx)), (.int .i64 ((gt x0 a2555).fRef.fAt)), (.int .i64 ((gt x0 a2555).fOut.fValue)), u, (.int .i64 ((gt x0 a2555).fOut.fRule.fNeed)), (.int .i64 ((gt x0 a2555).fOut.fRule.fAfter)), (.int .i64 ((gt x0 a2555).fHeight)), (.bool ((gt x0 a2555).fMined))] ∧ RdS kInt _ u ((gt x0 a2555).fOut.fRule.fKeys) := rd_with1 hp0 e2577
      refine dp rfl rfl rfl rfl (ex_indexAddr (d := kCoin) rfl rfl rfl Tryz.underlying29 tsz72 hp0 (idx_lo e2577) (idx_hi e2577)) hS ?_
      refine dp rfl rfl rfl rfl (ex_fieldAddr (off' := so p0 + (a2555).toNat * 8) rfl rfl Tryz.underlying72 rfl tsz66 rfl) hS ?_
      refine drwp_take rfl (guard_none rfl) rfl rfl (fun w_ hS_ => (ex_loadN (cs := [(.int .i64 ((gt x0 a2555).fRef.fTx)), (.int .i64 ((gt x0 a2555).fRef.fAt))]) rfl rfl Tryz.underlying66 rfl tsz66 rfl ((hS_.at_ hc2578).sub 0 2 rfl))) hS ?_
      refine drwp_one rfl (guard_none rfl) rfl rfl (does_callk rfl callok46 rfl (spec_l3Among.calls (x0 := x1.fIns) (x1 := (gt x0 a2555).fRef) (HM.rd hp1_0) h2582)) ?_
      rintro _ w2583 ⟨rfl, hn⟩
      replace HM : Mem w [] w2583 [own (Kd.lent w kCoin with1_one) 72 v2552 a2553] := HM.call hn
      have hS := Mem.suf (M := []) HM
      refine ⟨hS, ?_⟩
      refine drwp_done ?_
      refine at_then ?_
      refine run_cond (b := t2581) rfl (fun hb2584 => ?_) (fun hb2584 => ?_)
      · replace ho2533 := cond_t hb2584 ho2533
        obtain ⟨e2585, ho2533⟩ := chk_some ho2533
        obtain ⟨e2592, ho2533⟩ := chk_some ho2533
        refine run_region rfl ?_
        refine ox rfl rfl rfl rfl (ex_move rfl rfl) ?_
        refine ox rfl rfl rfl rfl (ex_move rfl rfl) ?_
        refine ox rfl rfl rfl rfl (ex_move rfl rfl) ?_
        obtain ⟨kv2587, hc2586, hk2588⟩ : ∃ u, CellsAt _ (sb p0) (so p0 + (a2555).toNat * 8) [(.int .i64 ((gt x0 a2555).fRef.fTx)), (.int .i64 ((gt x0 a2555).fRef.fAt)), (.int .i64 ((gt x0 a2555).fOut.fValue)), u, (.int .i64 ((gt x0 a2555).fOut.fRule.fNeed)), (.int .i64 ((gt x0 a2555).fOut.fRule.fAfter)), (.int .i64 ((gt x0 a2555).fHeight)), (.bool ((gt x0 a2555).fMined))] ∧ RdS kInt _ u ((gt x0 a2555).fOut.fRule.fKeys) := rd_with1 hp0 e2585
        refine ox rfl rfl rfl rfl (ex_indexAddr (d := kCoin) rfl rfl rfl Tryz.underlying29 tsz72 hp0 (idx_lo e2585) (idx_hi e2585)) ?_
        refine ox rfl rfl rfl rfl (ex_loadN (cs := [(.int .i64 ((gt x0 a2555).fRef.fTx)), (.int .i64 ((gt x0 a2555).fRef.fAt)), (.int .i64 ((gt x0 a2555).fOut.fValue)), kv2587, (.int .i64 ((gt x0 a2555).fOut.fRule.fNeed)), (.int .i64 ((gt x0 a2555).fOut.fRule.fAfter)), (.int .i64 ((gt x0 a2555).fHeight)), (.bool ((gt x0 a2555).fMined))]) rfl rfl Tryz.underlying72 rfl tsz72 rfl ((HM.at_ hc2586).sub 0 8 rfl)) ?_
        refine od rfl rfl rfl rfl (does_lit (e := 72) (cs := [.int .i64 ((gt x0 a2555).fRef.fTx), .int .i64 ((gt x0 a2555).fRef.fAt), .int .i64 ((gt x0 a2555).fOut.fValue), kv2587, .int .i64 ((gt x0 a2555).fOut.fRule.fNeed), .int .i64 ((gt x0 a2555).fOut.fRule.fAfter), .int .i64 ((gt x0 a2555).fHeight), .bool ((gt x0 a2555).fMined)]) (xs := ([(gt x0 a2555)] : List Coin)) (Kd.lent w kCoin with1_one) rfl rfl (fun _ => by kernel_rfl) rfl rfl (fun _ _ h => by have h' : _ = [] := h; subst h'; exact (Elems.cons (d := (Kd.lent w kCoin with1_one)) (f := []) ⟨⟨_, rfl, hk2588⟩, rfl⟩ .nil)) HM.emp) ?_
        rintro v2589 w2595 HM
        replace HM := HM.front 1 rfl rfl
        refine od rfl rfl rfl rfl (does_append (Kd.lent w kCoin with1_one) rfl rfl rfl Tryz.underlying29 tsz72 rfl tby72 tz72 rfl rfl (leB_le e2592) HM) ?_
        rintro v2593 w2596 HM
        refine ox rfl rfl rfl rfl (ex_assign rfl rfl) ?_
        refine ops_nil ?_
        refine at_block ?_
        refine at_then ?_
        refine run_region rfl ?_
        refine ox rfl rfl rfl rfl (ex_move rfl rfl) ?_
        refine ox rfl rfl rfl rfl (ex_add rfl rfl rfl) ?_
        refine ox rfl rfl rfl rfl (ex_assign rfl rfl) ?_
        refine ops_nil ?_
        exact at_again k2574 (ρ1 := [(0, p0), (1, .pointer (some ⟨b1, f1, none⟩)), (6, v2593), (7, .int .i64 (wrap64 (a2555 + 1)))]) (Nat.lt_succ_self _) ⟨_, _, _, ho2533, rfl, HM⟩ (Sub.cons rfl (Sub.cons rfl (Sub.cons rfl (Sub.cons rfl Sub.nil))))
      · replace ho2533 := cond_f hb2584 ho2533
        refine run_skip ?_
        refine at_block ?_
        refine at_then ?_
        refine run_region rfl ?_
        refine ox rfl rfl rfl rfl (ex_move rfl rfl) ?_
        refine ox rfl rfl rfl rfl (ex_add rfl rfl rfl) ?_
        refine ox rfl rfl rfl rfl (ex_assign rfl rfl) ?_
        refine ops_nil ?_
        exact at_again k2574 (ρ1 := [(0, p0), (1, .pointer (some ⟨b1, f1, none⟩)), (6, v2552), (7, .int .i64 (wrap64 (a2555 + 1)))]) (Nat.lt_succ_self _) ⟨_, _, _, ho2533, rfl, HM⟩ (Sub.cons rfl (Sub.cons rfl (Sub.cons rfl (Sub.cons rfl Sub.nil))))
    · replace ho2533 := cond_f hb2576 ho2533
      refine run_exit ?_
      refine at_then_exit ?_
      refine at_then_exit ?_
      refine at_block_exit ?_
      exact at_mid (ρ' := [(1, .pointer (some ⟨b1, f1, none⟩)), (6, v2552)]) ⟨_, _, (Option.some.inj ho2533), rfl, HM⟩ (Sub.cons rfl (Sub.cons rfl Sub.nil))
  · rintro _ w2597 ⟨v2529, a2530, rfl, rfl, HM⟩
    refine run_seq ?_
    obtain ⟨t2598, h2599, H⟩ := bind_some H
    refine run_drawf (fun w_ => Mem w [] w_ [own (Kd.lent w kCoin with1_one) 72 v2529 a2530]) [(0, true), (2, true), (3, true), (4, true), (5, true), (6, true), (7, true), (8, true), (9, true), (1, false), (10, true), (11, true)] mixed rfl rfl (by kernel_rfl) ?_
    replace HM := HM.grow (fr_drew _)
    have hS := Mem.suf (M := []) HM
    refine dp rfl rfl rfl rfl (ex_move rfl rfl) hS ?_
    refine dp rfl rfl rfl rfl (ex_move rfl rfl) hS ?_
    refine drwp_take rfl (guard_none rfl) rfl rfl (fun w_ hS_ => (ex_len (d := kCoin) (xs := a2530) rfl rfl Tryz.underlying29 ((hS_.own_rd 0 rfl).unlent (hS_.old)))) hS ?_
    refine dp rfl rfl rfl rfl (ex_move rfl rfl) hS ?_
    refine dp rfl rfl rfl rfl (ex_nilCheck rfl rfl) hS ?_
    refine dp rfl rfl rfl rfl (ex_fieldAddr (off' := f1 + 2) rfl rfl Tryz.underlying37 rfl tsz34 rfl) hS ?_
    refine drwp_take rfl (guard_none rfl) rfl rfl (fun w_ hS_ => (ex_load1 rfl rfl Tryz.underlying34 rfl ((hS_.at_ hc1) 2 _ rfl))) hS ?_
    refine dp rfl rfl rfl rfl (ex_len (d := kRef) (xs := x1.fIns) rfl rfl Tryz.underlying34 hp1_0) hS ?_
    refine dp rfl rfl rfl rfl (ex_eql rfl rfl rfl) hS ?_
    refine drwp_one rfl (guard_none rfl) rfl rfl (does_callk rfl callok48 rfl (spec_l4Copy.calls (x0 := a2530) ((HM.own_rd 0 rfl).unlent (HM.old)) h2599)) ?_
    rintro u2600 w2602 ⟨_, rfl, hn⟩
    replace HM : Mem w [] w2602 [own kCoin 72 u2600 t2598, own (Kd.lent w kCoin with1_one) 72 v2529 a2530] := HM.call hn
    have hS := Mem.suf (M := [own kCoin 72 u2600 t2598]) HM
    refine ⟨hS, ?_⟩
    refine dp rfl rfl rfl rfl (ex_assign rfl rfl) hS ?_
    refine dp rfl rfl rfl rfl (ex_assign rfl rfl) hS ?_
    refine drwp_done ?_
    refine at_then ?_
    refine run_ret ?_
    replace HM := (HM.front 1 rfl rfl).drop
    have hR := Option.some.inj H
    subst hR
    exact at_ret2 rfl rfl rfl ⟨_, rfl, _, rfl, HM⟩

def spec_l2Ints.l0 (x0 : List Int) (x1 : List Int) : Nat → Int → Option (Bool ⊕ Unit)
  | 0, _ => none
  | k + 1, a2691 => (bif (decide (a2691 < (x0.length : Int))) then (chk (idxOk a2691 x0.length) (chk (idxOk a2691 x1.length) (bif ((gt x0 a2691) != (gt x1 a2691)) then some (.inl false) else spec_l2Ints.l0 x0 x1 k (wrap64 (a2691 + 1))))) else some (.inr ()))
theorem spec_l2Ints.l0_z (x0 : List Int) (x1 : List Int) (a2691 : Int) : spec_l2Ints.l0 x0 x1 0 a2691 = none := rfl
theorem spec_l2Ints.l0_s (x0 : List Int) (x1 : List Int) (k : Nat) (a2691 : Int) : spec_l2Ints.l0 x0 x1 (k + 1) a2691 = (bif (decide (a2691 < (x0.length : Int))) then (chk (idxOk a2691 x0.length) (chk (idxOk a2691 x1.length) (bif ((gt x0 a2691) != (gt x1 a2691)) then some (.inl false) else spec_l2Ints.l0 x0 x1 k (wrap64 (a2691 + 1))))) else some (.inr ())) := rfl
def spec_l2Ints.f (k : Nat) (x0 : List Int) (x1 : List Int) : Option Bool := (bif ((x0.length : Int) != (x1.length : Int)) then some false else ((spec_l2Ints.l0 x0 x1 k 0).bind fun o2683 => thn o2683 (fun r => some r) (fun _ => some true)))
theorem spec_l2Ints.calls {k : Nat} {x0 : List Int} {x1 : List Int} {p0 : Value} {p1 : Value} {w : World} (hp0 : RdS kInt w p0 x0) (hp1 : RdS kInt w p1 x1) {r : Bool} (H : spec_l2Ints.f k x0 x1 = some r) :
    Calls Tryz.prog 78 ([p0, p1] : List Value).toArray w (fun e w_ => ∃ v, e = .returned v ∧ v = (.bool r) ∧ Mem w [] w_ []) := by
  have HM := Mem.start w
  refine calls_run (N := 26) Tryz.func78 rfl rfl rfl rfl ?_
  unfold spec_l2Ints.f at H
  refine run_seq ?_
  refine run_region rfl ?_
  refine ox rfl rfl rfl rfl (ex_assign rfl rfl) ?_
  refine ops_nil (at_then (run_seq ?_))
  refine run_seq ?_
  refine run_region rfl ?_
  refine ox rfl rfl rfl rfl (ex_move rfl rfl) ?_
  refine ox rfl rfl rfl rfl (ex_len (d := kInt) (xs := x0) rfl rfl Tryz.underlying49 hp0) ?_
  refine ox rfl rfl rfl rfl (ex_move rfl rfl) ?_
  refine ox rfl rfl rfl rfl (ex_len (d := kInt) (xs := x1) rfl rfl Tryz.underlying49 hp1) ?_
  refine ox rfl rfl rfl rfl (ex_neq rfl rfl rfl) ?_
  refine ops_nil (at_then ?_)
  refine run_cond (b := ((x0.length : Int) != (x1.length : Int))) rfl (fun hb2663 => ?_) (fun hb2663 => ?_)
  · replace H := cond_t hb2663 H
    refine run_seq ?_
    refine run_region rfl ?_
    refine ox rfl rfl rfl rfl (ex_assign rfl rfl) ?_
    refine ops_nil (at_then ?_)
    refine run_ret ?_
    refine at_then_ret ?_
    have hR := Option.some.inj H
    subst hR
    exact at_ret1 rfl rfl ⟨_, rfl, rfl, HM⟩
  · replace H := cond_f hb2663 H
    refine run_skip ?_
    refine at_then ?_
    obtain ⟨o2683, ho2684, H⟩ := bind_some H
    refine run_mid (fun ρ_ w_ => Sum.inr () = o2683 ∧ ρ_ = [] ∧ Mem w [] w_ []) ?_ ?_
    · skip
      refine run_seq ?_
      refine run_region rfl ?_
      refine ox rfl rfl rfl rfl (ex_assign rfl rfl) ?_
      refine ops_nil (at_then ?_)
      refine run_block ?_
      refine run_loop (fun k_ ρ_ w_ => ∃ a2691 : Int, spec_l2Ints.l0 x0 x1 k_ a2691 = some o2683 ∧ ρ_ = [(0, p0), (1, p1), (5, .int .i64 a2691)] ∧ Mem w [] w_ []) k (ρ1 := [(0, p0), (1, p1), (5, .int .i64 0)]) ⟨_, ho2684, rfl, HM⟩ (Sub.cons rfl (Sub.cons rfl (Sub.cons rfl Sub.nil))) ?_
      clear HM ho2684
      rintro k2698 _ w2699 ⟨a2691, ho2684, rfl, HM⟩
      obtain _ | k2698 := k2698
      · exact nomatch ((spec_l2Ints.l0_z x0 x1 a2691).symm.trans ho2684)
      replace ho2684 := (spec_l2Ints.l0_s x0 x1 k2698 a2691).symm.trans ho2684
      refine run_seq ?_
      refine run_seq ?_
      refine run_region rfl ?_
      refine ox rfl rfl rfl rfl (ex_move rfl rfl) ?_
      refine ox rfl rfl rfl rfl (ex_move rfl rfl) ?_
      refine ox rfl rfl rfl rfl (ex_len (d := kInt) (xs := x0) rfl rfl Tryz.underlying49 hp0) ?_
      refine ox rfl rfl rfl rfl (ex_lss rfl rfl rfl) ?_
      refine ops_nil (at_then ?_)
      refine run_cond (b := (decide (a2691 < (x0.length : Int)))) rfl (fun hb2700 => ?_) (fun hb2700 => ?_)
      · replace ho2684 := cond_t hb2700 ho2684
        refine run_skip ?_
        refine at_then ?_
        refine run_seq ?_
        refine run_block ?_
        refine run_seq ?_
        obtain ⟨e2701, ho2684⟩ := chk_some ho2684
        obtain ⟨e2703, ho2684⟩ := chk_some ho2684
        refine run_drawf (fun w_ => Mem w [] w_ []) [(0, true), (1, true), (2, true), (3, true), (4, true), (5, true), (6, true), (7, true), (8, true)] mixed rfl rfl (by kernel_rfl) ?_
        replace HM := HM.grow (fr_drew _)
        have hS := Mem.suf (M := []) HM
        refine dp rfl rfl rfl rfl (ex_move rfl rfl) hS ?_
        refine dp rfl rfl rfl rfl (ex_move rfl rfl) hS ?_
        have hc2702 : CellsAt _ (sb p0) (so p0 + (a2691).toNat * 1) [(.int .i64 (gt x0 a2691))] := rd_plain hp0 e2701
        refine dp rfl rfl rfl rfl (ex_indexAddr (d := kInt) rfl rfl rfl Tryz.underlying49 tsz2 hp0 (idx_lo e2701) (idx_hi e2701)) hS ?_
        refine drwp_take rfl (guard_none rfl) rfl rfl (fun w_ hS_ => (ex_load1 rfl rfl Tryz.underlying2 rfl ((hS_.at_ hc2702) 0 _ rfl))) hS ?_
        refine dp rfl rfl rfl rfl (ex_move rfl rfl) hS ?_
        refine dp rfl rfl rfl rfl (ex_move rfl rfl) hS ?_
        have hc2704 : CellsAt _ (sb p1) (so p1 + (a2691).toNat * 1) [(.int .i64 (gt x1 a2691))] := rd_plain hp1 e2703
        refine dp rfl rfl rfl rfl (ex_indexAddr (d := kInt) rfl rfl rfl Tryz.underlying49 tsz2 hp1 (idx_lo e2703) (idx_hi e2703)) hS ?_
        refine drwp_take rfl (guard_none rfl) rfl rfl (fun w_ hS_ => (ex_load1 rfl rfl Tryz.underlying2 rfl ((hS_.at_ hc2704) 0 _ rfl))) hS ?_
        refine dp rfl rfl rfl rfl (ex_neq rfl rfl rfl) hS ?_
        refine drwp_done ?_
        refine at_then ?_
        refine run_cond (b := ((gt x0 a2691) != (gt x1 a2691))) rfl (fun hb2705 => ?_) (fun hb2705 => ?_)
        · replace ho2684 := cond_t hb2705 ho2684
          refine run_seq ?_
          refine run_region rfl ?_
          refine ox rfl rfl rfl rfl (ex_assign rfl rfl) ?_
          refine ops_nil (at_then ?_)
          refine run_ret ?_
          refine at_block_ret ?_
          refine at_then_ret ?_
          refine at_then_ret ?_
          refine at_block_ret ?_
          refine at_then_ret ?_
          have hR := Option.some.inj ho2684
          subst hR
          have hT := thn_inl H
          have hR := Option.some.inj hT
          subst hR
          exact at_ret1 rfl rfl ⟨_, rfl, rfl, HM⟩
        · replace ho2684 := cond_f hb2705 ho2684
          refine run_skip ?_
          refine at_block ?_
          refine at_then ?_
          refine run_region rfl ?_
          refine ox rfl rfl rfl rfl (ex_move rfl rfl) ?_
          refine ox rfl rfl rfl rfl (ex_add rfl rfl rfl) ?_
          refine ox rfl rfl rfl rfl (ex_assign rfl rfl) ?_
          refine ops_nil ?_
          exact at_again k2698 (ρ1 := [(0, p0), (1, p1), (5, .int .i64 (wrap64 (a2691 + 1)))]) (Nat.lt_succ_self _) ⟨_, ho2684, rfl, HM⟩ (Sub.cons rfl (Sub.cons rfl (Sub.cons rfl Sub.nil)))
      · replace ho2684 := cond_f hb2700 ho2684
        refine run_exit ?_
        refine at_then_exit ?_
        refine at_then_exit ?_
        refine at_block_exit ?_
        exact at_mid (ρ' := []) ⟨(Option.some.inj ho2684), rfl, HM⟩ Sub.nil
    · rintro _ w2706 ⟨rfl, rfl, HM⟩
      replace H := (thn_inr H)
      refine run_seq ?_
      refine run_region rfl ?_
      refine ox rfl rfl rfl rfl (ex_assign rfl rfl) ?_
      refine ops_nil (at_then ?_)
      refine run_ret ?_
      have hR := Option.some.inj H
      subst hR
      exact at_ret1 rfl rfl ⟨_, rfl, rfl, HM⟩

def spec_l2Same.f (k : Nat) (x0 : Rule) (x1 : Rule) : Option Bool := ((bif ((x0.fNeed == x1.fNeed) && (x0.fAfter == x1.fAfter)) then spec_l2Ints.f k x0.fKeys x1.fKeys else some default).bind fun t2709 => some (((x0.fNeed == x1.fNeed) && (x0.fAfter == x1.fAfter)) && t2709))
theorem spec_l2Same.calls {k : Nat} {x0 : Rule} {x1 : Rule} {b0 f0 : Nat} {p0_0 : Value} {b1 f1 : Nat} {p1_0 : Value} {w : World} (hc0 : CellsAt w b0 f0 [p0_0, .int .i64 x0.fNeed, .int .i64 x0.fAfter]) (hp0_0 : RdS kInt w p0_0 x0.fKeys) (hc1 : CellsAt w b1 f1 [p1_0, .int .i64 x1.fNeed, .int .i64 x1.fAfter]) (hp1_0 : RdS kInt w p1_0 x1.fKeys) {r : Bool} (H : spec_l2Same.f k x0 x1 = some r) :
    Calls Tryz.prog 49 ([.pointer (some ⟨b0, f0, none⟩), .pointer (some ⟨b1, f1, none⟩)] : List Value).toArray w (fun e w_ => ∃ v, e = .returned v ∧ v = (.bool r) ∧ Mem w [] w_ []) := by
  have HM := Mem.start w
  refine calls_run (N := 36) Tryz.func49 rfl rfl rfl rfl ?_
  unfold spec_l2Same.f at H
  refine run_seq ?_
  refine run_region rfl ?_
  refine ox rfl rfl rfl rfl (ex_assign rfl rfl) ?_
  refine ops_nil (at_then (run_seq ?_))
  obtain ⟨t2709, h2710, H⟩ := bind_some H
  refine run_meet (fun ρ_ w_ => ρ_ = [(4, .bool (((x0.fNeed == x1.fNeed) && (x0.fAfter == x1.fAfter)) && t2709))] ∧ Mem w [] w_ []) ?_ ?_
  · skip
    refine run_drawf (fun w_ => Mem w [] w_ []) [(0, true), (1, true), (2, true), (3, true), (4, true), (5, true), (6, true), (7, true), (8, true), (9, true), (10, true), (11, true), (12, true), (13, true), (14, true), (15, true), (16, true), (17, true), (18, true), (19, true), (20, true), (21, true), (22, true), (23, true), (24, true), (25, true), (26, true), (27, true), (28, true), (29, false), (30, true), (31, true)] mixed rfl rfl (by kernel_rfl) ?_
    replace HM := HM.grow (fr_drew _)
    have hS := Mem.suf (M := []) HM
    refine dp rfl rfl rfl rfl (ex_move rfl rfl) hS ?_
    refine dp rfl rfl rfl rfl (ex_nilCheck rfl rfl) hS ?_
    refine dp rfl rfl rfl rfl (ex_fieldAddr (off' := f0 + 1) rfl rfl Tryz.underlying68 rfl tsz2 rfl) hS ?_
    refine drwp_take rfl (guard_none rfl) rfl rfl (fun w_ hS_ => (ex_load1 rfl rfl Tryz.underlying2 rfl ((hS_.at_ hc0) 1 _ rfl))) hS ?_
    refine dp rfl rfl rfl rfl (ex_move rfl rfl) hS ?_
    refine dp rfl rfl rfl rfl (ex_nilCheck rfl rfl) hS ?_
    refine dp rfl rfl rfl rfl (ex_fieldAddr (off' := f1 + 1) rfl rfl Tryz.underlying68 rfl tsz2 rfl) hS ?_
    refine drwp_take rfl (guard_none rfl) rfl rfl (fun w_ hS_ => (ex_load1 rfl rfl Tryz.underlying2 rfl ((hS_.at_ hc1) 1 _ rfl))) hS ?_
    refine dp rfl rfl rfl rfl (ex_eql rfl rfl rfl) hS ?_
    refine dp rfl rfl rfl rfl (ex_move rfl rfl) hS ?_
    refine bool_cases (x0.fNeed == x1.fNeed) (fun hg2711 => ?_) (fun hg2711 => ?_)
    · skip
      refine drwp_take rfl (guard_on rfl rfl rfl hg2711) rfl rfl (fun w_ hS_ => (ex_move rfl rfl)) hS ?_
      refine drwp_take rfl (guard_on rfl rfl rfl hg2711) rfl rfl (fun w_ hS_ => (ex_nilCheck rfl rfl)) hS ?_
      refine drwp_take rfl (guard_on rfl rfl rfl hg2711) rfl rfl (fun w_ hS_ => (ex_fieldAddr (off' := f0 + 2) rfl rfl Tryz.underlying68 rfl tsz2 rfl)) hS ?_
      refine drwp_take rfl (guard_on rfl rfl rfl hg2711) rfl rfl (fun w_ hS_ => (ex_load1 rfl rfl Tryz.underlying2 rfl ((hS_.at_ hc0) 2 _ rfl))) hS ?_
      refine drwp_take rfl (guard_on rfl rfl rfl hg2711) rfl rfl (fun w_ hS_ => (ex_move rfl rfl)) hS ?_
      refine drwp_take rfl (guard_on rfl rfl rfl hg2711) rfl rfl (fun w_ hS_ => (ex_nilCheck rfl rfl)) hS ?_
      refine drwp_take rfl (guard_on rfl rfl rfl hg2711) rfl rfl (fun w_ hS_ => (ex_fieldAddr (off' := f1 + 2) rfl rfl Tryz.underlying68 rfl tsz2 rfl)) hS ?_
      refine drwp_take rfl (guard_on rfl rfl rfl hg2711) rfl rfl (fun w_ hS_ => (ex_load1 rfl rfl Tryz.underlying2 rfl ((hS_.at_ hc1) 2 _ rfl))) hS ?_
      refine drwp_take rfl (guard_on rfl rfl rfl hg2711) rfl rfl (fun w_ hS_ => (ex_eql rfl rfl rfl)) hS ?_
      refine drwp_take (v := .bool ((x0.fNeed == x1.fNeed) && (x0.fAfter == x1.fAfter))) rfl (guard_none rfl) rfl rfl (fun w_ hS_ => (ex_pand_t rfl rfl hg2711 rfl)) hS ?_
      refine dp rfl rfl rfl rfl (ex_move rfl rfl) hS ?_
      refine bool_cases ((x0.fNeed == x1.fNeed) && (x0.fAfter == x1.fAfter)) (fun hg2712 => ?_) (fun hg2712 => ?_)
      · skip
        refine drwp_take rfl (guard_on rfl rfl rfl hg2712) rfl rfl (fun w_ hS_ => (ex_move rfl rfl)) hS ?_
        refine drwp_take rfl (guard_on rfl rfl rfl hg2712) rfl rfl (fun w_ hS_ => (ex_nilCheck rfl rfl)) hS ?_
        refine drwp_take rfl (guard_on rfl rfl rfl hg2712) rfl rfl (fun w_ hS_ => (ex_fieldAddr (off' := f0) rfl rfl Tryz.underlying68 rfl tsz49 rfl)) hS ?_
        refine drwp_take rfl (guard_on rfl rfl rfl hg2712) rfl rfl (fun w_ hS_ => (ex_load1 rfl rfl Tryz.underlying49 rfl ((hS_.at_ hc0) 0 _ rfl))) hS ?_
        refine drwp_take rfl (guard_on rfl rfl rfl hg2712) rfl rfl (fun w_ hS_ => (ex_move rfl rfl)) hS ?_
        refine drwp_take rfl (guard_on rfl rfl rfl hg2712) rfl rfl (fun w_ hS_ => (ex_nilCheck rfl rfl)) hS ?_
        refine drwp_take rfl (guard_on rfl rfl rfl hg2712) rfl rfl (fun w_ hS_ => (ex_fieldAddr (off' := f1) rfl rfl Tryz.underlying68 rfl tsz49 rfl)) hS ?_
        refine drwp_take rfl (guard_on rfl rfl rfl hg2712) rfl rfl (fun w_ hS_ => (ex_load1 rfl rfl Tryz.underlying49 rfl ((hS_.at_ hc1) 0 _ rfl))) hS ?_
        refine drwp_one rfl (guard_on rfl rfl rfl hg2712) rfl rfl (does_callk rfl callok78 rfl (spec_l2Ints.calls (x0 := x0.fKeys) (x1 := x1.fKeys) (HM.rd hp0_0) (HM.rd hp1_0) (cond_t hg2712 h2710))) ?_
        rintro _ w2713 ⟨rfl, hn⟩
        replace HM : Mem w [] w2713 [] := HM.call hn
        have hS := Mem.suf (M := []) HM
        refine ⟨hS, ?_⟩
        refine drwp_take (v := .bool (((x0.fNeed == x1.fNeed) && (x0.fAfter == x1.fAfter)) && t2709)) rfl (guard_none rfl) rfl rfl (fun w_ hS_ => (ex_pand_t rfl rfl hg2712 rfl)) hS ?_
        refine dp rfl rfl rfl rfl (ex_assign rfl rfl) hS ?_
        refine drwp_done ?_
        exact at_meet [(4, .bool (((x0.fNeed == x1.fNeed) && (x0.fAfter == x1.fAfter)) && t2709))] ⟨rfl, HM⟩ (Sub.cons rfl Sub.nil)
      · skip
        refine drwp_off rfl (guard_off rfl rfl rfl hg2712) rfl rfl hS ?_
        refine drwp_off rfl (guard_off rfl rfl rfl hg2712) rfl rfl hS ?_
        refine drwp_off rfl (guard_off rfl rfl rfl hg2712) rfl rfl hS ?_
        refine drwp_off rfl (guard_off rfl rfl rfl hg2712) rfl rfl hS ?_
        refine drwp_off rfl (guard_off rfl rfl rfl hg2712) rfl rfl hS ?_
        refine drwp_off rfl (guard_off rfl rfl rfl hg2712) rfl rfl hS ?_
        refine drwp_off rfl (guard_off rfl rfl rfl hg2712) rfl rfl hS ?_
        refine drwp_off rfl (guard_off rfl rfl rfl hg2712) rfl rfl hS ?_
        refine drwp_off1 rfl (guard_off rfl rfl rfl hg2712) rfl rfl ⟨hS, ?_⟩
        have hg2714 : (((x0.fNeed == x1.fNeed) && (x0.fAfter == x1.fAfter)) && t2709) = false := by simp only [hg2712, Bool.and_true, Bool.true_and, Bool.and_false, Bool.false_and, Bool.or_true, Bool.true_or, Bool.or_false, Bool.false_or, Bool.not_true, Bool.not_false, Bool.not_not]
        refine drwp_take (v := .bool (((x0.fNeed == x1.fNeed) && (x0.fAfter == x1.fAfter)) && t2709)) rfl (guard_none rfl) rfl rfl (fun w_ hS_ => (ex_pand_f rfl rfl hg2712)) hS ?_
        refine dp rfl rfl rfl rfl (ex_assign rfl rfl) hS ?_
        refine drwp_done ?_
        exact at_meet [(4, .bool (((x0.fNeed == x1.fNeed) && (x0.fAfter == x1.fAfter)) && t2709))] ⟨rfl, HM⟩ (Sub.cons rfl Sub.nil)
    · skip
      refine drwp_off rfl (guard_off rfl rfl rfl hg2711) rfl rfl hS ?_
      refine drwp_off rfl (guard_off rfl rfl rfl hg2711) rfl rfl hS ?_
      refine drwp_off rfl (guard_off rfl rfl rfl hg2711) rfl rfl hS ?_
      refine drwp_off rfl (guard_off rfl rfl rfl hg2711) rfl rfl hS ?_
      refine drwp_off rfl (guard_off rfl rfl rfl hg2711) rfl rfl hS ?_
      refine drwp_off rfl (guard_off rfl rfl rfl hg2711) rfl rfl hS ?_
      refine drwp_off rfl (guard_off rfl rfl rfl hg2711) rfl rfl hS ?_
      refine drwp_off rfl (guard_off rfl rfl rfl hg2711) rfl rfl hS ?_
      refine drwp_off rfl (guard_off rfl rfl rfl hg2711) rfl rfl hS ?_
      have hg2715 : ((x0.fNeed == x1.fNeed) && (x0.fAfter == x1.fAfter)) = false := by simp only [hg2711, Bool.and_true, Bool.true_and, Bool.and_false, Bool.false_and, Bool.or_true, Bool.true_or, Bool.or_false, Bool.false_or, Bool.not_true, Bool.not_false, Bool.not_not]
      refine drwp_take (v := .bool ((x0.fNeed == x1.fNeed) && (x0.fAfter == x1.fAfter))) rfl (guard_none rfl) rfl rfl (fun w_ hS_ => (ex_pand_f rfl rfl hg2711)) hS ?_
      refine dp rfl rfl rfl rfl (ex_move rfl rfl) hS ?_
      refine drwp_off rfl (guard_off rfl rfl rfl hg2715) rfl rfl hS ?_
      refine drwp_off rfl (guard_off rfl rfl rfl hg2715) rfl rfl hS ?_
      refine drwp_off rfl (guard_off rfl rfl rfl hg2715) rfl rfl hS ?_
      refine drwp_off rfl (guard_off rfl rfl rfl hg2715) rfl rfl hS ?_
      refine drwp_off rfl (guard_off rfl rfl rfl hg2715) rfl rfl hS ?_
      refine drwp_off rfl (guard_off rfl rfl rfl hg2715) rfl rfl hS ?_
      refine drwp_off rfl (guard_off rfl rfl rfl hg2715) rfl rfl hS ?_
      refine drwp_off rfl (guard_off rfl rfl rfl hg2715) rfl rfl hS ?_
      refine drwp_off1 rfl (guard_off rfl rfl rfl hg2715) rfl rfl ⟨hS, ?_⟩
      have hg2716 : (((x0.fNeed == x1.fNeed) && (x0.fAfter == x1.fAfter)) && t2709) = false := by simp only [hg2715, Bool.and_true, Bool.true_and, Bool.and_false, Bool.false_and, Bool.or_true, Bool.true_or, Bool.or_false, Bool.false_or, Bool.not_true, Bool.not_false, Bool.not_not]
      refine drwp_take (v := .bool (((x0.fNeed == x1.fNeed) && (x0.fAfter == x1.fAfter)) && t2709)) rfl (guard_none rfl) rfl rfl (fun w_ hS_ => (ex_pand_f rfl rfl hg2715)) hS ?_
      refine dp rfl rfl rfl rfl (ex_assign rfl rfl) hS ?_
      refine drwp_done ?_
      exact at_meet [(4, .bool (((x0.fNeed == x1.fNeed) && (x0.fAfter == x1.fAfter)) && t2709))] ⟨rfl, HM⟩ (Sub.cons rfl Sub.nil)
  · rintro _ w2717 ⟨rfl, HM⟩
    refine at_then ?_
    refine run_ret ?_
    have hR := Option.some.inj H
    subst hR
    exact at_ret1 rfl rfl ⟨_, rfl, rfl, HM⟩

def spec_l5Made.l0 (x0 : List Coin) (x1 : Tx) (x2 : Int) : Nat → Int → Int → Option (Bool ⊕ Int)
  | 0, _, _ => none
  | k + 1, a2905, a2906 => (bif (decide (a2906 < (x0.length : Int))) then (chk (idxOk a2906 x0.length) (bif (((gt x0 a2906).fRef.fTx) != x2) then spec_l5Made.l0 x0 x1 x2 k a2905 (wrap64 (a2906 + 1)) else (chk (idxOk a2906 x0.length) (chk (!(!(decide ((x1.fOuts.length : Int) ≤ ((gt x0 a2906).fRef.fAt)))) || (idxOk a2906 x0.length)) (chk (!(!(decide ((x1.fOuts.length : Int) ≤ ((gt x0 a2906).fRef.fAt)))) || (idxOk ((gt x0 a2906).fRef.fAt) x1.fOuts.length)) (chk (!(!((decide ((x1.fOuts.length : Int) ≤ ((gt x0 a2906).fRef.fAt))) || (((gt x0 a2906).fOut.fValue) != ((gt x1.fOuts ((gt x0 a2906).fRef.fAt)).fValue)))) || (idxOk a2906 x0.length)) (chk (!(!((decide ((x1.fOuts.length : Int) ≤ ((gt x0 a2906).fRef.fAt))) || (((gt x0 a2906).fOut.fValue) != ((gt x1.fOuts ((gt x0 a2906).fRef.fAt)).fValue)))) || (idxOk ((gt x0 a2906).fRef.fAt) x1.fOuts.length)) ((bif (!((decide ((x1.fOuts.length : Int) ≤ ((gt x0 a2906).fRef.fAt))) || (((gt x0 a2906).fOut.fValue) != ((gt x1.fOuts ((gt x0 a2906).fRef.fAt)).fValue)))) then spec_l2Same.f k ((gt x0 a2906).fOut.fRule) ((gt x1.fOuts ((gt x0 a2906).fRef.fAt)).fRule) else some default).bind fun t2964 => (bif (((decide ((x1.fOuts.length : Int) ≤ ((gt x0 a2906).fRef.fAt))) || (((gt x0 a2906).fOut.fValue) != ((gt x1.fOuts ((gt x0 a2906).fRef.fAt)).fValue))) || (!t2964)) then some (.inl false) else spec_l5Made.l0 x0 x1 x2 k (wrap64 (a2905 + 1)) (wrap64 (a2906 + 1))))))))))) else some (.inr a2905))
theorem spec_l5Made.l0_z (x0 : List Coin) (x1 : Tx) (x2 : Int) (a2905 : Int) (a2906 : Int) : spec_l5Made.l0 x0 x1 x2 0 a2905 a2906 = none := rfl
theorem spec_l5Made.l0_s (x0 : List Coin) (x1 : Tx) (x2 : Int) (k : Nat) (a2905 : Int) (a2906 : Int) : spec_l5Made.l0 x0 x1 x2 (k + 1) a2905 a2906 = (bif (decide (a2906 < (x0.length : Int))) then (chk (idxOk a2906 x0.length) (bif (((gt x0 a2906).fRef.fTx) != x2) then spec_l5Made.l0 x0 x1 x2 k a2905 (wrap64 (a2906 + 1)) else (chk (idxOk a2906 x0.length) (chk (!(!(decide ((x1.fOuts.length : Int) ≤ ((gt x0 a2906).fRef.fAt)))) || (idxOk a2906 x0.length)) (chk (!(!(decide ((x1.fOuts.length : Int) ≤ ((gt x0 a2906).fRef.fAt)))) || (idxOk ((gt x0 a2906).fRef.fAt) x1.fOuts.length)) (chk (!(!((decide ((x1.fOuts.length : Int) ≤ ((gt x0 a2906).fRef.fAt))) || (((gt x0 a2906).fOut.fValue) != ((gt x1.fOuts ((gt x0 a2906).fRef.fAt)).fValue)))) || (idxOk a2906 x0.length)) (chk (!(!((decide ((x1.fOuts.length : Int) ≤ ((gt x0 a2906).fRef.fAt))) || (((gt x0 a2906).fOut.fValue) != ((gt x1.fOuts ((gt x0 a2906).fRef.fAt)).fValue)))) || (idxOk ((gt x0 a2906).fRef.fAt) x1.fOuts.length)) ((bif (!((decide ((x1.fOuts.length : Int) ≤ ((gt x0 a2906).fRef.fAt))) || (((gt x0 a2906).fOut.fValue) != ((gt x1.fOuts ((gt x0 a2906).fRef.fAt)).fValue)))) then spec_l2Same.f k ((gt x0 a2906).fOut.fRule) ((gt x1.fOuts ((gt x0 a2906).fRef.fAt)).fRule) else some default).bind fun t2964 => (bif (((decide ((x1.fOuts.length : Int) ≤ ((gt x0 a2906).fRef.fAt))) || (((gt x0 a2906).fOut.fValue) != ((gt x1.fOuts ((gt x0 a2906).fRef.fAt)).fValue))) || (!t2964)) then some (.inl false) else spec_l5Made.l0 x0 x1 x2 k (wrap64 (a2905 + 1)) (wrap64 (a2906 + 1))))))))))) else some (.inr a2905)) := rfl
def spec_l5Made.f (k : Nat) (x0 : List Coin) (x1 : Tx) (x2 : Int) : Option Bool := ((spec_l5Made.l0 x0 x1 x2 k 0 0).bind fun o2874 => thn o2874 (fun r => some r) (fun a2873 => some (a2873 == (x1.fOuts.length : Int))))
theorem spec_l5Made.calls {k : Nat} {x0 : List Coin} {x1 : Tx} {x2 : Int} {p0 : Value} {b1 f1 : Nat} {p1_0 : Value} {p1_1 : Value} {w : World} (hp0 : RdS kCoin w p0 x0) (hc1 : CellsAt w b1 f1 [.int .i64 x1.fKind, .int .i64 x1.fMember, p1_0, p1_1]) (hp1_0 : RdS kRef w p1_0 x1.fIns) (hp1_1 : RdS kOut w p1_1 x1.fOuts) {r : Bool} (H : spec_l5Made.f k x0 x1 x2 = some r) :
    Calls Tryz.prog 24 ([p0, .pointer (some ⟨b1, f1, none⟩), .int .i64 x2] : List Value).toArray w (fun e w_ => ∃ v, e = .returned v ∧ v = (.bool r) ∧ Mem w [] w_ []) := by
  have HM := Mem.start w
  refine calls_run (N := 79) Tryz.func24 rfl rfl rfl rfl ?_
  unfold spec_l5Made.f at H
  refine run_seq ?_
  refine run_region rfl ?_
  refine ox rfl rfl rfl rfl (ex_assign rfl rfl) ?_
  refine ops_nil (at_then (run_seq ?_))
  refine run_region rfl ?_
  refine ox rfl rfl rfl rfl (ex_assign rfl rfl) ?_
  refine ops_nil (at_then ?_)
  obtain ⟨o2874, ho2875, H⟩ := bind_some H
  refine run_mid (fun ρ_ w_ => ∃ a2873 : Int, Sum.inr a2873 = o2874 ∧ ρ_ = [(1, .pointer (some ⟨b1, f1, none⟩)), (7, .int .i64 a2873)] ∧ Mem w [] w_ []) ?_ ?_
  · skip
    refine run_seq ?_
    refine run_region rfl ?_
    refine ox rfl rfl rfl rfl (ex_assign rfl rfl) ?_
    refine ops_nil (at_then ?_)
    refine run_block ?_
    refine run_loop (fun k_ ρ_ w_ => ∃ a2905 : Int, ∃ a2906 : Int, spec_l5Made.l0 x0 x1 x2 k_ a2905 a2906 = some o2874 ∧ ρ_ = [(0, p0), (1, .pointer (some ⟨b1, f1, none⟩)), (2, .int .i64 x2), (7, .int .i64 a2905), (8, .int .i64 a2906)] ∧ Mem w [] w_ []) k (ρ1 := [(0, p0), (1, .pointer (some ⟨b1, f1, none⟩)), (2, .int .i64 x2), (7, .int .i64 0), (8, .int .i64 0)]) ⟨_, _, ho2875, rfl, HM⟩ (Sub.cons rfl (Sub.cons rfl (Sub.cons rfl (Sub.cons rfl (Sub.cons rfl Sub.nil))))) ?_
    clear HM ho2875
    rintro k2936 _ w2937 ⟨a2905, a2906, ho2875, rfl, HM⟩
    obtain _ | k2936 := k2936
    · exact nomatch ((spec_l5Made.l0_z x0 x1 x2 a2905 a2906).symm.trans ho2875)
    replace ho2875 := (spec_l5Made.l0_s x0 x1 x2 k2936 a2905 a2906).symm.trans ho2875
    refine run_seq ?_
    refine run_seq ?_
    refine run_region rfl ?_
    refine ox rfl rfl rfl rfl (ex_move rfl rfl) ?_
    refine ox rfl rfl rfl rfl (ex_move rfl rfl) ?_
    refine ox rfl rfl rfl rfl (ex_len (d := kCoin) (xs := x0) rfl rfl Tryz.underlying29 hp0) ?_
    refine ox rfl rfl rfl rfl (ex_lss rfl rfl rfl) ?_
    refine ops_nil (at_then ?_)
    refine run_cond (b := (decide (a2906 < (x0.length : Int)))) rfl (fun hb2938 => ?_) (fun hb2938 => ?_)
    · replace ho2875 := cond_t hb2938 ho2875
      refine run_skip ?_
      refine at_then ?_
      refine run_seq ?_
      refine run_block ?_
      refine run_seq ?_
      refine run_seq ?_
      obtain ⟨e2939, ho2875⟩ := chk_some ho2875
      refine run_region rfl ?_
      refine ox rfl rfl rfl rfl (ex_move rfl rfl) ?_
      refine ox rfl rfl rfl rfl (ex_move rfl rfl) ?_
      obtain ⟨kv2941, hc2940, hk2942⟩ : ∃ u, CellsAt _ (sb p0) (so p0 + (a2906).toNat * 8) [(.int .i64 ((gt x0 a2906).fRef.fTx)), (.int .i64 ((gt x0 a2906).fRef.fAt)), (.int .i64 ((gt x0 a2906).fOut.fValue)), u, (.int .i64 ((gt x0 a2906).fOut.fRule.fNeed)), (.int .i64 ((gt x0 a2906).fOut.fRule.fAfter)), (.int .i64 ((gt x0 a2906).fHeight)), (.bool ((gt x0 a2906).fMined))] ∧ RdS kInt _ u ((gt x0 a2906).fOut.fRule.fKeys) := rd_with1 hp0 e2939
      refine ox rfl rfl rfl rfl (ex_indexAddr (d := kCoin) rfl rfl rfl Tryz.underlying29 tsz72 hp0 (idx_lo e2939) (idx_hi e2939)) ?_
      refine ox rfl rfl rfl rfl (ex_fieldAddr (off' := so p0 + (a2906).toNat * 8) rfl rfl Tryz.underlying72 rfl tsz66 rfl) ?_
      refine ox rfl rfl rfl rfl (ex_fieldAddr (off' := so p0 + (a2906).toNat * 8) rfl rfl Tryz.underlying66 rfl tsz2 rfl) ?_
      refine ox rfl rfl rfl rfl (ex_load1 rfl rfl Tryz.underlying2 rfl ((HM.at_ hc2940) 0 _ rfl)) ?_
      refine ox rfl rfl rfl rfl (ex_move rfl rfl) ?_
      refine ox rfl rfl rfl rfl (ex_neq rfl rfl rfl) ?_
      refine ops_nil (at_then ?_)
      refine run_cond (b := (((gt x0 a2906).fRef.fTx) != x2)) rfl (fun hb2943 => ?_) (fun hb2943 => ?_)
      · replace ho2875 := cond_t hb2943 ho2875
        refine run_exit ?_
        refine at_then_exit ?_
        refine at_block_exit ?_
        refine at_then ?_
        refine run_region rfl ?_
        refine ox rfl rfl rfl rfl (ex_move rfl rfl) ?_
        refine ox rfl rfl rfl rfl (ex_add rfl rfl rfl) ?_
        refine ox rfl rfl rfl rfl (ex_assign rfl rfl) ?_
        refine ops_nil ?_
        exact at_again k2936 (ρ1 := [(0, p0), (1, .pointer (some ⟨b1, f1, none⟩)), (2, .int .i64 x2), (7, .int .i64 a2905), (8, .int .i64 (wrap64 (a2906 + 1)))]) (Nat.lt_succ_self _) ⟨_, _, ho2875, rfl, HM⟩ (Sub.cons rfl (Sub.cons rfl (Sub.cons rfl (Sub.cons rfl (Sub.cons rfl Sub.nil)))))
      · replace ho2875 := cond_f hb2943 ho2875
        refine run_skip ?_
        refine at_then ?_
        refine run_seq ?_
        obtain ⟨e2944, ho2875⟩ := chk_some ho2875
        refine run_region rfl ?_
        refine ox rfl rfl rfl rfl (ex_move rfl rfl) ?_
        refine ox rfl rfl rfl rfl (ex_move rfl rfl) ?_
        obtain ⟨kv2946, hc2945, hk2947⟩ : ∃ u, CellsAt _ (sb p0) (so p0 + (a2906).toNat * 8) [(.int .i64 ((gt x0 a2906).fRef.fTx)), (.int .i64 ((gt x0 a2906).fRef.fAt)), (.int .i64 ((gt x0 a2906).fOut.fValue)), u, (.int .i64 ((gt x0 a2906).fOut.fRule.fNeed)), (.int .i64 ((gt x0 a2906).fOut.fRule.fAfter)), (.int .i64 ((gt x0 a2906).fHeight)), (.bool ((gt x0 a2906).fMined))] ∧ RdS kInt _ u ((gt x0 a2906).fOut.fRule.fKeys) := rd_with1 hp0 e2944
        refine ox rfl rfl rfl rfl (ex_indexAddr (d := kCoin) rfl rfl rfl Tryz.underlying29 tsz72 hp0 (idx_lo e2944) (idx_hi e2944)) ?_
        refine ox rfl rfl rfl rfl (ex_fieldAddr (off' := so p0 + (a2906).toNat * 8) rfl rfl Tryz.underlying72 rfl tsz66 rfl) ?_
        refine ox rfl rfl rfl rfl (ex_fieldAddr (off' := so p0 + (a2906).toNat * 8 + 1) rfl rfl Tryz.underlying66 rfl tsz2 rfl) ?_
        refine ox rfl rfl rfl rfl (ex_load1 rfl rfl Tryz.underlying2 rfl ((HM.at_ hc2945) 1 _ rfl)) ?_
        refine ox rfl rfl rfl rfl (ex_assign rfl rfl) ?_
        refine ops_nil (at_then (run_seq ?_))
        refine run_seq ?_
        obtain ⟨e2948, ho2875⟩ := chk_some ho2875
        obtain ⟨e2952, ho2875⟩ := chk_some ho2875
        obtain ⟨e2956, ho2875⟩ := chk_some ho2875
        obtain ⟨e2960, ho2875⟩ := chk_some ho2875
        obtain ⟨t2964, h2965, ho2875⟩ := bind_some ho2875
        refine run_meet (fun ρ_ w_ => ρ_ = [(0, p0), (1, .pointer (some ⟨b1, f1, none⟩)), (2, .int .i64 x2), (7, .int .i64 a2905), (8, .int .i64 a2906), (69, .bool (((decide ((x1.fOuts.length : Int) ≤ ((gt x0 a2906).fRef.fAt))) || (((gt x0 a2906).fOut.fValue) != ((gt x1.fOuts ((gt x0 a2906).fRef.fAt)).fValue))) || (!t2964)))] ∧ Mem w [] w_ []) ?_ ?_
        · skip
          refine run_drawf (fun w_ => Mem w [] w_ []) [(0, true), (1, true), (2, true), (3, true), (4, true), (5, true), (6, true), (7, true), (8, true), (9, true), (10, true), (11, true), (12, true), (13, true), (14, true), (15, true), (16, true), (17, true), (18, true), (19, true), (20, true), (21, true), (22, true), (23, true), (24, true), (25, true), (26, true), (27, true), (28, true), (29, true), (30, true), (31, true), (32, true), (33, true), (34, true), (35, true), (36, true), (37, false), (38, true), (39, true)] mixed rfl rfl (by kernel_rfl) ?_
          replace HM := HM.grow (fr_drew _)
          have hS := Mem.suf (M := []) HM
          refine dp rfl rfl rfl rfl (ex_move rfl rfl) hS ?_
          refine dp rfl rfl rfl rfl (ex_move rfl rfl) hS ?_
          refine dp rfl rfl rfl rfl (ex_nilCheck rfl rfl) hS ?_
          refine dp rfl rfl rfl rfl (ex_fieldAddr (off' := f1 + 3) rfl rfl Tryz.underlying37 rfl tsz35 rfl) hS ?_
          refine drwp_take rfl (guard_none rfl) rfl rfl (fun w_ hS_ => (ex_load1 rfl rfl Tryz.underlying35 rfl ((hS_.at_ hc1) 3 _ rfl))) hS ?_
          refine dp rfl rfl rfl rfl (ex_len (d := kOut) (xs := x1.fOuts) rfl rfl Tryz.underlying35 hp1_1) hS ?_
          refine dp rfl rfl rfl rfl (ex_geq rfl rfl rfl) hS ?_
          refine dp rfl rfl rfl rfl (ex_move rfl rfl) hS ?_
          refine bool_cases (decide ((x1.fOuts.length : Int) ≤ ((gt x0 a2906).fRef.fAt))) (fun hg2966 => ?_) (fun hg2966 => ?_)
          · skip
            refine drwp_off rfl (guard_off rfl rfl rfl hg2966) rfl rfl hS ?_
            refine drwp_off rfl (guard_off rfl rfl rfl hg2966) rfl rfl hS ?_
            refine drwp_off rfl (guard_off rfl rfl rfl hg2966) rfl rfl hS ?_
            refine drwp_off rfl (guard_off rfl rfl rfl hg2966) rfl rfl hS ?_
            refine drwp_off rfl (guard_off rfl rfl rfl hg2966) rfl rfl hS ?_
            refine drwp_off rfl (guard_off rfl rfl rfl hg2966) rfl rfl hS ?_
            refine drwp_off rfl (guard_off rfl rfl rfl hg2966) rfl rfl hS ?_
            refine drwp_off rfl (guard_off rfl rfl rfl hg2966) rfl rfl hS ?_
            refine drwp_off rfl (guard_off rfl rfl rfl hg2966) rfl rfl hS ?_
            refine drwp_off rfl (guard_off rfl rfl rfl hg2966) rfl rfl hS ?_
            refine drwp_off rfl (guard_off rfl rfl rfl hg2966) rfl rfl hS ?_
            refine drwp_off rfl (guard_off rfl rfl rfl hg2966) rfl rfl hS ?_
            refine drwp_off rfl (guard_off rfl rfl rfl hg2966) rfl rfl hS ?_
            refine drwp_off rfl (guard_off rfl rfl rfl hg2966) rfl rfl hS ?_
            refine drwp_off rfl (guard_off rfl rfl rfl hg2966) rfl rfl hS ?_
            have hg2967 : ((decide ((x1.fOuts.length : Int) ≤ ((gt x0 a2906).fRef.fAt))) || (((gt x0 a2906).fOut.fValue) != ((gt x1.fOuts ((gt x0 a2906).fRef.fAt)).fValue))) = true := by simp only [hg2966, Bool.and_true, Bool.true_and, Bool.and_false, Bool.false_and, Bool.or_true, Bool.true_or, Bool.or_false, Bool.false_or, Bool.not_true, Bool.not_false, Bool.not_not]
            refine drwp_take (v := .bool ((decide ((x1.fOuts.length : Int) ≤ ((gt x0 a2906).fRef.fAt))) || (((gt x0 a2906).fOut.fValue) != ((gt x1.fOuts ((gt x0 a2906).fRef.fAt)).fValue)))) rfl (guard_none rfl) rfl rfl (fun w_ hS_ => (ex_por_t rfl rfl hg2966)) hS ?_
            refine dp rfl rfl rfl rfl (ex_move rfl rfl) hS ?_
            refine drwp_off rfl (guard_off rfl rfl rfl hg2967) rfl rfl hS ?_
            refine drwp_off rfl (guard_off rfl rfl rfl hg2967) rfl rfl hS ?_
            refine drwp_off rfl (guard_off rfl rfl rfl hg2967) rfl rfl hS ?_
            refine drwp_off rfl (guard_off rfl rfl rfl hg2967) rfl rfl hS ?_
            refine drwp_off rfl (guard_off rfl rfl rfl hg2967) rfl rfl hS ?_
            refine drwp_off rfl (guard_off rfl rfl rfl hg2967) rfl rfl hS ?_
            refine drwp_off rfl (guard_off rfl rfl rfl hg2967) rfl rfl hS ?_
            refine drwp_off rfl (guard_off rfl rfl rfl hg2967) rfl rfl hS ?_
            refine drwp_off rfl (guard_off rfl rfl rfl hg2967) rfl rfl hS ?_
            refine drwp_off rfl (guard_off rfl rfl rfl hg2967) rfl rfl hS ?_
            refine drwp_off rfl (guard_off rfl rfl rfl hg2967) rfl rfl hS ?_
            refine drwp_off rfl (guard_off rfl rfl rfl hg2967) rfl rfl hS ?_
            refine drwp_off1 rfl (guard_off rfl rfl rfl hg2967) rfl rfl ⟨hS, ?_⟩
            refine drwp_off rfl (guard_off rfl rfl rfl hg2967) rfl rfl hS ?_
            have hg2968 : (((decide ((x1.fOuts.length : Int) ≤ ((gt x0 a2906).fRef.fAt))) || (((gt x0 a2906).fOut.fValue) != ((gt x1.fOuts ((gt x0 a2906).fRef.fAt)).fValue))) || (!t2964)) = true := by simp only [hg2967, Bool.and_true, Bool.true_and, Bool.and_false, Bool.false_and, Bool.or_true, Bool.true_or, Bool.or_false, Bool.false_or, Bool.not_true, Bool.not_false, Bool.not_not]
            refine drwp_take (v := .bool (((decide ((x1.fOuts.length : Int) ≤ ((gt x0 a2906).fRef.fAt))) || (((gt x0 a2906).fOut.fValue) != ((gt x1.fOuts ((gt x0 a2906).fRef.fAt)).fValue))) || (!t2964))) rfl (guard_none rfl) rfl rfl (fun w_ hS_ => (ex_por_t rfl rfl hg2967)) hS ?_
            refine drwp_done ?_
            exact at_meet [(0, p0), (1, .pointer (some ⟨b1, f1, none⟩)), (2, .int .i64 x2), (7, .int .i64 a2905), (8, .int .i64 a2906), (69, .bool (((decide ((x1.fOuts.length : Int) ≤ ((gt x0 a2906).fRef.fAt))) || (((gt x0 a2906).fOut.fValue) != ((gt x1.fOuts ((gt x0 a2906).fRef.fAt)).fValue))) || (!t2964)))] ⟨rfl, HM⟩ (Sub.cons rfl (Sub.cons rfl (Sub.cons rfl (Sub.cons rfl (Sub.cons rfl (Sub.cons rfl Sub.nil))))))
          · skip
            refine drwp_take rfl (guard_on rfl rfl rfl hg2966) rfl rfl (fun w_ hS_ => (ex_move rfl rfl)) hS ?_
            refine drwp_take rfl (guard_on rfl rfl rfl hg2966) rfl rfl (fun w_ hS_ => (ex_move rfl rfl)) hS ?_
            obtain ⟨kv2950, hc2949, hk2951⟩ : ∃ u, CellsAt _ (sb p0) (so p0 + (a2906).toNat * 8) [(.int .i64 ((gt x0 a2906).fRef.fTx)), (.int .i64 ((gt x0 a2906).fRef.fAt)), (.int .i64 ((gt x0 a2906).fOut.fValue)), u, (.int .i64 ((gt x0 a2906).fOut.fRule.fNeed)), (.int .i64 ((gt x0 a2906).fOut.fRule.fAfter)), (.int .i64 ((gt x0 a2906).fHeight)), (.bool ((gt x0 a2906).fMined))] ∧ RdS kInt _ u ((gt x0 a2906).fOut.fRule.fKeys) := rd_with1 hp0 (or_t e2948 (not_mk hg2966))
            refine drwp_take rfl (guard_on rfl rfl rfl hg2966) rfl rfl (fun w_ hS_ => (ex_indexAddr (d := kCoin) rfl rfl rfl Tryz.underlying29 tsz72 hp0 (idx_lo (or_t e2948 (not_mk hg2966))) (idx_hi (or_t e2948 (not_mk hg2966))))) hS ?_
            refine drwp_take rfl (guard_on rfl rfl rfl hg2966) rfl rfl (fun w_ hS_ => (ex_fieldAddr (off' := so p0 + (a2906).toNat * 8 + 2) rfl rfl Tryz.underlying72 rfl tsz70 rfl)) hS ?_
            refine drwp_take rfl (guard_on rfl rfl rfl hg2966) rfl rfl (fun w_ hS_ => (ex_fieldAddr (off' := so p0 + (a2906).toNat * 8 + 2) rfl rfl Tryz.underlying70 rfl tsz2 rfl)) hS ?_
            refine drwp_take rfl (guard_on rfl rfl rfl hg2966) rfl rfl (fun w_ hS_ => (ex_load1 rfl rfl Tryz.underlying2 rfl ((hS_.at_ hc2949) 2 _ rfl))) hS ?_
            refine drwp_take rfl (guard_on rfl rfl rfl hg2966) rfl rfl (fun w_ hS_ => (ex_move rfl rfl)) hS ?_
            refine drwp_take rfl (guard_on rfl rfl rfl hg2966) rfl rfl (fun w_ hS_ => (ex_nilCheck rfl rfl)) hS ?_
            refine drwp_take rfl (guard_on rfl rfl rfl hg2966) rfl rfl (fun w_ hS_ => (ex_fieldAddr (off' := f1 + 3) rfl rfl Tryz.underlying37 rfl tsz35 rfl)) hS ?_
            refine drwp_take rfl (guard_on rfl rfl rfl hg2966) rfl rfl (fun w_ hS_ => (ex_load1 rfl rfl Tryz.underlying35 rfl ((hS_.at_ hc1) 3 _ rfl))) hS ?_
            refine drwp_take rfl (guard_on rfl rfl rfl hg2966) rfl rfl (fun w_ hS_ => (ex_move rfl rfl)) hS ?_
            obtain ⟨kv2954, hc2953, hk2955⟩ : ∃ u, CellsAt _ (sb p1_1) (so p1_1 + ((gt x0 a2906).fRef.fAt).toNat * 4) [(.int .i64 ((gt x1.fOuts ((gt x0 a2906).fRef.fAt)).fValue)), u, (.int .i64 ((gt x1.fOuts ((gt x0 a2906).fRef.fAt)).fRule.fNeed)), (.int .i64 ((gt x1.fOuts ((gt x0 a2906).fRef.fAt)).fRule.fAfter))] ∧ RdS kInt _ u ((gt x1.fOuts ((gt x0 a2906).fRef.fAt)).fRule.fKeys) := rd_with1 hp1_1 (or_t e2952 (not_mk hg2966))
            refine drwp_take rfl (guard_on rfl rfl rfl hg2966) rfl rfl (fun w_ hS_ => (ex_indexAddr (d := kOut) rfl rfl rfl Tryz.underlying35 tsz70 hp1_1 (idx_lo (or_t e2952 (not_mk hg2966))) (idx_hi (or_t e2952 (not_mk hg2966))))) hS ?_
            refine drwp_take rfl (guard_on rfl rfl rfl hg2966) rfl rfl (fun w_ hS_ => (ex_fieldAddr (off' := so p1_1 + ((gt x0 a2906).fRef.fAt).toNat * 4) rfl rfl Tryz.underlying70 rfl tsz2 rfl)) hS ?_
            refine drwp_take rfl (guard_on rfl rfl rfl hg2966) rfl rfl (fun w_ hS_ => (ex_load1 rfl rfl Tryz.underlying2 rfl ((hS_.at_ hc2953) 0 _ rfl))) hS ?_
            refine drwp_take rfl (guard_on rfl rfl rfl hg2966) rfl rfl (fun w_ hS_ => (ex_neq rfl rfl rfl)) hS ?_
            refine drwp_take (v := .bool ((decide ((x1.fOuts.length : Int) ≤ ((gt x0 a2906).fRef.fAt))) || (((gt x0 a2906).fOut.fValue) != ((gt x1.fOuts ((gt x0 a2906).fRef.fAt)).fValue)))) rfl (guard_none rfl) rfl rfl (fun w_ hS_ => (ex_por_f rfl rfl hg2966 rfl)) hS ?_
            refine dp rfl rfl rfl rfl (ex_move rfl rfl) hS ?_
            refine bool_cases ((decide ((x1.fOuts.length : Int) ≤ ((gt x0 a2906).fRef.fAt))) || (((gt x0 a2906).fOut.fValue) != ((gt x1.fOuts ((gt x0 a2906).fRef.fAt)).fValue))) (fun hg2969 => ?_) (fun hg2969 => ?_)
            · skip
              refine drwp_off rfl (guard_off rfl rfl rfl hg2969) rfl rfl hS ?_
              refine drwp_off rfl (guard_off rfl rfl rfl hg2969) rfl rfl hS ?_
              refine drwp_off rfl (guard_off rfl rfl rfl hg2969) rfl rfl hS ?_
              refine drwp_off rfl (guard_off rfl rfl rfl hg2969) rfl rfl hS ?_
              refine drwp_off rfl (guard_off rfl rfl rfl hg2969) rfl rfl hS ?_
              refine drwp_off rfl (guard_off rfl rfl rfl hg2969) rfl rfl hS ?_
              refine drwp_off rfl (guard_off rfl rfl rfl hg2969) rfl rfl hS ?_
              refine drwp_off rfl (guard_off rfl rfl rfl hg2969) rfl rfl hS ?_
              refine drwp_off rfl (guard_off rfl rfl rfl hg2969) rfl rfl hS ?_
              refine drwp_off rfl (guard_off rfl rfl rfl hg2969) rfl rfl hS ?_
              refine drwp_off rfl (guard_off rfl rfl rfl hg2969) rfl rfl hS ?_
              refine drwp_off rfl (guard_off rfl rfl rfl hg2969) rfl rfl hS ?_
              refine drwp_off1 rfl (guard_off rfl rfl rfl hg2969) rfl rfl ⟨hS, ?_⟩
              refine drwp_off rfl (guard_off rfl rfl rfl hg2969) rfl rfl hS ?_
              have hg2970 : (((decide ((x1.fOuts.length : Int) ≤ ((gt x0 a2906).fRef.fAt))) || (((gt x0 a2906).fOut.fValue) != ((gt x1.fOuts ((gt x0 a2906).fRef.fAt)).fValue))) || (!t2964)) = true := by simp only [hg2969, Bool.and_true, Bool.true_and, Bool.and_false, Bool.false_and, Bool.or_true, Bool.true_or, Bool.or_false, Bool.false_or, Bool.not_true, Bool.not_false, Bool.not_not]
              refine drwp_take (v := .bool (((decide ((x1.fOuts.length : Int) ≤ ((gt x0 a2906).fRef.fAt))) || (((gt x0 a2906).fOut.fValue) != ((gt x1.fOuts ((gt x0 a2906).fRef.fAt)).fValue))) || (!t2964))) rfl (guard_none rfl) rfl rfl (fun w_ hS_ => (ex_por_t rfl rfl hg2969)) hS ?_
              refine drwp_done ?_
              exact at_meet [(0, p0), (1, .pointer (some ⟨b1, f1, none⟩)), (2, .int .i64 x2), (7, .int .i64 a2905), (8, .int .i64 a2906), (69, .bool (((decide ((x1.fOuts.length : Int) ≤ ((gt x0 a2906).fRef.fAt))) || (((gt x0 a2906).fOut.fValue) != ((gt x1.fOuts ((gt x0 a2906).fRef.fAt)).fValue))) || (!t2964)))] ⟨rfl, HM⟩ (Sub.cons rfl (Sub.cons rfl (Sub.cons rfl (Sub.cons rfl (Sub.cons rfl (Sub.cons rfl Sub.nil))))))
            · skip
              refine drwp_take rfl (guard_on rfl rfl rfl hg2969) rfl rfl (fun w_ hS_ => (ex_move rfl rfl)) hS ?_
              refine drwp_take rfl (guard_on rfl rfl rfl hg2969) rfl rfl (fun w_ hS_ => (ex_move rfl rfl)) hS ?_
              obtain ⟨kv2958, hc2957, hk2959⟩ : ∃ u, CellsAt _ (sb p0) (so p0 + (a2906).toNat * 8) [(.int .i64 ((gt x0 a2906).fRef.fTx)), (.int .i64 ((gt x0 a2906).fRef.fAt)), (.int .i64 ((gt x0 a2906).fOut.fValue)), u, (.int .i64 ((gt x0 a2906).fOut.fRule.fNeed)), (.int .i64 ((gt x0 a2906).fOut.fRule.fAfter)), (.int .i64 ((gt x0 a2906).fHeight)), (.bool ((gt x0 a2906).fMined))] ∧ RdS kInt _ u ((gt x0 a2906).fOut.fRule.fKeys) := rd_with1 hp0 (or_t e2956 (not_mk hg2969))
              refine drwp_take rfl (guard_on rfl rfl rfl hg2969) rfl rfl (fun w_ hS_ => (ex_indexAddr (d := kCoin) rfl rfl rfl Tryz.underlying29 tsz72 hp0 (idx_lo (or_t e2956 (not_mk hg2969))) (idx_hi (or_t e2956 (not_mk hg2969))))) hS ?_
              refine drwp_take rfl (guard_on rfl rfl rfl hg2969) rfl rfl (fun w_ hS_ => (ex_fieldAddr (off' := so p0 + (a2906).toNat * 8 + 2) rfl rfl Tryz.underlying72 rfl tsz70 rfl)) hS ?_
              refine drwp_take rfl (guard_on rfl rfl rfl hg2969) rfl rfl (fun w_ hS_ => (ex_fieldAddr (off' := so p0 + (a2906).toNat * 8 + 3) rfl rfl Tryz.underlying70 rfl tsz68 rfl)) hS ?_
              refine drwp_take rfl (guard_on rfl rfl rfl hg2969) rfl rfl (fun w_ hS_ => (ex_move rfl rfl)) hS ?_
              refine drwp_take rfl (guard_on rfl rfl rfl hg2969) rfl rfl (fun w_ hS_ => (ex_nilCheck rfl rfl)) hS ?_
              refine drwp_take rfl (guard_on rfl rfl rfl hg2969) rfl rfl (fun w_ hS_ => (ex_fieldAddr (off' := f1 + 3) rfl rfl Tryz.underlying37 rfl tsz35 rfl)) hS ?_
              refine drwp_take rfl (guard_on rfl rfl rfl hg2969) rfl rfl (fun w_ hS_ => (ex_load1 rfl rfl Tryz.underlying35 rfl ((hS_.at_ hc1) 3 _ rfl))) hS ?_
              refine drwp_take rfl (guard_on rfl rfl rfl hg2969) rfl rfl (fun w_ hS_ => (ex_move rfl rfl)) hS ?_
              obtain ⟨kv2962, hc2961, hk2963⟩ : ∃ u, CellsAt _ (sb p1_1) (so p1_1 + ((gt x0 a2906).fRef.fAt).toNat * 4) [(.int .i64 ((gt x1.fOuts ((gt x0 a2906).fRef.fAt)).fValue)), u, (.int .i64 ((gt x1.fOuts ((gt x0 a2906).fRef.fAt)).fRule.fNeed)), (.int .i64 ((gt x1.fOuts ((gt x0 a2906).fRef.fAt)).fRule.fAfter))] ∧ RdS kInt _ u ((gt x1.fOuts ((gt x0 a2906).fRef.fAt)).fRule.fKeys) := rd_with1 hp1_1 (or_t e2960 (not_mk hg2969))
              refine drwp_take rfl (guard_on rfl rfl rfl hg2969) rfl rfl (fun w_ hS_ => (ex_indexAddr (d := kOut) rfl rfl rfl Tryz.underlying35 tsz70 hp1_1 (idx_lo (or_t e2960 (not_mk hg2969))) (idx_hi (or_t e2960 (not_mk hg2969))))) hS ?_
              refine drwp_take rfl (guard_on rfl rfl rfl hg2969) rfl rfl (fun w_ hS_ => (ex_fieldAddr (off' := so p1_1 + ((gt x0 a2906).fRef.fAt).toNat * 4 + 1) rfl rfl Tryz.underlying70 rfl tsz68 rfl)) hS ?_
              refine drwp_one rfl (guard_on rfl rfl rfl hg2969) rfl rfl (does_callk rfl callok49 rfl (spec_l2Same.calls (x0 := (gt x0 a2906).fOut.fRule) (x1 := (gt x1.fOuts ((gt x0 a2906).fRef.fAt)).fRule) (CellsAt.sub (HM.at_ hc2957) 3 3 rfl) (HM.rd hk2959) (CellsAt.sub (HM.at_ hc2961) 1 3 rfl) (HM.rd hk2963) (cond_t (not_mk hg2969) h2965))) ?_
              rintro _ w2971 ⟨rfl, hn⟩
              replace HM : Mem w [] w2971 [] := HM.call hn
              have hS := Mem.suf (M := []) HM
              refine ⟨hS, ?_⟩
              refine drwp_take rfl (guard_on rfl rfl rfl hg2969) rfl rfl (fun w_ hS_ => (ex_not rfl rfl)) hS ?_
              refine drwp_take (v := .bool (((decide ((x1.fOuts.length : Int) ≤ ((gt x0 a2906).fRef.fAt))) || (((gt x0 a2906).fOut.fValue) != ((gt x1.fOuts ((gt x0 a2906).fRef.fAt)).fValue))) || (!t2964))) rfl (guard_none rfl) rfl rfl (fun w_ hS_ => (ex_por_f rfl rfl hg2969 rfl)) hS ?_
              refine drwp_done ?_
              exact at_meet [(0, p0), (1, .pointer (some ⟨b1, f1, none⟩)), (2, .int .i64 x2), (7, .int .i64 a2905), (8, .int .i64 a2906), (69, .bool (((decide ((x1.fOuts.length : Int) ≤ ((gt x0 a2906).fRef.fAt))) || (((gt x0 a2906).fOut.fValue) != ((gt x1.fOuts ((gt x0 a2906).fRef.fAt)).fValue))) || (!t2964)))] ⟨rfl, HM⟩ (Sub.cons rfl (Sub.cons rfl (Sub.cons rfl (Sub.cons rfl (Sub.cons rfl (Sub.cons rfl Sub.nil))))))
        · rintro _ w2972 ⟨rfl, HM⟩
          refine at_then ?_
          refine run_cond (b := (((decide ((x1.fOuts.length : Int) ≤ ((gt x0 a2906).fRef.fAt))) || (((gt x0 a2906).fOut.fValue) != ((gt x1.fOuts ((gt x0 a2906).fRef.fAt)).fValue))) || (!t2964))) rfl (fun hb2973 => ?_) (fun hb2973 => ?_)
          · replace ho2875 := cond_t hb2973 ho2875
            refine run_seq ?_
            refine run_region rfl ?_
            refine ox rfl rfl rfl rfl (ex_assign rfl rfl) ?_
            refine ops_nil (at_then ?_)
            refine run_ret ?_
            refine at_then_ret ?_
            refine at_block_ret ?_
            refine at_then_ret ?_
            refine at_then_ret ?_
            refine at_block_ret ?_
            refine at_then_ret ?_
            have hR := Option.some.inj ho2875
            subst hR
            have hT := thn_inl H
            have hR := Option.some.inj hT
            subst hR
            exact at_ret1 rfl rfl ⟨_, rfl, rfl, HM⟩
          · replace ho2875 := cond_f hb2973 ho2875
            refine run_skip ?_
            refine at_then ?_
            refine run_region rfl ?_
            refine ox rfl rfl rfl rfl (ex_move rfl rfl) ?_
            refine ox rfl rfl rfl rfl (ex_add rfl rfl rfl) ?_
            refine ox rfl rfl rfl rfl (ex_assign rfl rfl) ?_
            refine ops_nil ?_
            refine at_block ?_
            refine at_then ?_
            refine run_region rfl ?_
            refine ox rfl rfl rfl rfl (ex_move rfl rfl) ?_
            refine ox rfl rfl rfl rfl (ex_add rfl rfl rfl) ?_
            refine ox rfl rfl rfl rfl (ex_assign rfl rfl) ?_
            refine ops_nil ?_
            exact at_again k2936 (ρ1 := [(0, p0), (1, .pointer (some ⟨b1, f1, none⟩)), (2, .int .i64 x2), (7, .int .i64 (wrap64 (a2905 + 1))), (8, .int .i64 (wrap64 (a2906 + 1)))]) (Nat.lt_succ_self _) ⟨_, _, ho2875, rfl, HM⟩ (Sub.cons rfl (Sub.cons rfl (Sub.cons rfl (Sub.cons rfl (Sub.cons rfl Sub.nil)))))
    · replace ho2875 := cond_f hb2938 ho2875
      refine run_exit ?_
      refine at_then_exit ?_
      refine at_then_exit ?_
      refine at_block_exit ?_
      exact at_mid (ρ' := [(1, .pointer (some ⟨b1, f1, none⟩)), (7, .int .i64 a2905)]) ⟨_, (Option.some.inj ho2875), rfl, HM⟩ (Sub.cons rfl (Sub.cons rfl Sub.nil))
  · rintro _ w2974 ⟨a2873, rfl, rfl, HM⟩
    replace H := (thn_inr H)
    refine run_seq ?_
    refine run_region rfl ?_
    refine ox rfl rfl rfl rfl (ex_move rfl rfl) ?_
    refine ox rfl rfl rfl rfl (ex_move rfl rfl) ?_
    refine ox rfl rfl rfl rfl (ex_nilCheck rfl rfl) ?_
    refine ox rfl rfl rfl rfl (ex_fieldAddr (off' := f1 + 3) rfl rfl Tryz.underlying37 rfl tsz35 rfl) ?_
    refine ox rfl rfl rfl rfl (ex_load1 rfl rfl Tryz.underlying35 rfl ((HM.at_ hc1) 3 _ rfl)) ?_
    refine ox rfl rfl rfl rfl (ex_len (d := kOut) (xs := x1.fOuts) rfl rfl Tryz.underlying35 hp1_1) ?_
    refine ox rfl rfl rfl rfl (ex_eql rfl rfl rfl) ?_
    refine ox rfl rfl rfl rfl (ex_assign rfl rfl) ?_
    refine ops_nil (at_then ?_)
    refine run_ret ?_
    have hR := Option.some.inj H
    subst hR
    exact at_ret1 rfl rfl ⟨_, rfl, rfl, HM⟩
end Go.Proofs.YtecgbhfgkkpmhabGreat.Zk
