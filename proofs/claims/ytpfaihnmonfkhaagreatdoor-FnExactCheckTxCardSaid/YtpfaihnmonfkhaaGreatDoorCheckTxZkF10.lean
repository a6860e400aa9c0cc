/- What functions of the program compute, each as a plain function, and that they do. Conditions: as each theorem states them. -/
import Derived.Test.YtpfaihnmonfkhaaGreatDoorCheckTxZkF9
namespace Go.Proofs.YtpfaihnmonfkhaaGreatDoor.Zk
open Go Go.RowKit Go.IntWalk Go.Proofs
set_option linter.unusedVariables false
set_option linter.unusedSimpArgs false
set_option maxRecDepth 100000
set_option maxHeartbeats 4000000
def slices_Clone_int64.f (k : Nat) (x0 : List Int) : Option ((List Int)) := (chk (leB ((([] : List Int).length + x0.length) * 8) 140737488355328) (some (([] : List Int) ++ x0)))
theorem slices_Clone_int64.calls {k : Nat} {x0 : List Int} {p0 : Value} {w : World} (hp0 : RdS kInt w p0 x0) {r : (List Int)} (H : slices_Clone_int64.f k x0 = some r) :
  Calls Tryz.prog 147 ([p0] : List Value).toArray w (fun e w_ => ∃ v, e = .returned v ∧ ∃ u0 : Value, v = u0 ∧ Mem w [] w_ [own kInt 2 u0 r]) := by
 have HM := Mem.start w
 refine calls_run (N := 8) Tryz.func147 rfl rfl rfl rfl ?_
 unfold slices_Clone_int64.f at H
 refine run_seq ?_
 refine run_region rfl ?_
 refine ox rfl rfl rfl rfl (ex_assign rfl rfl) ?_
 refine ops_nil (at_then (run_seq ?_))
 refine run_seq ?_
 refine run_region rfl ?_
 refine ox rfl rfl rfl rfl (ex_move rfl rfl) ?_
 refine ops_exE rfl (guard_none rfl) rfl rfl (ex_isnil rfl rfl rfl Tryz.underlying58 hp0) ?_
 rintro _ ⟨b7563, rfl, hb7564⟩
 refine ops_nil (at_then ?_)
 refine run_cond (b := b7563) rfl (fun hb7565 => ?_) (fun hb7565 => ?_)
 ·have hx_ := hb7564 hb7565
  subst hx_
  obtain ⟨_, H⟩ := chk_some H
  replace H : some ([] : List Int) = r := H
  refine run_seq ?_
  refine run_region rfl ?_
  refine ox rfl rfl rfl rfl (ex_assign rfl rfl) ?_
  refine ops_nil (at_then ?_)
  refine run_ret ?_
  refine at_then_ret ?_
  replace HM := HM.empty kInt 2 none
  have hR := Option.some.inj H
  subst hR
  exact at_ret1 rfl rfl ⟨_, rfl, _, rfl, HM⟩
 ·skip
  refine run_skip ?_
  refine at_then ?_
  refine run_seq ?_
  obtain ⟨e7569, H⟩ := chk_some H
  refine run_region rfl ?_
  refine od rfl rfl rfl rfl (does_lit (e := 2) (cs := []) (xs := ([] : List Int)) kInt rfl rfl (fun _ => by kernel_rfl) rfl rfl (fun _ _ h => by have h' : _ = [] := h; subst h'; exact .nil) HM.emp) ?_
  rintro v7566 w7572 HM
  refine ox rfl rfl rfl rfl (ex_move rfl rfl) ?_
  refine od rfl rfl rfl rfl (does_appendR kInt flat_plain rfl rfl rfl Tryz.underlying58 tsz2 rfl tby2 tz2 rfl rfl (leB_le e7569) (HM.rd hp0) HM) ?_
  rintro v7570 w7573 HM
  refine ox rfl rfl rfl rfl (ex_assign rfl rfl) ?_
  refine ops_nil (at_then ?_)
  refine run_ret ?_
  have hR := Option.some.inj H
  subst hR
  exact at_ret1 rfl rfl ⟨_, rfl, _, rfl, HM⟩

def impl_ownRule.f (k : Nat) (x0 : Rule) : Option Rule := ((slices_Clone_int64.f k x0.fKeys).bind fun t7587 => some (⟨t7587, x0.fNeed, x0.fAfter⟩ : Rule))
theorem impl_ownRule.calls {k : Nat} {x0 : Rule} {p0_0 : Value} {w : World} (hp0_0 : RdS kInt w p0_0 x0.fKeys) {r : Rule} (H : impl_ownRule.f k x0 = some r) :
  Calls Tryz.prog 130 ([.agg #[p0_0, (.int .i64 x0.fNeed), (.int .i64 x0.fAfter)]] : List Value).toArray w (fun e w_ => ∃ v, e = .returned v ∧ ∃ u0 : Value, v = (.agg #[u0, .int .i64 r.fNeed, .int .i64 r.fAfter]) ∧ Mem w [] w_ [own kInt 2 u0 r.fKeys]) := by
 have HM := Mem.start w
 refine calls_run (N := 8) Tryz.func130 rfl rfl rfl rfl ?_
 unfold impl_ownRule.f at H
 refine run_seq ?_
 refine run_region rfl ?_
 refine od rfl rfl rfl rfl (does_box (cs := [p0_0, .int .i64 x0.fNeed, .int .i64 x0.fAfter]) rfl rfl rfl HM) ?_
 rintro _ w7585 ⟨b7579, rfl, HM⟩
 refine od rfl rfl rfl rfl (does_alloc (cs := [.slice none 0 0, .int .i64 0, .int .i64 0]) rfl tz82 rfl HM) ?_
 rintro _ w7586 ⟨b7582, rfl, HM⟩
 refine ops_nil (at_then (run_seq ?_))
 obtain ⟨t7587, h7588, H⟩ := bind_some H
 refine run_region rfl ?_
 refine ox rfl rfl rfl rfl (ex_fieldAddr (off' := 0) rfl rfl Tryz.underlying82 rfl tsz58 rfl) ?_
 refine ox rfl rfl rfl rfl (ex_load1 rfl rfl Tryz.underlying58 rfl ((HM.box_at 1 rfl) 0 _ rfl)) ?_
 refine od rfl rfl rfl rfl (does_callk rfl callok147 rfl (slices_Clone_int64.calls (x0 := x0.fKeys) (HM.rd hp0_0) h7588)) ?_
 rintro u7589 w7591 ⟨_, rfl, hn⟩
 replace HM : Mem w [] w7591 [own kInt 2 u7589 t7587, box b7582 82 [.slice none 0 0, .int .i64 0, .int .i64 0], box b7579 82 [p0_0, .int .i64 x0.fNeed, .int .i64 x0.fAfter]] := HM.call hn
 refine ox rfl rfl rfl rfl (ex_fieldAddr (off' := 0) rfl rfl Tryz.underlying82 rfl tsz58 rfl) ?_
 replace HM := HM.front 2 rfl rfl
 refine odS rfl rfl rfl (does_store (vs := [u7589]) (cs' := [u7589, .int .i64 x0.fNeed, .int .i64 x0.fAfter]) rfl rfl rfl (rd_cells (HM.own_rd 1 rfl)) tsz58 (Ones.rd (HM.own_rd 1 rfl) Ones.nil) rfl rfl HM) ?_
 rintro w7592 HM
 refine ops_nil (at_then (run_seq ?_))
 refine run_region rfl ?_
 refine ox rfl rfl rfl rfl (ex_loadN (cs := [u7589, (.int .i64 x0.fNeed), (.int .i64 x0.fAfter)]) rfl rfl Tryz.underlying82 rfl tsz82 rfl ((HM.box_at 0 rfl).sub 0 3 rfl)) ?_
 replace HM := HM.front 2 rfl rfl
 refine odS rfl rfl rfl (does_store (vs := [u7589, .int .i64 x0.fNeed, .int .i64 x0.fAfter]) (cs' := [u7589, .int .i64 x0.fNeed, .int .i64 x0.fAfter]) rfl rfl rfl rfl tsz82 (Ones.rd (HM.own_rd 2 rfl) (Ones.int (Ones.int Ones.nil))) rfl rfl HM) ?_
 rintro w7593 HM
 refine ops_nil (at_then ?_)
 refine run_ret ?_
 replace HM := (HM.front 1 rfl rfl).drop
 have hcb0 := HM.box_at 0 rfl
 replace HM := (HM.front 0 rfl rfl).drop
 have hR := Option.some.inj H
 subst hR
 exact at_retN rfl rfl Tryz.underlying82 rfl tsz82 rfl hcb0 ⟨_, rfl, _, rfl, HM⟩

def impl_ownOut.f (k : Nat) (x0 : Out) : Option Out := ((impl_ownRule.f k x0.fRule).bind fun t7606 => some (⟨x0.fValue, t7606⟩ : Out))
theorem impl_ownOut.calls {k : Nat} {x0 : Out} {p0_0 : Value} {w : World} (hp0_0 : RdS kInt w p0_0 x0.fRule.fKeys) {r : Out} (H : impl_ownOut.f k x0 = some r) :
  Calls Tryz.prog 122 ([.agg #[(.int .i64 x0.fValue), p0_0, (.int .i64 x0.fRule.fNeed), (.int .i64 x0.fRule.fAfter)]] : List Value).toArray w (fun e w_ => ∃ v, e = .returned v ∧ ∃ u0 : Value, v = (.agg #[.int .i64 r.fValue, u0, .int .i64 r.fRule.fNeed, .int .i64 r.fRule.fAfter]) ∧ Mem w [] w_ [own kInt 2 u0 r.fRule.fKeys]) := by
 have HM := Mem.start w
 refine calls_run (N := 9) Tryz.func122 rfl rfl rfl rfl ?_
 unfold impl_ownOut.f at H
 refine run_seq ?_
 refine run_region rfl ?_
 refine od rfl rfl rfl rfl (does_box (cs := [.int .i64 x0.fValue, p0_0, .int .i64 x0.fRule.fNeed, .int .i64 x0.fRule.fAfter]) rfl rfl rfl HM) ?_
 rintro _ w7604 ⟨b7598, rfl, HM⟩
 refine od rfl rfl rfl rfl (does_alloc (cs := [.int .i64 0, .slice none 0 0, .int .i64 0, .int .i64 0]) rfl tz84 rfl HM) ?_
 rintro _ w7605 ⟨b7601, rfl, HM⟩
 refine ops_nil (at_then (run_seq ?_))
 obtain ⟨t7606, h7607, H⟩ := bind_some H
 refine run_drawf (fun w_ => Mem w [] w_ [box b7598 84 [.int .i64 x0.fValue, p0_0, .int .i64 x0.fRule.fNeed, .int .i64 x0.fRule.fAfter]]) [(0, true), (1, true), (2, true), (3, true), (4, false), (5, true), (6, false)] mixed rfl rfl (by kernel_rfl) ?_
 replace HM := HM.grow (fr_drew _)
 have hS := Mem.suf (M := [box b7601 84 [.int .i64 0, .slice none 0 0, .int .i64 0, .int .i64 0]]) HM
 refine dp rfl rfl rfl rfl (ex_fieldAddr (off' := 0) rfl rfl Tryz.underlying84 rfl tsz2 rfl) hS ?_
 refine drwp_take rfl (guard_none rfl) rfl rfl (fun w_ hS_ => (ex_load1 rfl rfl Tryz.underlying2 rfl ((hS_.box_at 0 rfl) 0 _ rfl))) hS ?_
 refine dp rfl rfl rfl rfl (ex_fieldAddr (off' := 1) rfl rfl Tryz.underlying84 rfl tsz82 rfl) hS ?_
 refine drwp_take rfl (guard_none rfl) rfl rfl (fun w_ hS_ => (ex_loadN (cs := [p0_0, (.int .i64 x0.fRule.fNeed), (.int .i64 x0.fRule.fAfter)]) rfl rfl Tryz.underlying82 rfl tsz82 rfl ((hS_.box_at 0 rfl).sub 1 3 rfl))) hS ?_
 refine drwp_one rfl (guard_none rfl) rfl rfl (does_callk rfl callok130 rfl (impl_ownRule.calls (x0 := x0.fRule) (HM.rd hp0_0) h7607)) ?_
 rintro _ w7610 ⟨u7608, rfl, hn⟩
 replace HM : Mem w [] w7610 [own kInt 2 u7608 t7606.fKeys, box b7601 84 [.int .i64 0, .slice none 0 0, .int .i64 0, .int .i64 0], box b7598 84 [.int .i64 x0.fValue, p0_0, .int .i64 x0.fRule.fNeed, .int .i64 x0.fRule.fAfter]] := HM.call hn
 have hS := Mem.suf (M := [own kInt 2 u7608 t7606.fKeys, box b7601 84 [.int .i64 0, .slice none 0 0, .int .i64 0, .int .i64 0]]) HM
 refine ⟨hS, ?_⟩
 refine dp rfl rfl rfl rfl (ex_build1 (fun u7608 => [(0, .int .i64 x0.fValue), (1, .agg #[u7608, (.int .i64 t7606.fNeed), (.int .i64 t7606.fAfter)])]) (fun u7608 => #[.int .i64 x0.fValue, u7608, .int .i64 t7606.fNeed, .int .i64 t7606.fAfter]) rfl rfl (fun _ _ _ => by kernel_rfl) (HM.own_rd 0 rfl).isSl) hS ?_
 replace HM := HM.front 1 rfl rfl
 refine drwp_oneS rfl (guard_none rfl) rfl (does_store (vs := [.int .i64 x0.fValue, u7608, .int .i64 t7606.fNeed, .int .i64 t7606.fAfter]) (cs' := [.int .i64 x0.fValue, u7608, .int .i64 t7606.fNeed, .int .i64 t7606.fAfter]) rfl rfl rfl rfl tsz84 (Ones.int (Ones.rd (HM.own_rd 1 rfl) (Ones.int (Ones.int Ones.nil)))) rfl rfl HM) ?_
 rintro w7611 HM
 have hS := Mem.suf (M := [box b7601 84 [.int .i64 x0.fValue, u7608, .int .i64 t7606.fNeed, .int .i64 t7606.fAfter], own kInt 2 u7608 t7606.fKeys]) HM
 refine ⟨hS, ?_⟩
 refine drwp_done ?_
 refine at_then ?_
 refine run_ret ?_
 replace HM := (HM.front 2 rfl rfl).drop
 have hcb0 := HM.box_at 0 rfl
 replace HM := (HM.front 0 rfl rfl).drop
 have hR := Option.some.inj H
 subst hR
 exact at_retN rfl rfl Tryz.underlying84 rfl tsz84 rfl hcb0 ⟨_, rfl, _, rfl, HM⟩

def impl_ownCoins.l0 (x0 : List Coin) : Nat → (List Coin) → Int → Option ((List Coin))
 | 0, _, _ => none
 | k + 1, a7753, a7755 => (bif (decide (a7755 < (x0.length : Int))) then (chk (idxOk a7755 x0.length) ((impl_ownOut.f k ((gt x0 a7755).fOut)).bind fun t7786 => (chk (leB ((a7753.length + ([(⟨(gt x0 a7755).fRef, t7786, (gt x0 a7755).fHeight, (gt x0 a7755).fMined⟩ : Coin)] : List Coin).length) * 80) 140737488355328) (impl_ownCoins.l0 x0 k (a7753 ++ ([(⟨(gt x0 a7755).fRef, t7786, (gt x0 a7755).fHeight, (gt x0 a7755).fMined⟩ : Coin)] : List Coin)) (wrap64 (a7755 + 1)))))) else some a7753)
theorem impl_ownCoins.l0_z (x0 : List Coin) (a7753 : List Coin) (a7755 : Int) : impl_ownCoins.l0 x0 0 a7753 a7755 = none := rfl
theorem impl_ownCoins.l0_s (x0 : List Coin) (k : Nat) (a7753 : List Coin) (a7755 : Int) : impl_ownCoins.l0 x0 (k + 1) a7753 a7755 = (bif (decide (a7755 < (x0.length : Int))) then (chk (idxOk a7755 x0.length) ((impl_ownOut.f k ((gt x0 a7755).fOut)).bind fun t7786 => (chk (leB ((a7753.length + ([(⟨(gt x0 a7755).fRef, t7786, (gt x0 a7755).fHeight, (gt x0 a7755).fMined⟩ : Coin)] : List Coin).length) * 80) 140737488355328) (impl_ownCoins.l0 x0 k (a7753 ++ ([(⟨(gt x0 a7755).fRef, t7786, (gt x0 a7755).fHeight, (gt x0 a7755).fMined⟩ : Coin)] : List Coin)) (wrap64 (a7755 + 1)))))) else some a7753) := rfl
def impl_ownCoins.f (k : Nat) (x0 : List Coin) : Option ((List Coin)) := ((impl_ownCoins.l0 x0 k ([] : List Coin) 0).bind (fun a7730 => some a7730))
theorem impl_ownCoins.calls {k : Nat} {x0 : List Coin} {p0 : Value} {w : World} (hp0 : RdS kCoin w p0 x0) {r : (List Coin)} (H : impl_ownCoins.f k x0 = some r) :
  Calls Tryz.prog 105 ([p0] : List Value).toArray w (fun e w_ => ∃ v, e = .returned v ∧ ∃ u0 : Value, v = u0 ∧ Mem w [] w_ [own kCoin 86 u0 r]) := by
 have HM := Mem.start w
 refine calls_run (N := 23) Tryz.func105 rfl rfl rfl rfl ?_
 unfold impl_ownCoins.f at H
 refine run_seq ?_
 refine run_region rfl ?_
 refine ox rfl rfl rfl rfl (ex_assign rfl rfl) ?_
 refine ops_nil (at_then (run_seq ?_))
 refine run_region rfl ?_
 refine od rfl rfl rfl rfl (does_lit (e := 86) (cs := []) (xs := ([] : List Coin)) kCoin rfl rfl (fun _ => by kernel_rfl) rfl rfl (fun _ _ h => by have h' : _ = [] := h; subst h'; exact .nil) HM.emp) ?_
 rintro v7667 w7670 HM
 refine ox rfl rfl rfl rfl (ex_assign rfl rfl) ?_
 refine ops_nil (at_then ?_)
 obtain ⟨o7732, ho7733, H⟩ := bind_some H
 refine run_mid (fun ρ_ w_ => ∃ v7729 : Value, ∃ a7730 : List Coin, a7730 = o7732 ∧ ρ_ = [(3, v7729)] ∧ Mem w [] w_ [own kCoin 86 v7729 a7730]) ?_ ?_
 ·clear H
  refine run_seq ?_
  refine run_region rfl ?_
  refine ox rfl rfl rfl rfl (ex_move rfl rfl) ?_
  refine ox rfl rfl rfl rfl (ex_len (d := kCoin) (xs := x0) rfl rfl Tryz.underlying41 hp0) ?_
  refine ox rfl rfl rfl rfl (ex_move rfl rfl) ?_
  refine ops_nil (at_then ?_)
  refine run_block ?_
  refine run_loop (fun k_ ρ_ w_ => ∃ v7752 : Value, ∃ a7753 : List Coin, ∃ a7755 : Int, impl_ownCoins.l0 x0 k_ a7753 a7755 = some o7732 ∧ ρ_ = [(3, v7752), (7, p0), (8, .int .i64 (x0.length : Int)), (9, .int .i64 a7755)] ∧ Mem w [] w_ [own kCoin 86 v7752 a7753]) k (ρ1 := [(3, v7667), (7, p0), (8, .int .i64 (x0.length : Int)), (9, .int .i64 0)]) ⟨_, _, _, ho7733, rfl, HM⟩ (Sub.cons rfl (Sub.cons rfl (Sub.cons rfl (Sub.cons rfl Sub.nil)))) ?_
  clear HM ho7733
  rintro k7774 _ w7775 ⟨v7752, a7753, a7755, ho7733, rfl, HM⟩
  obtain _ | k7774 := k7774
  ·exact nomatch ((impl_ownCoins.l0_z x0 a7753 a7755).symm.trans ho7733)
  replace ho7733 := (impl_ownCoins.l0_s x0 k7774 a7753 a7755).symm.trans ho7733
  refine run_seq ?_
  refine run_region rfl ?_
  refine ox rfl rfl rfl rfl (ex_lss rfl rfl rfl) ?_
  refine ops_nil (at_then (run_seq ?_))
  refine run_cond (b := (decide (a7755 < (x0.length : Int)))) rfl (fun hb7776 => ?_) (fun hb7776 => ?_)
  ·replace ho7733 := cond_t hb7776 ho7733
   refine run_skip ?_
   refine at_then ?_
   refine run_seq ?_
   refine run_block ?_
   refine run_seq ?_
   obtain ⟨e7777, ho7733⟩ := chk_some ho7733
   refine run_region rfl ?_
   obtain ⟨kv7779, hc7778, hk7780⟩ : ∃ u, CellsAt _ (sb p0) (so p0 + (a7755).toNat * 8) [(.int .i64 ((gt x0 a7755).fRef.fTx)), (.int .i64 ((gt x0 a7755).fRef.fAt)), (.int .i64 ((gt x0 a7755).fOut.fValue)), u, (.int .i64 ((gt x0 a7755).fOut.fRule.fNeed)), (.int .i64 ((gt x0 a7755).fOut.fRule.fAfter)), (.int .i64 ((gt x0 a7755).fHeight)), (.bool ((gt x0 a7755).fMined))] ∧ RdS kInt _ u ((gt x0 a7755).fOut.fRule.fKeys) := rd_with1 hp0 e7777
   refine ox rfl rfl rfl rfl (ex_indexAddr (d := kCoin) rfl rfl rfl Tryz.underlying41 tsz86 hp0 (idx_lo e7777) (idx_hi e7777)) ?_
   refine ox rfl rfl rfl rfl (ex_loadN (cs := [(.int .i64 ((gt x0 a7755).fRef.fTx)), (.int .i64 ((gt x0 a7755).fRef.fAt)), (.int .i64 ((gt x0 a7755).fOut.fValue)), kv7779, (.int .i64 ((gt x0 a7755).fOut.fRule.fNeed)), (.int .i64 ((gt x0 a7755).fOut.fRule.fAfter)), (.int .i64 ((gt x0 a7755).fHeight)), (.bool ((gt x0 a7755).fMined))]) rfl rfl Tryz.underlying86 rfl tsz86 rfl ((HM.at_ hc7778).sub 0 8 rfl)) ?_
   refine od rfl rfl rfl rfl (does_alloc (cs := [.int .i64 0, .int .i64 0, .int .i64 0, .slice none 0 0, .int .i64 0, .int .i64 0, .int .i64 0, .bool false]) rfl tz86 rfl HM) ?_
   rintro _ w7784 ⟨b7781, rfl, HM⟩
   refine odS rfl rfl rfl (does_store (vs := [.int .i64 ((gt x0 a7755).fRef.fTx), .int .i64 ((gt x0 a7755).fRef.fAt), .int .i64 ((gt x0 a7755).fOut.fValue), kv7779, .int .i64 ((gt x0 a7755).fOut.fRule.fNeed), .int .i64 ((gt x0 a7755).fOut.fRule.fAfter), .int .i64 ((gt x0 a7755).fHeight), .bool ((gt x0 a7755).fMined)]) (cs' := [.int .i64 ((gt x0 a7755).fRef.fTx), .int .i64 ((gt x0 a7755).fRef.fAt), .int .i64 ((gt x0 a7755).fOut.fValue), kv7779, .int .i64 ((gt x0 a7755).fOut.fRule.fNeed), .int .i64 ((gt x0 a7755).fOut.fRule.fAfter), .int .i64 ((gt x0 a7755).fHeight), .bool ((gt x0 a7755).fMined)]) rfl rfl rfl rfl tsz86 (Ones.int (Ones.int (Ones.int (Ones.rd hk7780 (Ones.int (Ones.int (Ones.int (Ones.bool Ones.nil)))))))) rfl rfl HM) ?_
   rintro w7785 HM
   refine ops_nil (at_then (run_seq ?_))
   obtain ⟨t7786, h7787, ho7733⟩ := bind_some ho7733
   refine run_region rfl ?_
   refine ox rfl rfl rfl rfl (ex_fieldAddr (off' := 2) rfl rfl Tryz.underlying86 rfl tsz84 rfl) ?_
   refine ox rfl rfl rfl rfl (ex_loadN (cs := [(.int .i64 ((gt x0 a7755).fOut.fValue)), kv7779, (.int .i64 ((gt x0 a7755).fOut.fRule.fNeed)), (.int .i64 ((gt x0 a7755).fOut.fRule.fAfter))]) rfl rfl Tryz.underlying84 rfl tsz84 rfl ((HM.box_at 0 rfl).sub 2 4 rfl)) ?_
   refine od rfl rfl rfl rfl (does_callk rfl callok122 rfl (impl_ownOut.calls (x0 := (gt x0 a7755).fOut) (HM.rd hk7780) h7787)) ?_
   rintro _ w7790 ⟨u7788, rfl, hn⟩
   replace HM : Mem w [] w7790 [own kInt 2 u7788 t7786.fRule.fKeys, box b7781 86 [.int .i64 ((gt x0 a7755).fRef.fTx), .int .i64 ((gt x0 a7755).fRef.fAt), .int .i64 ((gt x0 a7755).fOut.fValue), kv7779, .int .i64 ((gt x0 a7755).fOut.fRule.fNeed), .int .i64 ((gt x0 a7755).fOut.fRule.fAfter), .int .i64 ((gt x0 a7755).fHeight), .bool ((gt x0 a7755).fMined)], own kCoin 86 v7752 a7753] := HM.call hn
   refine ox rfl rfl rfl rfl (ex_fieldAddr (off' := 2) rfl rfl Tryz.underlying86 rfl tsz84 rfl) ?_
   replace HM := HM.front 1 rfl rfl
   refine odS rfl rfl rfl (does_store (vs := [.int .i64 t7786.fValue, u7788, .int .i64 t7786.fRule.fNeed, .int .i64 t7786.fRule.fAfter]) (cs' := [.int .i64 ((gt x0 a7755).fRef.fTx), .int .i64 ((gt x0 a7755).fRef.fAt), .int .i64 t7786.fValue, u7788, .int .i64 t7786.fRule.fNeed, .int .i64 t7786.fRule.fAfter, .int .i64 ((gt x0 a7755).fHeight), .bool ((gt x0 a7755).fMined)]) rfl rfl rfl rfl tsz84 (Ones.int (Ones.rd (HM.own_rd 1 rfl) (Ones.int (Ones.int Ones.nil)))) rfl rfl HM) ?_
   rintro w7791 HM
   refine ops_nil (at_then ?_)
   obtain ⟨e7795, ho7733⟩ := chk_some ho7733
   refine run_region rfl ?_
   refine ox rfl rfl rfl rfl (ex_move rfl rfl) ?_
   refine ox rfl rfl rfl rfl (ex_loadN (cs := [(.int .i64 ((gt x0 a7755).fRef.fTx)), (.int .i64 ((gt x0 a7755).fRef.fAt)), (.int .i64 t7786.fValue), u7788, (.int .i64 t7786.fRule.fNeed), (.int .i64 t7786.fRule.fAfter), (.int .i64 ((gt x0 a7755).fHeight)), (.bool ((gt x0 a7755).fMined))]) rfl rfl Tryz.underlying86 rfl tsz86 rfl ((HM.box_at 0 rfl).sub 0 8 rfl)) ?_
   replace HM := HM.front 1 rfl rfl
   refine od rfl rfl rfl rfl (does_lit (e := 86) (cs := [(.int .i64 ((gt x0 a7755).fRef.fTx)), (.int .i64 ((gt x0 a7755).fRef.fAt)), (.int .i64 t7786.fValue), u7788, (.int .i64 t7786.fRule.fNeed), (.int .i64 t7786.fRule.fAfter), (.int .i64 ((gt x0 a7755).fHeight)), (.bool ((gt x0 a7755).fMined))]) (xs := ([(⟨(gt x0 a7755).fRef, t7786, (gt x0 a7755).fHeight, (gt x0 a7755).fMined⟩ : Coin)] : List Coin)) kCoin rfl rfl (fun _ => by kernel_rfl) rfl rfl (fun _ _ h => by have := Elems.cons (d := kCoin) (x := (⟨(gt x0 a7755).fRef, t7786, (gt x0 a7755).fHeight, (gt x0 a7755).fMined⟩ : Coin)) ⟨_, rfl, h⟩ .nil; rw [List.append_nil, List.append_nil] at this; exact this) HM) ?_
   rintro v7792 w7798 HM
   replace HM := HM.front 2 rfl rfl
   refine od rfl rfl rfl rfl (does_append kCoin rfl rfl rfl Tryz.underlying41 tsz86 rfl tby86 tz86 rfl rfl (leB_le e7795) HM) ?_
   rintro v7796 w7799 HM
   refine ox rfl rfl rfl rfl (ex_assign rfl rfl) ?_
   refine ops_nil ?_
   refine at_block ?_
   refine at_then ?_
   refine run_region rfl ?_
   refine ox rfl rfl rfl rfl (ex_add rfl rfl rfl) ?_
   refine ox rfl rfl rfl rfl (ex_move rfl rfl) ?_
   refine ops_nil ?_
   replace HM := (HM.front 1 rfl rfl).drop
   exact at_again k7774 (ρ1 := [(3, v7796), (7, p0), (8, .int .i64 (x0.length : Int)), (9, .int .i64 (wrap64 (a7755 + 1)))]) (Nat.lt_succ_self _) ⟨_, _, _, ho7733, rfl, HM⟩ (Sub.cons rfl (Sub.cons rfl (Sub.cons rfl (Sub.cons rfl Sub.nil))))
  ·replace ho7733 := cond_f hb7776 ho7733
   refine run_exit ?_
   refine at_then_exit ?_
   refine at_then_exit ?_
   refine at_block_exit ?_
   exact at_mid (ρ' := [(3, v7752)]) ⟨_, _, (Option.some.inj ho7733), rfl, HM⟩ (Sub.cons rfl Sub.nil)
 ·rintro _ w7800 ⟨v7729, a7730, rfl, rfl, HM⟩
  refine run_seq ?_
  refine run_region rfl ?_
  refine ox rfl rfl rfl rfl (ex_move rfl rfl) ?_
  refine ox rfl rfl rfl rfl (ex_assign rfl rfl) ?_
  refine ops_nil (at_then ?_)
  refine run_ret ?_
  have hR := Option.some.inj H
  subst hR
  exact at_ret1 rfl rfl ⟨_, rfl, _, rfl, HM⟩

def srtI (x y : Int) : Int := bif decide (x < y) then -1 else bif decide (y < x) then 1 else 0
def srtC (a b : Ref) : Int := bif srtI a.fTx b.fTx != 0 then srtI a.fTx b.fTx else srtI a.fAt b.fAt
theorem srtI_lt {x y : Int} : srtI x y < 0 ↔ x < y := by
 unfold srtI
 by_cases h : x < y
 ·simp [h]
 ·by_cases h2 : y < x <;> simp [h, h2]
theorem srtI_0 {x y : Int} : srtI x y = 0 ↔ x = y := by
 unfold srtI
 by_cases h : x < y
 ·simp [h]; omega
 ·by_cases h2 : y < x
  ·simp [h, h2]; omega
  ·simp [h, h2]; omega
theorem srtC_lt {a b : Ref} : srtC a b < 0 ↔ a.fTx < b.fTx ∨ a.fTx = b.fTx ∧ a.fAt < b.fAt := by
 unfold srtC
 cases h : srtI a.fTx b.fTx != 0
 ·have h0 : srtI a.fTx b.fTx = 0 := by simpa using h
  have h1 := srtI_0.1 h0
  rw [cond_false, srtI_lt]; omega
 ·have h0 : srtI a.fTx b.fTx ≠ 0 := by simpa using h
  have h1 : a.fTx ≠ b.fTx := fun e => h0 (srtI_0.2 e)
  rw [cond_true, srtI_lt]; omega
abbrev SrtT := Coin × (Option Addr × Nat × Nat)
def srtEnc (s : SrtT) : List Value := [.int .i64 s.1.fRef.fTx, .int .i64 s.1.fRef.fAt, .int .i64 s.1.fOut.fValue, .slice s.2.1 s.2.2.1 s.2.2.2, .int .i64 s.1.fOut.fRule.fNeed, .int .i64 s.1.fOut.fRule.fAfter, .int .i64 s.1.fHeight, .bool s.1.fMined]
theorem srt_swo : Go.Sort.SWO (ltOf fun x y : SrtT => srtC x.1.fRef y.1.fRef) where
 irrefl x := by
  show decide _ = false
  rw [decide_eq_false_iff_not, srtC_lt]; omega
 trans x y z h1 h2 := by
  have h1' := srtC_lt.1 (of_decide_eq_true h1)
  have h2' := srtC_lt.1 (of_decide_eq_true h2)
  show decide _ = true
  rw [decide_eq_true_eq, srtC_lt]; omega
 ntrans x y z h1 h2 := by
  have h1' : ¬ srtC x.1.fRef y.1.fRef < 0 := of_decide_eq_false h1
  have h2' : ¬ srtC y.1.fRef z.1.fRef < 0 := of_decide_eq_false h2
  rw [srtC_lt] at h1' h2'
  show decide _ = false
  rw [decide_eq_false_iff_not, srtC_lt]; omega
def refLe (a b : Coin) : Bool := decide (a.fRef.fTx < b.fRef.fTx) || (decide (a.fRef.fTx = b.fRef.fTx) && decide (a.fRef.fAt ≤ b.fRef.fAt))
theorem refLe_iff {a b : Coin} : refLe a b = true ↔ a.fRef.fTx < b.fRef.fTx ∨ a.fRef.fTx = b.fRef.fTx ∧ a.fRef.fAt ≤ b.fRef.fAt := by
 unfold refLe
 rw [Bool.or_eq_true, Bool.and_eq_true, decide_eq_true_eq, decide_eq_true_eq, decide_eq_true_eq]
theorem refLe_not {a b : Coin} : ltOf (fun x y : Coin => srtC x.fRef y.fRef) b a = false → refLe a b = true := fun h => by
 have h1 : ¬ srtC b.fRef a.fRef < 0 := of_decide_eq_false h
 rw [srtC_lt] at h1
 rw [refLe_iff]; omega
def refKey (c : Coin) : Int × Int := (c.fRef.fTx, c.fRef.fAt)
theorem key_inj : ∀ {xs : List Coin}, (xs.map refKey).Nodup → ∀ a ∈ xs, ∀ b ∈ xs, refKey a = refKey b → a = b
 | [], _, a, ha, _, _, _ => by simp at ha
 | x :: xs, h, a, ha, b, hb, e => by
  rw [List.map_cons, List.nodup_cons] at h
  rcases List.mem_cons.1 ha with ha | ha <;> rcases List.mem_cons.1 hb with hb | hb
  ·rw [ha, hb]
  ·exact absurd (List.mem_map.2 ⟨b, hb, by rw [← e, ha]⟩) h.1
  ·exact absurd (List.mem_map.2 ⟨a, ha, by rw [e, hb]⟩) h.1
  ·exact key_inj h.2 a ha b hb e
theorem sorted_uniq {α : Type} {le : α → α → Bool} : ∀ {l m : List α}, l.Perm m → l.Pairwise (fun a b => le a b = true) → m.Pairwise (fun a b => le a b = true) → (∀ a ∈ l, ∀ b ∈ l, le a b = true → le b a = true → a = b) → l = m
 | [], m, h, _, _, _ => (List.nil_perm.1 h).symm
 | a :: l, [], h, _, _, _ => by have := h.length_eq; simp at this
 | a :: l, b :: m, h, h1, h2, h3 => by
  rw [List.pairwise_cons] at h1 h2
  have hb : b ∈ a :: l := h.mem_iff.2 (by simp)
  have ha : a ∈ b :: m := h.mem_iff.1 (by simp)
  have e : a = b := by
   rcases List.mem_cons.1 hb with e | hb'
   ·exact e.symm
   ·rcases List.mem_cons.1 ha with e | ha'
    ·exact e
    ·exact h3 a (by simp) b hb (h1.1 b hb') (h2.1 a ha')
  subst e
  rw [sorted_uniq ((List.perm_cons a).1 h) h1.2 h2.2 (fun x hx y hy => h3 x (by simp [hx]) y (by simp [hy]))]
def slices_SortFunc_Coin.f (k : Nat) (x0 : List Coin) : Option (List Coin) := chk (leB x0.length 1000000 && decide ((x0.map refKey).Nodup)) (some (x0.mergeSort refLe))
theorem slices_SortFunc_Coin.calls {k : Nat} {x0 : List Coin} {p0 : Value} {w wo : World} {X : List Nat} (hwo : Olds wo w X) (hX : Hold w [own kCoin 86 p0 x0] X) (hXn : X.Nodup) (hXl : ∀ b ∈ X, b < w.heap.size) {r : List Coin} (H : slices_SortFunc_Coin.f k x0 = some r) :
  Calls Tryz.prog 120 ([p0, .func (.func 121) #[] #[]] : List Value).toArray w (fun e w_ => ∃ v, e = .returned v ∧ v = (.tuple #[]) ∧ Mem w X w_ [own kCoin 86 p0 r]) := by
 obtain ⟨h, H⟩ := chk_some H
 have hR := Option.some.inj H
 subst hR
 rw [Bool.and_eq_true, decide_eq_true_eq] at h
 have hlen := leB_le h.1
 have eg : ∀ args w, (callFunc 121 args).run Tryz.prog w = .ok (.enter 121 args) w := enters_of Tryz.func121 (by kernel_rfl) rfl
 have aE : ∀ w, (isAgg 86).run Tryz.prog w = .ok true w := fun w => by simp [isAgg, run_underlying Tryz.underlying86]
 have zE : ∀ w, (Go.sizeOf 86).run Tryz.prog w = .ok 8 w := fun w => run_sizeOf tsz86
 have hk : ∀ x : SrtT, (srtEnc x).length = 8 := fun _ => rfl
 have h1 : ∀ x : SrtT, ∀ v ∈ srtEnc x, v.oneCell' = true := fun x v hv => by
  simp only [srtEnc, List.mem_cons, List.not_mem_nil, or_false] at hv
  rcases hv with rfl | rfl | rfl | rfl | rfl | rfl | rfl | rfl <;> rfl
 refine (sort_own (d := kCoin) (enc := srtEnc) hk h1 (by decide) (cf := fun x y : SrtT => srtC x.1.fRef y.1.fRef) (fun s x => s.1 = x) ?_
  (fun blk cap dd w hc hH hb hs => AnyQ.slices_SortFunc Tryz.sortCoin 8 aE zE srtEnc hk h1 _ srt_swo 121 #[] blk 0 cap dd w eg hc hH hb hs)
  (fun p cap w => AnyF.slices_SortFunc_none { Tryz.sortCoin with } p cap _ w) (fun W x y => ?_) hX hXn hXl (by omega)).mono fun e w' ⟨he, ys, hp, ⟨ps, q1, q2, q3⟩, hm⟩ => ⟨_, he, rfl, ?_⟩
 ·rintro w x c f ⟨v, hv, ⟨cells, b, fs, hrow, _⟩⟩
  subst hv
  rcases hrow with ⟨A, rfl, _⟩ | ⟨g0, c0, cur, rfl, _⟩
  ·exact ⟨(x, (A, 0, 0)), rfl, rfl⟩
  ·exact ⟨(x, (some ⟨g0, 0, none⟩, _, c0)), rfl, rfl⟩
 ·exact Go.Proofs.YtpfaihnmonfkhaaGreatDoorSq.Zk.cmp_grow W ⟨⟨x.1.fRef.fTx, x.1.fRef.fAt⟩, ⟨x.1.fOut.fValue, ⟨x.1.fOut.fRule.fKeys, x.1.fOut.fRule.fNeed, x.1.fOut.fRule.fAfter⟩⟩, x.1.fHeight, x.1.fMined⟩ ⟨⟨y.1.fRef.fTx, y.1.fRef.fAt⟩, ⟨y.1.fOut.fValue, ⟨y.1.fOut.fRule.fKeys, y.1.fOut.fRule.fNeed, y.1.fOut.fRule.fAfter⟩⟩, y.1.fHeight, y.1.fMined⟩ (u := .slice x.2.1 x.2.2.1 x.2.2.2) (v := .slice y.2.1 y.2.2.1 y.2.2.2) ⟨_, _, _, rfl⟩ ⟨_, _, _, rfl⟩
 ·have hys : ys.Pairwise (fun a b => refLe a b = true) := by
   rw [← q1, List.pairwise_map]
   rw [List.pairwise_map] at q3
   refine q3.imp_of_mem fun {a b} ha hb hab => ?_
   rw [← q2 a ha, ← q2 b hb]
   exact refLe_not hab
  have hms : (x0.mergeSort refLe).Pairwise (fun a b => refLe a b = true) := List.pairwise_mergeSort (fun a b c h1 h2 => by rw [refLe_iff] at *; omega) (fun a b => by
   rw [Bool.or_eq_true, refLe_iff, refLe_iff]; omega) x0
  have e : ys = x0.mergeSort refLe := sorted_uniq (hp.trans (List.mergeSort_perm x0 refLe).symm) hys hms (fun a ha b hb h1 h2 => by
   refine key_inj h.2 a (hp.mem_iff.1 ha) b (hp.mem_iff.1 hb) ?_
   rw [refLe_iff] at h1 h2
   have e1 : a.fRef.fTx = b.fRef.fTx := by omega
   have e2 : a.fRef.fAt = b.fRef.fAt := by omega
   unfold refKey
   rw [e1, e2])
  rw [← e]; exact hm


def impl_sorted.f (k : Nat) (x0 : List Coin) : Option ((List Coin)) := ((slices_SortFunc_Coin.f k x0).bind fun t7816 => some t7816)
theorem impl_sorted.calls {k : Nat} {x0 : List Coin} {p0 : Value} {w wo : World} {X : List Nat} (hwo : Olds wo w X) (hX : Hold w [own kCoin 86 p0 x0] X) (hXn : X.Nodup) (hXl : ∀ b ∈ X, b < w.heap.size)  {r : (List Coin)} (H : impl_sorted.f k x0 = some r) :
  Calls Tryz.prog 104 ([p0] : List Value).toArray w (fun e w_ => ∃ v, e = .returned v ∧ ∃ u0 : Value, v = u0 ∧ Mem w X w_ [own kCoin 86 u0 r]) := by
 have HM := Mem.startX hX hXn hXl
 refine calls_run (N := 6) Tryz.func104 rfl rfl rfl rfl ?_
 unfold impl_sorted.f at H
 refine run_seq ?_
 refine run_region rfl ?_
 refine ox rfl rfl rfl rfl (ex_assign rfl rfl) ?_
 refine ops_nil (at_then (run_seq ?_))
 obtain ⟨t7816, h7817, H⟩ := bind_some H
 refine run_region rfl ?_
 refine ox rfl rfl rfl rfl (ex_move rfl rfl) ?_
 obtain ⟨F7818, hF7819, hFn7820, hFl7821, HMh7822, hcl7823⟩ := HM.hide (Ms := [own kCoin 86 p0 x0])
 refine od rfl rfl rfl rfl (does_callk rfl callok120 rfl (slices_SortFunc_Coin.calls (x0 := x0) (hide_olds _ _) hF7819 hFn7820 hFl7821 h7817)) ?_
 rintro _ w7824 ⟨rfl, hn⟩
 replace HM : Mem w X w7824 [own kCoin 86 p0 t7816] := hcl7823 _ _ hn
 refine ops_nil (at_then (run_seq ?_))
 refine run_region rfl ?_
 refine ox rfl rfl rfl rfl (ex_move rfl rfl) ?_
 refine ox rfl rfl rfl rfl (ex_assign rfl rfl) ?_
 refine ops_nil (at_then ?_)
 refine run_ret ?_
 have hR := Option.some.inj H
 subst hR
 exact at_ret1 rfl rfl ⟨_, rfl, _, rfl, HM⟩

def impl_spentBy.l0 (x0 : List Coin) (x1 : Tx) : Nat → (List Coin) → Int → Option (((List Coin) × Int) ⊕ ((List Coin)))
 | 0, _, _ => none
 | k + 1, a7933, a7935 => (bif (decide (a7935 < (x1.fIns.length : Int))) then (chk (idxOk a7935 x1.fIns.length) ((impl_findCoin.f k x0 (gt x1.fIns a7935)).bind fun t7966 => (bif !t7966.2 then some (.inl (([] : List Coin), 4)) else (chk (idxOk t7966.1 x0.length) (chk (leB ((a7933.length + ([(gt x0 t7966.1)] : List Coin).length) * 80) 140737488355328) (impl_spentBy.l0 x0 x1 k (a7933 ++ ([(gt x0 t7966.1)] : List Coin)) (wrap64 (a7935 + 1)))))))) else some (.inr a7933))
theorem impl_spentBy.l0_z (x0 : List Coin) (x1 : Tx) (a7933 : List Coin) (a7935 : Int) : impl_spentBy.l0 x0 x1 0 a7933 a7935 = none := rfl
theorem impl_spentBy.l0_s (x0 : List Coin) (x1 : Tx) (k : Nat) (a7933 : List Coin) (a7935 : Int) : impl_spentBy.l0 x0 x1 (k + 1) a7933 a7935 = (bif (decide (a7935 < (x1.fIns.length : Int))) then (chk (idxOk a7935 x1.fIns.length) ((impl_findCoin.f k x0 (gt x1.fIns a7935)).bind fun t7966 => (bif !t7966.2 then some (.inl (([] : List Coin), 4)) else (chk (idxOk t7966.1 x0.length) (chk (leB ((a7933.length + ([(gt x0 t7966.1)] : List Coin).length) * 80) 140737488355328) (impl_spentBy.l0 x0 x1 k (a7933 ++ ([(gt x0 t7966.1)] : List Coin)) (wrap64 (a7935 + 1)))))))) else some (.inr a7933)) := rfl
def impl_spentBy.f (k : Nat) (x0 : List Coin) (x1 : Tx) : Option ((List Coin) × Int) := ((impl_spentBy.l0 x0 x1 k ([] : List Coin) 0).bind fun o7910 => thn o7910 (fun r => some r) (fun a7908 => ((impl_ownCoins.f k a7908).bind fun t7985 => ((impl_sorted.f k t7985).bind fun t7989 => some (t7989, 0)))))
theorem impl_spentBy.calls {k : Nat} {x0 : List Coin} {x1 : Tx} {p0 : Value} {p1_0 : Value} {p1_1 : Value} {w : World} (hp0 : RdS kCoin w p0 x0) (hp1_0 : RdS kRef w p1_0 x1.fIns) (hp1_1 : RdS kOut w p1_1 x1.fOuts) {r : (List Coin) × Int} (H : impl_spentBy.f k x0 x1 = some r) :
  Calls Tryz.prog 75 ([p0, .agg #[(.int .i64 x1.fKind), (.int .i64 x1.fMember), p1_0, p1_1]] : List Value).toArray w (fun e w_ => ∃ v, e = .returned v ∧ ∃ u0 : Value, v = (.tuple #[u0, .int .i64 r.2]) ∧ Mem w [] w_ [own kCoin 86 u0 r.1]) := by
 have HM := Mem.start w
 refine calls_run (N := 38) Tryz.func75 rfl rfl rfl rfl ?_
 unfold impl_spentBy.f at H
 refine run_seq ?_
 refine run_region rfl ?_
 refine od rfl rfl rfl rfl (does_box (cs := [.int .i64 x1.fKind, .int .i64 x1.fMember, p1_0, p1_1]) rfl rfl rfl HM) ?_
 rintro _ w7838 ⟨b7835, rfl, HM⟩
 refine ox rfl rfl rfl rfl (ex_assign rfl rfl) ?_
 refine ox rfl rfl rfl rfl (ex_assign rfl rfl) ?_
 refine ops_nil (at_then (run_seq ?_))
 refine run_region rfl ?_
 refine od rfl rfl rfl rfl (does_lit (e := 86) (cs := []) (xs := ([] : List Coin)) kCoin rfl rfl (fun _ => by kernel_rfl) rfl rfl (fun _ _ h => by have h' : _ = [] := h; subst h'; exact .nil) HM.emp) ?_
 rintro v7839 w7842 HM
 refine ox rfl rfl rfl rfl (ex_assign rfl rfl) ?_
 refine ops_nil (at_then ?_)
 obtain ⟨o7910, ho7911, H⟩ := bind_some H
 refine run_mid (fun ρ_ w_ => ∃ v7907 : Value, ∃ a7908 : List Coin, Sum.inr a7908 = o7910 ∧ ρ_ = [(6, v7907)] ∧ Mem w [] w_ [own (Kd.lent w kCoin with1_one) 86 v7907 a7908]) ?_ ?_
 ·skip
  refine run_seq ?_
  refine run_region rfl ?_
  refine ox rfl rfl rfl rfl (ex_fieldAddr (off' := 2) rfl rfl Tryz.underlying46 rfl tsz43 rfl) ?_
  refine ox rfl rfl rfl rfl (ex_load1 rfl rfl Tryz.underlying43 rfl ((HM.box_at 1 rfl) 2 _ rfl)) ?_
  refine ox rfl rfl rfl rfl (ex_len (d := kRef) (xs := x1.fIns) rfl rfl Tryz.underlying43 hp1_0) ?_
  refine ox rfl rfl rfl rfl (ex_move rfl rfl) ?_
  refine ops_nil (at_then ?_)
  refine run_block ?_
  replace HM := Mem.relent (d := kCoin) (d' := (Kd.lent w kCoin with1_one)) rfl HM
  replace HM := (HM.front 1 rfl rfl).drop
  refine run_loop (fun k_ ρ_ w_ => ∃ v7932 : Value, ∃ a7933 : List Coin, ∃ a7935 : Int, impl_spentBy.l0 x0 x1 k_ a7933 a7935 = some o7910 ∧ ρ_ = [(0, p0), (6, v7932), (13, p1_0), (14, .int .i64 (x1.fIns.length : Int)), (15, .int .i64 a7935)] ∧ Mem w [] w_ [own (Kd.lent w kCoin with1_one) 86 v7932 a7933]) k (ρ1 := [(0, p0), (6, v7839), (13, p1_0), (14, .int .i64 (x1.fIns.length : Int)), (15, .int .i64 0)]) ⟨_, _, _, ho7911, rfl, HM⟩ (Sub.cons rfl (Sub.cons rfl (Sub.cons rfl (Sub.cons rfl (Sub.cons rfl Sub.nil))))) ?_
  clear HM ho7911
  rintro k7956 _ w7957 ⟨v7932, a7933, a7935, ho7911, rfl, HM⟩
  obtain _ | k7956 := k7956
  ·exact nomatch ((impl_spentBy.l0_z x0 x1 a7933 a7935).symm.trans ho7911)
  replace ho7911 := (impl_spentBy.l0_s x0 x1 k7956 a7933 a7935).symm.trans ho7911
  refine run_seq ?_
  refine run_region rfl ?_
  refine ox rfl rfl rfl rfl (ex_lss rfl rfl rfl) ?_
  refine ops_nil (at_then (run_seq ?_))
  refine run_cond (b := (decide (a7935 < (x1.fIns.length : Int)))) rfl (fun hb7958 => ?_) (fun hb7958 => ?_)
  ·replace ho7911 := cond_t hb7958 ho7911
   refine run_skip ?_
   refine at_then ?_
   refine run_seq ?_
   refine run_block ?_
   refine run_seq ?_
   obtain ⟨e7959, ho7911⟩ := chk_some ho7911
   refine run_region rfl ?_
   have hc7960 : CellsAt _ (sb p1_0) (so p1_0 + (a7935).toNat * 2) [(.int .i64 ((gt x1.fIns a7935).fTx)), (.int .i64 ((gt x1.fIns a7935).fAt))] := rd_plain hp1_0 e7959
   refine ox rfl rfl rfl rfl (ex_indexAddr (d := kRef) rfl rfl rfl Tryz.underlying43 tsz81 hp1_0 (idx_lo e7959) (idx_hi e7959)) ?_
   refine ox rfl rfl rfl rfl (ex_loadN (cs := [(.int .i64 ((gt x1.fIns a7935).fTx)), (.int .i64 ((gt x1.fIns a7935).fAt))]) rfl rfl Tryz.underlying81 rfl tsz81 rfl ((HM.at_ hc7960).sub 0 2 rfl)) ?_
   refine od rfl rfl rfl rfl (does_alloc (cs := [.int .i64 0, .int .i64 0]) rfl tz81 rfl HM) ?_
   rintro _ w7964 ⟨b7961, rfl, HM⟩
   refine odS rfl rfl rfl (does_store (vs := [.int .i64 ((gt x1.fIns a7935).fTx), .int .i64 ((gt x1.fIns a7935).fAt)]) (cs' := [.int .i64 ((gt x1.fIns a7935).fTx), .int .i64 ((gt x1.fIns a7935).fAt)]) rfl rfl rfl rfl tsz81 (Ones.int (Ones.int Ones.nil)) rfl rfl HM) ?_
   rintro w7965 HM
   refine ops_nil (at_then (run_seq ?_))
   obtain ⟨t7966, h7967, ho7911⟩ := bind_some ho7911
   refine run_region rfl ?_
   refine ox rfl rfl rfl rfl (ex_move rfl rfl) ?_
   refine ox rfl rfl rfl rfl (ex_loadN (cs := [(.int .i64 ((gt x1.fIns a7935).fTx)), (.int .i64 ((gt x1.fIns a7935).fAt))]) rfl rfl Tryz.underlying81 rfl tsz81 rfl ((HM.box_at 0 rfl).sub 0 2 rfl)) ?_
   refine od rfl rfl rfl rfl (does_callk rfl callok103 rfl (impl_findCoin.calls (x0 := x0) (x1 := (gt x1.fIns a7935)) (HM.rd hp0) h7967)) ?_
   rintro _ w7968 ⟨rfl, hn⟩
   replace HM : Mem w [] w7968 [box b7961 81 [.int .i64 ((gt x1.fIns a7935).fTx), .int .i64 ((gt x1.fIns a7935).fAt)], own (Kd.lent w kCoin with1_one) 86 v7932 a7933] := HM.call hn
   refine ox rfl rfl rfl rfl (ex_move rfl rfl) ?_
   refine ox rfl rfl rfl rfl (ex_extract rfl rfl rfl) ?_
   refine ox rfl rfl rfl rfl (ex_extract rfl rfl rfl) ?_
   refine ox rfl rfl rfl rfl (ex_assign rfl rfl) ?_
   refine ox rfl rfl rfl rfl (ex_assign rfl rfl) ?_
   refine ops_nil (at_then (run_seq ?_))
   refine run_seq ?_
   refine run_region rfl ?_
   refine ox rfl rfl rfl rfl (ex_move rfl rfl) ?_
   refine ox rfl rfl rfl rfl (ex_not rfl rfl) ?_
   refine ops_nil (at_then ?_)
   refine run_cond (b := !t7966.2) rfl (fun hb7970 => ?_) (fun hb7970 => ?_)
   ·replace ho7911 := cond_t hb7970 ho7911
    refine run_seq ?_
    refine run_region rfl ?_
    refine ox rfl rfl rfl rfl (ex_assign rfl rfl) ?_
    refine ox rfl rfl rfl rfl (ex_assign rfl rfl) ?_
    refine ops_nil (at_then ?_)
    refine run_ret ?_
    refine at_then_ret ?_
    refine at_block_ret ?_
    refine at_then_ret ?_
    refine at_then_ret ?_
    refine at_block_ret ?_
    refine at_then_ret ?_
    replace HM := HM.empty kCoin 86 none
    replace HM := (HM.front 1 rfl rfl).drop
    replace HM := (HM.front 1 rfl rfl).drop
    have hR := Option.some.inj ho7911
    subst hR
    have hT := thn_inl H
    have hR := Option.some.inj hT
    subst hR
    exact at_ret2 rfl rfl rfl ⟨_, rfl, _, rfl, HM⟩
   ·replace ho7911 := cond_f hb7970 ho7911
    refine run_skip ?_
    refine at_then ?_
    obtain ⟨e7972, ho7911⟩ := chk_some ho7911
    obtain ⟨e7979, ho7911⟩ := chk_some ho7911
    refine run_region rfl ?_
    refine ox rfl rfl rfl rfl (ex_move rfl rfl) ?_
    refine ox rfl rfl rfl rfl (ex_move rfl rfl) ?_
    refine ox rfl rfl rfl rfl (ex_move rfl rfl) ?_
    obtain ⟨kv7974, hc7973, hk7975⟩ : ∃ u, CellsAt _ (sb p0) (so p0 + (t7966.1).toNat * 8) [(.int .i64 ((gt x0 t7966.1).fRef.fTx)), (.int .i64 ((gt x0 t7966.1).fRef.fAt)), (.int .i64 ((gt x0 t7966.1).fOut.fValue)), u, (.int .i64 ((gt x0 t7966.1).fOut.fRule.fNeed)), (.int .i64 ((gt x0 t7966.1).fOut.fRule.fAfter)), (.int .i64 ((gt x0 t7966.1).fHeight)), (.bool ((gt x0 t7966.1).fMined))] ∧ RdS kInt _ u ((gt x0 t7966.1).fOut.fRule.fKeys) := rd_with1 hp0 e7972
    refine ox rfl rfl rfl rfl (ex_indexAddr (d := kCoin) rfl rfl rfl Tryz.underlying41 tsz86 hp0 (idx_lo e7972) (idx_hi e7972)) ?_
    refine ox rfl rfl rfl rfl (ex_loadN (cs := [(.int .i64 ((gt x0 t7966.1).fRef.fTx)), (.int .i64 ((gt x0 t7966.1).fRef.fAt)), (.int .i64 ((gt x0 t7966.1).fOut.fValue)), kv7974, (.int .i64 ((gt x0 t7966.1).fOut.fRule.fNeed)), (.int .i64 ((gt x0 t7966.1).fOut.fRule.fAfter)), (.int .i64 ((gt x0 t7966.1).fHeight)), (.bool ((gt x0 t7966.1).fMined))]) rfl rfl Tryz.underlying86 rfl tsz86 rfl ((HM.at_ hc7973).sub 0 8 rfl)) ?_
    refine od rfl rfl rfl rfl (does_lit (e := 86) (cs := [.int .i64 ((gt x0 t7966.1).fRef.fTx), .int .i64 ((gt x0 t7966.1).fRef.fAt), .int .i64 ((gt x0 t7966.1).fOut.fValue), kv7974, .int .i64 ((gt x0 t7966.1).fOut.fRule.fNeed), .int .i64 ((gt x0 t7966.1).fOut.fRule.fAfter), .int .i64 ((gt x0 t7966.1).fHeight), .bool ((gt x0 t7966.1).fMined)]) (xs := ([(gt x0 t7966.1)] : List Coin)) (Kd.lent w kCoin with1_one) rfl rfl (fun _ => by kernel_rfl) rfl rfl (fun _ _ h => by have h' : _ = [] := h; subst h'; exact (Elems.cons (d := (Kd.lent w kCoin with1_one)) (f := []) ⟨⟨_, rfl, hk7975⟩, rfl⟩ .nil)) HM.emp) ?_
    rintro v7976 w7982 HM
    replace HM := HM.front 2 rfl rfl
    refine od rfl rfl rfl rfl (does_append (Kd.lent w kCoin with1_one) rfl rfl rfl Tryz.underlying41 tsz86 rfl tby86 tz86 rfl rfl (leB_le e7979) HM) ?_
    rintro v7980 w7983 HM
    refine ox rfl rfl rfl rfl (ex_assign rfl rfl) ?_
    refine ops_nil ?_
    refine at_block ?_
    refine at_then ?_
    refine run_region rfl ?_
    refine ox rfl rfl rfl rfl (ex_add rfl rfl rfl) ?_
    refine ox rfl rfl rfl rfl (ex_move rfl rfl) ?_
    refine ops_nil ?_
    replace HM := (HM.front 1 rfl rfl).drop
    exact at_again k7956 (ρ1 := [(0, p0), (6, v7980), (13, p1_0), (14, .int .i64 (x1.fIns.length : Int)), (15, .int .i64 (wrap64 (a7935 + 1)))]) (Nat.lt_succ_self _) ⟨_, _, _, ho7911, rfl, HM⟩ (Sub.cons rfl (Sub.cons rfl (Sub.cons rfl (Sub.cons rfl (Sub.cons rfl Sub.nil)))))
  ·replace ho7911 := cond_f hb7958 ho7911
   refine run_exit ?_
   refine at_then_exit ?_
   refine at_then_exit ?_
   refine at_block_exit ?_
   exact at_mid (ρ' := [(6, v7932)]) ⟨_, _, (Option.some.inj ho7911), rfl, HM⟩ (Sub.cons rfl Sub.nil)
 ·rintro _ w7984 ⟨v7907, a7908, rfl, rfl, HM⟩
  replace H := (thn_inr H)
  refine run_seq ?_
  obtain ⟨t7985, h7986, H⟩ := bind_some H
  obtain ⟨t7989, h7990, H⟩ := bind_some H
  refine run_region rfl ?_
  refine ox rfl rfl rfl rfl (ex_move rfl rfl) ?_
  refine od rfl rfl rfl rfl (does_callk rfl callok105 rfl (impl_ownCoins.calls (x0 := a7908) ((HM.own_rd 0 rfl).unlent (HM.old)) h7986)) ?_
  rintro u7987 w7999 ⟨_, rfl, hn⟩
  replace HM : Mem w [] w7999 [own kCoin 86 u7987 t7985, own (Kd.lent w kCoin with1_one) 86 v7907 a7908] := HM.call hn
  obtain ⟨F7993, hF7994, hFn7995, hFl7996, HMh7997, hcl7998⟩ := HM.hide (Ms := [own kCoin 86 u7987 t7985])
  refine od rfl rfl rfl rfl (does_callk rfl callok104 rfl (impl_sorted.calls (x0 := t7985) (hide_olds _ _) hF7994 hFn7995 hFl7996 h7990)) ?_
  rintro u7991 w8000 ⟨_, rfl, hn⟩
  replace HM : Mem w [] w8000 [own kCoin 86 u7991 t7989, own (Kd.lent w kCoin with1_one) 86 v7907 a7908] := hcl7998 _ _ hn
  refine ox rfl rfl rfl rfl (ex_assign rfl rfl) ?_
  refine ox rfl rfl rfl rfl (ex_assign rfl rfl) ?_
  refine ops_nil (at_then ?_)
  refine run_ret ?_
  replace HM := (HM.front 1 rfl rfl).drop
  have hR := Option.some.inj H
  subst hR
  exact at_ret2 rfl rfl rfl ⟨_, rfl, _, rfl, HM⟩

def impl_IsRipe.f (k : Nat) (x0 : Coin) (x1 : Int) : Option Bool := ((impl_isHeight.f k x0.fHeight).bind fun t8048 => ((bif t8048 then impl_isHeight.f k x1 else some default).bind fun t8050 => some ((t8048 && t8050) && ((!x0.fMined) || (decide ((wrap64 (x0.fHeight + 2)) ≤ x1))))))
theorem impl_IsRipe.calls {k : Nat} {x0 : Coin} {x1 : Int} {p0_0 : Value} {w : World} (hp0_0 : RdS kInt w p0_0 x0.fOut.fRule.fKeys) {r : Bool} (H : impl_IsRipe.f k x0 x1 = some r) :
  Calls Tryz.prog 76 ([.agg #[(.int .i64 x0.fRef.fTx), (.int .i64 x0.fRef.fAt), (.int .i64 x0.fOut.fValue), p0_0, (.int .i64 x0.fOut.fRule.fNeed), (.int .i64 x0.fOut.fRule.fAfter), (.int .i64 x0.fHeight), (.bool x0.fMined)], .int .i64 x1] : List Value).toArray w (fun e w_ => ∃ v, e = .returned v ∧ v = (.bool r) ∧ Mem w [] w_ []) := by
 have HM := Mem.start w
 refine calls_run (N := 24) Tryz.func76 rfl rfl rfl rfl ?_
 unfold impl_IsRipe.f at H
 refine run_seq ?_
 refine run_region rfl ?_
 refine od rfl rfl rfl rfl (does_box (cs := [.int .i64 x0.fRef.fTx, .int .i64 x0.fRef.fAt, .int .i64 x0.fOut.fValue, p0_0, .int .i64 x0.fOut.fRule.fNeed, .int .i64 x0.fOut.fRule.fAfter, .int .i64 x0.fHeight, .bool x0.fMined]) rfl rfl rfl HM) ?_
 rintro _ w8047 ⟨b8044, rfl, HM⟩
 refine ox rfl rfl rfl rfl (ex_assign rfl rfl) ?_
 refine ops_nil (at_then (run_seq ?_))
 obtain ⟨t8048, h8049, H⟩ := bind_some H
 obtain ⟨t8050, h8051, H⟩ := bind_some H
 refine run_meet (fun ρ_ w_ => ρ_ = [(4, .bool ((t8048 && t8050) && ((!x0.fMined) || (decide ((wrap64 (x0.fHeight + 2)) ≤ x1)))))] ∧ Mem w [] w_ []) ?_ ?_
 ·skip
  refine run_region rfl ?_
  refine ox rfl rfl rfl rfl (ex_fieldAddr (off' := 6) rfl rfl Tryz.underlying86 rfl tsz2 rfl) ?_
  refine ox rfl rfl rfl rfl (ex_load1 rfl rfl Tryz.underlying2 rfl ((HM.box_at 0 rfl) 6 _ rfl)) ?_
  refine od rfl rfl rfl rfl (does_callk rfl callok36 rfl (impl_isHeight.calls (x0 := x0.fHeight) h8049)) ?_
  rintro _ w8052 ⟨rfl, hn⟩
  replace HM : Mem w [] w8052 [box b8044 86 [.int .i64 x0.fRef.fTx, .int .i64 x0.fRef.fAt, .int .i64 x0.fOut.fValue, p0_0, .int .i64 x0.fOut.fRule.fNeed, .int .i64 x0.fOut.fRule.fAfter, .int .i64 x0.fHeight, .bool x0.fMined]] := HM.call hn
  refine ox rfl rfl rfl rfl (ex_move rfl rfl) ?_
  refine bool_cases t8048 (fun hg8053 => ?_) (fun hg8053 => ?_)
  ·skip
   refine ops_ex rfl (guard_on rfl rfl rfl hg8053) rfl rfl (ex_move rfl rfl) ?_
   refine ops_does rfl (guard_on rfl rfl rfl hg8053) rfl rfl (does_callk rfl callok36 rfl (impl_isHeight.calls (x0 := x1) (cond_t hg8053 h8051))) ?_
   rintro _ w8054 ⟨rfl, hn⟩
   replace HM : Mem w [] w8054 [box b8044 86 [.int .i64 x0.fRef.fTx, .int .i64 x0.fRef.fAt, .int .i64 x0.fOut.fValue, p0_0, .int .i64 x0.fOut.fRule.fNeed, .int .i64 x0.fOut.fRule.fAfter, .int .i64 x0.fHeight, .bool x0.fMined]] := HM.call hn
   refine ops_ex (v := .bool (t8048 && t8050)) rfl (guard_none rfl) rfl rfl (ex_pand_t rfl rfl hg8053 rfl) ?_
   refine ox rfl rfl rfl rfl (ex_move rfl rfl) ?_
   refine bool_cases (t8048 && t8050) (fun hg8055 => ?_) (fun hg8055 => ?_)
   ·skip
    refine ops_ex rfl (guard_on rfl rfl rfl hg8055) rfl rfl (ex_fieldAddr (off' := 7) rfl rfl Tryz.underlying86 rfl tsz4 rfl) ?_
    refine ops_ex rfl (guard_on rfl rfl rfl hg8055) rfl rfl (ex_load1 rfl rfl Tryz.underlying4 rfl ((HM.box_at 0 rfl) 7 _ rfl)) ?_
    refine ops_ex rfl (guard_on rfl rfl rfl hg8055) rfl rfl (ex_not rfl rfl) ?_
    refine ops_ex rfl (guard_on rfl rfl rfl hg8055) rfl rfl (ex_move rfl rfl) ?_
    refine bool_cases (!x0.fMined) (fun hg8056 => ?_) (fun hg8056 => ?_)
    ·skip
     refine ops_off rfl (guard_off rfl rfl rfl hg8056) rfl rfl ?_
     refine ops_off rfl (guard_off rfl rfl rfl hg8056) rfl rfl ?_
     refine ops_off rfl (guard_off rfl rfl rfl hg8056) rfl rfl ?_
     refine ops_off rfl (guard_off rfl rfl rfl hg8056) rfl rfl ?_
     refine ops_off rfl (guard_off rfl rfl rfl hg8056) rfl rfl ?_
     have hg8057 : ((!x0.fMined) || (decide ((wrap64 (x0.fHeight + 2)) ≤ x1))) = true := by simp only [hg8056, Bool.and_true, Bool.true_and, Bool.and_false, Bool.false_and, Bool.or_true, Bool.true_or, Bool.or_false, Bool.false_or, Bool.not_true, Bool.not_false, Bool.not_not]
     refine ops_ex (v := .bool ((!x0.fMined) || (decide ((wrap64 (x0.fHeight + 2)) ≤ x1)))) rfl (guard_on rfl rfl rfl hg8055) rfl rfl (ex_por_t rfl rfl hg8056) ?_
     refine ops_ex (v := .bool ((t8048 && t8050) && ((!x0.fMined) || (decide ((wrap64 (x0.fHeight + 2)) ≤ x1))))) rfl (guard_none rfl) rfl rfl (ex_pand_t rfl rfl hg8055 rfl) ?_
     refine ox rfl rfl rfl rfl (ex_assign rfl rfl) ?_
     refine ops_nil ?_
     replace HM := (HM.front 0 rfl rfl).drop
     exact at_meet [(4, .bool ((t8048 && t8050) && ((!x0.fMined) || (decide ((wrap64 (x0.fHeight + 2)) ≤ x1)))))] ⟨rfl, HM⟩ (Sub.cons rfl Sub.nil)
    ·skip
     refine ops_ex rfl (guard_on rfl rfl rfl hg8056) rfl rfl (ex_move rfl rfl) ?_
     refine ops_ex rfl (guard_on rfl rfl rfl hg8056) rfl rfl (ex_fieldAddr (off' := 6) rfl rfl Tryz.underlying86 rfl tsz2 rfl) ?_
     refine ops_ex rfl (guard_on rfl rfl rfl hg8056) rfl rfl (ex_load1 rfl rfl Tryz.underlying2 rfl ((HM.box_at 0 rfl) 6 _ rfl)) ?_
     refine ops_ex rfl (guard_on rfl rfl rfl hg8056) rfl rfl (ex_add rfl rfl rfl) ?_
     refine ops_ex rfl (guard_on rfl rfl rfl hg8056) rfl rfl (ex_geq rfl rfl rfl) ?_
     refine ops_ex (v := .bool ((!x0.fMined) || (decide ((wrap64 (x0.fHeight + 2)) ≤ x1)))) rfl (guard_on rfl rfl rfl hg8055) rfl rfl (ex_por_f rfl rfl hg8056 rfl) ?_
     refine ops_ex (v := .bool ((t8048 && t8050) && ((!x0.fMined) || (decide ((wrap64 (x0.fHeight + 2)) ≤ x1))))) rfl (guard_none rfl) rfl rfl (ex_pand_t rfl rfl hg8055 rfl) ?_
     refine ox rfl rfl rfl rfl (ex_assign rfl rfl) ?_
     refine ops_nil ?_
     replace HM := (HM.front 0 rfl rfl).drop
     exact at_meet [(4, .bool ((t8048 && t8050) && ((!x0.fMined) || (decide ((wrap64 (x0.fHeight + 2)) ≤ x1)))))] ⟨rfl, HM⟩ (Sub.cons rfl Sub.nil)
   ·skip
    refine ops_off rfl (guard_off rfl rfl rfl hg8055) rfl rfl ?_
    refine ops_off rfl (guard_off rfl rfl rfl hg8055) rfl rfl ?_
    refine ops_off rfl (guard_off rfl rfl rfl hg8055) rfl rfl ?_
    refine ops_off rfl (guard_off rfl rfl rfl hg8055) rfl rfl ?_
    refine ops_off rfl (guard_undef rfl rfl rfl) rfl rfl ?_
    refine ops_off rfl (guard_undef rfl rfl rfl) rfl rfl ?_
    refine ops_off rfl (guard_undef rfl rfl rfl) rfl rfl ?_
    refine ops_off rfl (guard_undef rfl rfl rfl) rfl rfl ?_
    refine ops_off rfl (guard_undef rfl rfl rfl) rfl rfl ?_
    refine ops_off rfl (guard_off rfl rfl rfl hg8055) rfl rfl ?_
    have hg8058 : ((t8048 && t8050) && ((!x0.fMined) || (decide ((wrap64 (x0.fHeight + 2)) ≤ x1)))) = false := by simp only [hg8055, Bool.and_true, Bool.true_and, Bool.and_false, Bool.false_and, Bool.or_true, Bool.true_or, Bool.or_false, Bool.false_or, Bool.not_true, Bool.not_false, Bool.not_not]
    refine ops_ex (v := .bool ((t8048 && t8050) && ((!x0.fMined) || (decide ((wrap64 (x0.fHeight + 2)) ≤ x1))))) rfl (guard_none rfl) rfl rfl (ex_pand_f rfl rfl hg8055) ?_
    refine ox rfl rfl rfl rfl (ex_assign rfl rfl) ?_
    refine ops_nil ?_
    replace HM := (HM.front 0 rfl rfl).drop
    exact at_meet [(4, .bool ((t8048 && t8050) && ((!x0.fMined) || (decide ((wrap64 (x0.fHeight + 2)) ≤ x1)))))] ⟨rfl, HM⟩ (Sub.cons rfl Sub.nil)
  ·skip
   refine ops_off rfl (guard_off rfl rfl rfl hg8053) rfl rfl ?_
   refine ops_off rfl (guard_off rfl rfl rfl hg8053) rfl rfl ?_
   have hg8059 : (t8048 && t8050) = false := by simp only [hg8053, Bool.and_true, Bool.true_and, Bool.and_false, Bool.false_and, Bool.or_true, Bool.true_or, Bool.or_false, Bool.false_or, Bool.not_true, Bool.not_false, Bool.not_not]
   refine ops_ex (v := .bool (t8048 && t8050)) rfl (guard_none rfl) rfl rfl (ex_pand_f rfl rfl hg8053) ?_
   refine ox rfl rfl rfl rfl (ex_move rfl rfl) ?_
   refine ops_off rfl (guard_off rfl rfl rfl hg8059) rfl rfl ?_
   refine ops_off rfl (guard_off rfl rfl rfl hg8059) rfl rfl ?_
   refine ops_off rfl (guard_off rfl rfl rfl hg8059) rfl rfl ?_
   refine ops_off rfl (guard_off rfl rfl rfl hg8059) rfl rfl ?_
   refine ops_off rfl (guard_undef rfl rfl rfl) rfl rfl ?_
   refine ops_off rfl (guard_undef rfl rfl rfl) rfl rfl ?_
   refine ops_off rfl (guard_undef rfl rfl rfl) rfl rfl ?_
   refine ops_off rfl (guard_undef rfl rfl rfl) rfl rfl ?_
   refine ops_off rfl (guard_undef rfl rfl rfl) rfl rfl ?_
   refine ops_off rfl (guard_off rfl rfl rfl hg8059) rfl rfl ?_
   have hg8060 : ((t8048 && t8050) && ((!x0.fMined) || (decide ((wrap64 (x0.fHeight + 2)) ≤ x1)))) = false := by simp only [hg8059, Bool.and_true, Bool.true_and, Bool.and_false, Bool.false_and, Bool.or_true, Bool.true_or, Bool.or_false, Bool.false_or, Bool.not_true, Bool.not_false, Bool.not_not]
   refine ops_ex (v := .bool ((t8048 && t8050) && ((!x0.fMined) || (decide ((wrap64 (x0.fHeight + 2)) ≤ x1))))) rfl (guard_none rfl) rfl rfl (ex_pand_f rfl rfl hg8059) ?_
   refine ox rfl rfl rfl rfl (ex_assign rfl rfl) ?_
   refine ops_nil ?_
   replace HM := (HM.front 0 rfl rfl).drop
   exact at_meet [(4, .bool ((t8048 && t8050) && ((!x0.fMined) || (decide ((wrap64 (x0.fHeight + 2)) ≤ x1)))))] ⟨rfl, HM⟩ (Sub.cons rfl Sub.nil)
 ·rintro _ w8061 ⟨rfl, HM⟩
  refine at_then ?_
  refine run_ret ?_
  have hR := Option.some.inj H
  subst hR
  exact at_ret1 rfl rfl ⟨_, rfl, rfl, HM⟩

def impl_Ledger_hasSign.f (k : Nat) (x0 : Ledger) (x1 : Int) (x2 : Int) : Option Bool := ((slices_Contains_impl_Sign.f k x0.fSigns (⟨x1, x2⟩ : Sign)).bind fun t8088 => some t8088)
theorem impl_Ledger_hasSign.calls {k : Nat} {x0 : Ledger} {x1 : Int} {x2 : Int} {p0_0 : Value} {p0_1 : Value} {w : World} (hp0_0 : RdS kStr w p0_0 x0.fTexts) (hp0_1 : RdS kSign w p0_1 x0.fSigns) {r : Bool} (H : impl_Ledger_hasSign.f k x0 x1 x2 = some r) :
  Calls Tryz.prog 80 ([.agg #[p0_0, p0_1], .int .i64 x1, .int .i64 x2] : List Value).toArray w (fun e w_ => ∃ v, e = .returned v ∧ v = (.bool r) ∧ Mem w [] w_ []) := by
 have HM := Mem.start w
 refine calls_run (N := 13) Tryz.func80 rfl rfl rfl rfl ?_
 unfold impl_Ledger_hasSign.f at H
 refine run_seq ?_
 refine run_region rfl ?_
 refine od rfl rfl rfl rfl (does_box (cs := [p0_0, p0_1]) rfl rfl rfl HM) ?_
 rintro _ w8087 ⟨b8084, rfl, HM⟩
 refine ox rfl rfl rfl rfl (ex_assign rfl rfl) ?_
 refine ops_nil (at_then (run_seq ?_))
 obtain ⟨t8088, h8089, H⟩ := bind_some H
 refine run_region rfl ?_
 refine ox rfl rfl rfl rfl (ex_fieldAddr (off' := 1) rfl rfl Tryz.underlying39 rfl tsz37 rfl) ?_
 refine ox rfl rfl rfl rfl (ex_load1 rfl rfl Tryz.underlying37 rfl ((HM.box_at 0 rfl) 1 _ rfl)) ?_
 refine ox rfl rfl rfl rfl (ex_move rfl rfl) ?_
 refine ox rfl rfl rfl rfl (ex_move rfl rfl) ?_
 refine ox rfl rfl rfl rfl (ex_build (cells := #[(.int .i64 x1), (.int .i64 x2)]) rfl rfl (by kernel_rfl)) ?_
 refine od rfl rfl rfl rfl (does_callk rfl callok66 rfl (slices_Contains_impl_Sign.calls (x0 := x0.fSigns) (x1 := (⟨x1, x2⟩ : Sign)) (HM.rd hp0_1) h8089)) ?_
 rintro _ w8090 ⟨rfl, hn⟩
 replace HM : Mem w [] w8090 [box b8084 39 [p0_0, p0_1]] := HM.call hn
 refine ox rfl rfl rfl rfl (ex_assign rfl rfl) ?_
 refine ops_nil (at_then ?_)
 refine run_ret ?_
 replace HM := (HM.front 0 rfl rfl).drop
 have hR := Option.some.inj H
 subst hR
 exact at_ret1 rfl rfl ⟨_, rfl, rfl, HM⟩

def impl_Ledger_ruleMet.l0 (x0 : Ledger) (x1 : Rule) (x2 : Int) : Nat → Int → Int → Option Int
 | 0, _, _ => none
 | k + 1, a8151, a8152 => (bif (decide (a8152 < (x1.fKeys.length : Int))) then (chk (idxOk a8152 x1.fKeys.length) ((impl_Ledger_hasSign.f k x0 (gt x1.fKeys a8152) x2).bind fun t8164 => (bif t8164 then impl_Ledger_ruleMet.l0 x0 x1 x2 k (wrap64 (a8151 + 1)) (wrap64 (a8152 + 1)) else impl_Ledger_ruleMet.l0 x0 x1 x2 k a8151 (wrap64 (a8152 + 1))))) else some a8151)
theorem impl_Ledger_ruleMet.l0_z (x0 : Ledger) (x1 : Rule) (x2 : Int) (a8151 : Int) (a8152 : Int) : impl_Ledger_ruleMet.l0 x0 x1 x2 0 a8151 a8152 = none := rfl
theorem impl_Ledger_ruleMet.l0_s (x0 : Ledger) (x1 : Rule) (x2 : Int) (k : Nat) (a8151 : Int) (a8152 : Int) : impl_Ledger_ruleMet.l0 x0 x1 x2 (k + 1) a8151 a8152 = (bif (decide (a8152 < (x1.fKeys.length : Int))) then (chk (idxOk a8152 x1.fKeys.length) ((impl_Ledger_hasSign.f k x0 (gt x1.fKeys a8152) x2).bind fun t8164 => (bif t8164 then impl_Ledger_ruleMet.l0 x0 x1 x2 k (wrap64 (a8151 + 1)) (wrap64 (a8152 + 1)) else impl_Ledger_ruleMet.l0 x0 x1 x2 k a8151 (wrap64 (a8152 + 1))))) else some a8151) := rfl
def impl_Ledger_ruleMet.f (k : Nat) (x0 : Ledger) (x1 : Rule) (x2 : Int) (x3 : Int) : Option Int := (bif (decide (x3 < x1.fAfter)) then some 9 else ((impl_Ledger_ruleMet.l0 x0 x1 x2 k 0 0).bind (fun a8142 => (bif (decide (a8142 < x1.fNeed)) then some 6 else some 0))))
theorem impl_Ledger_ruleMet.calls {k : Nat} {x0 : Ledger} {x1 : Rule} {x2 : Int} {x3 : Int} {p0_0 : Value} {p0_1 : Value} {p1_0 : Value} {w : World} (hp0_0 : RdS kStr w p0_0 x0.fTexts) (hp0_1 : RdS kSign w p0_1 x0.fSigns) (hp1_0 : RdS kInt w p1_0 x1.fKeys) {r : Int} (H : impl_Ledger_ruleMet.f k x0 x1 x2 x3 = some r) :
  Calls Tryz.prog 77 ([.agg #[p0_0, p0_1], .agg #[p1_0, (.int .i64 x1.fNeed), (.int .i64 x1.fAfter)], .int .i64 x2, .int .i64 x3] : List Value).toArray w (fun e w_ => ∃ v, e = .returned v ∧ v = (.int .i64 r) ∧ Mem w [] w_ []) := by
 have HM := Mem.start w
 refine calls_run (N := 34) Tryz.func77 rfl rfl rfl rfl ?_
 unfold impl_Ledger_ruleMet.f at H
 refine run_seq ?_
 refine run_region rfl ?_
 refine od rfl rfl rfl rfl (does_box (cs := [p0_0, p0_1]) rfl rfl rfl HM) ?_
 rintro _ w8118 ⟨b8112, rfl, HM⟩
 refine od rfl rfl rfl rfl (does_box (cs := [p1_0, .int .i64 x1.fNeed, .int .i64 x1.fAfter]) rfl rfl rfl HM) ?_
 rintro _ w8119 ⟨b8115, rfl, HM⟩
 refine ox rfl rfl rfl rfl (ex_assign rfl rfl) ?_
 refine ops_nil (at_then (run_seq ?_))
 refine run_seq ?_
 refine run_region rfl ?_
 refine ox rfl rfl rfl rfl (ex_move rfl rfl) ?_
 refine ox rfl rfl rfl rfl (ex_fieldAddr (off' := 2) rfl rfl Tryz.underlying82 rfl tsz2 rfl) ?_
 refine ox rfl rfl rfl rfl (ex_load1 rfl rfl Tryz.underlying2 rfl ((HM.box_at 0 rfl) 2 _ rfl)) ?_
 refine ox rfl rfl rfl rfl (ex_lss rfl rfl rfl) ?_
 refine ops_nil (at_then ?_)
 refine run_cond (b := (decide (x3 < x1.fAfter))) rfl (fun hb8121 => ?_) (fun hb8121 => ?_)
 ·replace H := cond_t hb8121 H
  refine run_seq ?_
  refine run_region rfl ?_
  refine ox rfl rfl rfl rfl (ex_assign rfl rfl) ?_
  refine ops_nil (at_then ?_)
  refine run_ret ?_
  refine at_then_ret ?_
  replace HM := (HM.front 0 rfl rfl).drop
  replace HM := (HM.front 0 rfl rfl).drop
  have hR := Option.some.inj H
  subst hR
  exact at_ret1 rfl rfl ⟨_, rfl, rfl, HM⟩
 ·replace H := cond_f hb8121 H
  refine run_skip ?_
  refine at_then ?_
  refine run_seq ?_
  refine run_region rfl ?_
  refine ox rfl rfl rfl rfl (ex_assign rfl rfl) ?_
  refine ops_nil (at_then ?_)
  obtain ⟨o8143, ho8144, H⟩ := bind_some H
  refine run_mid (fun ρ_ w_ => ∃ a8142 : Int, a8142 = o8143 ∧ ρ_ = [(5, .pointer (some ⟨b8115, 0, none⟩)), (9, .int .i64 a8142)] ∧ Mem w [] w_ [box b8115 82 [p1_0, .int .i64 x1.fNeed, .int .i64 x1.fAfter]]) ?_ ?_
  ·clear H
   refine run_seq ?_
   refine run_region rfl ?_
   refine ox rfl rfl rfl rfl (ex_fieldAddr (off' := 0) rfl rfl Tryz.underlying82 rfl tsz58 rfl) ?_
   refine ox rfl rfl rfl rfl (ex_load1 rfl rfl Tryz.underlying58 rfl ((HM.box_at 0 rfl) 0 _ rfl)) ?_
   refine ox rfl rfl rfl rfl (ex_len (d := kInt) (xs := x1.fKeys) rfl rfl Tryz.underlying58 hp1_0) ?_
   refine ox rfl rfl rfl rfl (ex_move rfl rfl) ?_
   refine ops_nil (at_then ?_)
   refine run_block ?_
   replace HM := HM.front 1 rfl rfl
   refine run_loop (fun k_ ρ_ w_ => ∃ a8151 : Int, ∃ a8152 : Int, impl_Ledger_ruleMet.l0 x0 x1 x2 k_ a8151 a8152 = some o8143 ∧ ρ_ = [(2, .int .i64 x2), (4, .pointer (some ⟨b8112, 0, none⟩)), (5, .pointer (some ⟨b8115, 0, none⟩)), (9, .int .i64 a8151), (17, p1_0), (18, .int .i64 (x1.fKeys.length : Int)), (19, .int .i64 a8152)] ∧ Mem w [] w_ [box b8112 39 [p0_0, p0_1], box b8115 82 [p1_0, .int .i64 x1.fNeed, .int .i64 x1.fAfter]]) k (ρ1 := [(2, .int .i64 x2), (4, .pointer (some ⟨b8112, 0, none⟩)), (5, .pointer (some ⟨b8115, 0, none⟩)), (9, .int .i64 0), (17, p1_0), (18, .int .i64 (x1.fKeys.length : Int)), (19, .int .i64 0)]) ⟨_, _, ho8144, rfl, HM⟩ (Sub.cons rfl (Sub.cons rfl (Sub.cons rfl (Sub.cons rfl (Sub.cons rfl (Sub.cons rfl (Sub.cons rfl Sub.nil))))))) ?_
   clear HM ho8144
   rintro k8159 _ w8160 ⟨a8151, a8152, ho8144, rfl, HM⟩
   obtain _ | k8159 := k8159
   ·exact nomatch ((impl_Ledger_ruleMet.l0_z x0 x1 x2 a8151 a8152).symm.trans ho8144)
   replace ho8144 := (impl_Ledger_ruleMet.l0_s x0 x1 x2 k8159 a8151 a8152).symm.trans ho8144
   refine run_seq ?_
   refine run_region rfl ?_
   refine ox rfl rfl rfl rfl (ex_lss rfl rfl rfl) ?_
   refine ops_nil (at_then (run_seq ?_))
   refine run_cond (b := (decide (a8152 < (x1.fKeys.length : Int)))) rfl (fun hb8161 => ?_) (fun hb8161 => ?_)
   ·replace ho8144 := cond_t hb8161 ho8144
    refine run_skip ?_
    refine at_then ?_
    refine run_seq ?_
    refine run_block ?_
    refine run_seq ?_
    obtain ⟨e8162, ho8144⟩ := chk_some ho8144
    refine run_region rfl ?_
    have hc8163 : CellsAt _ (sb p1_0) (so p1_0 + (a8152).toNat * 1) [(.int .i64 (gt x1.fKeys a8152))] := rd_plain hp1_0 e8162
    refine ox rfl rfl rfl rfl (ex_indexAddr (d := kInt) rfl rfl rfl Tryz.underlying58 tsz2 hp1_0 (idx_lo e8162) (idx_hi e8162)) ?_
    refine ox rfl rfl rfl rfl (ex_load1 rfl rfl Tryz.underlying2 rfl ((HM.at_ hc8163) 0 _ rfl)) ?_
    refine ox rfl rfl rfl rfl (ex_assign rfl rfl) ?_
    refine ops_nil (at_then (run_seq ?_))
    obtain ⟨t8164, h8165, ho8144⟩ := bind_some ho8144
    refine run_region rfl ?_
    refine ox rfl rfl rfl rfl (ex_loadN (cs := [p0_0, p0_1]) rfl rfl Tryz.underlying39 rfl tsz39 rfl ((HM.box_at 0 rfl).sub 0 2 rfl)) ?_
    refine ox rfl rfl rfl rfl (ex_move rfl rfl) ?_
    refine ox rfl rfl rfl rfl (ex_move rfl rfl) ?_
    refine od rfl rfl rfl rfl (does_callk rfl callok80 rfl (impl_Ledger_hasSign.calls (x0 := x0) (x1 := (gt x1.fKeys a8152)) (x2 := x2) (HM.rd hp0_0) (HM.rd hp0_1) h8165)) ?_
    rintro _ w8166 ⟨rfl, hn⟩
    replace HM : Mem w [] w8166 [box b8112 39 [p0_0, p0_1], box b8115 82 [p1_0, .int .i64 x1.fNeed, .int .i64 x1.fAfter]] := HM.call hn
    refine ops_nil (at_then ?_)
    refine run_cond (b := t8164) rfl (fun hb8167 => ?_) (fun hb8167 => ?_)
    ·replace ho8144 := cond_t hb8167 ho8144
     refine run_region rfl ?_
     refine ox rfl rfl rfl rfl (ex_move rfl rfl) ?_
     refine ox rfl rfl rfl rfl (ex_add rfl rfl rfl) ?_
     refine ox rfl rfl rfl rfl (ex_assign rfl rfl) ?_
     refine ops_nil ?_
     refine at_block ?_
     refine at_then ?_
     refine run_region rfl ?_
     refine ox rfl rfl rfl rfl (ex_add rfl rfl rfl) ?_
     refine ox rfl rfl rfl rfl (ex_move rfl rfl) ?_
     refine ops_nil ?_
     exact at_again k8159 (ρ1 := [(2, .int .i64 x2), (4, .pointer (some ⟨b8112, 0, none⟩)), (5, .pointer (some ⟨b8115, 0, none⟩)), (9, .int .i64 (wrap64 (a8151 + 1))), (17, p1_0), (18, .int .i64 (x1.fKeys.length : Int)), (19, .int .i64 (wrap64 (a8152 + 1)))]) (Nat.lt_succ_self _) ⟨_, _, ho8144, rfl, HM⟩ (Sub.cons rfl (Sub.cons rfl (Sub.cons rfl (Sub.cons rfl (Sub.cons rfl (Sub.cons rfl (Sub.cons rfl Sub.nil)))))))
    ·replace ho8144 := cond_f hb8167 ho8144
     refine run_skip ?_
     refine at_block ?_
     refine at_then ?_
     refine run_region rfl ?_
     refine ox rfl rfl rfl rfl (ex_add rfl rfl rfl) ?_
     refine ox rfl rfl rfl rfl (ex_move rfl rfl) ?_
     refine ops_nil ?_
     exact at_again k8159 (ρ1 := [(2, .int .i64 x2), (4, .pointer (some ⟨b8112, 0, none⟩)), (5, .pointer (some ⟨b8115, 0, none⟩)), (9, .int .i64 a8151), (17, p1_0), (18, .int .i64 (x1.fKeys.length : Int)), (19, .int .i64 (wrap64 (a8152 + 1)))]) (Nat.lt_succ_self _) ⟨_, _, ho8144, rfl, HM⟩ (Sub.cons rfl (Sub.cons rfl (Sub.cons rfl (Sub.cons rfl (Sub.cons rfl (Sub.cons rfl (Sub.cons rfl Sub.nil)))))))
   ·replace ho8144 := cond_f hb8161 ho8144
    refine run_exit ?_
    refine at_then_exit ?_
    refine at_then_exit ?_
    refine at_block_exit ?_
    replace HM := (HM.front 0 rfl rfl).drop
    exact at_mid (ρ' := [(5, .pointer (some ⟨b8115, 0, none⟩)), (9, .int .i64 a8151)]) ⟨_, (Option.some.inj ho8144), rfl, HM⟩ (Sub.cons rfl (Sub.cons rfl Sub.nil))
  ·rintro _ w8168 ⟨a8142, rfl, rfl, HM⟩
   refine run_seq ?_
   refine run_seq ?_
   refine run_region rfl ?_
   refine ox rfl rfl rfl rfl (ex_move rfl rfl) ?_
   refine ox rfl rfl rfl rfl (ex_fieldAddr (off' := 1) rfl rfl Tryz.underlying82 rfl tsz2 rfl) ?_
   refine ox rfl rfl rfl rfl (ex_load1 rfl rfl Tryz.underlying2 rfl ((HM.box_at 0 rfl) 1 _ rfl)) ?_
   refine ox rfl rfl rfl rfl (ex_lss rfl rfl rfl) ?_
   refine ops_nil (at_then ?_)
   refine run_cond (b := (decide (a8142 < x1.fNeed))) rfl (fun hb8169 => ?_) (fun hb8169 => ?_)
   ·replace H := cond_t hb8169 H
    refine run_seq ?_
    refine run_region rfl ?_
    refine ox rfl rfl rfl rfl (ex_assign rfl rfl) ?_
    refine ops_nil (at_then ?_)
    refine run_ret ?_
    refine at_then_ret ?_
    replace HM := (HM.front 0 rfl rfl).drop
    have hR := Option.some.inj H
    subst hR
    exact at_ret1 rfl rfl ⟨_, rfl, rfl, HM⟩
   ·replace H := cond_f hb8169 H
    refine run_skip ?_
    refine at_then ?_
    refine run_seq ?_
    refine run_region rfl ?_
    refine ox rfl rfl rfl rfl (ex_assign rfl rfl) ?_
    refine ops_nil (at_then ?_)
    refine run_ret ?_
    replace HM := (HM.front 0 rfl rfl).drop
    have hR := Option.some.inj H
    subst hR
    exact at_ret1 rfl rfl ⟨_, rfl, rfl, HM⟩
end Go.Proofs.YtpfaihnmonfkhaaGreatDoor.Zk
