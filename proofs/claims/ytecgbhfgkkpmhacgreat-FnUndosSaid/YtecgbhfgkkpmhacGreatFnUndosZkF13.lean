/- What functions of the program compute, each as a plain function, and that they do. Conditions: as each theorem states them. -/
import Derived.Test.YtecgbhfgkkpmhacGreatFnUndosZkF12
namespace Go.Proofs.YtecgbhfgkkpmhacGreat.Zk
open Go Go.RowKit Go.IntWalk Go.Proofs
set_option linter.unusedVariables false
set_option linter.unusedSimpArgs false
set_option maxRecDepth 100000
set_option maxHeartbeats 4000000
def impl_findCoin.f (k : Nat) (x0 : List Coin) (x1 : Ref) : Option (Int × Bool) := ((slices_BinarySearchFunc_impl_Coin.f k x0 x1).bind fun t10 => some (t10.1, t10.2))
theorem impl_findCoin.calls {k : Nat} {x0 : List Coin} {x1 : Ref} {p0 : Value} {w : World} (hp0 : RdS kCoin w p0 x0) {r : Int × Bool} (H : impl_findCoin.f k x0 x1 = some r) :
  Calls Tryz.prog 25 ([p0, .agg #[(nI x1.fTx), (nI x1.fAt)]] : List Value).toArray w (fun e w_ => ∃ v, e = .returned v ∧ v = (.tuple #[nI r.1, .bool r.2]) ∧ Mem w [] w_ []) := by
 have HM := Mem.start w
 refine calls_run (N := 11) Tryz.func25 rfl rfl rfl rfl ?_
 unfold impl_findCoin.f at H
 refine run_seq (run_region rfl (oz rfl (does_box (cs := [nI x1.fTx, nI x1.fAt]) rfl rfl rfl HM) ?_))
 rintro _ w11 ⟨b12, rfl, HM⟩
 refine oM rfl (oM rfl (ops_nil (at_then (run_seq ?_))))
 obtain ⟨t10, h13, H⟩ := bind_some H
 refine run_region rfl (oM rfl (oy rfl (ldN rfl rfl U38 rfl tsz38 ((HM.box_at 0 rfl).subL 0 2 rfl) rfl) (oz rfl (does_callk rfl callok62 rfl (slices_BinarySearchFunc_impl_Coin.calls (x0 := x0) (x1 := x1) (HM.rd hp0) h13)) ?_)))
 rintro _ w14 ⟨rfl, hn⟩
 replace HM := HM.callN hn rfl
 refine oy rfl (ex_extract rfl rfl rfl) (oy rfl (ex_extract rfl rfl rfl) (oM rfl (oM rfl (ops_nil (at_then (run_ret ?_))))))
 replace HM := HM.frd 0 rfl
 cases H
 exact at_ret2 rfl rfl rfl ⟨_, rfl, rfl, HM⟩

def slices_Clone_int64.f (k : Nat) (x0 : List Int) : Option ((List Int)) := (chk (leB ((([] : List Int).length + x0.length) * 8) 140737488355328) (some (([] : List Int) ++ x0)))
theorem slices_Clone_int64.calls {k : Nat} {x0 : List Int} {p0 : Value} {w : World} (hp0 : RdS kInt w p0 x0) {r : (List Int)} (H : slices_Clone_int64.f k x0 = some r) :
  Calls Tryz.prog 115 ([p0] : List Value).toArray w (fun e w_ => ∃ v, e = .returned v ∧ ∃ u0 : Value, v = u0 ∧ Mem w [] w_ [own kInt 2 u0 r]) := by
 have HM := Mem.start w
 refine calls_run (N := 8) Tryz.func115 rfl rfl rfl rfl ?_
 unfold slices_Clone_int64.f at H
 refine run_seq (run_region rfl (oM rfl (ops_nil (at_then (run_seq (run_seq (run_region rfl (oM rfl (ops_exE rfl (guard_none rfl) rfl rfl (ex_isnil rfl rfl rfl U58 hp0) ?_)))))))))
 rintro _ ⟨b10, rfl, hb11⟩
 refine ops_nil (at_then (run_cond (b := b10) rfl (fun hb12 => ?_) (fun hb12 => ?_)))
 ·have hx_ := hb11 hb12
  subst hx_
  obtain ⟨_, H⟩ := chk_some H
  replace H : some ([] : List Int) = r := H
  refine run_seq (run_region rfl (oM rfl (ops_nil (at_then (run_ret (at_then_ret ?_))))))
  replace HM := HM.empty kInt 2 none
  cases H
  exact at_ret1 rfl rfl ⟨_, rfl, _, rfl, HM⟩
 ·refine run_skip (at_then (run_seq ?_))
  obtain ⟨e13, H⟩ := chk_some H
  refine run_region rfl (oz rfl (does_lit (e := 2) (cs := []) (xs := ([] : List Int)) kInt rfl rfl (fun _ => by kernel_rfl) rfl rfl (fun _ _ h => by have h' : _ = [] := h; subst h'; exact .nil) HM.emp) ?_)
  rintro v14 w15 HM
  refine oM rfl (oz rfl (does_appendR kInt flat_plain rfl rfl rfl U58 tsz2 rfl tby2 tz2 rfl rfl (leB_le e13) (HM.rd hp0) HM) ?_)
  rintro v16 w17 HM
  refine oM rfl (ops_nil (at_then (run_ret ?_)))
  cases H
  exact at_ret1 rfl rfl ⟨_, rfl, _, rfl, HM⟩

def impl_ownRule.f (k : Nat) (x0 : Rule) : Option Rule := ((slices_Clone_int64.f k x0.fKeys).bind fun t10 => some (⟨t10, x0.fNeed, x0.fAfter⟩ : Rule))
theorem impl_ownRule.calls {k : Nat} {x0 : Rule} {p0_0 : Value} {w : World} (hp0_0 : RdS kInt w p0_0 x0.fKeys) {r : Rule} (H : impl_ownRule.f k x0 = some r) :
  Calls Tryz.prog 99 ([.agg #[p0_0, (nI x0.fNeed), (nI x0.fAfter)]] : List Value).toArray w (fun e w_ => ∃ v, e = .returned v ∧ ∃ u0 : Value, v = (.agg #[u0, nI r.fNeed, nI r.fAfter]) ∧ Mem w [] w_ [own kInt 2 u0 r.fKeys]) := by
 have HM := Mem.start w
 refine calls_run (N := 8) Tryz.func99 rfl rfl rfl rfl ?_
 unfold impl_ownRule.f at H
 refine run_seq (run_region rfl (oz rfl (does_box (cs := [p0_0, nI x0.fNeed, nI x0.fAfter]) rfl rfl rfl HM) ?_))
 rintro _ w11 ⟨b12, rfl, HM⟩
 refine oz rfl (does_alloc (cs := [.slice none 0 0, nI 0, nI 0]) rfl tz66 rfl HM) ?_
 rintro _ w13 ⟨b14, rfl, HM⟩
 refine ops_nil (at_then (run_seq ?_))
 obtain ⟨t10, h15, H⟩ := bind_some H
 refine run_region rfl (oy rfl (ex_fieldAddr (off' := 0) rfl rfl U66 rfl tsz58 rfl) (oy rfl (ex_load1 rfl rfl U58 rfl ((HM.box_at 1 rfl) 0 _ rfl)) (oz rfl (does_callk rfl callok115 rfl (slices_Clone_int64.calls (x0 := x0.fKeys) (HM.rd hp0_0) h15)) ?_)))
 rintro u16 w17 ⟨_, rfl, hn⟩
 replace HM := HM.callN hn rfl
 refine oy rfl (ex_fieldAddr (off' := 0) rfl rfl U66 rfl tsz58 rfl) ?_
 replace HM := HM.fr1 2 rfl
 refine odS rfl rfl rfl (does_store (vs := [u16]) (cs' := [u16, nI x0.fNeed, nI x0.fAfter]) rfl rfl rfl (rd_cells (HM.own_rd 1 rfl)) tsz58 (Ones.rd (HM.own_rd 1 rfl) Ones.nil) rfl rfl HM) ?_
 rintro w18 HM
 refine ops_nil (at_then (run_seq (run_region rfl (oy rfl (ldN rfl rfl U66 rfl tsz66 ((HM.box_at 0 rfl).subL 0 3 rfl) rfl) ?_))))
 replace HM := HM.fr1 2 rfl
 refine odS rfl rfl rfl (does_store (vs := [u16, nI x0.fNeed, nI x0.fAfter]) (cs' := [u16, nI x0.fNeed, nI x0.fAfter]) rfl rfl rfl rfl tsz66 (Ones.rd (HM.own_rd 2 rfl) (Ones.int (Ones.int Ones.nil))) rfl rfl HM) ?_
 rintro w19 HM
 refine ops_nil (at_then (run_ret ?_))
 replace HM := HM.frd 1 rfl
 have hcb0 := HM.box_at 0 rfl
 replace HM := HM.frd 0 rfl
 cases H
 exact at_retN rfl rfl U66 rfl tsz66 rfl hcb0 ⟨_, rfl, _, rfl, HM⟩

def impl_ownOut.f (k : Nat) (x0 : Out) : Option Out := ((impl_ownRule.f k x0.fRule).bind fun t10 => some (⟨x0.fValue, t10⟩ : Out))
theorem impl_ownOut.calls {k : Nat} {x0 : Out} {p0_0 : Value} {w : World} (hp0_0 : RdS kInt w p0_0 x0.fRule.fKeys) {r : Out} (H : impl_ownOut.f k x0 = some r) :
  Calls Tryz.prog 64 ([.agg #[(nI x0.fValue), p0_0, (nI x0.fRule.fNeed), (nI x0.fRule.fAfter)]] : List Value).toArray w (fun e w_ => ∃ v, e = .returned v ∧ ∃ u0 : Value, v = (.agg #[nI r.fValue, u0, nI r.fRule.fNeed, nI r.fRule.fAfter]) ∧ Mem w [] w_ [own kInt 2 u0 r.fRule.fKeys]) := by
 have HM := Mem.start w
 refine calls_run (N := 9) Tryz.func64 rfl rfl rfl rfl ?_
 unfold impl_ownOut.f at H
 refine run_seq (run_region rfl (oz rfl (does_box (cs := [nI x0.fValue, p0_0, nI x0.fRule.fNeed, nI x0.fRule.fAfter]) rfl rfl rfl HM) ?_))
 rintro _ w11 ⟨b12, rfl, HM⟩
 refine oz rfl (does_alloc (cs := [nI 0, .slice none 0 0, nI 0, nI 0]) rfl tz68 rfl HM) ?_
 rintro _ w13 ⟨b14, rfl, HM⟩
 refine ops_nil (at_then (run_seq ?_))
 obtain ⟨t10, h15, H⟩ := bind_some H
 refine run_drawf (fun w_ => Mem w [] w_ [box b12 68 [nI x0.fValue, p0_0, nI x0.fRule.fNeed, nI x0.fRule.fAfter]]) [(0, true), (1, true), (2, true), (3, true), (4, false), (5, true), (6, false)] mixed rfl rfl (by kernel_rfl) ?_
 replace HM := HM.grow (fr_drew _)
 have hS := HM.sufN 1 rfl
 refine dp rfl rfl rfl rfl (ex_fieldAddr (off' := 0) rfl rfl U68 rfl tsz2 rfl) hS (drwp_take rfl (guard_none rfl) rfl rfl (fun w_ hS_ => (ex_load1 rfl rfl U2 rfl ((hS_.box_at 0 rfl) 0 _ rfl))) hS (dp rfl rfl rfl rfl (ex_fieldAddr (off' := 1) rfl rfl U68 rfl tsz66 rfl) hS (drwp_take rfl (guard_none rfl) rfl rfl (fun w_ hS_ => (ldN rfl rfl U66 rfl tsz66 ((hS_.box_at 0 rfl).subL 1 3 rfl) rfl)) hS (drwp_one rfl (guard_none rfl) rfl rfl (does_callk rfl callok99 rfl (impl_ownRule.calls (x0 := x0.fRule) (HM.rd hp0_0) h15)) ?_))))
 rintro _ w16 ⟨u17, rfl, hn⟩
 replace HM := HM.callN hn rfl
 have hS := HM.sufN 2 rfl
 refine ⟨hS, (dp rfl rfl rfl rfl (ex_build1 (fun u17 => [(0, nI x0.fValue), (1, .agg #[u17, (nI t10.fNeed), (nI t10.fAfter)])]) (fun u17 => #[nI x0.fValue, u17, nI t10.fNeed, nI t10.fAfter]) rfl rfl (fun _ _ _ => by kernel_rfl) (HM.own_rd 0 rfl).isSl) hS ?_)⟩
 replace HM := HM.fr1 1 rfl
 refine drwp_oneS rfl (guard_none rfl) rfl (does_store (vs := [nI x0.fValue, u17, nI t10.fNeed, nI t10.fAfter]) (cs' := [nI x0.fValue, u17, nI t10.fNeed, nI t10.fAfter]) rfl rfl rfl rfl tsz68 (Ones.int (Ones.rd (HM.own_rd 1 rfl) (Ones.int (Ones.int Ones.nil)))) rfl rfl HM) ?_
 rintro w18 HM
 have hS := HM.sufN 2 rfl
 refine ⟨hS, (drwp_done (at_then (run_ret ?_)))⟩
 replace HM := HM.frd 2 rfl
 have hcb0 := HM.box_at 0 rfl
 replace HM := HM.frd 0 rfl
 cases H
 exact at_retN rfl rfl U68 rfl tsz68 rfl hcb0 ⟨_, rfl, _, rfl, HM⟩

def impl_ownCoins.l0 (x0 : List Coin) : Nat → (List Coin) → Int → Option ((List Coin))
 | 0, _, _ => none
 | k + 1, a10, a11 => (bif (decide (a11 < (x0.length : Int))) then (chk (idxOk a11 x0.length) ((impl_ownOut.f k ((gt x0 a11).fOut)).bind fun t12 => (chk (leB ((a10.length + ([(⟨(gt x0 a11).fRef, t12, (gt x0 a11).fHeight, (gt x0 a11).fMined⟩ : Coin)] : List Coin).length) * 80) 140737488355328) (impl_ownCoins.l0 x0 k (a10 ++ ([(⟨(gt x0 a11).fRef, t12, (gt x0 a11).fHeight, (gt x0 a11).fMined⟩ : Coin)] : List Coin)) (wrap64 (a11 + 1)))))) else some a10)
def impl_ownCoins.f (k : Nat) (x0 : List Coin) : Option ((List Coin)) := ((impl_ownCoins.l0 x0 k ([] : List Coin) 0).bind (fun a13 => some a13))
theorem impl_ownCoins.calls {k : Nat} {x0 : List Coin} {p0 : Value} {w : World} (hp0 : RdS kCoin w p0 x0) {r : (List Coin)} (H : impl_ownCoins.f k x0 = some r) :
  Calls Tryz.prog 26 ([p0] : List Value).toArray w (fun e w_ => ∃ v, e = .returned v ∧ ∃ u0 : Value, v = u0 ∧ Mem w [] w_ [own kCoin 70 u0 r]) := by
 have HM := Mem.start w
 refine calls_run (N := 23) Tryz.func26 rfl rfl rfl rfl ?_
 unfold impl_ownCoins.f at H
 refine run_seq (run_region rfl (oM rfl (ops_nil (at_then (run_seq (run_region rfl (oz rfl (does_lit (e := 70) (cs := []) (xs := ([] : List Coin)) kCoin rfl rfl (fun _ => by kernel_rfl) rfl rfl (fun _ _ h => by have h' : _ = [] := h; subst h'; exact .nil) HM.emp) ?_)))))))
 rintro v14 w15 HM
 refine oM rfl (ops_nil (at_then ?_))
 obtain ⟨o16, ho17, H⟩ := bind_some H
 refine run_mid (fun ρ_ w_ => ∃ v18 : Value, ∃ a13 : List Coin, a13 = o16 ∧ ρ_ = [(3, v18)] ∧ Mem w [] w_ [own kCoin 70 v18 a13]) ?_ ?_
 ·clear H
  refine run_seq (run_region rfl (oM rfl (oy rfl (ex_len (d := kCoin) (xs := x0) rfl rfl U24 hp0) (oM rfl (ops_nil (at_then (run_block ?_)))))))
  refine run_loop (fun k_ ρ_ w_ => ∃ v19 : Value, ∃ a10 : List Coin, ∃ a11 : Int, impl_ownCoins.l0 x0 k_ a10 a11 = some o16 ∧ ρ_ = [(3, v19), (7, p0), (8, nI (x0.length : Int)), (9, nI a11)] ∧ Mem w [] w_ [own kCoin 70 v19 a10]) k ⟨_, _, _, ho17, rfl, HM⟩ (Sub.of rfl) ?_
  clear HM ho17
  rintro k20 _ w21 ⟨v19, a10, a11, ho17, rfl, HM⟩
  obtain _ | k20 := k20
  ·exact nomatch ((impl_ownCoins.l0.eq_1 x0 a10 a11).symm.trans ho17)
  replace ho17 := (impl_ownCoins.l0.eq_2 ..).symm.trans ho17
  refine run_seq (run_region rfl (oy rfl (ex_lss rfl rfl rfl) (ops_nil (at_then (run_seq (run_cond (b := (decide (a11 < (x0.length : Int)))) rfl (fun hb22 => ?_) (fun hb22 => ?_)))))))
  ·replace ho17 := cond_t hb22 ho17
   refine run_skip (at_then (run_seq (run_block (run_seq ?_))))
   obtain ⟨e23, ho17⟩ := chk_some ho17
   refine run_region rfl ?_
   obtain ⟨kv24, hc25, hk26⟩ := rd_with1 hp0 e23
   refine oy rfl (ex_indexAddr (d := kCoin) rfl rfl rfl U24 tsz70 hp0 (idx_lo e23) (idx_hi e23)) (oy rfl (ldN rfl rfl U70 rfl tsz70 ((HM.at_ hc25).subL 0 8 rfl) rfl) (oz rfl (does_alloc (cs := [nI 0, nI 0, nI 0, .slice none 0 0, nI 0, nI 0, nI 0, .bool false]) rfl tz70 rfl HM) ?_))
   rintro _ w27 ⟨b28, rfl, HM⟩
   refine odS rfl rfl rfl (does_store (vs := [nI ((gt x0 a11).fRef.fTx), nI ((gt x0 a11).fRef.fAt), nI ((gt x0 a11).fOut.fValue), kv24, nI ((gt x0 a11).fOut.fRule.fNeed), nI ((gt x0 a11).fOut.fRule.fAfter), nI ((gt x0 a11).fHeight), .bool ((gt x0 a11).fMined)]) (cs' := [nI ((gt x0 a11).fRef.fTx), nI ((gt x0 a11).fRef.fAt), nI ((gt x0 a11).fOut.fValue), kv24, nI ((gt x0 a11).fOut.fRule.fNeed), nI ((gt x0 a11).fOut.fRule.fAfter), nI ((gt x0 a11).fHeight), .bool ((gt x0 a11).fMined)]) rfl rfl rfl rfl tsz70 (Ones.int (Ones.int (Ones.int (Ones.rd hk26 (Ones.int (Ones.int (Ones.int (Ones.bool Ones.nil)))))))) rfl rfl HM) ?_
   rintro w29 HM
   refine ops_nil (at_then (run_seq ?_))
   obtain ⟨t12, h30, ho17⟩ := bind_some ho17
   refine run_region rfl (oy rfl (ex_fieldAddr (off' := 2) rfl rfl U70 rfl tsz68 rfl) (oy rfl (ldN rfl rfl U68 rfl tsz68 ((HM.box_at 0 rfl).subL 2 4 rfl) rfl) (oz rfl (does_callk rfl callok64 rfl (impl_ownOut.calls (x0 := (gt x0 a11).fOut) (HM.rd hk26) h30)) ?_)))
   rintro _ w31 ⟨u32, rfl, hn⟩
   replace HM := HM.callN hn rfl
   refine oy rfl (ex_fieldAddr (off' := 2) rfl rfl U70 rfl tsz68 rfl) ?_
   replace HM := HM.fr1 1 rfl
   refine odS rfl rfl rfl (does_store (vs := [nI t12.fValue, u32, nI t12.fRule.fNeed, nI t12.fRule.fAfter]) (cs' := [nI ((gt x0 a11).fRef.fTx), nI ((gt x0 a11).fRef.fAt), nI t12.fValue, u32, nI t12.fRule.fNeed, nI t12.fRule.fAfter, nI ((gt x0 a11).fHeight), .bool ((gt x0 a11).fMined)]) rfl rfl rfl rfl tsz68 (Ones.int (Ones.rd (HM.own_rd 1 rfl) (Ones.int (Ones.int Ones.nil)))) rfl rfl HM) ?_
   rintro w33 HM
   refine ops_nil (at_then ?_)
   obtain ⟨e34, ho17⟩ := chk_some ho17
   refine run_region rfl (oM rfl (oy rfl (ldN rfl rfl U70 rfl tsz70 ((HM.box_at 0 rfl).subL 0 8 rfl) rfl) ?_))
   replace HM := HM.fr1 1 rfl
   refine oz rfl (does_lit (e := 70) (cs := [(nI ((gt x0 a11).fRef.fTx)), (nI ((gt x0 a11).fRef.fAt)), (nI t12.fValue), u32, (nI t12.fRule.fNeed), (nI t12.fRule.fAfter), (nI ((gt x0 a11).fHeight)), (.bool ((gt x0 a11).fMined))]) (xs := ([(⟨(gt x0 a11).fRef, t12, (gt x0 a11).fHeight, (gt x0 a11).fMined⟩ : Coin)] : List Coin)) kCoin rfl rfl (fun _ => by kernel_rfl) rfl rfl (fun _ _ h => by have := Elems.cons (d := kCoin) (x := (⟨(gt x0 a11).fRef, t12, (gt x0 a11).fHeight, (gt x0 a11).fMined⟩ : Coin)) ⟨_, rfl, h⟩ .nil; rw [List.append_nil, List.append_nil] at this; exact this) HM) ?_
   rintro v35 w36 HM
   replace HM := HM.fr1 2 rfl
   refine oz rfl (does_append kCoin rfl rfl rfl U24 tsz70 rfl tby70 tz70 rfl rfl (leB_le e34) HM) ?_
   rintro v37 w38 HM
   refine oM rfl (ops_nil (at_block (at_then (run_region rfl (oy rfl (ex_add rfl rfl rfl) (oM rfl (ops_nil ?_)))))))
   replace HM := HM.frd 1 rfl
   exact at_again k20 (Nat.lt_succ_self _) ⟨_, _, _, ho17, rfl, HM⟩ (Sub.of rfl)
  ·replace ho17 := cond_f hb22 ho17
   exact run_exit (at_then_exit (at_then_exit (at_block_exit (at_mid ⟨_, _, (sj ho17), rfl, HM⟩ (Sub.of rfl)))))
 ·rintro _ w39 ⟨v18, a13, rfl, rfl, HM⟩
  refine run_seq (run_region rfl (oM rfl (oM rfl (ops_nil (at_then (run_ret ?_))))))
  cases H
  exact at_ret1 rfl rfl ⟨_, rfl, _, rfl, HM⟩

def impl_sorted_1.f (k : Nat) (x0 : Coin) (x1 : Coin) : Option Int := ((impl_compareRefs.f k x0.fRef x1.fRef).bind fun t10 => some t10)
theorem impl_sorted_1.calls {k : Nat} {x0 : Coin} {x1 : Coin} {p0_0 : Value} {p1_0 : Value} {w : World} (hp0_0 : IsSl p0_0) (hp1_0 : IsSl p1_0) {r : Int} (H : impl_sorted_1.f k x0 x1 = some r) :
  Calls Tryz.prog 98 ([.agg #[(nI x0.fRef.fTx), (nI x0.fRef.fAt), (nI x0.fOut.fValue), p0_0, (nI x0.fOut.fRule.fNeed), (nI x0.fOut.fRule.fAfter), (nI x0.fHeight), (.bool x0.fMined)], .agg #[(nI x1.fRef.fTx), (nI x1.fRef.fAt), (nI x1.fOut.fValue), p1_0, (nI x1.fOut.fRule.fNeed), (nI x1.fOut.fRule.fAfter), (nI x1.fHeight), (.bool x1.fMined)]] : List Value).toArray w (fun e w_ => ∃ v, e = .returned v ∧ v = (nI r) ∧ Mem w [] w_ []) := by
 have HM := Mem.start w
 refine calls_run (N := 10) Tryz.func98 rfl rfl rfl rfl ?_
 unfold impl_sorted_1.f at H
 refine run_seq (run_region rfl (oz rfl (does_box (cs := [nI x0.fRef.fTx, nI x0.fRef.fAt, nI x0.fOut.fValue, p0_0, nI x0.fOut.fRule.fNeed, nI x0.fOut.fRule.fAfter, nI x0.fHeight, .bool x0.fMined]) rfl rfl rfl HM) ?_))
 rintro _ w11 ⟨b12, rfl, HM⟩
 refine oz rfl (does_box (cs := [nI x1.fRef.fTx, nI x1.fRef.fAt, nI x1.fOut.fValue, p1_0, nI x1.fOut.fRule.fNeed, nI x1.fOut.fRule.fAfter, nI x1.fHeight, .bool x1.fMined]) rfl rfl rfl HM) ?_
 rintro _ w13 ⟨b14, rfl, HM⟩
 refine oM rfl (ops_nil (at_then (run_seq ?_)))
 obtain ⟨t10, h15, H⟩ := bind_some H
 refine run_region rfl (oy rfl (ex_fieldAddr (off' := 0) rfl rfl U70 rfl tsz38 rfl) (oy rfl (ldN rfl rfl U38 rfl tsz38 ((HM.box_at 1 rfl).subL 0 2 rfl) rfl) (oy rfl (ex_fieldAddr (off' := 0) rfl rfl U70 rfl tsz38 rfl) (oy rfl (ldN rfl rfl U38 rfl tsz38 ((HM.box_at 0 rfl).subL 0 2 rfl) rfl) (oz rfl (does_callk rfl callok33 rfl (impl_compareRefs.calls (x0 := x0.fRef) (x1 := x1.fRef) h15)) ?_)))))
 rintro _ w16 ⟨rfl, hn⟩
 replace HM := HM.callN hn rfl
 refine oM rfl (ops_nil (at_then (run_ret ?_)))
 replace HM := (HM.frd 0 rfl).frd 0 rfl
 cases H
 exact at_ret1 rfl rfl ⟨_, rfl, rfl, HM⟩

def srtI (x y : Int) : Int := bif decide (x < y) then -1 else bif decide (y < x) then 1 else 0
def srtC (a b : Ref) : Int := bif srtI a.fTx b.fTx != 0 then srtI a.fTx b.fTx else srtI a.fAt b.fAt
theorem srtI_run (x y : Int) : cmp_Compare_int64.f 3 x y = some (srtI x y) := by
 have e : ∀ z : Int, (z != z) = false := fun z => by simp
 unfold cmp_Compare_int64.f cmp_isNaN_int64.f srtI
 simp only [Option.bind_some, e, cond_false]
 cases decide (x < y) <;> cases decide (y < x) <;> rfl
theorem srtO_run (p q : Int) : cmp_Or_int.f 3 [p, q] = some (bif p != 0 then p else q) := by
 have e0 : gt [p, q] (0 : Int) = p := rfl
 have e1 : gt [p, q] (1 : Int) = q := rfl
 have w0 : wrap64 ((0 : Int) + 1) = 1 := by rw [wrap64_in _ (by omega)]; rfl
 have w1 : wrap64 ((1 : Int) + 1) = 2 := by rw [wrap64_in _ (by omega)]; rfl
 have c0 : decide ((0 : Int) < (([p, q] : List Int).length : Int)) = true := rfl
 have c1 : decide ((1 : Int) < (([p, q] : List Int).length : Int)) = true := rfl
 have c2 : decide ((2 : Int) < (([p, q] : List Int).length : Int)) = false := rfl
 have k0 : idxOk (0 : Int) ([p, q] : List Int).length = true := rfl
 have k1 : idxOk (1 : Int) ([p, q] : List Int).length = true := rfl
 unfold cmp_Or_int.f
 rw [cmp_Or_int.l0.eq_2, c0, cond_true, k0, e0, w0]
 unfold chk
 simp only [cond_true]
 cases hp : p != 0
 ·rw [cond_false, cmp_Or_int.l0.eq_2, c1, cond_true, k1, e1, w1]
  unfold chk
  simp only [cond_true, cond_false]
  cases hq : q != 0
  ·rw [cond_false, cmp_Or_int.l0.eq_2, c2]
   have : q = 0 := by simpa using hq
   subst this; rfl
  ·rfl
 ·rfl
theorem srt_run (a b : Coin) : impl_sorted_1.f 3 a b = some (srtC a.fRef b.fRef) := by
 unfold impl_sorted_1.f impl_compareRefs.f
 simp only [srtI_run, Option.bind_some, srtO_run]
 rfl
theorem srtI_lt {x y : Int} : srtI x y < 0 ↔ x < y := by
 unfold srtI
 by_cases h : x < y
 ·simp [h]
 ·by_cases h2 : y < x <;> simp [h, h2]
theorem srtI_0 {x y : Int} : srtI x y = 0 ↔ x = y := by
 unfold srtI
 by_cases h : x < y
 ·simp [h]; omega
 ·by_cases h2 : y < x
  ·simp [h, h2]; omega
  ·simp [h, h2]; omega
theorem srtC_lt {a b : Ref} : srtC a b < 0 ↔ a.fTx < b.fTx ∨ a.fTx = b.fTx ∧ a.fAt < b.fAt := by
 unfold srtC
 cases h : srtI a.fTx b.fTx != 0
 ·have h0 : srtI a.fTx b.fTx = 0 := by simpa using h
  have h1 := srtI_0.1 h0
  rw [cond_false, srtI_lt]; omega
 ·have h0 : srtI a.fTx b.fTx ≠ 0 := by simpa using h
  have h1 : a.fTx ≠ b.fTx := fun e => h0 (srtI_0.2 e)
  rw [cond_true, srtI_lt]; omega
abbrev SrtT := Coin × (Option Addr × Nat × Nat)
def srtEnc (s : SrtT) : List Value := [nI s.1.fRef.fTx, nI s.1.fRef.fAt, nI s.1.fOut.fValue, .slice s.2.1 s.2.2.1 s.2.2.2, nI s.1.fOut.fRule.fNeed, nI s.1.fOut.fRule.fAfter, nI s.1.fHeight, .bool s.1.fMined]
theorem srt_swo : Go.Sort.SWO (ltOf fun x y : SrtT => srtC x.1.fRef y.1.fRef) where
 irrefl x := by
  show decide _ = false
  rw [decide_eq_false_iff_not, srtC_lt]; omega
 trans x y z h1 h2 := by
  have h1' := srtC_lt.1 (of_decide_eq_true h1)
  have h2' := srtC_lt.1 (of_decide_eq_true h2)
  show decide _ = true
  rw [decide_eq_true_eq, srtC_lt]; omega
 ntrans x y z h1 h2 := by
  have h1' : ¬ srtC x.1.fRef y.1.fRef < 0 := of_decide_eq_false h1
  have h2' : ¬ srtC y.1.fRef z.1.fRef < 0 := of_decide_eq_false h2
  rw [srtC_lt] at h1' h2'
  show decide _ = false
  rw [decide_eq_false_iff_not, srtC_lt]; omega
def refLe (a b : Coin) : Bool := decide (a.fRef.fTx < b.fRef.fTx) || (decide (a.fRef.fTx = b.fRef.fTx) && decide (a.fRef.fAt ≤ b.fRef.fAt))
theorem refLe_iff {a b : Coin} : refLe a b = true ↔ a.fRef.fTx < b.fRef.fTx ∨ a.fRef.fTx = b.fRef.fTx ∧ a.fRef.fAt ≤ b.fRef.fAt := by
 unfold refLe
 rw [Bool.or_eq_true, Bool.and_eq_true, decide_eq_true_eq, decide_eq_true_eq, decide_eq_true_eq]
theorem refLe_not {a b : Coin} : ltOf (fun x y : Coin => srtC x.fRef y.fRef) b a = false → refLe a b = true := fun h => by
 have h1 : ¬ srtC b.fRef a.fRef < 0 := of_decide_eq_false h
 rw [srtC_lt] at h1
 rw [refLe_iff]; omega
def refKey (c : Coin) : Int × Int := (c.fRef.fTx, c.fRef.fAt)
theorem key_inj : ∀ {xs : List Coin}, (xs.map refKey).Nodup → ∀ a ∈ xs, ∀ b ∈ xs, refKey a = refKey b → a = b
 | [], _, a, ha, _, _, _ => by simp at ha
 | x :: xs, h, a, ha, b, hb, e => by
  rw [List.map_cons, List.nodup_cons] at h
  rcases List.mem_cons.1 ha with ha | ha <;> rcases List.mem_cons.1 hb with hb | hb
  ·rw [ha, hb]
  ·exact absurd (List.mem_map.2 ⟨b, hb, by rw [← e, ha]⟩) h.1
  ·exact absurd (List.mem_map.2 ⟨a, ha, by rw [e, hb]⟩) h.1
  ·exact key_inj h.2 a ha b hb e
theorem sorted_uniq {α : Type} {le : α → α → Bool} : ∀ {l m : List α}, l.Perm m → l.Pairwise (fun a b => le a b = true) → m.Pairwise (fun a b => le a b = true) → (∀ a ∈ l, ∀ b ∈ l, le a b = true → le b a = true → a = b) → l = m
 | [], m, h, _, _, _ => (List.nil_perm.1 h).symm
 | a :: l, [], h, _, _, _ => by have := h.length_eq; simp at this
 | a :: l, b :: m, h, h1, h2, h3 => by
  rw [List.pairwise_cons] at h1 h2
  have hb : b ∈ a :: l := h.mem_iff.2 (by simp)
  have ha : a ∈ b :: m := h.mem_iff.1 (by simp)
  have e : a = b := by
   rcases List.mem_cons.1 hb with e | hb'
   ·exact e.symm
   ·rcases List.mem_cons.1 ha with e | ha'
    ·exact e
    ·exact h3 a (by simp) b hb (h1.1 b hb') (h2.1 a ha')
  subst e
  rw [sorted_uniq ((List.perm_cons a).1 h) h1.2 h2.2 (fun x hx y hy => h3 x (by simp [hx]) y (by simp [hy]))]
def slices_SortFunc_Coin.f (k : Nat) (x0 : List Coin) : Option (List Coin) := chk (leB x0.length 1000000 && decide ((x0.map refKey).Nodup)) (some (x0.mergeSort refLe))
theorem slices_SortFunc_Coin.calls {k : Nat} {x0 : List Coin} {p0 : Value} {w wo : World} {X : List Nat} (hwo : Olds wo w X) (hX : Hold w [own kCoin 70 p0 x0] X) (hXn : X.Nodup) (hXl : ∀ b ∈ X, b < w.heap.size) {r : List Coin} (H : slices_SortFunc_Coin.f k x0 = some r) :
  Calls Tryz.prog 97 ([p0, .func (.func 98) #[] #[]] : List Value).toArray w (fun e w_ => ∃ v, e = .returned v ∧ v = (.tuple #[]) ∧ Mem w X w_ [own kCoin 70 p0 r]) := by
 obtain ⟨h, H⟩ := chk_some H
 cases H
 rw [Bool.and_eq_true, decide_eq_true_eq] at h
 have hlen := leB_le h.1
 have eg : ∀ args w, (callFunc 98 args).run Tryz.prog w = .ok (.enter 98 args) w := enters_of Tryz.func98 (by kernel_rfl) rfl
 have aE : ∀ w, (isAgg 70).run Tryz.prog w = .ok true w := fun w => by simp [isAgg, run_underlying U70]
 have zE : ∀ w, (Go.sizeOf 70).run Tryz.prog w = .ok 8 w := fun w => run_sizeOf tsz70
 have hk : ∀ x : SrtT, (srtEnc x).length = 8 := fun _ => rfl
 have h1 : ∀ x : SrtT, ∀ v ∈ srtEnc x, v.oneCell' = true := fun x v hv => by
  simp only [srtEnc, List.mem_cons, List.not_mem_nil, or_false] at hv
  rcases hv with rfl | rfl | rfl | rfl | rfl | rfl | rfl | rfl <;> rfl
 refine (sort_own (d := kCoin) (enc := srtEnc) hk h1 (by decide) (cf := fun x y : SrtT => srtC x.1.fRef y.1.fRef) (fun s x => s.1 = x) ?_
  (fun blk cap dd w hc hH hb hs => AnyQ.slices_SortFunc Tryz.sortCoin 8 aE zE srtEnc hk h1 _ srt_swo 98 #[] blk 0 cap dd w eg hc hH hb hs)
  (fun p cap w => AnyF.slices_SortFunc_none { Tryz.sortCoin with } p cap _ w) (fun W x y => ?_) hX hXn hXl (by omega)).mono fun e w' ⟨he, ys, hp, ⟨ps, q1, q2, q3⟩, hm⟩ => ⟨_, he, rfl, ?_⟩
 ·rintro w x c f ⟨v, hv, ⟨cells, b, fs, hrow, _⟩⟩
  subst hv
  rcases hrow with ⟨A, rfl, _⟩ | ⟨g0, c0, cur, rfl, _⟩
  ·exact ⟨(x, (A, 0, 0)), rfl, rfl⟩
  ·exact ⟨(x, (some ⟨g0, 0, none⟩, _, c0)), rfl, rfl⟩
 ·exact (impl_sorted_1.calls (w := W) (p0_0 := .slice x.2.1 x.2.2.1 x.2.2.2) (p1_0 := .slice y.2.1 y.2.2.1 y.2.2.2) ⟨_, _, _, rfl⟩ ⟨_, _, _, rfl⟩ (srt_run x.1 y.1)).mono fun e w' ⟨v, he, hv, hm⟩ => ⟨by rw [he, hv], fr_grow trivial hm.fr⟩
 ·have hys : ys.Pairwise (fun a b => refLe a b = true) := by
   rw [← q1, List.pairwise_map]
   rw [List.pairwise_map] at q3
   refine q3.imp_of_mem fun {a b} ha hb hab => ?_
   rw [← q2 a ha, ← q2 b hb]
   exact refLe_not hab
  have hms : (x0.mergeSort refLe).Pairwise (fun a b => refLe a b = true) := List.pairwise_mergeSort (fun a b c h1 h2 => by rw [refLe_iff] at *; omega) (fun a b => by
   rw [Bool.or_eq_true, refLe_iff, refLe_iff]; omega) x0
  have e : ys = x0.mergeSort refLe := sorted_uniq (hp.trans (List.mergeSort_perm x0 refLe).symm) hys hms (fun a ha b hb h1 h2 => by
   refine key_inj h.2 a (hp.mem_iff.1 ha) b (hp.mem_iff.1 hb) ?_
   rw [refLe_iff] at h1 h2
   have e1 : a.fRef.fTx = b.fRef.fTx := by omega
   have e2 : a.fRef.fAt = b.fRef.fAt := by omega
   unfold refKey
   rw [e1, e2])
  rw [← e]; exact hm


def impl_sorted.f (k : Nat) (x0 : List Coin) : Option ((List Coin)) := ((slices_SortFunc_Coin.f k x0).bind fun t10 => some t10)
theorem impl_sorted.calls {k : Nat} {x0 : List Coin} {p0 : Value} {w wo : World} {X : List Nat} (hwo : Olds wo w X) (hX : Hold w [own kCoin 70 p0 x0] X) (hXn : X.Nodup) (hXl : ∀ b ∈ X, b < w.heap.size)  {r : (List Coin)} (H : impl_sorted.f k x0 = some r) :
  Calls Tryz.prog 61 ([p0] : List Value).toArray w (fun e w_ => ∃ v, e = .returned v ∧ ∃ u0 : Value, v = u0 ∧ Mem w X w_ [own kCoin 70 u0 r]) := by
 have HM := Mem.startX hX hXn hXl
 refine calls_run (N := 6) Tryz.func61 rfl rfl rfl rfl ?_
 unfold impl_sorted.f at H
 refine run_seq (run_region rfl (oM rfl (ops_nil (at_then (run_seq ?_)))))
 obtain ⟨t10, h11, H⟩ := bind_some H
 refine run_region rfl (oM rfl ?_)
 obtain ⟨F12, hF13, hFn14, hFl15, HMh16, hcl17⟩ := HM.hideN 1 rfl
 refine oz rfl (does_callk rfl callok97 rfl (slices_SortFunc_Coin.calls (x0 := x0) (hide_olds _ _) hF13 hFn14 hFl15 h11)) ?_
 rintro _ w18 ⟨rfl, hn⟩
 replace HM := hcl17 _ _ _ rfl hn
 refine ops_nil (at_then (run_seq (run_region rfl (oM rfl (oM rfl (ops_nil (at_then (run_ret ?_))))))))
 cases H
 exact at_ret1 rfl rfl ⟨_, rfl, _, rfl, HM⟩

def impl_spentBy.l0 (x0 : List Coin) (x1 : Tx) : Nat → (List Coin) → Int → Option (((List Coin) × Int) ⊕ ((List Coin)))
 | 0, _, _ => none
 | k + 1, a10, a11 => (bif (decide (a11 < (x1.fIns.length : Int))) then (chk (idxOk a11 x1.fIns.length) ((impl_findCoin.f k x0 (gt x1.fIns a11)).bind fun t12 => (bif !t12.2 then some (.inl (([] : List Coin), 4)) else (chk (idxOk t12.1 x0.length) (chk (leB ((a10.length + ([(gt x0 t12.1)] : List Coin).length) * 80) 140737488355328) (impl_spentBy.l0 x0 x1 k (a10 ++ ([(gt x0 t12.1)] : List Coin)) (wrap64 (a11 + 1)))))))) else some (.inr a10))
def impl_spentBy.f (k : Nat) (x0 : List Coin) (x1 : Tx) : Option ((List Coin) × Int) := ((impl_spentBy.l0 x0 x1 k ([] : List Coin) 0).bind fun o13 => thn o13 (fun r => some r) (fun a14 => ((impl_ownCoins.f k a14).bind fun t15 => ((impl_sorted.f k t15).bind fun t16 => some (t16, 0)))))
theorem impl_spentBy.calls {k : Nat} {x0 : List Coin} {x1 : Tx} {p0 : Value} {p1_0 : Value} {p1_1 : Value} {w : World} (hp0 : RdS kCoin w p0 x0) (hp1_0 : RdS kRef w p1_0 x1.fIns) (hp1_1 : RdS kOut w p1_1 x1.fOuts) {r : (List Coin) × Int} (H : impl_spentBy.f k x0 x1 = some r) :
  Calls Tryz.prog 24 ([p0, .agg #[(nI x1.fKind), (nI x1.fMember), p1_0, p1_1]] : List Value).toArray w (fun e w_ => ∃ v, e = .returned v ∧ ∃ u0 : Value, v = (.tuple #[u0, nI r.2]) ∧ Mem w [] w_ [own kCoin 70 u0 r.1]) := by
 have HM := Mem.start w
 refine calls_run (N := 38) Tryz.func24 rfl rfl rfl rfl ?_
 unfold impl_spentBy.f at H
 refine run_seq (run_region rfl (oz rfl (does_box (cs := [nI x1.fKind, nI x1.fMember, p1_0, p1_1]) rfl rfl rfl HM) ?_))
 rintro _ w17 ⟨b18, rfl, HM⟩
 refine oM rfl (oM rfl (ops_nil (at_then (run_seq (run_region rfl (oz rfl (does_lit (e := 70) (cs := []) (xs := ([] : List Coin)) kCoin rfl rfl (fun _ => by kernel_rfl) rfl rfl (fun _ _ h => by have h' : _ = [] := h; subst h'; exact .nil) HM.emp) ?_))))))
 rintro v19 w20 HM
 refine oM rfl (ops_nil (at_then ?_))
 obtain ⟨o13, ho21, H⟩ := bind_some H
 refine run_mid (fun ρ_ w_ => ∃ v22 : Value, ∃ a14 : List Coin, Sum.inr a14 = o13 ∧ ρ_ = [(6, v22)] ∧ Mem w [] w_ [own (Kd.lent w kCoin with1_one) 70 v22 a14]) ?_ ?_
 ·refine run_seq (run_region rfl (oy rfl (ex_fieldAddr (off' := 2) rfl rfl U28 rfl tsz25 rfl) (oy rfl (ex_load1 rfl rfl U25 rfl ((HM.box_at 1 rfl) 2 _ rfl)) (oy rfl (ex_len (d := kRef) (xs := x1.fIns) rfl rfl U25 hp1_0) (oM rfl (ops_nil (at_then (run_block ?_))))))))
  replace HM := Mem.relent (d := kCoin) (d' := (Kd.lent w kCoin with1_one)) rfl HM
  replace HM := HM.frd 1 rfl
  refine run_loop (fun k_ ρ_ w_ => ∃ v23 : Value, ∃ a10 : List Coin, ∃ a11 : Int, impl_spentBy.l0 x0 x1 k_ a10 a11 = some o13 ∧ ρ_ = [(0, p0), (6, v23), (13, p1_0), (14, nI (x1.fIns.length : Int)), (15, nI a11)] ∧ Mem w [] w_ [own (Kd.lent w kCoin with1_one) 70 v23 a10]) k ⟨_, _, _, ho21, rfl, HM⟩ (Sub.of rfl) ?_
  clear HM ho21
  rintro k24 _ w25 ⟨v23, a10, a11, ho21, rfl, HM⟩
  obtain _ | k24 := k24
  ·exact nomatch ((impl_spentBy.l0.eq_1 x0 x1 a10 a11).symm.trans ho21)
  replace ho21 := (impl_spentBy.l0.eq_2 ..).symm.trans ho21
  refine run_seq (run_region rfl (oy rfl (ex_lss rfl rfl rfl) (ops_nil (at_then (run_seq (run_cond (b := (decide (a11 < (x1.fIns.length : Int)))) rfl (fun hb26 => ?_) (fun hb26 => ?_)))))))
  ·replace ho21 := cond_t hb26 ho21
   refine run_skip (at_then (run_seq (run_block (run_seq ?_))))
   obtain ⟨e27, ho21⟩ := chk_some ho21
   refine run_region rfl ?_
   have hc28 : CellsAt _ (sb p1_0) (so p1_0 + (a11).toNat * 2) [(nI ((gt x1.fIns a11).fTx)), (nI ((gt x1.fIns a11).fAt))] := rd_plain hp1_0 e27
   refine oy rfl (ex_indexAddr (d := kRef) rfl rfl rfl U25 tsz38 hp1_0 (idx_lo e27) (idx_hi e27)) (oy rfl (ldN rfl rfl U38 rfl tsz38 ((HM.at_ hc28).subL 0 2 rfl) rfl) (oz rfl (does_alloc (cs := [nI 0, nI 0]) rfl tz38 rfl HM) ?_))
   rintro _ w29 ⟨b30, rfl, HM⟩
   refine odS rfl rfl rfl (does_store (vs := [nI ((gt x1.fIns a11).fTx), nI ((gt x1.fIns a11).fAt)]) (cs' := [nI ((gt x1.fIns a11).fTx), nI ((gt x1.fIns a11).fAt)]) rfl rfl rfl rfl tsz38 (Ones.int (Ones.int Ones.nil)) rfl rfl HM) ?_
   rintro w31 HM
   refine ops_nil (at_then (run_seq ?_))
   obtain ⟨t12, h32, ho21⟩ := bind_some ho21
   refine run_region rfl (oM rfl (oy rfl (ldN rfl rfl U38 rfl tsz38 ((HM.box_at 0 rfl).subL 0 2 rfl) rfl) (oz rfl (does_callk rfl callok25 rfl (impl_findCoin.calls (x0 := x0) (x1 := (gt x1.fIns a11)) (HM.rd hp0) h32)) ?_)))
   rintro _ w33 ⟨rfl, hn⟩
   replace HM := HM.callN hn rfl
   refine oM rfl (oy rfl (ex_extract rfl rfl rfl) (oy rfl (ex_extract rfl rfl rfl) (oM rfl (oM rfl (ops_nil (at_then (run_seq (run_seq (run_region rfl (oM rfl (oy rfl (ex_not rfl rfl) ?_)))))))))))
   refine ops_nil (at_then (run_cond (b := !t12.2) rfl (fun hb34 => ?_) (fun hb34 => ?_)))
   ·replace ho21 := cond_t hb34 ho21
    refine run_seq (run_region rfl (oM rfl (oM rfl (ops_nil (at_then (run_ret (at_then_ret (at_block_ret (at_then_ret (at_then_ret ?_))))))))))
    refine at_block_ret (at_then_ret ?_)
    replace HM := ((HM.empty kCoin 70 none).frd 1 rfl).frd 1 rfl
    cases ho21
    have hT := thn_inl H
    cases hT
    exact at_ret2 rfl rfl rfl ⟨_, rfl, _, rfl, HM⟩
   ·replace ho21 := cond_f hb34 ho21
    refine run_skip (at_then ?_)
    obtain ⟨e35, ho21⟩ := chk_some ho21
    obtain ⟨e36, ho21⟩ := chk_some ho21
    refine run_region rfl (oM rfl (oM rfl (oM rfl ?_)))
    obtain ⟨kv37, hc38, hk39⟩ := rd_with1 hp0 e35
    refine oy rfl (ex_indexAddr (d := kCoin) rfl rfl rfl U24 tsz70 hp0 (idx_lo e35) (idx_hi e35)) (oy rfl (ldN rfl rfl U70 rfl tsz70 ((HM.at_ hc38).subL 0 8 rfl) rfl) (oz rfl (does_lit (e := 70) (cs := [nI ((gt x0 t12.1).fRef.fTx), nI ((gt x0 t12.1).fRef.fAt), nI ((gt x0 t12.1).fOut.fValue), kv37, nI ((gt x0 t12.1).fOut.fRule.fNeed), nI ((gt x0 t12.1).fOut.fRule.fAfter), nI ((gt x0 t12.1).fHeight), .bool ((gt x0 t12.1).fMined)]) (xs := ([(gt x0 t12.1)] : List Coin)) (Kd.lent w kCoin with1_one) rfl rfl (fun _ => by kernel_rfl) rfl rfl (fun _ _ h => by have h' : _ = [] := h; subst h'; exact (Elems.cons (d := (Kd.lent w kCoin with1_one)) (f := []) ⟨⟨_, rfl, hk39⟩, rfl⟩ .nil)) HM.emp) ?_))
    rintro v40 w41 HM
    replace HM := HM.fr1 2 rfl
    refine oz rfl (does_append (Kd.lent w kCoin with1_one) rfl rfl rfl U24 tsz70 rfl tby70 tz70 rfl rfl (leB_le e36) HM) ?_
    rintro v42 w43 HM
    refine oM rfl (ops_nil (at_block (at_then (run_region rfl (oy rfl (ex_add rfl rfl rfl) (oM rfl (ops_nil ?_)))))))
    replace HM := HM.frd 1 rfl
    exact at_again k24 (Nat.lt_succ_self _) ⟨_, _, _, ho21, rfl, HM⟩ (Sub.of rfl)
  ·replace ho21 := cond_f hb26 ho21
   exact run_exit (at_then_exit (at_then_exit (at_block_exit (at_mid ⟨_, _, (sj ho21), rfl, HM⟩ (Sub.of rfl)))))
 ·rintro _ w44 ⟨v22, a14, rfl, rfl, HM⟩
  replace H := (thn_inr H)
  refine run_seq ?_
  obtain ⟨t15, h45, H⟩ := bind_some H
  obtain ⟨t16, h46, H⟩ := bind_some H
  refine run_region rfl (oM rfl (oz rfl (does_callk rfl callok26 rfl (impl_ownCoins.calls (x0 := a14) ((HM.own_rd 0 rfl).unlent (HM.old)) h45)) ?_))
  rintro u47 w48 ⟨_, rfl, hn⟩
  replace HM := HM.callN hn rfl
  obtain ⟨F49, hF50, hFn51, hFl52, HMh53, hcl54⟩ := HM.hideN 1 rfl
  refine oz rfl (does_callk rfl callok61 rfl (impl_sorted.calls (x0 := t15) (hide_olds _ _) hF50 hFn51 hFl52 h46)) ?_
  rintro u55 w56 ⟨_, rfl, hn⟩
  replace HM := hcl54 _ _ _ rfl hn
  refine oM rfl (oM rfl (ops_nil (at_then (run_ret ?_))))
  replace HM := HM.frd 1 rfl
  cases H
  exact at_ret2 rfl rfl rfl ⟨_, rfl, _, rfl, HM⟩

def impl_hasTx_1.f (k : Nat) (x0 : Coin) (x1 : Int) : Option Bool := some (x0.fRef.fTx == x1)
theorem impl_hasTx_1.calls {k : Nat} {x0 : Coin} {x1 : Int} {p0_0 : Value} {b1 f1 : Nat} {w : World} (hp0_0 : RdS kInt w p0_0 x0.fOut.fRule.fKeys) (hc1 : CellsAt w b1 f1 [nI x1]) {r : Bool} (H : impl_hasTx_1.f k x0 x1 = some r) :
  Calls Tryz.prog 82 ([.agg #[(nI x0.fRef.fTx), (nI x0.fRef.fAt), (nI x0.fOut.fValue), p0_0, (nI x0.fOut.fRule.fNeed), (nI x0.fOut.fRule.fAfter), (nI x0.fHeight), (.bool x0.fMined)], pA b1 f1] : List Value).toArray w (fun e w_ => ∃ v, e = .returned v ∧ v = (.bool r) ∧ Mem w [] w_ []) := by
 have HM := Mem.start w
 refine calls_run (N := 9) Tryz.func82 rfl rfl rfl rfl ?_
 unfold impl_hasTx_1.f at H
 refine run_seq (run_region rfl (oz rfl (does_box (cs := [nI x0.fRef.fTx, nI x0.fRef.fAt, nI x0.fOut.fValue, p0_0, nI x0.fOut.fRule.fNeed, nI x0.fOut.fRule.fAfter, nI x0.fHeight, .bool x0.fMined]) rfl rfl rfl HM) ?_))
 rintro _ w10 ⟨b11, rfl, HM⟩
 refine oM rfl (ops_nil (at_then (run_seq (run_region rfl (oy rfl (ex_fieldAddr (off' := 0) rfl rfl U70 rfl tsz38 rfl) (oy rfl (ex_fieldAddr (off' := 0) rfl rfl U38 rfl tsz2 rfl) (oy rfl (ex_load1 rfl rfl U2 rfl ((HM.box_at 0 rfl) 0 _ rfl)) (oy rfl (ex_load1 rfl rfl U2 rfl ((HM.at_ hc1) 0 _ rfl)) (oy rfl (ex_eql rfl rfl rfl) (oM rfl (ops_nil (at_then ?_))))))))))))
 refine run_ret ?_
 replace HM := HM.frd 0 rfl
 cases H
 exact at_ret1 rfl rfl ⟨_, rfl, rfl, HM⟩

def slices_IndexFunc_impl_Coin.l0 (x0 : List Coin) (x1_0 : Int) : Nat → Int → Option (Int ⊕ Unit)
 | 0, _ => none
 | k + 1, a10 => (bif (decide (a10 < (x0.length : Int))) then (chk (idxOk a10 x0.length) ((impl_hasTx_1.f k (gt x0 a10) x1_0).bind fun t11 => (bif t11 then some (.inl a10) else slices_IndexFunc_impl_Coin.l0 x0 x1_0 k (wrap64 (a10 + 1))))) else some (.inr ()))
def slices_IndexFunc_impl_Coin.f (k : Nat) (x0 : List Coin) (x1_0 : Int) : Option Int := ((slices_IndexFunc_impl_Coin.l0 x0 x1_0 k 0).bind fun o12 => thn o12 (fun r => some r) (fun _ => some (-1)))
theorem slices_IndexFunc_impl_Coin.calls {k : Nat} {x0 : List Coin} {x1_0 : Int} {p0 : Value} {b1_0 f1_0 : Nat} {w : World} (hp0 : RdS kCoin w p0 x0) (hc1_0 : CellsAt w b1_0 f1_0 [nI x1_0]) {r : Int} (H : slices_IndexFunc_impl_Coin.f k x0 x1_0 = some r) :
  Calls Tryz.prog 96 ([p0, .func (.func 82) #[] #[(pA b1_0 f1_0)]] : List Value).toArray w (fun e w_ => ∃ v, e = .returned v ∧ v = (nI r) ∧ Mem w [] w_ []) := by
 have HM := Mem.start w
 refine calls_run (N := 19) Tryz.func96 rfl rfl rfl rfl ?_
 unfold slices_IndexFunc_impl_Coin.f at H
 refine run_seq (run_region rfl (oM rfl (ops_nil (at_then ?_))))
 obtain ⟨o12, ho13, H⟩ := bind_some H
 refine run_mid (fun ρ_ w_ => Sum.inr () = o12 ∧ ρ_ = [] ∧ Mem w [] w_ []) ?_ ?_
 ·refine run_seq (run_region rfl (oM rfl (oy rfl (ex_len (d := kCoin) (xs := x0) rfl rfl U24 hp0) (oM rfl (ops_nil (at_then (run_block ?_)))))))
  refine run_loop (fun k_ ρ_ w_ => ∃ a10 : Int, slices_IndexFunc_impl_Coin.l0 x0 x1_0 k_ a10 = some o12 ∧ ρ_ = [(0, p0), (1, .func (.func 82) #[] #[(pA b1_0 f1_0)]), (7, nI (x0.length : Int)), (8, nI a10)] ∧ Mem w [] w_ []) k ⟨_, ho13, rfl, HM⟩ (Sub.of rfl) ?_
  clear HM ho13
  rintro k14 _ w15 ⟨a10, ho13, rfl, HM⟩
  obtain _ | k14 := k14
  ·exact nomatch ((slices_IndexFunc_impl_Coin.l0.eq_1 x0 x1_0 a10).symm.trans ho13)
  replace ho13 := (slices_IndexFunc_impl_Coin.l0.eq_2 ..).symm.trans ho13
  refine run_seq (run_region rfl (oy rfl (ex_lss rfl rfl rfl) (ops_nil (at_then (run_seq (run_cond (b := (decide (a10 < (x0.length : Int)))) rfl (fun hb16 => ?_) (fun hb16 => ?_)))))))
  ·replace ho13 := cond_t hb16 ho13
   refine run_skip (at_then (run_seq (run_block (run_seq (run_region rfl (oM rfl (oM rfl (ops_nil (at_then (run_seq ?_))))))))))
   obtain ⟨e17, ho13⟩ := chk_some ho13
   obtain ⟨t11, h18, ho13⟩ := bind_some ho13
   refine run_region rfl (oM rfl (oM rfl (oM rfl ?_)))
   obtain ⟨kv19, hc20, hk21⟩ := rd_with1 hp0 e17
   refine oy rfl (ex_indexAddr (d := kCoin) rfl rfl rfl U24 tsz70 hp0 (idx_lo e17) (idx_hi e17)) (oy rfl (ldN rfl rfl U70 rfl tsz70 ((HM.at_ hc20).subL 0 8 rfl) rfl) (oz rfl (does_callvk rfl callok82 rfl rfl rfl (impl_hasTx_1.calls (x0 := (gt x0 a10)) (x1 := x1_0) (HM.rd hk21) (HM.at_ hc1_0) h18)) ?_))
   rintro _ w22 ⟨rfl, hn⟩
   replace HM := HM.callN hn rfl
   refine ops_nil (at_then (run_cond (b := t11) rfl (fun hb23 => ?_) (fun hb23 => ?_)))
   ·replace ho13 := cond_t hb23 ho13
    refine run_seq (run_region rfl (oM rfl (oM rfl (ops_nil (at_then (run_ret (at_block_ret (at_then_ret (at_then_ret (at_block_ret ?_))))))))))
    refine at_then_ret ?_
    cases ho13
    have hT := thn_inl H
    cases hT
    exact at_ret1 rfl rfl ⟨_, rfl, rfl, HM⟩
   ·replace ho13 := cond_f hb23 ho13
    exact run_skip (at_block (at_then (run_region rfl (oy rfl (ex_add rfl rfl rfl) (oM rfl (ops_nil (at_again k14 (Nat.lt_succ_self _) ⟨_, ho13, rfl, HM⟩ (Sub.of rfl))))))))
  ·replace ho13 := cond_f hb16 ho13
   exact run_exit (at_then_exit (at_then_exit (at_block_exit (at_mid ⟨(sj ho13), rfl, HM⟩ Sub.nil))))
 ·rintro _ w24 ⟨rfl, rfl, HM⟩
  replace H := (thn_inr H)
  refine run_seq (run_region rfl (oM rfl (ops_nil (at_then (run_ret ?_)))))
  cases H
  exact at_ret1 rfl rfl ⟨_, rfl, rfl, HM⟩

def slices_ContainsFunc_impl_Coin.f (k : Nat) (x0 : List Coin) (x1_0 : Int) : Option Bool := ((slices_IndexFunc_impl_Coin.f k x0 x1_0).bind fun t10 => some (decide (0 ≤ t10)))
theorem slices_ContainsFunc_impl_Coin.calls {k : Nat} {x0 : List Coin} {x1_0 : Int} {p0 : Value} {b1_0 f1_0 : Nat} {w : World} (hp0 : RdS kCoin w p0 x0) (hc1_0 : CellsAt w b1_0 f1_0 [nI x1_0]) {r : Bool} (H : slices_ContainsFunc_impl_Coin.f k x0 x1_0 = some r) :
  Calls Tryz.prog 81 ([p0, .func (.func 82) #[] #[(pA b1_0 f1_0)]] : List Value).toArray w (fun e w_ => ∃ v, e = .returned v ∧ v = (.bool r) ∧ Mem w [] w_ []) := by
 have HM := Mem.start w
 refine calls_run (N := 9) Tryz.func81 rfl rfl rfl rfl ?_
 unfold slices_ContainsFunc_impl_Coin.f at H
 refine run_seq (run_region rfl (oM rfl (ops_nil (at_then (run_seq ?_)))))
 obtain ⟨t10, h11, H⟩ := bind_some H
 refine run_region rfl (oM rfl (oM rfl (oz rfl (does_callk rfl callok96 rfl (slices_IndexFunc_impl_Coin.calls (x0 := x0) (x1_0 := x1_0) (HM.rd hp0) (HM.at_ hc1_0) h11)) ?_)))
 rintro _ w12 ⟨rfl, hn⟩
 replace HM := HM.callN hn rfl
 refine oy rfl (ex_geq rfl rfl rfl) (oM rfl (ops_nil (at_then (run_ret ?_))))
 cases H
 exact at_ret1 rfl rfl ⟨_, rfl, rfl, HM⟩

def impl_hasTx.f (k : Nat) (x0 : List Coin) (x1 : Int) : Option Bool := ((slices_ContainsFunc_impl_Coin.f k x0 x1).bind fun t10 => some t10)
theorem impl_hasTx.calls {k : Nat} {x0 : List Coin} {x1 : Int} {p0 : Value} {w : World} (hp0 : RdS kCoin w p0 x0) {r : Bool} (H : impl_hasTx.f k x0 x1 = some r) :
  Calls Tryz.prog 42 ([p0, nI x1] : List Value).toArray w (fun e w_ => ∃ v, e = .returned v ∧ v = (.bool r) ∧ Mem w [] w_ []) := by
 have HM := Mem.start w
 refine calls_run (N := 8) Tryz.func42 rfl rfl rfl rfl ?_
 unfold impl_hasTx.f at H
 refine run_seq (run_region rfl (oz rfl (does_box (cs := [nI x1]) rfl rfl rfl HM) ?_))
 rintro _ w11 ⟨b12, rfl, HM⟩
 refine oM rfl (ops_nil (at_then (run_seq ?_)))
 obtain ⟨t10, h13, H⟩ := bind_some H
 refine run_region rfl (oM rfl (oy rfl (ex_func rfl rfl) (oz rfl (does_callk rfl callok81 rfl (slices_ContainsFunc_impl_Coin.calls (x0 := x0) (x1_0 := x1) (HM.rd hp0) (HM.box_at 0 rfl) h13)) ?_)))
 rintro _ w14 ⟨rfl, hn⟩
 replace HM := HM.callN hn rfl
 refine oM rfl (ops_nil (at_then (run_ret ?_)))
 replace HM := HM.frd 0 rfl
 cases H
 exact at_ret1 rfl rfl ⟨_, rfl, rfl, HM⟩
end Go.Proofs.YtecgbhfgkkpmhacGreat.Zk
