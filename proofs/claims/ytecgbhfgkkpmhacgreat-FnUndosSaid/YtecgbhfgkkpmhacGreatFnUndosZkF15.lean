/- What functions of the program compute, each as a plain function, and that they do. Conditions: as each theorem states them. -/
import Derived.Test.YtecgbhfgkkpmhacGreatFnUndosZkF14
namespace Go.Proofs.YtecgbhfgkkpmhacGreat.Zk
open Go Go.RowKit Go.IntWalk Go.Proofs
set_option linter.unusedVariables false
set_option linter.unusedSimpArgs false
set_option maxRecDepth 100000
set_option maxHeartbeats 4000000
def spec_SpentBy.f (k : Nat) (x0 : List Coin) (x1 : Tx) : Option CoinsResult := ((spec_l4Fault.f k x0).bind fun t10 => (bif (t10 != 0) then some (⟨t10, ([] : List Coin)⟩ : CoinsResult) else ((spec_l3Fault.f k x1).bind fun t11 => (bif (t11 != 0) then some (⟨t11, ([] : List Coin)⟩ : CoinsResult) else ((spec_l5Spent.f k x0 x1).bind fun t12 => (bif !t12.2 then some (⟨4, ([] : List Coin)⟩ : CoinsResult) else some (⟨0, t12.1⟩ : CoinsResult)))))))
theorem spec_SpentBy.calls {k : Nat} {x0 : List Coin} {x1 : Tx} {p0 : Value} {p1_0 : Value} {p1_1 : Value} {w : World} (hp0 : RdS kCoin w p0 x0) (hp1_0 : RdS kRef w p1_0 x1.fIns) (hp1_1 : RdS kOut w p1_1 x1.fOuts) {r : CoinsResult} (H : spec_SpentBy.f k x0 x1 = some r) :
  Calls Tryz.prog 19 ([p0, .agg #[(nI x1.fKind), (nI x1.fMember), p1_0, p1_1]] : List Value).toArray w (fun e w_ => ∃ v, e = .returned v ∧ ∃ u0 : Value, v = (.agg #[nI r.fCode, u0]) ∧ Mem w [] w_ [own kCoin 70 u0 r.fCoins]) := by
 have HM := Mem.start w
 refine calls_run (N := 30) Tryz.func19 rfl rfl rfl rfl ?_
 unfold spec_SpentBy.f at H
 refine run_seq (run_region rfl (oz rfl (does_box (cs := [nI x1.fKind, nI x1.fMember, p1_0, p1_1]) rfl rfl rfl HM) ?_))
 rintro _ w13 ⟨b14, rfl, HM⟩
 refine oz rfl (does_alloc (cs := [nI 0, .slice none 0 0]) rfl tz32 rfl HM) ?_
 rintro _ w15 ⟨b16, rfl, HM⟩
 refine ops_nil (at_then (run_seq (run_seq ?_)))
 obtain ⟨t10, h17, H⟩ := bind_some H
 refine run_region rfl (oM rfl (oz rfl (does_callk rfl callok45 rfl (spec_l4Fault.calls (x0 := x0) (HM.rd hp0) h17)) ?_))
 rintro _ w18 ⟨rfl, hn⟩
 replace HM := HM.callN hn rfl
 refine oM rfl (ops_nil (at_then (run_seq (run_region rfl (oM rfl (oy rfl (ex_neq rfl rfl rfl) (ops_nil (at_then (run_cond (b := (t10 != 0)) rfl (fun hb19 => ?_) (fun hb19 => ?_))))))))))
 ·replace H := cond_t hb19 H
  refine run_seq (run_region rfl (oM rfl (oy rfl (ex_build (cells := #[(nI t10), (.slice none 0 0)]) rfl rfl (by kernel_rfl)) ?_)))
  refine odS rfl rfl rfl (does_store (vs := [nI t10, .slice none 0 0]) (cs' := [nI t10, .slice none 0 0]) rfl rfl rfl rfl tsz32 (Ones.int (Ones.sl Ones.nil)) rfl rfl HM) ?_
  rintro w20 HM
  refine ops_nil (at_then (run_ret (at_then_ret ?_)))
  replace HM := ((HM.empty kCoin 70 none).frd 2 rfl).fr1 1 rfl
  have hcb0 := HM.box_at 0 rfl
  replace HM := HM.frd 0 rfl
  cases H
  exact at_retN rfl rfl U32 rfl tsz32 rfl hcb0 ⟨_, rfl, _, rfl, HM⟩
 ·replace H := cond_f hb19 H
  refine run_skip (at_then (run_seq (run_seq ?_)))
  obtain ⟨t11, h21, H⟩ := bind_some H
  refine run_region rfl (oz rfl (does_callk rfl callok46 rfl (spec_l3Fault.calls (x0 := x1) (HM.box_at 1 rfl) (HM.rd hp1_0) (HM.rd hp1_1) h21)) ?_)
  rintro _ w22 ⟨rfl, hn⟩
  replace HM := HM.callN hn rfl
  refine oM rfl (ops_nil (at_then (run_seq (run_region rfl (oM rfl (oy rfl (ex_neq rfl rfl rfl) (ops_nil (at_then (run_cond (b := (t11 != 0)) rfl (fun hb23 => ?_) (fun hb23 => ?_))))))))))
  ·replace H := cond_t hb23 H
   refine run_seq (run_region rfl (oM rfl (oy rfl (ex_build (cells := #[(nI t11), (.slice none 0 0)]) rfl rfl (by kernel_rfl)) ?_)))
   refine odS rfl rfl rfl (does_store (vs := [nI t11, .slice none 0 0]) (cs' := [nI t11, .slice none 0 0]) rfl rfl rfl rfl tsz32 (Ones.int (Ones.sl Ones.nil)) rfl rfl HM) ?_
   rintro w24 HM
   refine ops_nil (at_then (run_ret (at_then_ret ?_)))
   replace HM := ((HM.empty kCoin 70 none).frd 2 rfl).fr1 1 rfl
   have hcb0 := HM.box_at 0 rfl
   replace HM := HM.frd 0 rfl
   cases H
   exact at_retN rfl rfl U32 rfl tsz32 rfl hcb0 ⟨_, rfl, _, rfl, HM⟩
  ·replace H := cond_f hb23 H
   refine run_skip (at_then (run_seq ?_))
   obtain ⟨t12, h25, H⟩ := bind_some H
   refine run_region rfl (oM rfl (oz rfl (does_callk rfl callok47 rfl (spec_l5Spent.calls (x0 := x0) (x1 := x1) (HM.rd hp0) (HM.box_at 1 rfl) (HM.rd hp1_0) (HM.rd hp1_1) h25)) ?_))
   rintro _ w26 ⟨u27, rfl, hn⟩
   replace HM := HM.callN hn rfl
   refine oM rfl (oy rfl (ex_extract rfl rfl rfl) (oy rfl (ex_extract rfl rfl rfl) (oM rfl (oM rfl (ops_nil (at_then (run_seq (run_seq (run_region rfl (oM rfl (oy rfl (ex_not rfl rfl) ?_)))))))))))
   refine ops_nil (at_then (run_cond (b := !t12.2) rfl (fun hb28 => ?_) (fun hb28 => ?_)))
   ·replace H := cond_t hb28 H
    refine run_seq (run_region rfl (oy rfl (ex_build (cells := #[(nI 4), (.slice none 0 0)]) rfl rfl (by kernel_rfl)) ?_))
    replace HM := HM.fr1 1 rfl
    refine odS rfl rfl rfl (does_store (vs := [nI 4, .slice none 0 0]) (cs' := [nI 4, .slice none 0 0]) rfl rfl rfl rfl tsz32 (Ones.int (Ones.sl Ones.nil)) rfl rfl HM) ?_
    rintro w29 HM
    refine ops_nil (at_then (run_ret (at_then_ret ?_)))
    replace HM := ((HM.empty kCoin 70 none).frd 2 rfl).frd 2 rfl
    replace HM := HM.fr1 1 rfl
    have hcb0 := HM.box_at 0 rfl
    replace HM := HM.frd 0 rfl
    cases H
    exact at_retN rfl rfl U32 rfl tsz32 rfl hcb0 ⟨_, rfl, _, rfl, HM⟩
   ·replace H := cond_f hb28 H
    refine run_skip (at_then (run_seq (run_region rfl (oM rfl (oy rfl (ex_build1 (fun u27 => [(1, u27)]) (fun u27 => #[nI 0, u27]) rfl rfl (fun _ _ _ => by kernel_rfl) (HM.own_rd 0 rfl).isSl) ?_)))))
    replace HM := HM.fr1 1 rfl
    refine odS rfl rfl rfl (does_store (vs := [nI 0, u27]) (cs' := [nI 0, u27]) rfl rfl rfl rfl tsz32 (Ones.int (Ones.rd (HM.own_rd 1 rfl) Ones.nil)) rfl rfl HM) ?_
    rintro w30 HM
    refine ops_nil (at_then (run_ret ?_))
    replace HM := HM.frd 2 rfl
    have hcb0 := HM.box_at 0 rfl
    replace HM := HM.frd 0 rfl
    cases H
    exact at_retN rfl rfl U32 rfl tsz32 rfl hcb0 ⟨_, rfl, _, rfl, HM⟩

def spec_l4At.l0 (x0 : List Coin) (x1 : Ref) : Nat → Int → Option (Int ⊕ Unit)
 | 0, _ => none
 | k + 1, a10 => (bif (decide (a10 < (x0.length : Int))) then (chk (idxOk a10 x0.length) (bif ((((gt x0 a10).fRef.fTx) == x1.fTx) && (((gt x0 a10).fRef.fAt) == x1.fAt)) then some (.inl a10) else spec_l4At.l0 x0 x1 k (wrap64 (a10 + 1)))) else some (.inr ()))
def spec_l4At.f (k : Nat) (x0 : List Coin) (x1 : Ref) : Option Int := ((spec_l4At.l0 x0 x1 k 0).bind fun o11 => thn o11 (fun r => some r) (fun _ => some (-1)))
theorem spec_l4At.calls {k : Nat} {x0 : List Coin} {x1 : Ref} {p0 : Value} {w : World} (hp0 : RdS kCoin w p0 x0) {r : Int} (H : spec_l4At.f k x0 x1 = some r) :
  Calls Tryz.prog 49 ([p0, .agg #[(nI x1.fTx), (nI x1.fAt)]] : List Value).toArray w (fun e w_ => ∃ v, e = .returned v ∧ v = (nI r) ∧ Mem w [] w_ []) := by
 have HM := Mem.start w
 refine calls_run (N := 20) Tryz.func49 rfl rfl rfl rfl ?_
 unfold spec_l4At.f at H
 refine run_seq (run_region rfl (oz rfl (does_box (cs := [nI x1.fTx, nI x1.fAt]) rfl rfl rfl HM) ?_))
 rintro _ w12 ⟨b13, rfl, HM⟩
 refine oM rfl (ops_nil (at_then ?_))
 obtain ⟨o11, ho14, H⟩ := bind_some H
 refine run_mid (fun ρ_ w_ => Sum.inr () = o11 ∧ ρ_ = [] ∧ Mem w [] w_ []) ?_ ?_
 ·refine run_seq (run_region rfl (oM rfl (ops_nil (at_then (run_block ?_)))))
  refine run_loop (fun k_ ρ_ w_ => ∃ a10 : Int, spec_l4At.l0 x0 x1 k_ a10 = some o11 ∧ ρ_ = [(0, p0), (3, pA b13 0), (5, nI a10)] ∧ Mem w [] w_ [box b13 38 [nI x1.fTx, nI x1.fAt]]) k ⟨_, ho14, rfl, HM⟩ (Sub.of rfl) ?_
  clear HM ho14
  rintro k15 _ w16 ⟨a10, ho14, rfl, HM⟩
  obtain _ | k15 := k15
  ·exact nomatch ((spec_l4At.l0.eq_1 x0 x1 a10).symm.trans ho14)
  replace ho14 := (spec_l4At.l0.eq_2 ..).symm.trans ho14
  refine run_seq (run_seq (run_region rfl (oM rfl (oM rfl (oy rfl (ex_len (d := kCoin) (xs := x0) rfl rfl U24 hp0) (oy rfl (ex_lss rfl rfl rfl) (ops_nil (at_then (run_cond (b := (decide (a10 < (x0.length : Int)))) rfl (fun hb17 => ?_) (fun hb17 => ?_))))))))))
  ·replace ho14 := cond_t hb17 ho14
   refine run_skip (at_then (run_seq (run_block (run_seq ?_))))
   obtain ⟨e18, ho14⟩ := chk_some ho14
   refine run_drawf (fun w_ => Mem w [] w_ [box b13 38 [nI x1.fTx, nI x1.fAt]]) [(0, true), (1, true), (2, true), (3, true), (4, true), (5, true), (6, true)] mixed rfl rfl (by kernel_rfl) ?_
   replace HM := HM.grow (fr_drew _)
   have hS := HM.sufN 0 rfl
   refine dp rfl rfl rfl rfl (ex_move rfl rfl) hS (dp rfl rfl rfl rfl (ex_move rfl rfl) hS ?_)
   obtain ⟨kv19, hc20, hk21⟩ := rd_with1 hp0 e18
   refine dp rfl rfl rfl rfl (ex_indexAddr (d := kCoin) rfl rfl rfl U24 tsz70 hp0 (idx_lo e18) (idx_hi e18)) hS (dp rfl rfl rfl rfl (ex_fieldAddr (off' := so p0 + (a10).toNat * 8) rfl rfl U70 rfl tsz38 rfl) hS (drwp_take rfl (guard_none rfl) rfl rfl (fun w_ hS_ => (ldN rfl rfl U38 rfl tsz38 ((hS_.at_ hc20).subL 0 2 rfl) rfl)) hS (drwp_take rfl (guard_none rfl) rfl rfl (fun w_ hS_ => (ldN rfl rfl U38 rfl tsz38 ((hS_.box_at 0 rfl).subL 0 2 rfl) rfl)) hS (dp rfl rfl rfl rfl (ex_aeql rfl rfl rfl (by kernel_rfl) (eqs38 _ _ _ _ _)) hS ?_))))
   refine drwp_done (at_then (run_cond (b := ((((gt x0 a10).fRef.fTx) == x1.fTx) && (((gt x0 a10).fRef.fAt) == x1.fAt))) rfl (fun hb22 => ?_) (fun hb22 => ?_)))
   ·replace ho14 := cond_t hb22 ho14
    refine run_seq (run_region rfl (oM rfl (oM rfl (ops_nil (at_then (run_ret (at_block_ret (at_then_ret (at_then_ret (at_block_ret ?_))))))))))
    refine at_then_ret ?_
    replace HM := HM.frd 0 rfl
    cases ho14
    have hT := thn_inl H
    cases hT
    exact at_ret1 rfl rfl ⟨_, rfl, rfl, HM⟩
   ·replace ho14 := cond_f hb22 ho14
    exact run_skip (at_block (at_then (run_region rfl (oM rfl (oy rfl (ex_add rfl rfl rfl) (oM rfl (ops_nil (at_again k15 (Nat.lt_succ_self _) ⟨_, ho14, rfl, HM⟩ (Sub.of rfl)))))))))
  ·replace ho14 := cond_f hb17 ho14
   refine run_exit (at_then_exit (at_then_exit (at_block_exit ?_)))
   replace HM := HM.frd 0 rfl
   exact at_mid ⟨(sj ho14), rfl, HM⟩ Sub.nil
 ·rintro _ w23 ⟨rfl, rfl, HM⟩
  replace H := (thn_inr H)
  refine run_seq (run_region rfl (oM rfl (ops_nil (at_then (run_ret ?_)))))
  cases H
  exact at_ret1 rfl rfl ⟨_, rfl, rfl, HM⟩

def spec_l4Take.l0 (x1 : List Ref) : Nat → (List Coin) → Int → Option (((List Coin) × Bool) ⊕ ((List Coin)))
 | 0, _, _ => none
 | k + 1, a10, a11 => (bif (decide (a11 < (x1.length : Int))) then (chk (idxOk a11 x1.length) ((spec_l4At.f k a10 (gt x1 a11)).bind fun t12 => (bif (decide (t12 < 0)) then some (.inl (([] : List Coin), false)) else (chk (cutOk t12 a10.length) (chk (cutOk (wrap64 (t12 + 1)) a10.length) (chk (leB ((t12).toNat * 80) 140737488355328) (chk (leB (((t12).toNat + (a10.length - (wrap64 (t12 + 1)).toNat)) * 80) 140737488355328) (chk (decide ((t12).toNat ≤ (wrap64 (t12 + 1)).toNat)) (spec_l4Take.l0 x1 k (a10.take (t12).toNat ++ a10.drop (wrap64 (t12 + 1)).toNat) (wrap64 (a11 + 1))))))))))) else some (.inr a10))
def spec_l4Take.f (k : Nat) (x0 : List Coin) (x1 : List Ref) : Option ((List Coin) × Bool) := ((spec_l4Copy.f k x0).bind fun t13 => ((spec_l4Take.l0 x1 k t13 0).bind fun o14 => thn o14 (fun r => some r) (fun a15 => some (a15, true))))
theorem spec_l4Take.calls {k : Nat} {x0 : List Coin} {x1 : List Ref} {p0 : Value} {p1 : Value} {w : World} (hp0 : RdS kCoin w p0 x0) (hp1 : RdS kRef w p1 x1) {r : (List Coin) × Bool} (H : spec_l4Take.f k x0 x1 = some r) :
  Calls Tryz.prog 21 ([p0, p1] : List Value).toArray w (fun e w_ => ∃ v, e = .returned v ∧ ∃ u0 : Value, v = (.tuple #[u0, .bool r.2]) ∧ Mem w [] w_ [own kCoin 70 u0 r.1]) := by
 have HM := Mem.start w
 refine calls_run (N := 36) Tryz.func21 rfl rfl rfl rfl ?_
 unfold spec_l4Take.f at H
 refine run_seq (run_region rfl (oM rfl (oM rfl (ops_nil (at_then (run_seq ?_))))))
 obtain ⟨t13, h16, H⟩ := bind_some H
 refine run_region rfl (oM rfl (oz rfl (does_callk rfl callok48 rfl (spec_l4Copy.calls (x0 := x0) (HM.rd hp0) h16)) ?_))
 rintro u17 w18 ⟨_, rfl, hn⟩
 replace HM := HM.callN hn rfl
 refine oM rfl (ops_nil (at_then ?_))
 obtain ⟨o14, ho19, H⟩ := bind_some H
 refine run_mid (fun ρ_ w_ => ∃ v20 : Value, ∃ a15 : List Coin, Sum.inr a15 = o14 ∧ ρ_ = [(6, v20)] ∧ Mem w [] w_ [own kCoin 70 v20 a15]) ?_ ?_
 ·refine run_seq (run_region rfl (oM rfl (ops_nil (at_then (run_block ?_)))))
  refine run_loop (fun k_ ρ_ w_ => ∃ v21 : Value, ∃ a10 : List Coin, ∃ a11 : Int, spec_l4Take.l0 x1 k_ a10 a11 = some o14 ∧ ρ_ = [(1, p1), (6, v21), (7, nI a11)] ∧ Mem w [] w_ [own kCoin 70 v21 a10]) k ⟨_, _, _, ho19, rfl, HM⟩ (Sub.of rfl) ?_
  clear HM ho19
  rintro k22 _ w23 ⟨v21, a10, a11, ho19, rfl, HM⟩
  obtain _ | k22 := k22
  ·exact nomatch ((spec_l4Take.l0.eq_1 x1 a10 a11).symm.trans ho19)
  replace ho19 := (spec_l4Take.l0.eq_2 ..).symm.trans ho19
  refine run_seq (run_seq (run_region rfl (oM rfl (oM rfl (oy rfl (ex_len (d := kRef) (xs := x1) rfl rfl U25 hp1) (oy rfl (ex_lss rfl rfl rfl) (ops_nil (at_then (run_cond (b := (decide (a11 < (x1.length : Int)))) rfl (fun hb24 => ?_) (fun hb24 => ?_))))))))))
  ·replace ho19 := cond_t hb24 ho19
   refine run_skip (at_then (run_seq (run_block (run_seq ?_))))
   obtain ⟨e25, ho19⟩ := chk_some ho19
   obtain ⟨t12, h26, ho19⟩ := bind_some ho19
   refine run_region rfl (oM rfl (oM rfl (oM rfl ?_)))
   have hc27 : CellsAt _ (sb p1) (so p1 + (a11).toNat * 2) [(nI ((gt x1 a11).fTx)), (nI ((gt x1 a11).fAt))] := rd_plain hp1 e25
   refine oy rfl (ex_indexAddr (d := kRef) rfl rfl rfl U25 tsz38 hp1 (idx_lo e25) (idx_hi e25)) (oy rfl (ldN rfl rfl U38 rfl tsz38 ((HM.at_ hc27).subL 0 2 rfl) rfl) (oz rfl (does_callk rfl callok49 rfl (spec_l4At.calls (x0 := a10) (x1 := (gt x1 a11)) (HM.own_rd 0 rfl) h26)) ?_))
   rintro _ w28 ⟨rfl, hn⟩
   replace HM := HM.callN hn rfl
   refine oM rfl (ops_nil (at_then (run_seq (run_seq (run_region rfl (oM rfl (oy rfl (ex_lss rfl rfl rfl) (ops_nil (at_then (run_cond (b := (decide (t12 < 0))) rfl (fun hb29 => ?_) (fun hb29 => ?_)))))))))))
   ·replace ho19 := cond_t hb29 ho19
    refine run_seq (run_region rfl (oM rfl (oM rfl (ops_nil (at_then (run_ret (at_then_ret (at_block_ret (at_then_ret (at_then_ret ?_))))))))))
    refine at_block_ret (at_then_ret ?_)
    replace HM := (HM.empty kCoin 70 none).frd 1 rfl
    cases ho19
    have hT := thn_inl H
    cases hT
    exact at_ret2 rfl rfl rfl ⟨_, rfl, _, rfl, HM⟩
   ·replace ho19 := cond_f hb29 ho19
    refine run_skip (at_then ?_)
    obtain ⟨e30, ho19⟩ := chk_some ho19
    obtain ⟨e31, ho19⟩ := chk_some ho19
    obtain ⟨e32, ho19⟩ := chk_some ho19
    obtain ⟨e33, ho19⟩ := chk_some ho19
    obtain ⟨e34, ho19⟩ := chk_some ho19
    refine run_drawf (fun w_ => Mem w [] w_ []) [(1, true), (2, true), (3, true), (5, true), (6, true), (7, true), (8, true), (0, false), (4, false), (9, false), (10, true)] mixed rfl rfl (by kernel_rfl) ?_
    replace HM := HM.grow (fr_drew _)
    have hS := HM.sufN 1 rfl
    refine dp rfl rfl rfl rfl (ex_move rfl rfl) hS (dp rfl rfl rfl rfl (ex_move rfl rfl) hS (dp rfl rfl rfl rfl (ex_cutvH rfl rfl rfl U24 tsz70 (cut_lo e30) ((HM.own_rd 0 rfl).cap.le (cut_hi e30))) hS (dp rfl rfl rfl rfl (ex_move rfl rfl) hS (dp rfl rfl rfl rfl (ex_move rfl rfl) hS (dp rfl rfl rfl rfl (ex_add rfl rfl rfl) hS (dp rfl rfl rfl rfl (ex_cutvL rfl rfl rfl U24 tsz70 (HM.own_rd 0 rfl) e31) hS (drwp_one rfl (guard_none rfl) rfl rfl (does_lit (e := 70) (cs := []) (xs := ([] : List Coin)) kCoin rfl rfl (fun _ => by kernel_rfl) rfl rfl (fun _ _ h => by have h' : _ = [] := h; subst h'; exact .nil) HM.emp) ?_)))))))
    rintro v35 w36 HM
    have hS := HM.sufN 2 rfl
    refine ⟨hS, ?_⟩
    replace HM := (HM.fr1 1 rfl).fr1 1 rfl
    refine drwp_one rfl (guard_none rfl) rfl rfl (does_mv1 (k := (t12).toNat) kCoin rfl rfl rfl U24 tsz70 tby70 tz70 rfl rfl (cut_hi e30) (leB_le e32) HM) ?_
    rintro v37 w38 HM
    have hS := HM.sufN 1 rfl
    refine ⟨hS, (drwp_one rfl (guard_none rfl) rfl rfl (does_mv2 (j := (wrap64 (t12 + 1)).toNat) kCoin rfl rfl rfl U24 tsz70 tby70 tz70 rfl rfl (of_decide_eq_true e34) (cut_hi e31) (leB_le e33) HM) ?_)⟩
    rintro v39 w40 HM
    have hS := HM.sufN 1 rfl
    refine ⟨hS, (dp rfl rfl rfl rfl (ex_assign rfl rfl) hS (drwp_done (at_block (at_then (run_region rfl (oM rfl (oy rfl (ex_add rfl rfl rfl) (oM rfl (ops_nil ?_)))))))))⟩
    exact at_again k22 (Nat.lt_succ_self _) ⟨_, _, _, ho19, rfl, HM⟩ (Sub.of rfl)
  ·replace ho19 := cond_f hb24 ho19
   exact run_exit (at_then_exit (at_then_exit (at_block_exit (at_mid ⟨_, _, (sj ho19), rfl, HM⟩ (Sub.of rfl)))))
 ·rintro _ w41 ⟨v20, a15, rfl, rfl, HM⟩
  replace H := (thn_inr H)
  refine run_seq (run_region rfl (oM rfl (oM rfl (oM rfl (ops_nil (at_then (run_ret ?_)))))))
  cases H
  exact at_ret2 rfl rfl rfl ⟨_, rfl, _, rfl, HM⟩

def spec_SpendTx.f (k : Nat) (x0 : List Coin) (x1 : Tx) (x2 : Int) (x3 : Int) : Option CoinsResult := ((spec_SpentBy.f k x0 x1).bind fun t10 => (bif (t10.fCode != 0) then some t10 else ((spec_l4Of.f k x0 x2).bind fun t11 => (bif t11 then some (⟨7, ([] : List Coin)⟩ : CoinsResult) else ((spec_l4Take.f k x0 x1.fIns).bind fun t12 => ((spec_PutCoins.f k t12.1 x2 x1.fOuts x3 false).bind fun t13 => some t13))))))
theorem spec_SpendTx.calls {k : Nat} {x0 : List Coin} {x1 : Tx} {x2 : Int} {x3 : Int} {p0 : Value} {p1_0 : Value} {p1_1 : Value} {w : World} (hp0 : RdS kCoin w p0 x0) (hp1_0 : RdS kRef w p1_0 x1.fIns) (hp1_1 : RdS kOut w p1_1 x1.fOuts) {r : CoinsResult} (H : spec_SpendTx.f k x0 x1 x2 x3 = some r) :
  Calls Tryz.prog 7 ([p0, .agg #[(nI x1.fKind), (nI x1.fMember), p1_0, p1_1], nI x2, nI x3] : List Value).toArray w (fun e w_ => ∃ v, e = .returned v ∧ ∃ u0 : Value, v = (.agg #[nI r.fCode, u0]) ∧ Mem w [] w_ [own kCoin 70 u0 r.fCoins]) := by
 have HM := Mem.start w
 refine calls_run (N := 36) Tryz.func7 rfl rfl rfl rfl ?_
 unfold spec_SpendTx.f at H
 refine run_seq (run_region rfl (oz rfl (does_box (cs := [nI x1.fKind, nI x1.fMember, p1_0, p1_1]) rfl rfl rfl HM) ?_))
 rintro _ w14 ⟨b15, rfl, HM⟩
 refine oz rfl (does_alloc (cs := [nI 0, .slice none 0 0]) rfl tz32 rfl HM) ?_
 rintro _ w16 ⟨b17, rfl, HM⟩
 refine ops_nil (at_then (run_seq ?_))
 obtain ⟨t10, h18, H⟩ := bind_some H
 refine run_region rfl (oM rfl (oy rfl (ldN rfl rfl U28 rfl tsz28 ((HM.box_at 1 rfl).subL 0 4 rfl) rfl) (oz rfl (does_callk rfl callok19 rfl (spec_SpentBy.calls (x0 := x0) (x1 := x1) (HM.rd hp0) (HM.rd hp1_0) (HM.rd hp1_1) h18)) ?_)))
 rintro _ w19 ⟨u20, rfl, hn⟩
 replace HM := HM.callN hn rfl
 refine oz rfl (does_alloc (cs := [nI 0, .slice none 0 0]) rfl tz32 rfl HM) ?_
 rintro _ w21 ⟨b22, rfl, HM⟩
 refine odS rfl rfl rfl (does_store (vs := [nI t10.fCode, u20]) (cs' := [nI t10.fCode, u20]) rfl rfl rfl rfl tsz32 (Ones.int (Ones.rd (HM.own_rd 1 rfl) Ones.nil)) rfl rfl HM) ?_
 rintro w23 HM
 refine ops_nil (at_then (run_seq (run_seq (run_region rfl (oy rfl (ex_fieldAddr (off' := 0) rfl rfl U32 rfl tsz2 rfl) (oy rfl (ex_load1 rfl rfl U2 rfl ((HM.box_at 0 rfl) 0 _ rfl)) (oy rfl (ex_neq rfl rfl rfl) (ops_nil (at_then (run_cond (b := (t10.fCode != 0)) rfl (fun hb24 => ?_) (fun hb24 => ?_)))))))))))
 ·replace H := cond_t hb24 H
  refine run_seq (run_region rfl (oy rfl (ldN rfl rfl U32 rfl tsz32 ((HM.box_at 0 rfl).subL 0 2 rfl) rfl) ?_))
  replace HM := HM.fr1 2 rfl
  refine odS rfl rfl rfl (does_store (vs := [nI t10.fCode, u20]) (cs' := [nI t10.fCode, u20]) rfl rfl rfl rfl tsz32 (Ones.int (Ones.rd (HM.own_rd 2 rfl) Ones.nil)) rfl rfl HM) ?_
  rintro w25 HM
  refine ops_nil (at_then (run_ret (at_then_ret ?_)))
  replace HM := (HM.frd 1 rfl).frd 2 rfl
  have hcb0 := HM.box_at 0 rfl
  replace HM := HM.frd 0 rfl
  cases H
  exact at_retN rfl rfl U32 rfl tsz32 rfl hcb0 ⟨_, rfl, _, rfl, HM⟩
 ·replace H := cond_f hb24 H
  refine run_skip (at_then (run_seq (run_seq ?_)))
  obtain ⟨t11, h26, H⟩ := bind_some H
  refine run_region rfl (oM rfl (oM rfl (oz rfl (does_callk rfl callok20 rfl (spec_l4Of.calls (x0 := x0) (x1 := x2) (HM.rd hp0) h26)) ?_)))
  rintro _ w27 ⟨rfl, hn⟩
  replace HM := HM.callN hn rfl
  refine ops_nil (at_then (run_cond (b := t11) rfl (fun hb28 => ?_) (fun hb28 => ?_)))
  ·replace H := cond_t hb28 H
   refine run_seq (run_region rfl (oy rfl (ex_build (cells := #[(nI 7), (.slice none 0 0)]) rfl rfl (by kernel_rfl)) ?_))
   replace HM := HM.fr1 2 rfl
   refine odS rfl rfl rfl (does_store (vs := [nI 7, .slice none 0 0]) (cs' := [nI 7, .slice none 0 0]) rfl rfl rfl rfl tsz32 (Ones.int (Ones.sl Ones.nil)) rfl rfl HM) ?_
   rintro w29 HM
   refine ops_nil (at_then (run_ret (at_then_ret ?_)))
   replace HM := ((HM.empty kCoin 70 none).frd 2 rfl).frd 2 rfl
   replace HM := (HM.frd 2 rfl).fr1 1 rfl
   have hcb0 := HM.box_at 0 rfl
   replace HM := HM.frd 0 rfl
   cases H
   exact at_retN rfl rfl U32 rfl tsz32 rfl hcb0 ⟨_, rfl, _, rfl, HM⟩
  ·replace H := cond_f hb28 H
   refine run_skip (at_then (run_seq ?_))
   obtain ⟨t12, h30, H⟩ := bind_some H
   refine run_region rfl (oM rfl (oy rfl (ex_fieldAddr (off' := 2) rfl rfl U28 rfl tsz25 rfl) (oy rfl (ex_load1 rfl rfl U25 rfl ((HM.box_at 3 rfl) 2 _ rfl)) (oz rfl (does_callk rfl callok21 rfl (spec_l4Take.calls (x0 := x0) (x1 := x1.fIns) (HM.rd hp0) (HM.rd hp1_0) h30)) ?_))))
   rintro _ w31 ⟨u32, rfl, hn⟩
   replace HM := HM.callN hn rfl
   refine oM rfl (oy rfl (ex_extract rfl rfl rfl) (oy rfl (ex_extract rfl rfl rfl) (oM rfl (oM rfl (ops_nil (at_then (run_seq ?_)))))))
   obtain ⟨t13, h33, H⟩ := bind_some H
   refine run_region rfl (oM rfl (oM rfl (oy rfl (ex_fieldAddr (off' := 3) rfl rfl U28 rfl tsz26 rfl) (oy rfl (ex_load1 rfl rfl U26 rfl ((HM.box_at 4 rfl) 3 _ rfl)) (oM rfl (oz rfl (does_callk rfl callok22 rfl (spec_PutCoins.calls (x0 := t12.1) (x1 := x2) (x2 := x1.fOuts) (x3 := x3) (x4 := false) (HM.own_rd 0 rfl) (HM.rd hp1_1) h33)) ?_))))))
   rintro _ w34 ⟨u35, rfl, hn⟩
   replace HM := (HM.callN hn rfl).fr1 4 rfl
   refine odS rfl rfl rfl (does_store (vs := [nI t13.fCode, u35]) (cs' := [nI t13.fCode, u35]) rfl rfl rfl rfl tsz32 (Ones.int (Ones.rd (HM.own_rd 1 rfl) Ones.nil)) rfl rfl HM) ?_
   rintro w36 HM
   refine ops_nil (at_then (run_ret ?_))
   replace HM := ((HM.frd 2 rfl).frd 2 rfl).frd 2 rfl
   replace HM := HM.frd 2 rfl
   have hcb0 := HM.box_at 0 rfl
   replace HM := HM.frd 0 rfl
   cases H
   exact at_retN rfl rfl U32 rfl tsz32 rfl hcb0 ⟨_, rfl, _, rfl, HM⟩

def impl_SpentBy.f (k : Nat) (x0 : List Coin) (x1 : Tx) : Option CoinsResult := ((impl_CoinsFault.f k x0).bind fun t10 => (bif (t10 != 0) then some (⟨t10, ([] : List Coin)⟩ : CoinsResult) else ((impl_TxFault.f k x1).bind fun t11 => (bif (t11 != 0) then some (⟨t11, ([] : List Coin)⟩ : CoinsResult) else ((impl_spentBy.f k x0 x1).bind fun t12 => some (⟨t12.2, t12.1⟩ : CoinsResult))))))
theorem impl_SpentBy.calls {k : Nat} {x0 : List Coin} {x1 : Tx} {p0 : Value} {p1_0 : Value} {p1_1 : Value} {w : World} (hp0 : RdS kCoin w p0 x0) (hp1_0 : RdS kRef w p1_0 x1.fIns) (hp1_1 : RdS kOut w p1_1 x1.fOuts) {r : CoinsResult} (H : impl_SpentBy.f k x0 x1 = some r) :
  Calls Tryz.prog 9 ([p0, .agg #[(nI x1.fKind), (nI x1.fMember), p1_0, p1_1]] : List Value).toArray w (fun e w_ => ∃ v, e = .returned v ∧ ∃ u0 : Value, v = (.agg #[nI r.fCode, u0]) ∧ Mem w [] w_ [own kCoin 70 u0 r.fCoins]) := by
 have HM := Mem.start w
 refine calls_run (N := 30) Tryz.func9 rfl rfl rfl rfl ?_
 unfold impl_SpentBy.f at H
 refine run_seq (run_region rfl (oz rfl (does_box (cs := [nI x1.fKind, nI x1.fMember, p1_0, p1_1]) rfl rfl rfl HM) ?_))
 rintro _ w13 ⟨b14, rfl, HM⟩
 refine oz rfl (does_alloc (cs := [nI 0, .slice none 0 0]) rfl tz32 rfl HM) ?_
 rintro _ w15 ⟨b16, rfl, HM⟩
 refine ops_nil (at_then (run_seq (run_seq ?_)))
 obtain ⟨t10, h17, H⟩ := bind_some H
 refine run_region rfl (oM rfl (oz rfl (does_callk rfl callok12 rfl (impl_CoinsFault.calls (x0 := x0) (HM.rd hp0) h17)) ?_))
 rintro _ w18 ⟨rfl, hn⟩
 replace HM := HM.callN hn rfl
 refine oM rfl (ops_nil (at_then (run_seq (run_region rfl (oM rfl (oy rfl (ex_neq rfl rfl rfl) (ops_nil (at_then (run_cond (b := (t10 != 0)) rfl (fun hb19 => ?_) (fun hb19 => ?_))))))))))
 ·replace H := cond_t hb19 H
  refine run_seq (run_region rfl (oM rfl (oy rfl (ex_build (cells := #[(nI t10), (.slice none 0 0)]) rfl rfl (by kernel_rfl)) ?_)))
  refine odS rfl rfl rfl (does_store (vs := [nI t10, .slice none 0 0]) (cs' := [nI t10, .slice none 0 0]) rfl rfl rfl rfl tsz32 (Ones.int (Ones.sl Ones.nil)) rfl rfl HM) ?_
  rintro w20 HM
  refine ops_nil (at_then (run_ret (at_then_ret ?_)))
  replace HM := ((HM.empty kCoin 70 none).frd 2 rfl).fr1 1 rfl
  have hcb0 := HM.box_at 0 rfl
  replace HM := HM.frd 0 rfl
  cases H
  exact at_retN rfl rfl U32 rfl tsz32 rfl hcb0 ⟨_, rfl, _, rfl, HM⟩
 ·replace H := cond_f hb19 H
  refine run_skip (at_then (run_seq (run_seq ?_)))
  obtain ⟨t11, h21, H⟩ := bind_some H
  refine run_region rfl (oy rfl (ldN rfl rfl U28 rfl tsz28 ((HM.box_at 1 rfl).subL 0 4 rfl) rfl) (oz rfl (does_callk rfl callok17 rfl (impl_TxFault.calls (x0 := x1) (HM.rd hp1_0) (HM.rd hp1_1) h21)) ?_))
  rintro _ w22 ⟨rfl, hn⟩
  replace HM := HM.callN hn rfl
  refine oM rfl (ops_nil (at_then (run_seq (run_region rfl (oM rfl (oy rfl (ex_neq rfl rfl rfl) (ops_nil (at_then (run_cond (b := (t11 != 0)) rfl (fun hb23 => ?_) (fun hb23 => ?_))))))))))
  ·replace H := cond_t hb23 H
   refine run_seq (run_region rfl (oM rfl (oy rfl (ex_build (cells := #[(nI t11), (.slice none 0 0)]) rfl rfl (by kernel_rfl)) ?_)))
   refine odS rfl rfl rfl (does_store (vs := [nI t11, .slice none 0 0]) (cs' := [nI t11, .slice none 0 0]) rfl rfl rfl rfl tsz32 (Ones.int (Ones.sl Ones.nil)) rfl rfl HM) ?_
   rintro w24 HM
   refine ops_nil (at_then (run_ret (at_then_ret ?_)))
   replace HM := ((HM.empty kCoin 70 none).frd 2 rfl).fr1 1 rfl
   have hcb0 := HM.box_at 0 rfl
   replace HM := HM.frd 0 rfl
   cases H
   exact at_retN rfl rfl U32 rfl tsz32 rfl hcb0 ⟨_, rfl, _, rfl, HM⟩
  ·replace H := cond_f hb23 H
   refine run_skip (at_then (run_seq ?_))
   obtain ⟨t12, h25, H⟩ := bind_some H
   refine run_region rfl (oM rfl (oy rfl (ldN rfl rfl U28 rfl tsz28 ((HM.box_at 1 rfl).subL 0 4 rfl) rfl) (oz rfl (does_callk rfl callok24 rfl (impl_spentBy.calls (x0 := x0) (x1 := x1) (HM.rd hp0) (HM.rd hp1_0) (HM.rd hp1_1) h25)) ?_)))
   rintro _ w26 ⟨u27, rfl, hn⟩
   replace HM := HM.callN hn rfl
   refine oM rfl (oy rfl (ex_extract rfl rfl rfl) (oy rfl (ex_extract rfl rfl rfl) (oM rfl (oM rfl (ops_nil (at_then (run_seq (run_region rfl (oM rfl (oM rfl (oy rfl (ex_build1 (fun u27 => [(0, nI t12.2), (1, u27)]) (fun u27 => #[nI t12.2, u27]) rfl rfl (fun _ _ _ => by kernel_rfl) (HM.own_rd 0 rfl).isSl) ?_)))))))))))
   replace HM := HM.fr1 1 rfl
   refine odS rfl rfl rfl (does_store (vs := [nI t12.2, u27]) (cs' := [nI t12.2, u27]) rfl rfl rfl rfl tsz32 (Ones.int (Ones.rd (HM.own_rd 1 rfl) Ones.nil)) rfl rfl HM) ?_
   rintro w28 HM
   refine ops_nil (at_then (run_ret ?_))
   replace HM := HM.frd 2 rfl
   have hcb0 := HM.box_at 0 rfl
   replace HM := HM.frd 0 rfl
   cases H
   exact at_retN rfl rfl U32 rfl tsz32 rfl hcb0 ⟨_, rfl, _, rfl, HM⟩

def impl_areOf_1.f (k : Nat) (x0 : Coin) (x1 : List Ref) : Option Bool := ((slices_Contains_impl_Ref.f k x1 x0.fRef).bind fun t10 => some (!t10))
theorem impl_areOf_1.calls {k : Nat} {x0 : Coin} {x1 : List Ref} {p0_0 : Value} {b1 f1 : Nat} {p1_0 : Value} {w : World} (hp0_0 : RdS kInt w p0_0 x0.fOut.fRule.fKeys) (hc1 : CellsAt w b1 f1 [p1_0]) (hp1_0 : RdS kRef w p1_0 x1) {r : Bool} (H : impl_areOf_1.f k x0 x1 = some r) :
  Calls Tryz.prog 92 ([.agg #[(nI x0.fRef.fTx), (nI x0.fRef.fAt), (nI x0.fOut.fValue), p0_0, (nI x0.fOut.fRule.fNeed), (nI x0.fOut.fRule.fAfter), (nI x0.fHeight), (.bool x0.fMined)], pA b1 f1] : List Value).toArray w (fun e w_ => ∃ v, e = .returned v ∧ v = (.bool r) ∧ Mem w [] w_ []) := by
 have HM := Mem.start w
 refine calls_run (N := 9) Tryz.func92 rfl rfl rfl rfl ?_
 unfold impl_areOf_1.f at H
 refine run_seq (run_region rfl (oz rfl (does_box (cs := [nI x0.fRef.fTx, nI x0.fRef.fAt, nI x0.fOut.fValue, p0_0, nI x0.fOut.fRule.fNeed, nI x0.fOut.fRule.fAfter, nI x0.fHeight, .bool x0.fMined]) rfl rfl rfl HM) ?_))
 rintro _ w11 ⟨b12, rfl, HM⟩
 refine oM rfl (ops_nil (at_then (run_seq ?_)))
 obtain ⟨t10, h13, H⟩ := bind_some H
 refine run_region rfl (oy rfl (ex_load1 rfl rfl U25 rfl ((HM.at_ hc1) 0 _ rfl)) (oy rfl (ex_fieldAddr (off' := 0) rfl rfl U70 rfl tsz38 rfl) (oy rfl (ldN rfl rfl U38 rfl tsz38 ((HM.box_at 0 rfl).subL 0 2 rfl) rfl) (oz rfl (does_callk rfl callok40 rfl (slices_Contains_impl_Ref.calls (x0 := x1) (x1 := x0.fRef) (HM.rd hp1_0) h13)) ?_))))
 rintro _ w14 ⟨rfl, hn⟩
 replace HM := HM.callN hn rfl
 refine oy rfl (ex_not rfl rfl) (oM rfl (ops_nil (at_then (run_ret ?_))))
 replace HM := HM.frd 0 rfl
 cases H
 exact at_ret1 rfl rfl ⟨_, rfl, rfl, HM⟩

def slices_IndexFunc_impl_Coin_v2.l0 (x0 : List Coin) (x1_0 : List Ref) : Nat → Int → Option (Int ⊕ Unit)
 | 0, _ => none
 | k + 1, a10 => (bif (decide (a10 < (x0.length : Int))) then (chk (idxOk a10 x0.length) ((impl_areOf_1.f k (gt x0 a10) x1_0).bind fun t11 => (bif t11 then some (.inl a10) else slices_IndexFunc_impl_Coin_v2.l0 x0 x1_0 k (wrap64 (a10 + 1))))) else some (.inr ()))
def slices_IndexFunc_impl_Coin_v2.f (k : Nat) (x0 : List Coin) (x1_0 : List Ref) : Option Int := ((slices_IndexFunc_impl_Coin_v2.l0 x0 x1_0 k 0).bind fun o12 => thn o12 (fun r => some r) (fun _ => some (-1)))
theorem slices_IndexFunc_impl_Coin_v2.calls {k : Nat} {x0 : List Coin} {x1_0 : List Ref} {p0 : Value} {b1_0 f1_0 : Nat} {p1_0_0 : Value} {w : World} (hp0 : RdS kCoin w p0 x0) (hc1_0 : CellsAt w b1_0 f1_0 [p1_0_0]) (hp1_0_0 : RdS kRef w p1_0_0 x1_0) {r : Int} (H : slices_IndexFunc_impl_Coin_v2.f k x0 x1_0 = some r) :
  Calls Tryz.prog 96 ([p0, .func (.func 92) #[] #[(pA b1_0 f1_0)]] : List Value).toArray w (fun e w_ => ∃ v, e = .returned v ∧ v = (nI r) ∧ Mem w [] w_ []) := by
 have HM := Mem.start w
 refine calls_run (N := 19) Tryz.func96 rfl rfl rfl rfl ?_
 unfold slices_IndexFunc_impl_Coin_v2.f at H
 refine run_seq (run_region rfl (oM rfl (ops_nil (at_then ?_))))
 obtain ⟨o12, ho13, H⟩ := bind_some H
 refine run_mid (fun ρ_ w_ => Sum.inr () = o12 ∧ ρ_ = [] ∧ Mem w [] w_ []) ?_ ?_
 ·refine run_seq (run_region rfl (oM rfl (oy rfl (ex_len (d := kCoin) (xs := x0) rfl rfl U24 hp0) (oM rfl (ops_nil (at_then (run_block ?_)))))))
  refine run_loop (fun k_ ρ_ w_ => ∃ a10 : Int, slices_IndexFunc_impl_Coin_v2.l0 x0 x1_0 k_ a10 = some o12 ∧ ρ_ = [(0, p0), (1, .func (.func 92) #[] #[(pA b1_0 f1_0)]), (7, nI (x0.length : Int)), (8, nI a10)] ∧ Mem w [] w_ []) k ⟨_, ho13, rfl, HM⟩ (Sub.of rfl) ?_
  clear HM ho13
  rintro k14 _ w15 ⟨a10, ho13, rfl, HM⟩
  obtain _ | k14 := k14
  ·exact nomatch ((slices_IndexFunc_impl_Coin_v2.l0.eq_1 x0 x1_0 a10).symm.trans ho13)
  replace ho13 := (slices_IndexFunc_impl_Coin_v2.l0.eq_2 ..).symm.trans ho13
  refine run_seq (run_region rfl (oy rfl (ex_lss rfl rfl rfl) (ops_nil (at_then (run_seq (run_cond (b := (decide (a10 < (x0.length : Int)))) rfl (fun hb16 => ?_) (fun hb16 => ?_)))))))
  ·replace ho13 := cond_t hb16 ho13
   refine run_skip (at_then (run_seq (run_block (run_seq (run_region rfl (oM rfl (oM rfl (ops_nil (at_then (run_seq ?_))))))))))
   obtain ⟨e17, ho13⟩ := chk_some ho13
   obtain ⟨t11, h18, ho13⟩ := bind_some ho13
   refine run_region rfl (oM rfl (oM rfl (oM rfl ?_)))
   obtain ⟨kv19, hc20, hk21⟩ := rd_with1 hp0 e17
   refine oy rfl (ex_indexAddr (d := kCoin) rfl rfl rfl U24 tsz70 hp0 (idx_lo e17) (idx_hi e17)) (oy rfl (ldN rfl rfl U70 rfl tsz70 ((HM.at_ hc20).subL 0 8 rfl) rfl) (oz rfl (does_callvk rfl callok92 rfl rfl rfl (impl_areOf_1.calls (x0 := (gt x0 a10)) (x1 := x1_0) (HM.rd hk21) (HM.at_ hc1_0) (HM.rd hp1_0_0) h18)) ?_))
   rintro _ w22 ⟨rfl, hn⟩
   replace HM := HM.callN hn rfl
   refine ops_nil (at_then (run_cond (b := t11) rfl (fun hb23 => ?_) (fun hb23 => ?_)))
   ·replace ho13 := cond_t hb23 ho13
    refine run_seq (run_region rfl (oM rfl (oM rfl (ops_nil (at_then (run_ret (at_block_ret (at_then_ret (at_then_ret (at_block_ret ?_))))))))))
    refine at_then_ret ?_
    cases ho13
    have hT := thn_inl H
    cases hT
    exact at_ret1 rfl rfl ⟨_, rfl, rfl, HM⟩
   ·replace ho13 := cond_f hb23 ho13
    exact run_skip (at_block (at_then (run_region rfl (oy rfl (ex_add rfl rfl rfl) (oM rfl (ops_nil (at_again k14 (Nat.lt_succ_self _) ⟨_, ho13, rfl, HM⟩ (Sub.of rfl))))))))
  ·replace ho13 := cond_f hb16 ho13
   exact run_exit (at_then_exit (at_then_exit (at_block_exit (at_mid ⟨(sj ho13), rfl, HM⟩ Sub.nil))))
 ·rintro _ w24 ⟨rfl, rfl, HM⟩
  replace H := (thn_inr H)
  refine run_seq (run_region rfl (oM rfl (ops_nil (at_then (run_ret ?_)))))
  cases H
  exact at_ret1 rfl rfl ⟨_, rfl, rfl, HM⟩

def slices_ContainsFunc_impl_Coin_v2.f (k : Nat) (x0 : List Coin) (x1_0 : List Ref) : Option Bool := ((slices_IndexFunc_impl_Coin_v2.f k x0 x1_0).bind fun t10 => some (decide (0 ≤ t10)))
theorem slices_ContainsFunc_impl_Coin_v2.calls {k : Nat} {x0 : List Coin} {x1_0 : List Ref} {p0 : Value} {b1_0 f1_0 : Nat} {p1_0_0 : Value} {w : World} (hp0 : RdS kCoin w p0 x0) (hc1_0 : CellsAt w b1_0 f1_0 [p1_0_0]) (hp1_0_0 : RdS kRef w p1_0_0 x1_0) {r : Bool} (H : slices_ContainsFunc_impl_Coin_v2.f k x0 x1_0 = some r) :
  Calls Tryz.prog 81 ([p0, .func (.func 92) #[] #[(pA b1_0 f1_0)]] : List Value).toArray w (fun e w_ => ∃ v, e = .returned v ∧ v = (.bool r) ∧ Mem w [] w_ []) := by
 have HM := Mem.start w
 refine calls_run (N := 9) Tryz.func81 rfl rfl rfl rfl ?_
 unfold slices_ContainsFunc_impl_Coin_v2.f at H
 refine run_seq (run_region rfl (oM rfl (ops_nil (at_then (run_seq ?_)))))
 obtain ⟨t10, h11, H⟩ := bind_some H
 refine run_region rfl (oM rfl (oM rfl (oz rfl (does_callk rfl callok96 rfl (slices_IndexFunc_impl_Coin_v2.calls (x0 := x0) (x1_0 := x1_0) (HM.rd hp0) (HM.at_ hc1_0) (HM.rd hp1_0_0) h11)) ?_)))
 rintro _ w12 ⟨rfl, hn⟩
 replace HM := HM.callN hn rfl
 refine oy rfl (ex_geq rfl rfl rfl) (oM rfl (ops_nil (at_then (run_ret ?_))))
 cases H
 exact at_ret1 rfl rfl ⟨_, rfl, rfl, HM⟩

def impl_areOf.f (k : Nat) (x0 : List Coin) (x1 : List Ref) : Option Bool := ((bif ((x0.length : Int) == (x1.length : Int)) then slices_ContainsFunc_impl_Coin_v2.f k x0 x1 else some default).bind fun t10 => some (((x0.length : Int) == (x1.length : Int)) && (!t10)))
theorem impl_areOf.calls {k : Nat} {x0 : List Coin} {x1 : List Ref} {p0 : Value} {p1 : Value} {w : World} (hp0 : RdS kCoin w p0 x0) (hp1 : RdS kRef w p1 x1) {r : Bool} (H : impl_areOf.f k x0 x1 = some r) :
  Calls Tryz.prog 55 ([p0, p1] : List Value).toArray w (fun e w_ => ∃ v, e = .returned v ∧ v = (.bool r) ∧ Mem w [] w_ []) := by
 have HM := Mem.start w
 refine calls_run (N := 16) Tryz.func55 rfl rfl rfl rfl ?_
 unfold impl_areOf.f at H
 refine run_seq (run_region rfl (oz rfl (does_box (cs := [p1]) rfl rfl (rd_cells hp1) HM) ?_))
 rintro _ w11 ⟨b12, rfl, HM⟩
 refine oM rfl (ops_nil (at_then (run_seq ?_)))
 obtain ⟨t10, h13, H⟩ := bind_some H
 refine run_meet (fun ρ_ w_ => ρ_ = [(4, .bool (((x0.length : Int) == (x1.length : Int)) && (!t10)))] ∧ Mem w [] w_ []) ?_ ?_
 ·refine run_region rfl (oM rfl (oy rfl (ex_len (d := kCoin) (xs := x0) rfl rfl U24 hp0) (oy rfl (ex_load1 rfl rfl U25 rfl ((HM.box_at 0 rfl) 0 _ rfl)) (oy rfl (ex_len (d := kRef) (xs := x1) rfl rfl U25 hp1) (oy rfl (ex_eql rfl rfl rfl) (oM rfl ?_))))))
  refine bool_cases ((x0.length : Int) == (x1.length : Int)) (fun hg14 => ?_) (fun hg14 => ?_)
  ·refine gn rfl hg14 (ex_move rfl rfl) (gn rfl hg14 (ex_func rfl rfl) (ops_does rfl (guard_on rfl rfl rfl hg14) rfl rfl (does_callk rfl callok81 rfl (slices_ContainsFunc_impl_Coin_v2.calls (x0 := x0) (x1_0 := x1) (HM.rd hp0) (HM.box_at 0 rfl) (HM.rd hp1) (cond_t hg14 h13))) ?_))
   rintro _ w15 ⟨rfl, hn⟩
   replace HM := HM.callN hn rfl
   refine gn rfl hg14 (ex_not rfl rfl) (ops_ex (v := .bool (((x0.length : Int) == (x1.length : Int)) && (!t10))) rfl (guard_none rfl) rfl rfl (ex_pand_t rfl rfl hg14 rfl) (oM rfl (ops_nil ?_)))
   replace HM := HM.frd 0 rfl
   exact at_meet _ ⟨rfl, HM⟩ (Sub.of rfl)
  ·refine gf rfl hg14 (gf rfl hg14 (gf rfl hg14 (gf rfl hg14 ?_)))
   have hg16 : (((x0.length : Int) == (x1.length : Int)) && (!t10)) = false := by simp only [hg14, Bool.and_true, Bool.true_and, Bool.and_false, Bool.false_and, Bool.or_true, Bool.true_or, Bool.or_false, Bool.false_or, Bool.not_true, Bool.not_false, Bool.not_not]
   refine ops_ex (v := .bool (((x0.length : Int) == (x1.length : Int)) && (!t10))) rfl (guard_none rfl) rfl rfl (ex_pand_f rfl rfl hg14) (oM rfl (ops_nil ?_))
   replace HM := HM.frd 0 rfl
   exact at_meet _ ⟨rfl, HM⟩ (Sub.of rfl)
 ·rintro _ w17 ⟨rfl, HM⟩
  refine at_then (run_ret ?_)
  cases H
  exact at_ret1 rfl rfl ⟨_, rfl, rfl, HM⟩

def slices_Clone_impl_Coin.f (k : Nat) (x0 : List Coin) : Option ((List Coin)) := (chk (leB ((([] : List Coin).length + x0.length) * 80) 140737488355328) (some (([] : List Coin) ++ x0)))
theorem slices_Clone_impl_Coin.calls {k : Nat} {x0 : List Coin} {p0 : Value} {w wo : World} {X : List Nat} (hwo : Olds wo w X) (hX : Hold w [] X) (hXn : X.Nodup) (hXl : ∀ b ∈ X, b < w.heap.size) (hp0 : RdS kCoin wo p0 x0) {r : (List Coin)} (H : slices_Clone_impl_Coin.f k x0 = some r) :
  Calls Tryz.prog 93 ([p0] : List Value).toArray w (fun e w_ => ∃ v, e = .returned v ∧ ∃ u0 : Value, v = u0 ∧ Mem w X w_ [own (Kd.lent wo kCoin with1_one) 70 u0 r]) := by
 have HM := Mem.startX hX hXn hXl
 refine calls_run (N := 8) Tryz.func93 rfl rfl rfl rfl ?_
 unfold slices_Clone_impl_Coin.f at H
 refine run_seq (run_region rfl (oM rfl (ops_nil (at_then (run_seq (run_seq (run_region rfl (oM rfl (ops_exE rfl (guard_none rfl) rfl rfl (ex_isnil rfl rfl rfl U24 hp0) ?_)))))))))
 rintro _ ⟨b10, rfl, hb11⟩
 refine ops_nil (at_then (run_cond (b := b10) rfl (fun hb12 => ?_) (fun hb12 => ?_)))
 ·have hx_ := hb11 hb12
  subst hx_
  obtain ⟨_, H⟩ := chk_some H
  replace H : some ([] : List Coin) = r := H
  refine run_seq (run_region rfl (oM rfl (ops_nil (at_then (run_ret (at_then_ret ?_))))))
  replace HM := HM.empty (Kd.lent wo kCoin with1_one) 70 none
  cases H
  exact at_ret1 rfl rfl ⟨_, rfl, _, rfl, HM⟩
 ·refine run_skip (at_then (run_seq ?_))
  obtain ⟨e13, H⟩ := chk_some H
  refine run_region rfl (oz rfl (does_lit (e := 70) (cs := []) (xs := ([] : List Coin)) kCoin rfl rfl (fun _ => by kernel_rfl) rfl rfl (fun _ _ h => by have h' : _ = [] := h; subst h'; exact .nil) HM.emp) ?_)
  rintro v14 w15 HM
  refine oM rfl ?_
  replace HM := Mem.relent (d := kCoin) (d' := (Kd.lent wo kCoin with1_one)) rfl HM
  refine oz rfl (does_appendR (Kd.lent wo kCoin with1_one) flat_lent rfl rfl rfl U24 tsz70 rfl tby70 tz70 rfl rfl (leB_le e13) (RdS.lentOf hp0 (hwo.cell _ HM.fr)) HM) ?_
  rintro v16 w17 HM
  refine oM rfl (ops_nil (at_then (run_ret ?_)))
  cases H
  exact at_ret1 rfl rfl ⟨_, rfl, _, rfl, HM⟩
end Go.Proofs.YtecgbhfgkkpmhacGreat.Zk
