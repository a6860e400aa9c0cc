/- What functions of the program compute, each as a plain function, and that they do. Conditions: as each theorem states them. -/
import Derived.Test.YtecgbhfgkkpmhacGreatFnUndosZkF13
namespace Go.Proofs.YtecgbhfgkkpmhacGreat.Zk
open Go Go.RowKit Go.IntWalk Go.Proofs
set_option linter.unusedVariables false
set_option linter.unusedSimpArgs false
set_option maxRecDepth 100000
set_option maxHeartbeats 4000000
def slices_Delete_impl_Coin.f (k : Nat) (x0 : List Coin) (x1 : Int) (x2 : Int) : Option ((List Coin)) := (chk (cutOk x2 x0.length) (chk (cutOk x1 (x2).toNat) (bif (x1 == x2) then some x0 else (chk (cutOk x1 x0.length) (chk (cutOk x2 x0.length) (chk (cutOk x1 (x2).toNat) (chk (decide (x1 < x2)) (chk (decide (((x0.take (x1).toNat ++ x0.drop (x2).toNat).length : Int) ≤ (x0.length : Int))) (some (x0.take (x1).toNat ++ x0.drop (x2).toNat))))))))))
theorem slices_Delete_impl_Coin.calls {k : Nat} {x0 : List Coin} {x1 : Int} {x2 : Int} {p0 : Value} {w wo : World} {X : List Nat} (hwo : Olds wo w X) (hX : Hold w [own kCoin 70 p0 x0] X) (hXn : X.Nodup) (hXl : ∀ b ∈ X, b < w.heap.size)  {r : (List Coin)} (H : slices_Delete_impl_Coin.f k x0 x1 x2 = some r) :
  Calls Tryz.prog 83 ([p0, nI x1, nI x2] : List Value).toArray w (fun e w_ => ∃ v, e = .returned v ∧ ∃ u0 : Value, v = u0 ∧ Mem w X w_ [own kCoin 70 u0 r]) := by
 have HM := Mem.startX hX hXn hXl
 refine calls_run (N := 33) Tryz.func83 rfl rfl rfl rfl ?_
 unfold slices_Delete_impl_Coin.f at H
 refine run_seq (run_region rfl (oM rfl (ops_nil (at_then (run_seq ?_)))))
 obtain ⟨e10, H⟩ := chk_some H
 obtain ⟨e11, H⟩ := chk_some H
 refine run_region rfl (oM rfl (oM rfl (oM rfl (oM rfl (oy rfl (ex_len (d := kCoin) (xs := x0) rfl rfl U24 (HM.own_rd 0 rfl)) (ops_exE rfl (guard_none rfl) rfl rfl (ex_cut3 rfl rfl rfl rfl rfl U24 tsz70 (cut_lo e11) (cut_lt2 e11 e10) (cut_le2 e10) ((HM.own_rd 0 rfl).cap.le (Nat.le_refl _))) ?_))))))
 rintro _ _
 refine ops_nil (at_then (run_seq (run_seq (run_region rfl (oM rfl (oM rfl (oy rfl (ex_eql rfl rfl rfl) (ops_nil (at_then (run_cond (b := (x1 == x2)) rfl (fun hb12 => ?_) (fun hb12 => ?_)))))))))))
 ·replace H := cond_t hb12 H
  refine run_seq (run_region rfl (oM rfl (oM rfl (ops_nil (at_then (run_ret (at_then_ret ?_)))))))
  cases H
  exact at_ret1 rfl rfl ⟨_, rfl, _, rfl, HM⟩
 ·replace H := cond_f hb12 H
  refine run_skip (at_then (run_seq (run_region rfl (oM rfl (oy rfl (ex_len (d := kCoin) (xs := x0) rfl rfl U24 (HM.own_rd 0 rfl)) (oM rfl (ops_nil (at_then (run_seq ?_)))))))))
  obtain ⟨e13, H⟩ := chk_some H
  obtain ⟨e14, H⟩ := chk_some H
  obtain ⟨e15, H⟩ := chk_some H
  obtain ⟨e16, H⟩ := chk_some H
  refine run_drawf (fun w_ => Mem w X w_ []) [(0, true), (1, true), (2, true), (3, true), (4, true), (5, true), (6, false), (7, true)] mixed rfl rfl (by kernel_rfl) ?_
  replace HM := HM.grow (fr_drew _)
  have hS := HM.sufN 1 rfl
  refine dp rfl rfl rfl rfl (ex_move rfl rfl) hS (dp rfl rfl rfl rfl (ex_move rfl rfl) hS (dp rfl rfl rfl rfl (ex_cutvH rfl rfl rfl U24 tsz70 (cut_lo e13) ((HM.own_rd 0 rfl).cap.le (cut_hi e13))) hS (dp rfl rfl rfl rfl (ex_move rfl rfl) hS (dp rfl rfl rfl rfl (ex_move rfl rfl) hS (dp rfl rfl rfl rfl (ex_cutvL rfl rfl rfl U24 tsz70 (HM.own_rd 0 rfl) e14) hS (drwp_one rfl (guard_none rfl) rfl rfl (does_delApp (i := (x1).toNat) (j := (x2).toNat) kCoin rfl rfl rfl U24 tsz70 (lt_nat e15 e16) (cut_hi e14) HM) ?_))))))
  rintro v17 w18 ⟨hcap19, HM⟩
  have hS := HM.sufN 1 rfl
  refine ⟨hS, (dp rfl rfl rfl rfl (ex_assign rfl rfl) hS (drwp_done (at_then (run_seq ?_))))⟩
  obtain ⟨e20, H⟩ := chk_some H
  refine run_region rfl (oM rfl (oM rfl (oy rfl (ex_len (d := kCoin) (xs := x0.take (x1).toNat ++ x0.drop (x2).toNat) rfl rfl U24 (HM.own_rd 0 rfl)) (oM rfl (oy rfl (ex_cutvLH rfl rfl rfl rfl U24 tsz70 (Int.natCast_nonneg _) (of_decide_eq_true e20) hcap19) (ops_doesN rfl (guard_none rfl) rfl (does_clear (n := x0.length) kCoin rfl rfl U24 tsz70 tz70 rfl rfl (onesC rfl (onesC rfl (onesC rfl (onesC rfl (onesC rfl (onesC rfl (onesC rfl (onesC rfl onesN)))))))) (Int.ofNat_le.1 (of_decide_eq_true e20)) hcap19 HM) ?_))))))
  rintro _ w21 HM
  refine ops_nil (at_then (run_seq (run_region rfl (oM rfl (oM rfl (ops_nil (at_then (run_ret ?_))))))))
  cases H
  exact at_ret1 rfl rfl ⟨_, rfl, _, rfl, HM⟩

def impl_takeCoins.l0 (x1 : List Ref) : Nat → (List Coin) → Int → Option (((List Coin) × Int) ⊕ ((List Coin)))
 | 0, _, _ => none
 | k + 1, a10, a11 => (bif (decide (a11 < (x1.length : Int))) then (chk (idxOk a11 x1.length) ((impl_findCoin.f k a10 (gt x1 a11)).bind fun t12 => (bif !t12.2 then some (.inl (([] : List Coin), 4)) else ((slices_Delete_impl_Coin.f k a10 t12.1 (wrap64 (t12.1 + 1))).bind fun t13 => impl_takeCoins.l0 x1 k t13 (wrap64 (a11 + 1)))))) else some (.inr a10))
def impl_takeCoins.f (k : Nat) (x0 : List Coin) (x1 : List Ref) : Option ((List Coin) × Int) := ((impl_ownCoins.f k x0).bind fun t14 => ((impl_takeCoins.l0 x1 k t14 0).bind fun o15 => thn o15 (fun r => some r) (fun a16 => some (a16, 0))))
theorem impl_takeCoins.calls {k : Nat} {x0 : List Coin} {x1 : List Ref} {p0 : Value} {p1 : Value} {w : World} (hp0 : RdS kCoin w p0 x0) (hp1 : RdS kRef w p1 x1) {r : (List Coin) × Int} (H : impl_takeCoins.f k x0 x1 = some r) :
  Calls Tryz.prog 43 ([p0, p1] : List Value).toArray w (fun e w_ => ∃ v, e = .returned v ∧ ∃ u0 : Value, v = (.tuple #[u0, nI r.2]) ∧ Mem w [] w_ [own kCoin 70 u0 r.1]) := by
 have HM := Mem.start w
 refine calls_run (N := 34) Tryz.func43 rfl rfl rfl rfl ?_
 unfold impl_takeCoins.f at H
 refine run_seq (run_region rfl (oM rfl (oM rfl (ops_nil (at_then (run_seq ?_))))))
 obtain ⟨t14, h17, H⟩ := bind_some H
 refine run_region rfl (oM rfl (oz rfl (does_callk rfl callok26 rfl (impl_ownCoins.calls (x0 := x0) (HM.rd hp0) h17)) ?_))
 rintro u18 w19 ⟨_, rfl, hn⟩
 replace HM := HM.callN hn rfl
 refine oM rfl (ops_nil (at_then ?_))
 obtain ⟨o15, ho20, H⟩ := bind_some H
 refine run_mid (fun ρ_ w_ => ∃ v21 : Value, ∃ a16 : List Coin, Sum.inr a16 = o15 ∧ ρ_ = [(6, v21)] ∧ Mem w [] w_ [own kCoin 70 v21 a16]) ?_ ?_
 ·refine run_seq (run_region rfl (oM rfl (oy rfl (ex_len (d := kRef) (xs := x1) rfl rfl U25 hp1) (oM rfl (ops_nil (at_then (run_block ?_)))))))
  refine run_loop (fun k_ ρ_ w_ => ∃ v22 : Value, ∃ a10 : List Coin, ∃ a11 : Int, impl_takeCoins.l0 x1 k_ a10 a11 = some o15 ∧ ρ_ = [(6, v22), (13, p1), (14, nI (x1.length : Int)), (15, nI a11)] ∧ Mem w [] w_ [own kCoin 70 v22 a10]) k ⟨_, _, _, ho20, rfl, HM⟩ (Sub.of rfl) ?_
  clear HM ho20
  rintro k23 _ w24 ⟨v22, a10, a11, ho20, rfl, HM⟩
  obtain _ | k23 := k23
  ·exact nomatch ((impl_takeCoins.l0.eq_1 x1 a10 a11).symm.trans ho20)
  replace ho20 := (impl_takeCoins.l0.eq_2 ..).symm.trans ho20
  refine run_seq (run_region rfl (oy rfl (ex_lss rfl rfl rfl) (ops_nil (at_then (run_seq (run_cond (b := (decide (a11 < (x1.length : Int)))) rfl (fun hb25 => ?_) (fun hb25 => ?_)))))))
  ·replace ho20 := cond_t hb25 ho20
   refine run_skip (at_then (run_seq (run_block (run_seq ?_))))
   obtain ⟨e26, ho20⟩ := chk_some ho20
   refine run_region rfl ?_
   have hc27 : CellsAt _ (sb p1) (so p1 + (a11).toNat * 2) [(nI ((gt x1 a11).fTx)), (nI ((gt x1 a11).fAt))] := rd_plain hp1 e26
   refine oy rfl (ex_indexAddr (d := kRef) rfl rfl rfl U25 tsz38 hp1 (idx_lo e26) (idx_hi e26)) (oy rfl (ldN rfl rfl U38 rfl tsz38 ((HM.at_ hc27).subL 0 2 rfl) rfl) (oz rfl (does_alloc (cs := [nI 0, nI 0]) rfl tz38 rfl HM) ?_))
   rintro _ w28 ⟨b29, rfl, HM⟩
   refine odS rfl rfl rfl (does_store (vs := [nI ((gt x1 a11).fTx), nI ((gt x1 a11).fAt)]) (cs' := [nI ((gt x1 a11).fTx), nI ((gt x1 a11).fAt)]) rfl rfl rfl rfl tsz38 (Ones.int (Ones.int Ones.nil)) rfl rfl HM) ?_
   rintro w30 HM
   refine ops_nil (at_then (run_seq ?_))
   obtain ⟨t12, h31, ho20⟩ := bind_some ho20
   refine run_region rfl (oM rfl (oy rfl (ldN rfl rfl U38 rfl tsz38 ((HM.box_at 0 rfl).subL 0 2 rfl) rfl) (oz rfl (does_callk rfl callok25 rfl (impl_findCoin.calls (x0 := a10) (x1 := (gt x1 a11)) (HM.own_rd 1 rfl) h31)) ?_)))
   rintro _ w32 ⟨rfl, hn⟩
   replace HM := HM.callN hn rfl
   refine oM rfl (oy rfl (ex_extract rfl rfl rfl) (oy rfl (ex_extract rfl rfl rfl) (oM rfl (oM rfl (ops_nil (at_then (run_seq (run_seq (run_region rfl (oM rfl (oy rfl (ex_not rfl rfl) ?_)))))))))))
   refine ops_nil (at_then (run_cond (b := !t12.2) rfl (fun hb33 => ?_) (fun hb33 => ?_)))
   ·replace ho20 := cond_t hb33 ho20
    refine run_seq (run_region rfl (oM rfl (oM rfl (ops_nil (at_then (run_ret (at_then_ret (at_block_ret (at_then_ret (at_then_ret ?_))))))))))
    refine at_block_ret (at_then_ret ?_)
    replace HM := ((HM.empty kCoin 70 none).frd 1 rfl).frd 1 rfl
    cases ho20
    have hT := thn_inl H
    cases hT
    exact at_ret2 rfl rfl rfl ⟨_, rfl, _, rfl, HM⟩
   ·replace ho20 := cond_f hb33 ho20
    refine run_skip (at_then ?_)
    obtain ⟨t13, h34, ho20⟩ := bind_some ho20
    refine run_region rfl (oM rfl (oM rfl (oM rfl (oy rfl (ex_add rfl rfl rfl) ?_))))
    replace HM := HM.fr1 1 rfl
    obtain ⟨F35, hF36, hFn37, hFl38, HMh39, hcl40⟩ := HM.hideN 1 rfl
    refine oz rfl (does_callk rfl callok83 rfl (slices_Delete_impl_Coin.calls (x0 := a10) (x1 := t12.1) (x2 := wrap64 (t12.1 + 1)) (hide_olds _ _) hF36 hFn37 hFl38 h34)) ?_
    rintro u41 w42 ⟨_, rfl, hn⟩
    replace HM := hcl40 _ _ _ rfl hn
    refine oM rfl (ops_nil (at_block (at_then (run_region rfl (oy rfl (ex_add rfl rfl rfl) (oM rfl (ops_nil ?_)))))))
    replace HM := HM.frd 1 rfl
    exact at_again k23 (Nat.lt_succ_self _) ⟨_, _, _, ho20, rfl, HM⟩ (Sub.of rfl)
  ·replace ho20 := cond_f hb25 ho20
   exact run_exit (at_then_exit (at_then_exit (at_block_exit (at_mid ⟨_, _, (sj ho20), rfl, HM⟩ (Sub.of rfl)))))
 ·rintro _ w43 ⟨v21, a16, rfl, rfl, HM⟩
  replace H := (thn_inr H)
  refine run_seq (run_region rfl (oM rfl (oM rfl (oM rfl (ops_nil (at_then (run_ret ?_)))))))
  cases H
  exact at_ret2 rfl rfl rfl ⟨_, rfl, _, rfl, HM⟩

def impl_putCoins.l0 (x2 : List Out) : Nat → Int → Option (((List Coin) × Int) ⊕ Unit)
 | 0, _ => none
 | k + 1, a10 => (bif (decide (a10 < (x2.length : Int))) then (chk (idxOk a10 x2.length) ((impl_outFault.f k (gt x2 a10)).bind fun t11 => (bif (t11 != 0) then some (.inl (([] : List Coin), t11)) else impl_putCoins.l0 x2 k (wrap64 (a10 + 1))))) else some (.inr ()))
def impl_putCoins.l1 (x1 : Int) (x2 : List Out) (x3 : Int) (x4 : Bool) : Nat → (List Coin) → Int → Option ((List Coin))
 | 0, _, _ => none
 | k + 1, a12, a13 => (bif (decide (a13 < (x2.length : Int))) then (chk (idxOk a13 x2.length) ((impl_ownOut.f k (gt x2 a13)).bind fun t14 => (chk (leB ((a12.length + ([(⟨(⟨x1, a13⟩ : Ref), t14, x3, x4⟩ : Coin)] : List Coin).length) * 80) 140737488355328) (impl_putCoins.l1 x1 x2 x3 x4 k (a12 ++ ([(⟨(⟨x1, a13⟩ : Ref), t14, x3, x4⟩ : Coin)] : List Coin)) (wrap64 (a13 + 1)))))) else some a12)
def impl_putCoins.f (k : Nat) (x0 : List Coin) (x1 : Int) (x2 : List Out) (x3 : Int) (x4 : Bool) : Option ((List Coin) × Int) := ((impl_isId.f k x1).bind fun t15 => ((bif (!(!t15)) then impl_isHeight.f k x3 else some default).bind fun t16 => (bif ((!t15) || (!t16)) then some (([] : List Coin), 3) else (bif (decide (4 < (x2.length : Int))) then some (([] : List Coin), 2) else ((impl_putCoins.l0 x2 k 0).bind fun o17 => thn o17 (fun r => some r) (fun _ => ((impl_hasTx.f k x0 x1).bind fun t18 => (bif t18 then some (([] : List Coin), 7) else (bif (decide (40 < (wrap64 ((x0.length : Int) + (x2.length : Int))))) then some (([] : List Coin), 2) else ((impl_ownCoins.f k x0).bind fun t19 => ((impl_putCoins.l1 x1 x2 x3 x4 k t19 0).bind (fun a20 => ((impl_sorted.f k a20).bind fun t21 => some (t21, 0))))))))))))))
theorem impl_putCoins.calls {k : Nat} {x0 : List Coin} {x1 : Int} {x2 : List Out} {x3 : Int} {x4 : Bool} {p0 : Value} {p2 : Value} {w : World} (hp0 : RdS kCoin w p0 x0) (hp2 : RdS kOut w p2 x2) {r : (List Coin) × Int} (H : impl_putCoins.f k x0 x1 x2 x3 x4 = some r) :
  Calls Tryz.prog 44 ([p0, nI x1, p2, nI x3, .bool x4] : List Value).toArray w (fun e w_ => ∃ v, e = .returned v ∧ ∃ u0 : Value, v = (.tuple #[u0, nI r.2]) ∧ Mem w [] w_ [own kCoin 70 u0 r.1]) := by
 have HM := Mem.start w
 refine calls_run (N := 77) Tryz.func44 rfl rfl rfl rfl ?_
 unfold impl_putCoins.f at H
 refine run_seq (run_region rfl (oM rfl (oM rfl (ops_nil (at_then (run_seq (run_block (run_seq ?_))))))))
 obtain ⟨t15, h22, H⟩ := bind_some H
 obtain ⟨t16, h23, H⟩ := bind_some H
 refine run_meet (fun ρ_ w_ => ρ_ = [(0, p0), (1, nI x1), (2, p2), (3, nI x3), (4, .bool x4), (18, .bool ((!t15) || (!t16)))] ∧ Mem w [] w_ []) ?_ ?_
 ·refine run_region rfl (oM rfl (oz rfl (does_callk rfl callok54 rfl (impl_isId.calls (x0 := x1) h22)) ?_))
  rintro _ w24 ⟨rfl, hn⟩
  replace HM := HM.callN hn rfl
  refine oy rfl (ex_not rfl rfl) (oM rfl ?_)
  refine bool_cases (!t15) (fun hg25 => ?_) (fun hg25 => ?_)
  ·refine gf rfl hg25 (gf rfl hg25 (gf rfl hg25 ?_))
   have hg26 : ((!t15) || (!t16)) = true := by simp only [hg25, Bool.and_true, Bool.true_and, Bool.and_false, Bool.false_and, Bool.or_true, Bool.true_or, Bool.or_false, Bool.false_or, Bool.not_true, Bool.not_false, Bool.not_not]
   exact ops_ex (v := .bool ((!t15) || (!t16))) rfl (guard_none rfl) rfl rfl (ex_por_t rfl rfl hg25) (oM rfl (ops_nil (at_meet _ ⟨rfl, HM⟩ (Sub.of rfl))))
  ·refine gn rfl hg25 (ex_move rfl rfl) (ops_does rfl (guard_on rfl rfl rfl hg25) rfl rfl (does_callk rfl callok30 rfl (impl_isHeight.calls (x0 := x3) (cond_t (not_mk hg25) h23))) ?_)
   rintro _ w27 ⟨rfl, hn⟩
   replace HM := HM.callN hn rfl
   exact gn rfl hg25 (ex_not rfl rfl) (ops_ex (v := .bool ((!t15) || (!t16))) rfl (guard_none rfl) rfl rfl (ex_por_f rfl rfl hg25 rfl) (oM rfl (ops_nil (at_meet _ ⟨rfl, HM⟩ (Sub.of rfl)))))
 ·rintro _ w28 ⟨rfl, HM⟩
  refine at_then (run_cond (b := ((!t15) || (!t16))) rfl (fun hb29 => ?_) (fun hb29 => ?_))
  ·replace H := cond_t hb29 H
   refine run_seq (run_region rfl (oM rfl (oM rfl (ops_nil (at_then (run_ret (at_block_ret (at_then_ret ?_))))))))
   replace HM := HM.empty kCoin 70 none
   cases H
   exact at_ret2 rfl rfl rfl ⟨_, rfl, _, rfl, HM⟩
  ·replace H := cond_f hb29 H
   refine run_seq (run_region rfl (oM rfl (oy rfl (ex_len (d := kOut) (xs := x2) rfl rfl U26 hp2) (oy rfl (ex_gtr rfl rfl rfl) (oM rfl (ops_nil (at_then (run_cond (b := (decide (4 < (x2.length : Int)))) rfl (fun hb30 => ?_) (fun hb30 => ?_)))))))))
   ·replace H := cond_t hb30 H
    refine run_seq (run_region rfl (oM rfl (oM rfl (ops_nil (at_then (run_ret (at_block_ret (at_then_ret ?_))))))))
    replace HM := HM.empty kCoin 70 none
    cases H
    exact at_ret2 rfl rfl rfl ⟨_, rfl, _, rfl, HM⟩
   ·replace H := cond_f hb30 H
    refine run_skip (at_block (at_then ?_))
    obtain ⟨o17, ho31, H⟩ := bind_some H
    refine run_mid (fun ρ_ w_ => Sum.inr () = o17 ∧ ρ_ = [(0, p0), (1, nI x1), (2, p2), (3, nI x3), (4, .bool x4)] ∧ Mem w [] w_ []) ?_ ?_
    ·refine run_seq (run_region rfl (oM rfl (oy rfl (ex_len (d := kOut) (xs := x2) rfl rfl U26 hp2) (oM rfl (ops_nil (at_then (run_block ?_)))))))
     refine run_loop (fun k_ ρ_ w_ => ∃ a10 : Int, impl_putCoins.l0 x2 k_ a10 = some o17 ∧ ρ_ = [(0, p0), (1, nI x1), (2, p2), (3, nI x3), (4, .bool x4), (31, p2), (32, nI (x2.length : Int)), (33, nI a10)] ∧ Mem w [] w_ []) k ⟨_, ho31, rfl, HM⟩ (Sub.of rfl) ?_
     clear HM ho31
     rintro k32 _ w33 ⟨a10, ho31, rfl, HM⟩
     obtain _ | k32 := k32
     ·exact nomatch ((impl_putCoins.l0.eq_1 x2 a10).symm.trans ho31)
     replace ho31 := (impl_putCoins.l0.eq_2 ..).symm.trans ho31
     refine run_seq (run_region rfl (oy rfl (ex_lss rfl rfl rfl) (ops_nil (at_then (run_seq (run_cond (b := (decide (a10 < (x2.length : Int)))) rfl (fun hb34 => ?_) (fun hb34 => ?_)))))))
     ·replace ho31 := cond_t hb34 ho31
      refine run_skip (at_then (run_seq (run_block (run_seq ?_))))
      obtain ⟨e35, ho31⟩ := chk_some ho31
      refine run_region rfl ?_
      obtain ⟨kv36, hc37, hk38⟩ := rd_with1 hp2 e35
      refine oy rfl (ex_indexAddr (d := kOut) rfl rfl rfl U26 tsz68 hp2 (idx_lo e35) (idx_hi e35)) (oy rfl (ldN rfl rfl U68 rfl tsz68 ((HM.at_ hc37).subL 0 4 rfl) rfl) (oz rfl (does_alloc (cs := [nI 0, .slice none 0 0, nI 0, nI 0]) rfl tz68 rfl HM) ?_))
      rintro _ w39 ⟨b40, rfl, HM⟩
      refine odS rfl rfl rfl (does_store (vs := [nI ((gt x2 a10).fValue), kv36, nI ((gt x2 a10).fRule.fNeed), nI ((gt x2 a10).fRule.fAfter)]) (cs' := [nI ((gt x2 a10).fValue), kv36, nI ((gt x2 a10).fRule.fNeed), nI ((gt x2 a10).fRule.fAfter)]) rfl rfl rfl rfl tsz68 (Ones.int (Ones.rd hk38 (Ones.int (Ones.int Ones.nil)))) rfl rfl HM) ?_
      rintro w41 HM
      refine ops_nil (at_then (run_seq ?_))
      obtain ⟨t11, h42, ho31⟩ := bind_some ho31
      refine run_region rfl (oy rfl (ldN rfl rfl U68 rfl tsz68 ((HM.box_at 0 rfl).subL 0 4 rfl) rfl) (oz rfl (does_callk rfl callok41 rfl (impl_outFault.calls (x0 := (gt x2 a10)) (HM.rd hk38) h42)) ?_))
      rintro _ w43 ⟨rfl, hn⟩
      replace HM := HM.callN hn rfl
      refine oM rfl (ops_nil (at_then (run_seq (run_region rfl (oM rfl (oy rfl (ex_neq rfl rfl rfl) (ops_nil (at_then (run_cond (b := (t11 != 0)) rfl (fun hb44 => ?_) (fun hb44 => ?_))))))))))
      ·replace ho31 := cond_t hb44 ho31
       refine run_seq (run_region rfl (oM rfl (oM rfl (oM rfl (ops_nil (at_then (run_ret (at_block_ret (at_then_ret (at_then_ret ?_))))))))))
       refine at_block_ret (at_then_ret ?_)
       replace HM := (HM.empty kCoin 70 none).frd 1 rfl
       cases ho31
       have hT := thn_inl H
       cases hT
       exact at_ret2 rfl rfl rfl ⟨_, rfl, _, rfl, HM⟩
      ·replace ho31 := cond_f hb44 ho31
       refine run_skip (at_block (at_then (run_region rfl (oy rfl (ex_add rfl rfl rfl) (oM rfl (ops_nil ?_))))))
       replace HM := HM.frd 0 rfl
       exact at_again k32 (Nat.lt_succ_self _) ⟨_, ho31, rfl, HM⟩ (Sub.of rfl)
     ·replace ho31 := cond_f hb34 ho31
      exact run_exit (at_then_exit (at_then_exit (at_block_exit (at_mid ⟨(sj ho31), rfl, HM⟩ (Sub.of rfl)))))
    ·rintro _ w45 ⟨rfl, rfl, HM⟩
     replace H := (thn_inr H)
     refine run_seq (run_block (run_seq ?_))
     obtain ⟨t18, h46, H⟩ := bind_some H
     refine run_region rfl (oM rfl (oM rfl (oz rfl (does_callk rfl callok42 rfl (impl_hasTx.calls (x0 := x0) (x1 := x1) (HM.rd hp0) h46)) ?_)))
     rintro _ w47 ⟨rfl, hn⟩
     replace HM := HM.callN hn rfl
     refine oM rfl (ops_nil (at_then (run_cond (b := t18) rfl (fun hb48 => ?_) (fun hb48 => ?_))))
     ·replace H := cond_t hb48 H
      refine run_seq (run_region rfl (oM rfl (oM rfl (ops_nil (at_then (run_ret (at_block_ret (at_then_ret ?_))))))))
      replace HM := HM.empty kCoin 70 none
      cases H
      exact at_ret2 rfl rfl rfl ⟨_, rfl, _, rfl, HM⟩
     ·replace H := cond_f hb48 H
      refine run_seq (run_region rfl (oM rfl (oy rfl (ex_len (d := kCoin) (xs := x0) rfl rfl U24 hp0) (oM rfl (oy rfl (ex_len (d := kOut) (xs := x2) rfl rfl U26 hp2) (oy rfl (ex_add rfl rfl rfl) (oy rfl (ex_gtr rfl rfl rfl) (oM rfl (ops_nil (at_then ?_))))))))))
      refine run_cond (b := (decide (40 < (wrap64 ((x0.length : Int) + (x2.length : Int)))))) rfl (fun hb49 => ?_) (fun hb49 => ?_)
      ·replace H := cond_t hb49 H
       refine run_seq (run_region rfl (oM rfl (oM rfl (ops_nil (at_then (run_ret (at_block_ret (at_then_ret ?_))))))))
       replace HM := HM.empty kCoin 70 none
       cases H
       exact at_ret2 rfl rfl rfl ⟨_, rfl, _, rfl, HM⟩
      ·replace H := cond_f hb49 H
       refine run_skip (at_block (at_then (run_seq ?_)))
       obtain ⟨t19, h50, H⟩ := bind_some H
       refine run_region rfl (oM rfl (oz rfl (does_callk rfl callok26 rfl (impl_ownCoins.calls (x0 := x0) (HM.rd hp0) h50)) ?_))
       rintro u51 w52 ⟨_, rfl, hn⟩
       replace HM := HM.callN hn rfl
       refine oM rfl (ops_nil (at_then ?_))
       obtain ⟨o53, ho54, H⟩ := bind_some H
       refine run_mid (fun ρ_ w_ => ∃ v55 : Value, ∃ a20 : List Coin, a20 = o53 ∧ ρ_ = [(15, v55)] ∧ Mem w [] w_ [own kCoin 70 v55 a20]) ?_ ?_
       ·clear H
        refine run_seq (run_region rfl (oM rfl (oy rfl (ex_len (d := kOut) (xs := x2) rfl rfl U26 hp2) (oM rfl (ops_nil (at_then (run_block ?_)))))))
        refine run_loop (fun k_ ρ_ w_ => ∃ v56 : Value, ∃ a12 : List Coin, ∃ a13 : Int, impl_putCoins.l1 x1 x2 x3 x4 k_ a12 a13 = some o53 ∧ ρ_ = [(1, nI x1), (3, nI x3), (4, .bool x4), (15, v56), (56, p2), (57, nI (x2.length : Int)), (58, nI a13)] ∧ Mem w [] w_ [own kCoin 70 v56 a12]) k ⟨_, _, _, ho54, rfl, HM⟩ (Sub.of rfl) ?_
        clear HM ho54
        rintro k57 _ w58 ⟨v56, a12, a13, ho54, rfl, HM⟩
        obtain _ | k57 := k57
        ·exact nomatch ((impl_putCoins.l1.eq_1 x1 x2 x3 x4 a12 a13).symm.trans ho54)
        replace ho54 := (impl_putCoins.l1.eq_2 ..).symm.trans ho54
        refine run_seq (run_region rfl (oy rfl (ex_lss rfl rfl rfl) (ops_nil (at_then (run_seq (run_cond (b := (decide (a13 < (x2.length : Int)))) rfl (fun hb59 => ?_) (fun hb59 => ?_)))))))
        ·replace ho54 := cond_t hb59 ho54
         refine run_skip (at_then (run_seq (run_block (run_seq ?_))))
         obtain ⟨e60, ho54⟩ := chk_some ho54
         refine run_region rfl (oM rfl ?_)
         obtain ⟨kv61, hc62, hk63⟩ := rd_with1 hp2 e60
         refine oy rfl (ex_indexAddr (d := kOut) rfl rfl rfl U26 tsz68 hp2 (idx_lo e60) (idx_hi e60)) (oy rfl (ldN rfl rfl U68 rfl tsz68 ((HM.at_ hc62).subL 0 4 rfl) rfl) (oz rfl (does_alloc (cs := [nI 0, .slice none 0 0, nI 0, nI 0]) rfl tz68 rfl HM) ?_))
         rintro _ w64 ⟨b65, rfl, HM⟩
         refine oM rfl (odS rfl rfl rfl (does_store (vs := [nI ((gt x2 a13).fValue), kv61, nI ((gt x2 a13).fRule.fNeed), nI ((gt x2 a13).fRule.fAfter)]) (cs' := [nI ((gt x2 a13).fValue), kv61, nI ((gt x2 a13).fRule.fNeed), nI ((gt x2 a13).fRule.fAfter)]) rfl rfl rfl rfl tsz68 (Ones.int (Ones.rd hk63 (Ones.int (Ones.int Ones.nil)))) rfl rfl HM) ?_)
         rintro w66 HM
         refine ops_nil (at_then ?_)
         obtain ⟨t14, h67, ho54⟩ := bind_some ho54
         obtain ⟨e68, ho54⟩ := chk_some ho54
         refine run_region rfl (oM rfl (oM rfl (oM rfl (oy rfl (ex_build (cells := #[(nI x1), (nI a13)]) rfl rfl (by kernel_rfl)) ?_))))
         refine oy rfl (ldN rfl rfl U68 rfl tsz68 ((HM.box_at 0 rfl).subL 0 4 rfl) rfl) (oz rfl (does_callk rfl callok64 rfl (impl_ownOut.calls (x0 := (gt x2 a13)) (HM.rd hk63) h67)) ?_)
         rintro _ w69 ⟨u70, rfl, hn⟩
         replace HM := HM.callN hn rfl
         refine oM rfl (oM rfl (oy rfl (ex_build1 (fun u70 => [(0, .agg #[(nI x1), (nI a13)]), (1, .agg #[(nI t14.fValue), u70, (nI t14.fRule.fNeed), (nI t14.fRule.fAfter)]), (2, nI x3), (3, .bool x4)]) (fun u70 => #[nI x1, nI a13, nI t14.fValue, u70, nI t14.fRule.fNeed, nI t14.fRule.fAfter, nI x3, .bool x4]) rfl rfl (fun _ _ _ => by kernel_rfl) (HM.own_rd 0 rfl).isSl) ?_))
         refine oz rfl (does_lit (e := 70) (cs := [(nI x1), (nI a13), (nI t14.fValue), u70, (nI t14.fRule.fNeed), (nI t14.fRule.fAfter), (nI x3), (.bool x4)]) (xs := ([(⟨(⟨x1, a13⟩ : Ref), t14, x3, x4⟩ : Coin)] : List Coin)) kCoin rfl rfl (fun _ => by kernel_rfl) rfl rfl (fun _ _ h => by have := Elems.cons (d := kCoin) (x := (⟨(⟨x1, a13⟩ : Ref), t14, x3, x4⟩ : Coin)) ⟨_, rfl, h⟩ .nil; rw [List.append_nil, List.append_nil] at this; exact this) HM) ?_
         rintro v71 w72 HM
         replace HM := HM.fr1 2 rfl
         refine oz rfl (does_append kCoin rfl rfl rfl U24 tsz70 rfl tby70 tz70 rfl rfl (leB_le e68) HM) ?_
         rintro v73 w74 HM
         refine oM rfl (ops_nil (at_block (at_then (run_region rfl (oy rfl (ex_add rfl rfl rfl) (oM rfl (ops_nil ?_)))))))
         replace HM := HM.frd 1 rfl
         exact at_again k57 (Nat.lt_succ_self _) ⟨_, _, _, ho54, rfl, HM⟩ (Sub.of rfl)
        ·replace ho54 := cond_f hb59 ho54
         exact run_exit (at_then_exit (at_then_exit (at_block_exit (at_mid ⟨_, _, (sj ho54), rfl, HM⟩ (Sub.of rfl)))))
       ·rintro _ w75 ⟨v55, a20, rfl, rfl, HM⟩
        refine run_seq ?_
        obtain ⟨t21, h76, H⟩ := bind_some H
        refine run_region rfl (oM rfl ?_)
        obtain ⟨F77, hF78, hFn79, hFl80, HMh81, hcl82⟩ := HM.hideN 1 rfl
        refine oz rfl (does_callk rfl callok61 rfl (impl_sorted.calls (x0 := a20) (hide_olds _ _) hF78 hFn79 hFl80 h76)) ?_
        rintro u83 w84 ⟨_, rfl, hn⟩
        replace HM := hcl82 _ _ _ rfl hn
        refine oM rfl (oM rfl (ops_nil (at_then (run_ret ?_))))
        cases H
        exact at_ret2 rfl rfl rfl ⟨_, rfl, _, rfl, HM⟩

def impl_spendTx.f (k : Nat) (x0 : List Coin) (x1 : Tx) (x2 : Int) (x3 : Int) : Option ((List Coin) × Int) := ((impl_spentBy.f k x0 x1).bind fun t10 => (bif (t10.2 != 0) then some (([] : List Coin), t10.2) else ((impl_hasTx.f k x0 x2).bind fun t11 => (bif t11 then some (([] : List Coin), 7) else ((impl_takeCoins.f k x0 x1.fIns).bind fun t12 => ((impl_putCoins.f k t12.1 x2 x1.fOuts x3 false).bind fun t13 => some (t13.1, t13.2)))))))
theorem impl_spendTx.calls {k : Nat} {x0 : List Coin} {x1 : Tx} {x2 : Int} {x3 : Int} {p0 : Value} {p1_0 : Value} {p1_1 : Value} {w : World} (hp0 : RdS kCoin w p0 x0) (hp1_0 : RdS kRef w p1_0 x1.fIns) (hp1_1 : RdS kOut w p1_1 x1.fOuts) {r : (List Coin) × Int} (H : impl_spendTx.f k x0 x1 x2 x3 = some r) :
  Calls Tryz.prog 18 ([p0, .agg #[(nI x1.fKind), (nI x1.fMember), p1_0, p1_1], nI x2, nI x3] : List Value).toArray w (fun e w_ => ∃ v, e = .returned v ∧ ∃ u0 : Value, v = (.tuple #[u0, nI r.2]) ∧ Mem w [] w_ [own kCoin 70 u0 r.1]) := by
 have HM := Mem.start w
 refine calls_run (N := 41) Tryz.func18 rfl rfl rfl rfl ?_
 unfold impl_spendTx.f at H
 refine run_seq (run_region rfl (oz rfl (does_box (cs := [nI x1.fKind, nI x1.fMember, p1_0, p1_1]) rfl rfl rfl HM) ?_))
 rintro _ w14 ⟨b15, rfl, HM⟩
 refine oM rfl (oM rfl (ops_nil (at_then (run_seq (run_seq ?_)))))
 obtain ⟨t10, h16, H⟩ := bind_some H
 refine run_region rfl (oM rfl (oy rfl (ldN rfl rfl U28 rfl tsz28 ((HM.box_at 0 rfl).subL 0 4 rfl) rfl) (oz rfl (does_callk rfl callok24 rfl (impl_spentBy.calls (x0 := x0) (x1 := x1) (HM.rd hp0) (HM.rd hp1_0) (HM.rd hp1_1) h16)) ?_)))
 rintro _ w17 ⟨u18, rfl, hn⟩
 replace HM := HM.callN hn rfl
 refine oM rfl (oy rfl (ex_extract rfl rfl rfl) (oy rfl (ex_extract rfl rfl rfl) (oM rfl (oM rfl (ops_nil (at_then (run_seq (run_region rfl (oM rfl (oy rfl (ex_neq rfl rfl rfl) (ops_nil (at_then ?_))))))))))))
 refine run_cond (b := (t10.2 != 0)) rfl (fun hb19 => ?_) (fun hb19 => ?_)
 ·replace H := cond_t hb19 H
  refine run_seq (run_region rfl (oM rfl (oM rfl (oM rfl (ops_nil (at_then (run_ret (at_then_ret ?_))))))))
  replace HM := ((HM.empty kCoin 70 none).frd 1 rfl).frd 1 rfl
  cases H
  exact at_ret2 rfl rfl rfl ⟨_, rfl, _, rfl, HM⟩
 ·replace H := cond_f hb19 H
  refine run_skip (at_then (run_seq (run_seq ?_)))
  obtain ⟨t11, h20, H⟩ := bind_some H
  refine run_region rfl (oM rfl (oM rfl (oz rfl (does_callk rfl callok42 rfl (impl_hasTx.calls (x0 := x0) (x1 := x2) (HM.rd hp0) h20)) ?_)))
  rintro _ w21 ⟨rfl, hn⟩
  replace HM := HM.callN hn rfl
  refine ops_nil (at_then (run_cond (b := t11) rfl (fun hb22 => ?_) (fun hb22 => ?_)))
  ·replace H := cond_t hb22 H
   refine run_seq (run_region rfl (oM rfl (oM rfl (ops_nil (at_then (run_ret (at_then_ret ?_)))))))
   replace HM := ((HM.empty kCoin 70 none).frd 1 rfl).frd 1 rfl
   cases H
   exact at_ret2 rfl rfl rfl ⟨_, rfl, _, rfl, HM⟩
  ·replace H := cond_f hb22 H
   refine run_skip (at_then (run_seq ?_))
   obtain ⟨t12, h23, H⟩ := bind_some H
   refine run_region rfl (oM rfl (oy rfl (ex_fieldAddr (off' := 2) rfl rfl U28 rfl tsz25 rfl) (oy rfl (ex_load1 rfl rfl U25 rfl ((HM.box_at 1 rfl) 2 _ rfl)) (oz rfl (does_callk rfl callok43 rfl (impl_takeCoins.calls (x0 := x0) (x1 := x1.fIns) (HM.rd hp0) (HM.rd hp1_0) h23)) ?_))))
   rintro _ w24 ⟨u25, rfl, hn⟩
   replace HM := HM.callN hn rfl
   refine oM rfl (oy rfl (ex_extract rfl rfl rfl) (oy rfl (ex_extract rfl rfl rfl) (oM rfl (oM rfl (ops_nil (at_then (run_seq ?_)))))))
   obtain ⟨t13, h26, H⟩ := bind_some H
   refine run_region rfl (oM rfl (oM rfl (oy rfl (ex_fieldAddr (off' := 3) rfl rfl U28 rfl tsz26 rfl) (oy rfl (ex_load1 rfl rfl U26 rfl ((HM.box_at 2 rfl) 3 _ rfl)) (oM rfl (oz rfl (does_callk rfl callok44 rfl (impl_putCoins.calls (x0 := t12.1) (x1 := x2) (x2 := x1.fOuts) (x3 := x3) (x4 := false) (HM.own_rd 0 rfl) (HM.rd hp1_1) h26)) ?_))))))
   rintro _ w27 ⟨u28, rfl, hn⟩
   replace HM := HM.callN hn rfl
   refine oy rfl (ex_extract rfl rfl rfl) (oy rfl (ex_extract rfl rfl rfl) (oM rfl (oM rfl (ops_nil (at_then (run_ret ?_))))))
   replace HM := ((HM.frd 1 rfl).frd 1 rfl).frd 1 rfl
   cases H
   exact at_ret2 rfl rfl rfl ⟨_, rfl, _, rfl, HM⟩

def impl_SpendTx.f (k : Nat) (x0 : List Coin) (x1 : Tx) (x2 : Int) (x3 : Int) : Option CoinsResult := ((impl_CoinsFault.f k x0).bind fun t10 => (bif (t10 != 0) then some (⟨t10, ([] : List Coin)⟩ : CoinsResult) else ((impl_TxFault.f k x1).bind fun t11 => (bif (t11 != 0) then some (⟨t11, ([] : List Coin)⟩ : CoinsResult) else ((impl_spendTx.f k x0 x1 x2 x3).bind fun t12 => some (⟨t12.2, t12.1⟩ : CoinsResult))))))
theorem impl_SpendTx.calls {k : Nat} {x0 : List Coin} {x1 : Tx} {x2 : Int} {x3 : Int} {p0 : Value} {p1_0 : Value} {p1_1 : Value} {w : World} (hp0 : RdS kCoin w p0 x0) (hp1_0 : RdS kRef w p1_0 x1.fIns) (hp1_1 : RdS kOut w p1_1 x1.fOuts) {r : CoinsResult} (H : impl_SpendTx.f k x0 x1 x2 x3 = some r) :
  Calls Tryz.prog 6 ([p0, .agg #[(nI x1.fKind), (nI x1.fMember), p1_0, p1_1], nI x2, nI x3] : List Value).toArray w (fun e w_ => ∃ v, e = .returned v ∧ ∃ u0 : Value, v = (.agg #[nI r.fCode, u0]) ∧ Mem w [] w_ [own kCoin 70 u0 r.fCoins]) := by
 have HM := Mem.start w
 refine calls_run (N := 36) Tryz.func6 rfl rfl rfl rfl ?_
 unfold impl_SpendTx.f at H
 refine run_seq (run_region rfl (oz rfl (does_box (cs := [nI x1.fKind, nI x1.fMember, p1_0, p1_1]) rfl rfl rfl HM) ?_))
 rintro _ w13 ⟨b14, rfl, HM⟩
 refine oz rfl (does_alloc (cs := [nI 0, .slice none 0 0]) rfl tz32 rfl HM) ?_
 rintro _ w15 ⟨b16, rfl, HM⟩
 refine ops_nil (at_then (run_seq (run_seq ?_)))
 obtain ⟨t10, h17, H⟩ := bind_some H
 refine run_region rfl (oM rfl (oz rfl (does_callk rfl callok12 rfl (impl_CoinsFault.calls (x0 := x0) (HM.rd hp0) h17)) ?_))
 rintro _ w18 ⟨rfl, hn⟩
 replace HM := HM.callN hn rfl
 refine oM rfl (ops_nil (at_then (run_seq (run_region rfl (oM rfl (oy rfl (ex_neq rfl rfl rfl) (ops_nil (at_then (run_cond (b := (t10 != 0)) rfl (fun hb19 => ?_) (fun hb19 => ?_))))))))))
 ·replace H := cond_t hb19 H
  refine run_seq (run_region rfl (oM rfl (oy rfl (ex_build (cells := #[(nI t10), (.slice none 0 0)]) rfl rfl (by kernel_rfl)) ?_)))
  refine odS rfl rfl rfl (does_store (vs := [nI t10, .slice none 0 0]) (cs' := [nI t10, .slice none 0 0]) rfl rfl rfl rfl tsz32 (Ones.int (Ones.sl Ones.nil)) rfl rfl HM) ?_
  rintro w20 HM
  refine ops_nil (at_then (run_ret (at_then_ret ?_)))
  replace HM := ((HM.empty kCoin 70 none).frd 2 rfl).fr1 1 rfl
  have hcb0 := HM.box_at 0 rfl
  replace HM := HM.frd 0 rfl
  cases H
  exact at_retN rfl rfl U32 rfl tsz32 rfl hcb0 ⟨_, rfl, _, rfl, HM⟩
 ·replace H := cond_f hb19 H
  refine run_skip (at_then (run_seq (run_seq ?_)))
  obtain ⟨t11, h21, H⟩ := bind_some H
  refine run_region rfl (oy rfl (ldN rfl rfl U28 rfl tsz28 ((HM.box_at 1 rfl).subL 0 4 rfl) rfl) (oz rfl (does_callk rfl callok17 rfl (impl_TxFault.calls (x0 := x1) (HM.rd hp1_0) (HM.rd hp1_1) h21)) ?_))
  rintro _ w22 ⟨rfl, hn⟩
  replace HM := HM.callN hn rfl
  refine oM rfl (ops_nil (at_then (run_seq (run_region rfl (oM rfl (oy rfl (ex_neq rfl rfl rfl) (ops_nil (at_then (run_cond (b := (t11 != 0)) rfl (fun hb23 => ?_) (fun hb23 => ?_))))))))))
  ·replace H := cond_t hb23 H
   refine run_seq (run_region rfl (oM rfl (oy rfl (ex_build (cells := #[(nI t11), (.slice none 0 0)]) rfl rfl (by kernel_rfl)) ?_)))
   refine odS rfl rfl rfl (does_store (vs := [nI t11, .slice none 0 0]) (cs' := [nI t11, .slice none 0 0]) rfl rfl rfl rfl tsz32 (Ones.int (Ones.sl Ones.nil)) rfl rfl HM) ?_
   rintro w24 HM
   refine ops_nil (at_then (run_ret (at_then_ret ?_)))
   replace HM := ((HM.empty kCoin 70 none).frd 2 rfl).fr1 1 rfl
   have hcb0 := HM.box_at 0 rfl
   replace HM := HM.frd 0 rfl
   cases H
   exact at_retN rfl rfl U32 rfl tsz32 rfl hcb0 ⟨_, rfl, _, rfl, HM⟩
  ·replace H := cond_f hb23 H
   refine run_skip (at_then (run_seq ?_))
   obtain ⟨t12, h25, H⟩ := bind_some H
   refine run_region rfl (oM rfl (oy rfl (ldN rfl rfl U28 rfl tsz28 ((HM.box_at 1 rfl).subL 0 4 rfl) rfl) (oM rfl (oM rfl (oz rfl (does_callk rfl callok18 rfl (impl_spendTx.calls (x0 := x0) (x1 := x1) (x2 := x2) (x3 := x3) (HM.rd hp0) (HM.rd hp1_0) (HM.rd hp1_1) h25)) ?_)))))
   rintro _ w26 ⟨u27, rfl, hn⟩
   replace HM := HM.callN hn rfl
   refine oM rfl (oy rfl (ex_extract rfl rfl rfl) (oy rfl (ex_extract rfl rfl rfl) (oM rfl (oM rfl (ops_nil (at_then (run_seq (run_region rfl (oM rfl (oM rfl (oy rfl (ex_build1 (fun u27 => [(0, nI t12.2), (1, u27)]) (fun u27 => #[nI t12.2, u27]) rfl rfl (fun _ _ _ => by kernel_rfl) (HM.own_rd 0 rfl).isSl) ?_)))))))))))
   replace HM := HM.fr1 1 rfl
   refine odS rfl rfl rfl (does_store (vs := [nI t12.2, u27]) (cs' := [nI t12.2, u27]) rfl rfl rfl rfl tsz32 (Ones.int (Ones.rd (HM.own_rd 1 rfl) Ones.nil)) rfl rfl HM) ?_
   rintro w28 HM
   refine ops_nil (at_then (run_ret ?_))
   replace HM := HM.frd 2 rfl
   have hcb0 := HM.box_at 0 rfl
   replace HM := HM.frd 0 rfl
   cases H
   exact at_retN rfl rfl U32 rfl tsz32 rfl hcb0 ⟨_, rfl, _, rfl, HM⟩

def spec_l5Spent.l0 (x0 : List Coin) (x1 : Tx) : Nat → (List Coin) → Int → Option ((List Coin))
 | 0, _, _ => none
 | k + 1, a10, a11 => (bif (decide (a11 < (x0.length : Int))) then (chk (idxOk a11 x0.length) ((spec_l3Among.f k x1.fIns ((gt x0 a11).fRef)).bind fun t12 => (bif t12 then (chk (idxOk a11 x0.length) (chk (leB ((a10.length + ([(gt x0 a11)] : List Coin).length) * 80) 140737488355328) (spec_l5Spent.l0 x0 x1 k (a10 ++ ([(gt x0 a11)] : List Coin)) (wrap64 (a11 + 1))))) else spec_l5Spent.l0 x0 x1 k a10 (wrap64 (a11 + 1))))) else some a10)
def spec_l5Spent.f (k : Nat) (x0 : List Coin) (x1 : Tx) : Option ((List Coin) × Bool) := ((spec_l5Spent.l0 x0 x1 k ([] : List Coin) 0).bind (fun a13 => ((spec_l4Copy.f k a13).bind fun t14 => some (t14, ((a13.length : Int) == (x1.fIns.length : Int))))))
theorem spec_l5Spent.calls {k : Nat} {x0 : List Coin} {x1 : Tx} {p0 : Value} {b1 f1 : Nat} {p1_0 : Value} {p1_1 : Value} {w : World} (hp0 : RdS kCoin w p0 x0) (hc1 : CellsAt w b1 f1 [nI x1.fKind, nI x1.fMember, p1_0, p1_1]) (hp1_0 : RdS kRef w p1_0 x1.fIns) (hp1_1 : RdS kOut w p1_1 x1.fOuts) {r : (List Coin) × Bool} (H : spec_l5Spent.f k x0 x1 = some r) :
  Calls Tryz.prog 47 ([p0, pA b1 f1] : List Value).toArray w (fun e w_ => ∃ v, e = .returned v ∧ ∃ u0 : Value, v = (.tuple #[u0, .bool r.2]) ∧ Mem w [] w_ [own kCoin 70 u0 r.1]) := by
 have HM := Mem.start w
 refine calls_run (N := 42) Tryz.func47 rfl rfl rfl rfl ?_
 unfold spec_l5Spent.f at H
 refine run_seq (run_region rfl (oM rfl (oM rfl (ops_nil (at_then (run_seq (run_region rfl (oz rfl (does_lit (e := 70) (cs := []) (xs := ([] : List Coin)) kCoin rfl rfl (fun _ => by kernel_rfl) rfl rfl (fun _ _ h => by have h' : _ = [] := h; subst h'; exact .nil) HM.emp) ?_))))))))
 rintro v15 w16 HM
 refine oM rfl (ops_nil (at_then ?_))
 obtain ⟨o17, ho18, H⟩ := bind_some H
 refine run_mid (fun ρ_ w_ => ∃ v19 : Value, ∃ a13 : List Coin, a13 = o17 ∧ ρ_ = [(1, pA b1 f1), (6, v19)] ∧ Mem w [] w_ [own (Kd.lent w kCoin with1_one) 70 v19 a13]) ?_ ?_
 ·clear H
  refine run_seq (run_region rfl (oM rfl (ops_nil (at_then (run_block ?_)))))
  replace HM := Mem.relent (d := kCoin) (d' := (Kd.lent w kCoin with1_one)) rfl HM
  refine run_loop (fun k_ ρ_ w_ => ∃ v20 : Value, ∃ a10 : List Coin, ∃ a11 : Int, spec_l5Spent.l0 x0 x1 k_ a10 a11 = some o17 ∧ ρ_ = [(0, p0), (1, pA b1 f1), (6, v20), (7, nI a11)] ∧ Mem w [] w_ [own (Kd.lent w kCoin with1_one) 70 v20 a10]) k ⟨_, _, _, ho18, rfl, HM⟩ (Sub.of rfl) ?_
  clear HM ho18
  rintro k21 _ w22 ⟨v20, a10, a11, ho18, rfl, HM⟩
  obtain _ | k21 := k21
  ·exact nomatch ((spec_l5Spent.l0.eq_1 x0 x1 a10 a11).symm.trans ho18)
  replace ho18 := (spec_l5Spent.l0.eq_2 ..).symm.trans ho18
  refine run_seq (run_seq (run_region rfl (oM rfl (oM rfl (oy rfl (ex_len (d := kCoin) (xs := x0) rfl rfl U24 hp0) (oy rfl (ex_lss rfl rfl rfl) (ops_nil (at_then (run_cond (b := (decide (a11 < (x0.length : Int)))) rfl (fun hb23 => ?_) (fun hb23 => ?_))))))))))
  ·replace ho18 := cond_t hb23 ho18
   refine run_skip (at_then (run_seq (run_block (run_seq ?_))))
   obtain ⟨e24, ho18⟩ := chk_some ho18
   obtain ⟨t12, h25, ho18⟩ := bind_some ho18
   refine run_drawf (fun w_ => Mem w [] w_ [own (Kd.lent w kCoin with1_one) 70 v20 a10]) [(0, true), (1, true), (2, true), (3, true), (4, true), (5, true), (6, true), (7, true), (8, true), (9, false)] mixed rfl rfl (by kernel_rfl) ?_
   replace HM := HM.grow (fr_drew _)
   have hS := HM.sufN 0 rfl
   refine dp rfl rfl rfl rfl (ex_move rfl rfl) hS (dp rfl rfl rfl rfl (ex_nilCheck rfl rfl) hS (dp rfl rfl rfl rfl (ex_fieldAddr (off' := f1 + 2) rfl rfl U28 rfl tsz25 rfl) hS (drwp_take rfl (guard_none rfl) rfl rfl (fun w_ hS_ => (ex_load1 rfl rfl U25 rfl ((hS_.at_ hc1) 2 _ rfl))) hS (dp rfl rfl rfl rfl (ex_move rfl rfl) hS (dp rfl rfl rfl rfl (ex_move rfl rfl) hS ?_)))))
   obtain ⟨kv26, hc27, hk28⟩ := rd_with1 hp0 e24
   refine dp rfl rfl rfl rfl (ex_indexAddr (d := kCoin) rfl rfl rfl U24 tsz70 hp0 (idx_lo e24) (idx_hi e24)) hS (dp rfl rfl rfl rfl (ex_fieldAddr (off' := so p0 + (a11).toNat * 8) rfl rfl U70 rfl tsz38 rfl) hS (drwp_take rfl (guard_none rfl) rfl rfl (fun w_ hS_ => (ldN rfl rfl U38 rfl tsz38 ((hS_.at_ hc27).subL 0 2 rfl) rfl)) hS (drwp_one rfl (guard_none rfl) rfl rfl (does_callk rfl callok87 rfl (spec_l3Among.calls (x0 := x1.fIns) (x1 := (gt x0 a11).fRef) (HM.rd hp1_0) h25)) ?_)))
   rintro _ w29 ⟨rfl, hn⟩
   replace HM := HM.callN hn rfl
   have hS := HM.sufN 0 rfl
   refine ⟨hS, (drwp_done (at_then (run_cond (b := t12) rfl (fun hb30 => ?_) (fun hb30 => ?_))))⟩
   ·replace ho18 := cond_t hb30 ho18
    obtain ⟨e31, ho18⟩ := chk_some ho18
    obtain ⟨e32, ho18⟩ := chk_some ho18
    refine run_region rfl (oM rfl (oM rfl (oM rfl ?_)))
    obtain ⟨kv33, hc34, hk35⟩ := rd_with1 hp0 e31
    refine oy rfl (ex_indexAddr (d := kCoin) rfl rfl rfl U24 tsz70 hp0 (idx_lo e31) (idx_hi e31)) (oy rfl (ldN rfl rfl U70 rfl tsz70 ((HM.at_ hc34).subL 0 8 rfl) rfl) (oz rfl (does_lit (e := 70) (cs := [nI ((gt x0 a11).fRef.fTx), nI ((gt x0 a11).fRef.fAt), nI ((gt x0 a11).fOut.fValue), kv33, nI ((gt x0 a11).fOut.fRule.fNeed), nI ((gt x0 a11).fOut.fRule.fAfter), nI ((gt x0 a11).fHeight), .bool ((gt x0 a11).fMined)]) (xs := ([(gt x0 a11)] : List Coin)) (Kd.lent w kCoin with1_one) rfl rfl (fun _ => by kernel_rfl) rfl rfl (fun _ _ h => by have h' : _ = [] := h; subst h'; exact (Elems.cons (d := (Kd.lent w kCoin with1_one)) (f := []) ⟨⟨_, rfl, hk35⟩, rfl⟩ .nil)) HM.emp) ?_))
    rintro v36 w37 HM
    replace HM := HM.fr1 1 rfl
    refine oz rfl (does_append (Kd.lent w kCoin with1_one) rfl rfl rfl U24 tsz70 rfl tby70 tz70 rfl rfl (leB_le e32) HM) ?_
    rintro v38 w39 HM
    exact oM rfl (ops_nil (at_block (at_then (run_region rfl (oM rfl (oy rfl (ex_add rfl rfl rfl) (oM rfl (ops_nil (at_again k21 (Nat.lt_succ_self _) ⟨_, _, _, ho18, rfl, HM⟩ (Sub.of rfl))))))))))
   ·replace ho18 := cond_f hb30 ho18
    exact run_skip (at_block (at_then (run_region rfl (oM rfl (oy rfl (ex_add rfl rfl rfl) (oM rfl (ops_nil (at_again k21 (Nat.lt_succ_self _) ⟨_, _, _, ho18, rfl, HM⟩ (Sub.of rfl)))))))))
  ·replace ho18 := cond_f hb23 ho18
   exact run_exit (at_then_exit (at_then_exit (at_block_exit (at_mid ⟨_, _, (sj ho18), rfl, HM⟩ (Sub.of rfl)))))
 ·rintro _ w40 ⟨v19, a13, rfl, rfl, HM⟩
  refine run_seq ?_
  obtain ⟨t14, h41, H⟩ := bind_some H
  refine run_drawf (fun w_ => Mem w [] w_ [own (Kd.lent w kCoin with1_one) 70 v19 a13]) [(0, true), (2, true), (3, true), (4, true), (5, true), (6, true), (7, true), (8, true), (9, true), (1, false), (10, true), (11, true)] mixed rfl rfl (by kernel_rfl) ?_
  replace HM := HM.grow (fr_drew _)
  have hS := HM.sufN 0 rfl
  refine dp rfl rfl rfl rfl (ex_move rfl rfl) hS (dp rfl rfl rfl rfl (ex_move rfl rfl) hS (drwp_take rfl (guard_none rfl) rfl rfl (fun w_ hS_ => (ex_len (d := kCoin) (xs := a13) rfl rfl U24 ((hS_.own_rd 0 rfl).unlent (hS_.old)))) hS (dp rfl rfl rfl rfl (ex_move rfl rfl) hS (dp rfl rfl rfl rfl (ex_nilCheck rfl rfl) hS (dp rfl rfl rfl rfl (ex_fieldAddr (off' := f1 + 2) rfl rfl U28 rfl tsz25 rfl) hS (drwp_take rfl (guard_none rfl) rfl rfl (fun w_ hS_ => (ex_load1 rfl rfl U25 rfl ((hS_.at_ hc1) 2 _ rfl))) hS (dp rfl rfl rfl rfl (ex_len (d := kRef) (xs := x1.fIns) rfl rfl U25 hp1_0) hS (dp rfl rfl rfl rfl (ex_eql rfl rfl rfl) hS (drwp_one rfl (guard_none rfl) rfl rfl (does_callk rfl callok48 rfl (spec_l4Copy.calls (x0 := a13) ((HM.own_rd 0 rfl).unlent (HM.old)) h41)) ?_)))))))))
  rintro u42 w43 ⟨_, rfl, hn⟩
  replace HM := HM.callN hn rfl
  have hS := HM.sufN 1 rfl
  refine ⟨hS, (dp rfl rfl rfl rfl (ex_assign rfl rfl) hS (dp rfl rfl rfl rfl (ex_assign rfl rfl) hS (drwp_done (at_then (run_ret ?_)))))⟩
  replace HM := HM.frd 1 rfl
  cases H
  exact at_ret2 rfl rfl rfl ⟨_, rfl, _, rfl, HM⟩
end Go.Proofs.YtecgbhfgkkpmhacGreat.Zk
