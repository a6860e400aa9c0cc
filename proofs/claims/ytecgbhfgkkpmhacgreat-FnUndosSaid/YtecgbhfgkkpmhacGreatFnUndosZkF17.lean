/- What functions of the program compute, each as a plain function, and that they do. Conditions: as each theorem states them. -/
import Derived.Test.YtecgbhfgkkpmhacGreatFnUndosZkF16
namespace Go.Proofs.YtecgbhfgkkpmhacGreat.Zk
open Go Go.RowKit Go.IntWalk Go.Proofs
set_option linter.unusedVariables false
set_option linter.unusedSimpArgs false
set_option maxRecDepth 100000
set_option maxHeartbeats 4000000
def impl_undoTx_1.f (k : Nat) (x0 : Ref) (x1 : List Coin) : Option Bool := ((impl_findCoin.f k x1 x0).bind fun t10 => some t10.2)
theorem impl_undoTx_1.calls {k : Nat} {x0 : Ref} {x1 : List Coin} {b1 f1 : Nat} {p1_0 : Value} {w : World} (hc1 : CellsAt w b1 f1 [p1_0]) (hp1_0 : RdS kCoin w p1_0 x1) {r : Bool} (H : impl_undoTx_1.f k x0 x1 = some r) :
  Calls Tryz.prog 58 ([.agg #[(nI x0.fTx), (nI x0.fAt)], pA b1 f1] : List Value).toArray w (fun e w_ => ∃ v, e = .returned v ∧ v = (.bool r) ∧ Mem w [] w_ []) := by
 have HM := Mem.start w
 refine calls_run (N := 13) Tryz.func58 rfl rfl rfl rfl ?_
 unfold impl_undoTx_1.f at H
 refine run_seq (run_region rfl (oz rfl (does_box (cs := [nI x0.fTx, nI x0.fAt]) rfl rfl rfl HM) ?_))
 rintro _ w11 ⟨b12, rfl, HM⟩
 refine oM rfl (ops_nil (at_then (run_seq ?_)))
 obtain ⟨t10, h13, H⟩ := bind_some H
 refine run_region rfl (oy rfl (ex_load1 rfl rfl U24 rfl ((HM.at_ hc1) 0 _ rfl)) (oy rfl (ldN rfl rfl U38 rfl tsz38 ((HM.box_at 0 rfl).subL 0 2 rfl) rfl) (oz rfl (does_callk rfl callok25 rfl (impl_findCoin.calls (x0 := x1) (x1 := x0) (HM.rd hp1_0) h13)) ?_)))
 rintro _ w14 ⟨rfl, hn⟩
 replace HM := HM.callN hn rfl
 refine oM rfl (oy rfl (ex_extract rfl rfl rfl) (oy rfl (ex_extract rfl rfl rfl) (oM rfl (oM rfl (ops_nil (at_then (run_seq (run_region rfl (oM rfl (oM rfl (ops_nil (at_then ?_))))))))))))
 refine run_ret ?_
 replace HM := HM.frd 0 rfl
 cases H
 exact at_ret1 rfl rfl ⟨_, rfl, rfl, HM⟩

def slices_IndexFunc_impl_Ref.l0 (x0 : List Ref) (x1_0 : List Coin) : Nat → Int → Option (Int ⊕ Unit)
 | 0, _ => none
 | k + 1, a10 => (bif (decide (a10 < (x0.length : Int))) then (chk (idxOk a10 x0.length) ((impl_undoTx_1.f k (gt x0 a10) x1_0).bind fun t11 => (bif t11 then some (.inl a10) else slices_IndexFunc_impl_Ref.l0 x0 x1_0 k (wrap64 (a10 + 1))))) else some (.inr ()))
def slices_IndexFunc_impl_Ref.f (k : Nat) (x0 : List Ref) (x1_0 : List Coin) : Option Int := ((slices_IndexFunc_impl_Ref.l0 x0 x1_0 k 0).bind fun o12 => thn o12 (fun r => some r) (fun _ => some (-1)))
theorem slices_IndexFunc_impl_Ref.calls {k : Nat} {x0 : List Ref} {x1_0 : List Coin} {p0 : Value} {b1_0 f1_0 : Nat} {p1_0_0 : Value} {w : World} (hp0 : RdS kRef w p0 x0) (hc1_0 : CellsAt w b1_0 f1_0 [p1_0_0]) (hp1_0_0 : RdS kCoin w p1_0_0 x1_0) {r : Int} (H : slices_IndexFunc_impl_Ref.f k x0 x1_0 = some r) :
  Calls Tryz.prog 95 ([p0, .func (.func 58) #[] #[(pA b1_0 f1_0)]] : List Value).toArray w (fun e w_ => ∃ v, e = .returned v ∧ v = (nI r) ∧ Mem w [] w_ []) := by
 have HM := Mem.start w
 refine calls_run (N := 19) Tryz.func95 rfl rfl rfl rfl ?_
 unfold slices_IndexFunc_impl_Ref.f at H
 refine run_seq (run_region rfl (oM rfl (ops_nil (at_then ?_))))
 obtain ⟨o12, ho13, H⟩ := bind_some H
 refine run_mid (fun ρ_ w_ => Sum.inr () = o12 ∧ ρ_ = [] ∧ Mem w [] w_ []) ?_ ?_
 ·refine run_seq (run_region rfl (oM rfl (oy rfl (ex_len (d := kRef) (xs := x0) rfl rfl U25 hp0) (oM rfl (ops_nil (at_then (run_block ?_)))))))
  refine run_loop (fun k_ ρ_ w_ => ∃ a10 : Int, slices_IndexFunc_impl_Ref.l0 x0 x1_0 k_ a10 = some o12 ∧ ρ_ = [(0, p0), (1, .func (.func 58) #[] #[(pA b1_0 f1_0)]), (7, nI (x0.length : Int)), (8, nI a10)] ∧ Mem w [] w_ []) k ⟨_, ho13, rfl, HM⟩ (Sub.of rfl) ?_
  clear HM ho13
  rintro k14 _ w15 ⟨a10, ho13, rfl, HM⟩
  obtain _ | k14 := k14
  ·exact nomatch ((slices_IndexFunc_impl_Ref.l0.eq_1 x0 x1_0 a10).symm.trans ho13)
  replace ho13 := (slices_IndexFunc_impl_Ref.l0.eq_2 ..).symm.trans ho13
  refine run_seq (run_region rfl (oy rfl (ex_lss rfl rfl rfl) (ops_nil (at_then (run_seq (run_cond (b := (decide (a10 < (x0.length : Int)))) rfl (fun hb16 => ?_) (fun hb16 => ?_)))))))
  ·replace ho13 := cond_t hb16 ho13
   refine run_skip (at_then (run_seq (run_block (run_seq (run_region rfl (oM rfl (oM rfl (ops_nil (at_then (run_seq ?_))))))))))
   obtain ⟨e17, ho13⟩ := chk_some ho13
   obtain ⟨t11, h18, ho13⟩ := bind_some ho13
   refine run_region rfl (oM rfl (oM rfl (oM rfl ?_)))
   have hc19 : CellsAt _ (sb p0) (so p0 + (a10).toNat * 2) [(nI ((gt x0 a10).fTx)), (nI ((gt x0 a10).fAt))] := rd_plain hp0 e17
   refine oy rfl (ex_indexAddr (d := kRef) rfl rfl rfl U25 tsz38 hp0 (idx_lo e17) (idx_hi e17)) (oy rfl (ldN rfl rfl U38 rfl tsz38 ((HM.at_ hc19).subL 0 2 rfl) rfl) (oz rfl (does_callvk rfl callok58 rfl rfl rfl (impl_undoTx_1.calls (x0 := (gt x0 a10)) (x1 := x1_0) (HM.at_ hc1_0) (HM.rd hp1_0_0) h18)) ?_))
   rintro _ w20 ⟨rfl, hn⟩
   replace HM := HM.callN hn rfl
   refine ops_nil (at_then (run_cond (b := t11) rfl (fun hb21 => ?_) (fun hb21 => ?_)))
   ·replace ho13 := cond_t hb21 ho13
    refine run_seq (run_region rfl (oM rfl (oM rfl (ops_nil (at_then (run_ret (at_block_ret (at_then_ret (at_then_ret (at_block_ret ?_))))))))))
    refine at_then_ret ?_
    cases ho13
    have hT := thn_inl H
    cases hT
    exact at_ret1 rfl rfl ⟨_, rfl, rfl, HM⟩
   ·replace ho13 := cond_f hb21 ho13
    exact run_skip (at_block (at_then (run_region rfl (oy rfl (ex_add rfl rfl rfl) (oM rfl (ops_nil (at_again k14 (Nat.lt_succ_self _) ⟨_, ho13, rfl, HM⟩ (Sub.of rfl))))))))
  ·replace ho13 := cond_f hb16 ho13
   exact run_exit (at_then_exit (at_then_exit (at_block_exit (at_mid ⟨(sj ho13), rfl, HM⟩ Sub.nil))))
 ·rintro _ w22 ⟨rfl, rfl, HM⟩
  replace H := (thn_inr H)
  refine run_seq (run_region rfl (oM rfl (ops_nil (at_then (run_ret ?_)))))
  cases H
  exact at_ret1 rfl rfl ⟨_, rfl, rfl, HM⟩

def slices_ContainsFunc_impl_Ref.f (k : Nat) (x0 : List Ref) (x1_0 : List Coin) : Option Bool := ((slices_IndexFunc_impl_Ref.f k x0 x1_0).bind fun t10 => some (decide (0 ≤ t10)))
theorem slices_ContainsFunc_impl_Ref.calls {k : Nat} {x0 : List Ref} {x1_0 : List Coin} {p0 : Value} {b1_0 f1_0 : Nat} {p1_0_0 : Value} {w : World} (hp0 : RdS kRef w p0 x0) (hc1_0 : CellsAt w b1_0 f1_0 [p1_0_0]) (hp1_0_0 : RdS kCoin w p1_0_0 x1_0) {r : Bool} (H : slices_ContainsFunc_impl_Ref.f k x0 x1_0 = some r) :
  Calls Tryz.prog 57 ([p0, .func (.func 58) #[] #[(pA b1_0 f1_0)]] : List Value).toArray w (fun e w_ => ∃ v, e = .returned v ∧ v = (.bool r) ∧ Mem w [] w_ []) := by
 have HM := Mem.start w
 refine calls_run (N := 9) Tryz.func57 rfl rfl rfl rfl ?_
 unfold slices_ContainsFunc_impl_Ref.f at H
 refine run_seq (run_region rfl (oM rfl (ops_nil (at_then (run_seq ?_)))))
 obtain ⟨t10, h11, H⟩ := bind_some H
 refine run_region rfl (oM rfl (oM rfl (oz rfl (does_callk rfl callok95 rfl (slices_IndexFunc_impl_Ref.calls (x0 := x0) (x1_0 := x1_0) (HM.rd hp0) (HM.at_ hc1_0) (HM.rd hp1_0_0) h11)) ?_)))
 rintro _ w12 ⟨rfl, hn⟩
 replace HM := HM.callN hn rfl
 refine oy rfl (ex_geq rfl rfl rfl) (oM rfl (ops_nil (at_then (run_ret ?_))))
 cases H
 exact at_ret1 rfl rfl ⟨_, rfl, rfl, HM⟩

def impl_undoTx_2_h.f (k : Nat) (x0 : CoinH) (x1 : Int) : Option Bool := some (x0.fRef.fTx == x1)
theorem impl_undoTx_2_h.calls {k : Nat} {x0 : CoinH} {x1 : Int} {b1 f1 : Nat} {w : World} (hc1 : CellsAt w b1 f1 [nI x1]) {r : Bool} (H : impl_undoTx_2_h.f k x0 x1 = some r) :
  Calls Tryz.prog 60 ([.agg #[(nI x0.fRef.fTx), (nI x0.fRef.fAt), (nI x0.fOut.fValue), (.slice x0.fOut.fRule.fKeys.1 x0.fOut.fRule.fKeys.2.1 x0.fOut.fRule.fKeys.2.2), (nI x0.fOut.fRule.fNeed), (nI x0.fOut.fRule.fAfter), (nI x0.fHeight), (.bool x0.fMined)], pA b1 f1] : List Value).toArray w (fun e w_ => ∃ v, e = .returned v ∧ v = (.bool r) ∧ Mem w [] w_ []) := by
 have HM := Mem.start w
 refine calls_run (N := 9) Tryz.func60 rfl rfl rfl rfl ?_
 unfold impl_undoTx_2_h.f at H
 refine run_seq (run_region rfl (oz rfl (does_box (cs := [nI x0.fRef.fTx, nI x0.fRef.fAt, nI x0.fOut.fValue, .slice x0.fOut.fRule.fKeys.1 x0.fOut.fRule.fKeys.2.1 x0.fOut.fRule.fKeys.2.2, nI x0.fOut.fRule.fNeed, nI x0.fOut.fRule.fAfter, nI x0.fHeight, .bool x0.fMined]) rfl rfl rfl HM) ?_))
 rintro _ w10 ⟨b11, rfl, HM⟩
 refine oM rfl (ops_nil (at_then (run_seq (run_region rfl (oy rfl (ex_fieldAddr (off' := 0) rfl rfl U70 rfl tsz38 rfl) (oy rfl (ex_fieldAddr (off' := 0) rfl rfl U38 rfl tsz2 rfl) (oy rfl (ex_load1 rfl rfl U2 rfl ((HM.box_at 0 rfl) 0 _ rfl)) (oy rfl (ex_load1 rfl rfl U2 rfl ((HM.at_ hc1) 0 _ rfl)) (oy rfl (ex_eql rfl rfl rfl) (oM rfl (ops_nil (at_then ?_))))))))))))
 refine run_ret ?_
 replace HM := HM.frd 0 rfl
 cases H
 exact at_ret1 rfl rfl ⟨_, rfl, rfl, HM⟩

def slices_IndexFunc_impl_Coin_h_v2.l0 (x0 : List CoinH) (x1_0 : Int) : Nat → Int → Option (Int ⊕ Unit)
 | 0, _ => none
 | k + 1, a10 => (bif (decide (a10 < (x0.length : Int))) then (chk (idxOk a10 x0.length) ((impl_undoTx_2_h.f k (gt x0 a10) x1_0).bind fun t11 => (bif t11 then some (.inl a10) else slices_IndexFunc_impl_Coin_h_v2.l0 x0 x1_0 k (wrap64 (a10 + 1))))) else some (.inr ()))
def slices_IndexFunc_impl_Coin_h_v2.f (k : Nat) (x0 : List CoinH) (x1_0 : Int) : Option Int := ((slices_IndexFunc_impl_Coin_h_v2.l0 x0 x1_0 k 0).bind fun o12 => thn o12 (fun r => some r) (fun _ => some (-1)))
theorem slices_IndexFunc_impl_Coin_h_v2.calls {k : Nat} {x0 : List CoinH} {x1_0 : Int} {p0 : Value} {b1_0 f1_0 : Nat} {w : World} (hp0 : RdS kCoinH w p0 x0) (hc1_0 : CellsAt w b1_0 f1_0 [nI x1_0]) {r : Int} (H : slices_IndexFunc_impl_Coin_h_v2.f k x0 x1_0 = some r) :
  Calls Tryz.prog 96 ([p0, .func (.func 60) #[] #[(pA b1_0 f1_0)]] : List Value).toArray w (fun e w_ => ∃ v, e = .returned v ∧ v = (nI r) ∧ Mem w [] w_ []) := by
 have HM := Mem.start w
 refine calls_run (N := 19) Tryz.func96 rfl rfl rfl rfl ?_
 unfold slices_IndexFunc_impl_Coin_h_v2.f at H
 refine run_seq (run_region rfl (oM rfl (ops_nil (at_then ?_))))
 obtain ⟨o12, ho13, H⟩ := bind_some H
 refine run_mid (fun ρ_ w_ => Sum.inr () = o12 ∧ ρ_ = [] ∧ Mem w [] w_ []) ?_ ?_
 ·refine run_seq (run_region rfl (oM rfl (oy rfl (ex_len (d := kCoinH) (xs := x0) rfl rfl U24 hp0) (oM rfl (ops_nil (at_then (run_block ?_)))))))
  refine run_loop (fun k_ ρ_ w_ => ∃ a10 : Int, slices_IndexFunc_impl_Coin_h_v2.l0 x0 x1_0 k_ a10 = some o12 ∧ ρ_ = [(0, p0), (1, .func (.func 60) #[] #[(pA b1_0 f1_0)]), (7, nI (x0.length : Int)), (8, nI a10)] ∧ Mem w [] w_ []) k ⟨_, ho13, rfl, HM⟩ (Sub.of rfl) ?_
  clear HM ho13
  rintro k14 _ w15 ⟨a10, ho13, rfl, HM⟩
  obtain _ | k14 := k14
  ·exact nomatch ((slices_IndexFunc_impl_Coin_h_v2.l0.eq_1 x0 x1_0 a10).symm.trans ho13)
  replace ho13 := (slices_IndexFunc_impl_Coin_h_v2.l0.eq_2 ..).symm.trans ho13
  refine run_seq (run_region rfl (oy rfl (ex_lss rfl rfl rfl) (ops_nil (at_then (run_seq (run_cond (b := (decide (a10 < (x0.length : Int)))) rfl (fun hb16 => ?_) (fun hb16 => ?_)))))))
  ·replace ho13 := cond_t hb16 ho13
   refine run_skip (at_then (run_seq (run_block (run_seq (run_region rfl (oM rfl (oM rfl (ops_nil (at_then (run_seq ?_))))))))))
   obtain ⟨e17, ho13⟩ := chk_some ho13
   obtain ⟨t11, h18, ho13⟩ := bind_some ho13
   refine run_region rfl (oM rfl (oM rfl (oM rfl ?_)))
   have hc19 : CellsAt _ (sb p0) (so p0 + (a10).toNat * 8) [(nI ((gt x0 a10).fRef.fTx)), (nI ((gt x0 a10).fRef.fAt)), (nI ((gt x0 a10).fOut.fValue)), (.slice ((gt x0 a10).fOut.fRule.fKeys).1 ((gt x0 a10).fOut.fRule.fKeys).2.1 ((gt x0 a10).fOut.fRule.fKeys).2.2), (nI ((gt x0 a10).fOut.fRule.fNeed)), (nI ((gt x0 a10).fOut.fRule.fAfter)), (nI ((gt x0 a10).fHeight)), (.bool ((gt x0 a10).fMined))] := rd_plain hp0 e17
   refine oy rfl (ex_indexAddr (d := kCoinH) rfl rfl rfl U24 tsz70 hp0 (idx_lo e17) (idx_hi e17)) (oy rfl (ldN rfl rfl U70 rfl tsz70 ((HM.at_ hc19).subL 0 8 rfl) rfl) (oz rfl (does_callvk rfl callok60 rfl rfl rfl (impl_undoTx_2_h.calls (x0 := (gt x0 a10)) (x1 := x1_0) (HM.at_ hc1_0) h18)) ?_))
   rintro _ w20 ⟨rfl, hn⟩
   replace HM := HM.callN hn rfl
   refine ops_nil (at_then (run_cond (b := t11) rfl (fun hb21 => ?_) (fun hb21 => ?_)))
   ·replace ho13 := cond_t hb21 ho13
    refine run_seq (run_region rfl (oM rfl (oM rfl (ops_nil (at_then (run_ret (at_block_ret (at_then_ret (at_then_ret (at_block_ret ?_))))))))))
    refine at_then_ret ?_
    cases ho13
    have hT := thn_inl H
    cases hT
    exact at_ret1 rfl rfl ⟨_, rfl, rfl, HM⟩
   ·replace ho13 := cond_f hb21 ho13
    exact run_skip (at_block (at_then (run_region rfl (oy rfl (ex_add rfl rfl rfl) (oM rfl (ops_nil (at_again k14 (Nat.lt_succ_self _) ⟨_, ho13, rfl, HM⟩ (Sub.of rfl))))))))
  ·replace ho13 := cond_f hb16 ho13
   exact run_exit (at_then_exit (at_then_exit (at_block_exit (at_mid ⟨(sj ho13), rfl, HM⟩ Sub.nil))))
 ·rintro _ w22 ⟨rfl, rfl, HM⟩
  replace H := (thn_inr H)
  refine run_seq (run_region rfl (oM rfl (ops_nil (at_then (run_ret ?_)))))
  cases H
  exact at_ret1 rfl rfl ⟨_, rfl, rfl, HM⟩

def slices_DeleteFunc_impl_Coin_h_v2.l0 (x1_0 : Int) : Nat → (List CoinH) → Int → Int → Option ((List CoinH) × Int)
 | 0, _, _, _ => none
 | k + 1, a10, a11, a12 => (bif (decide (a12 < (a10.length : Int))) then (chk (idxOk a12 a10.length) ((impl_undoTx_2_h.f k (gt a10 a12) x1_0).bind fun t13 => (bif !t13 then (chk (idxOk a11 a10.length) (slices_DeleteFunc_impl_Coin_h_v2.l0 x1_0 k (a10.set (a11).toNat (gt a10 a12)) (wrap64 (a11 + 1)) (wrap64 (a12 + 1)))) else slices_DeleteFunc_impl_Coin_h_v2.l0 x1_0 k a10 a11 (wrap64 (a12 + 1))))) else some (a10, a11))
def slices_DeleteFunc_impl_Coin_h_v2.f (k : Nat) (x0 : List CoinH) (x1_0 : Int) : Option ((List CoinH)) := ((slices_IndexFunc_impl_Coin_h_v2.f k x0 x1_0).bind fun t14 => (bif (t14 == (-1)) then some x0 else ((slices_DeleteFunc_impl_Coin_h_v2.l0 x1_0 k x0 t14 (wrap64 (t14 + 1))).bind (cur2 (fun a15 a16 => (chk (cutOk a16 a15.length) (some (a15.take (a16).toNat))))))))
theorem slices_DeleteFunc_impl_Coin_h_v2.calls {k : Nat} {x0 : List CoinH} {x1_0 : Int} {p0 : Value} {b1_0 f1_0 : Nat} {w wo : World} {X : List Nat} (hwo : Olds wo w X) (hX : Hold w [own kCoinH 70 p0 x0] X) (hXn : X.Nodup) (hXl : ∀ b ∈ X, b < w.heap.size) (hc1_0 : CellsAt wo b1_0 f1_0 [nI x1_0]) {r : (List CoinH)} (H : slices_DeleteFunc_impl_Coin_h_v2.f k x0 x1_0 = some r) :
  Calls Tryz.prog 59 ([p0, .func (.func 60) #[] #[(pA b1_0 f1_0)]] : List Value).toArray w (fun e w_ => ∃ v, e = .returned v ∧ ∃ u0 : Value, v = u0 ∧ Mem w X w_ [own kCoinH 70 u0 r]) := by
 have HM := Mem.startX hX hXn hXl
 refine calls_run (N := 42) Tryz.func59 rfl rfl rfl rfl ?_
 unfold slices_DeleteFunc_impl_Coin_h_v2.f at H
 refine run_seq (run_region rfl (oM rfl (ops_nil (at_then (run_seq ?_)))))
 obtain ⟨t14, h17, H⟩ := bind_some H
 refine run_region rfl (oM rfl (oM rfl (oz rfl (does_callk rfl callok96 rfl (slices_IndexFunc_impl_Coin_h_v2.calls (x0 := x0) (x1_0 := x1_0) (HM.own_rd 0 rfl) (HM.ato hwo hc1_0) h17)) ?_)))
 rintro _ w18 ⟨rfl, hn⟩
 replace HM := HM.callN hn rfl
 refine oM rfl (ops_nil (at_then (run_seq (run_seq (run_region rfl (oM rfl (oy rfl (ex_eql rfl rfl rfl) (ops_nil (at_then (run_cond (b := (t14 == (-1))) rfl (fun hb19 => ?_) (fun hb19 => ?_)))))))))))
 ·replace H := cond_t hb19 H
  refine run_seq (run_region rfl (oM rfl (oM rfl (ops_nil (at_then (run_ret (at_then_ret ?_)))))))
  cases H
  exact at_ret1 rfl rfl ⟨_, rfl, _, rfl, HM⟩
 ·replace H := cond_f hb19 H
  refine run_skip (at_then ?_)
  obtain ⟨o20, ho21, H⟩ := bind_some H
  refine run_mid (fun ρ_ w_ => ∃ a15 : List CoinH, ∃ a16 : Int, (a15, a16) = o20 ∧ ρ_ = [(0, p0), (5, nI a16)] ∧ Mem w X w_ [own kCoinH 70 p0 a15]) ?_ ?_
  ·clear H
   refine run_seq (run_region rfl (oM rfl (oy rfl (ex_add rfl rfl rfl) (oM rfl (ops_nil (at_then (run_block ?_)))))))
   refine run_loop (fun k_ ρ_ w_ => ∃ a10 : List CoinH, ∃ a11 : Int, ∃ a12 : Int, slices_DeleteFunc_impl_Coin_h_v2.l0 x1_0 k_ a10 a11 a12 = some o20 ∧ ρ_ = [(0, p0), (1, .func (.func 60) #[] #[(pA b1_0 f1_0)]), (5, nI a11), (6, nI a12)] ∧ Mem w X w_ [own kCoinH 70 p0 a10]) k ⟨_, _, _, ho21, rfl, HM⟩ (Sub.of rfl) ?_
   clear HM ho21
   rintro k22 _ w23 ⟨a10, a11, a12, ho21, rfl, HM⟩
   obtain _ | k22 := k22
   ·exact nomatch ((slices_DeleteFunc_impl_Coin_h_v2.l0.eq_1 x1_0 a10 a11 a12).symm.trans ho21)
   replace ho21 := (slices_DeleteFunc_impl_Coin_h_v2.l0.eq_2 ..).symm.trans ho21
   refine run_seq (run_seq (run_region rfl (oM rfl (oM rfl (oy rfl (ex_len (d := kCoinH) (xs := a10) rfl rfl U24 (HM.own_rd 0 rfl)) (oy rfl (ex_lss rfl rfl rfl) (ops_nil (at_then (run_cond (b := (decide (a12 < (a10.length : Int)))) rfl (fun hb24 => ?_) (fun hb24 => ?_))))))))))
   ·replace ho21 := cond_t hb24 ho21
    refine run_skip (at_then (run_seq (run_block (run_seq ?_))))
    obtain ⟨e25, ho21⟩ := chk_some ho21
    refine run_region rfl (oM rfl (oM rfl (oy rfl (ex_indexAddr (d := kCoinH) rfl rfl rfl U24 tsz70 (HM.own_rd 0 rfl) (idx_lo e25) (idx_hi e25)) (oy rfl (ldN rfl rfl U70 rfl tsz70 ((rd_plain (HM.own_rd 0 rfl) e25).subL 0 8 rfl) rfl) (oz rfl (does_alloc (cs := [nI 0, nI 0, nI 0, .slice ((none, 0, 0) : Hdr).1 ((none, 0, 0) : Hdr).2.1 ((none, 0, 0) : Hdr).2.2, nI 0, nI 0, nI 0, .bool false]) rfl tz70 rfl HM) ?_)))))
    rintro _ w26 ⟨b27, rfl, HM⟩
    refine odS rfl rfl rfl (does_store (vs := [nI ((gt a10 a12).fRef.fTx), nI ((gt a10 a12).fRef.fAt), nI ((gt a10 a12).fOut.fValue), .slice ((gt a10 a12).fOut.fRule.fKeys).1 ((gt a10 a12).fOut.fRule.fKeys).2.1 ((gt a10 a12).fOut.fRule.fKeys).2.2, nI ((gt a10 a12).fOut.fRule.fNeed), nI ((gt a10 a12).fOut.fRule.fAfter), nI ((gt a10 a12).fHeight), .bool ((gt a10 a12).fMined)]) (cs' := [nI ((gt a10 a12).fRef.fTx), nI ((gt a10 a12).fRef.fAt), nI ((gt a10 a12).fOut.fValue), .slice ((gt a10 a12).fOut.fRule.fKeys).1 ((gt a10 a12).fOut.fRule.fKeys).2.1 ((gt a10 a12).fOut.fRule.fKeys).2.2, nI ((gt a10 a12).fOut.fRule.fNeed), nI ((gt a10 a12).fOut.fRule.fAfter), nI ((gt a10 a12).fHeight), .bool ((gt a10 a12).fMined)]) rfl rfl rfl rfl tsz70 (Ones.int (Ones.int (Ones.int (Ones.sl (Ones.int (Ones.int (Ones.int (Ones.bool Ones.nil)))))))) rfl rfl HM) ?_
    rintro w28 HM
    refine ops_nil (at_then (run_seq ?_))
    obtain ⟨t13, h29, ho21⟩ := bind_some ho21
    refine run_region rfl (oM rfl (oy rfl (ldN rfl rfl U70 rfl tsz70 ((HM.box_at 0 rfl).subL 0 8 rfl) rfl) (oz rfl (does_callvk rfl callok60 rfl rfl rfl (impl_undoTx_2_h.calls (x0 := (gt a10 a12)) (x1 := x1_0) (HM.ato hwo hc1_0) h29)) ?_)))
    rintro _ w30 ⟨rfl, hn⟩
    replace HM := HM.callN hn rfl
    refine oy rfl (ex_not rfl rfl) (ops_nil (at_then (run_cond (b := !t13) rfl (fun hb31 => ?_) (fun hb31 => ?_))))
    ·replace ho21 := cond_t hb31 ho21
     refine run_seq ?_
     obtain ⟨e32, ho21⟩ := chk_some ho21
     refine run_region rfl (oM rfl (oM rfl (oy rfl (ldN rfl rfl U70 rfl tsz70 ((HM.box_at 0 rfl).subL 0 8 rfl) rfl) (oy rfl (ex_indexAddr (d := kCoinH) rfl rfl rfl U24 tsz70 (HM.own_rd 1 rfl) (idx_lo e32) (idx_hi e32)) ?_))))
     replace HM := HM.fr1 1 rfl
     refine odS rfl rfl rfl (does_setElem (vs := [(nI ((gt a10 a12).fRef.fTx)), (nI ((gt a10 a12).fRef.fAt)), (nI ((gt a10 a12).fOut.fValue)), (.slice ((gt a10 a12).fOut.fRule.fKeys).1 ((gt a10 a12).fOut.fRule.fKeys).2.1 ((gt a10 a12).fOut.fRule.fKeys).2.2), (nI ((gt a10 a12).fOut.fRule.fNeed)), (nI ((gt a10 a12).fOut.fRule.fAfter)), (nI ((gt a10 a12).fHeight)), (.bool ((gt a10 a12).fMined))]) (y := (gt a10 a12)) kCoinH rfl rfl rfl rfl rfl tsz70 rfl rfl (idx_nat e32) (fun _ _ h => ⟨rfl, h⟩) (HM.emp.fr1 1 rfl)) ?_
     rintro w33 HM
     refine ops_nil (at_then (run_region rfl (oM rfl (oy rfl (ex_add rfl rfl rfl) (oM rfl (ops_nil (at_block (at_then (run_region rfl (oM rfl ?_))))))))))
     refine oy rfl (ex_add rfl rfl rfl) (oM rfl (ops_nil ?_))
     replace HM := HM.frd 1 rfl
     exact at_again k22 (Nat.lt_succ_self _) ⟨_, _, _, ho21, rfl, HM⟩ (Sub.of rfl)
    ·replace ho21 := cond_f hb31 ho21
     refine run_skip (at_block (at_then (run_region rfl (oM rfl (oy rfl (ex_add rfl rfl rfl) (oM rfl (ops_nil ?_)))))))
     replace HM := HM.frd 0 rfl
     exact at_again k22 (Nat.lt_succ_self _) ⟨_, _, _, ho21, rfl, HM⟩ (Sub.of rfl)
   ·replace ho21 := cond_f hb24 ho21
    exact run_exit (at_then_exit (at_then_exit (at_block_exit (at_mid ⟨_, _, (sj ho21), rfl, HM⟩ (Sub.of rfl)))))
  ·rintro _ w34 ⟨a15, a16, rfl, rfl, HM⟩
   replace H := cur2_mk H
   refine run_seq ?_
   obtain ⟨e35, H⟩ := chk_some H
   refine run_region rfl (oM rfl (oM rfl (oy rfl (ex_cutvL rfl rfl rfl U24 tsz70 (HM.own_rd 0 rfl) e35) ?_)))
   have hcp36 := HM.capI e35
   refine ops_doesN rfl (guard_none rfl) rfl (does_clearL kCoinH rfl rfl U24 tsz70 tz70 rfl rfl (onesC rfl (onesC rfl (onesC rfl (onesC rfl (onesC rfl (onesC rfl (onesC rfl (onesC rfl onesN)))))))) e35 HM) ?_
   rintro _ w37 HM
   refine ops_nil (at_then (run_seq (run_region rfl (oM rfl (oM rfl (oy rfl (ex_cutvH rfl rfl rfl U24 tsz70 (cut_lo e35) hcp36) (oM rfl (ops_nil (at_then (run_ret ?_))))))))))
   cases H
   exact at_ret1 rfl rfl ⟨_, rfl, _, rfl, HM⟩

def slices_DeleteFunc_Coin_v2_p (x1_0 : Int) (c : CoinH) : Bool := !((impl_undoTx_2_h.f 0 c x1_0).getD false)
theorem slices_DeleteFunc_Coin_v2_loop (xs : List CoinH) (x1_0 : Int) (h0 : xs.length ≤ 1048576) : ∀ (d j i : Nat) (s : List CoinH), j + d = xs.length → i ≤ j → s.length = xs.length → s.drop j = xs.drop j →
  ∃ (s' : List CoinH) (i' : Nat), Evt (fun k => slices_DeleteFunc_impl_Coin_h_v2.l0 x1_0 k s (i : Int) (j : Int)) (s', (i' : Int)) ∧ s'.length = xs.length ∧ i' ≤ xs.length ∧ s'.take i' = s.take i ++ (xs.drop j).filter (slices_DeleteFunc_Coin_v2_p x1_0)
 | 0, j, i, s, hd, hij, hs, hdr => by
  refine ⟨s, i, Evt.s ?_, hs, by omega, ?_⟩
  ·simp only [slices_DeleteFunc_impl_Coin_h_v2.l0.eq_2]
   exact Evt.f (decide_eq_false (by omega)) (Evt.self _)
  ·rw [List.drop_of_length_le (by omega), List.filter_nil, List.append_nil]
 | d + 1, j, i, s, hd, hij, hs, hdr => by
  have hj : j < xs.length := by omega
  have hjs : j < s.length := by omega
  have e0 : xs.drop j = gt s (j : Int) :: xs.drop (j + 1) := by
   rw [← hdr, gt_eq (by simpa using hjs)]
   simp only [Int.toNat_natCast]
   rw [List.drop_eq_getElem_cons hjs]
   congr 1
   have := congrArg (List.drop 1) hdr
   rw [List.drop_drop, List.drop_drop] at this
   exact this
  have hdr1 : s.drop (j + 1) = xs.drop (j + 1) := by
   have := congrArg (List.drop 1) hdr
   rw [List.drop_drop, List.drop_drop] at this
   exact this
  have ew : wrap64 ((j : Int) + 1) = ((j + 1 : Nat) : Int) := by rw [wrap64_in _ (by omega)]; omega
  have ewi : wrap64 ((i : Int) + 1) = ((i + 1 : Nat) : Int) := by rw [wrap64_in _ (by omega)]; omega
  have ea : Evt (fun k => impl_undoTx_2_h.f k (gt s (j : Int)) x1_0) ((impl_undoTx_2_h.f 0 (gt s (j : Int)) x1_0).getD false) := Evt.self _
  cases hm : (impl_undoTx_2_h.f 0 (gt s (j : Int)) x1_0).getD false
  ·have hk : slices_DeleteFunc_Coin_v2_p x1_0 (gt s (j : Int)) = true := by unfold slices_DeleteFunc_Coin_v2_p; rw [hm]; rfl
   obtain ⟨s', i', e, r1, r2, r3⟩ := slices_DeleteFunc_Coin_v2_loop xs x1_0 h0 d (j + 1) (i + 1) (s.set i (gt s (j : Int))) (by omega) (by omega) (by rw [List.length_set]; exact hs) (by rw [List.drop_set_of_lt (by omega)]; exact hdr1)
   refine ⟨s', i', Evt.s ?_, r1, r2, ?_⟩
   ·simp only [slices_DeleteFunc_impl_Coin_h_v2.l0.eq_2, ew, ewi, Int.toNat_natCast]
    rw [hm] at ea
    exact Evt.t (int_lt hjs) (Evt.chk (idx_ok hjs) (Evt.bind ea (Evt.t rfl (Evt.chk (idx_ok (by omega)) e))))
   ·rw [r3, e0, List.filter_cons_of_pos hk, List.take_add_one, List.take_set_of_le (Nat.le_refl _), List.getElem?_set_self (by omega)]
    simp
  ·have hk : ¬ slices_DeleteFunc_Coin_v2_p x1_0 (gt s (j : Int)) = true := by unfold slices_DeleteFunc_Coin_v2_p; rw [hm]; exact Bool.false_ne_true
   obtain ⟨s', i', e, r1, r2, r3⟩ := slices_DeleteFunc_Coin_v2_loop xs x1_0 h0 d (j + 1) i s (by omega) (by omega) hs hdr1
   refine ⟨s', i', Evt.s ?_, r1, r2, ?_⟩
   ·simp only [slices_DeleteFunc_impl_Coin_h_v2.l0.eq_2, ew]
    rw [hm] at ea
    exact Evt.t (int_lt hjs) (Evt.chk (idx_ok hjs) (Evt.bind ea (Evt.f rfl e)))
   ·rw [r3, e0, List.filter_cons_of_neg hk]
theorem slices_DeleteFunc_Coin_v2_idx (xs : List CoinH) (x1_0 : Int) (h0 : xs.length ≤ 1048576) : ∀ (d i : Nat), i + d = xs.length → (∀ j : Nat, j < i → (impl_undoTx_2_h.f 0 (gt xs (j : Int)) x1_0).getD false = false) →
  (Evt (fun k => slices_IndexFunc_impl_Coin_h_v2.l0 xs x1_0 k (i : Int)) (.inr ()) ∧ ∀ j : Nat, j < xs.length → (impl_undoTx_2_h.f 0 (gt xs (j : Int)) x1_0).getD false = false) ∨
  ∃ m : Nat, Evt (fun k => slices_IndexFunc_impl_Coin_h_v2.l0 xs x1_0 k (i : Int)) (.inl (m : Int)) ∧ m < xs.length ∧ (impl_undoTx_2_h.f 0 (gt xs (m : Int)) x1_0).getD false = true ∧ ∀ j : Nat, j < m → (impl_undoTx_2_h.f 0 (gt xs (j : Int)) x1_0).getD false = false
 | 0, i, hd, hb => by
  refine .inl ⟨Evt.s ?_, fun j hj => hb j (by omega)⟩
  simp only [slices_IndexFunc_impl_Coin_h_v2.l0.eq_2]
  exact Evt.f (ge_lt (by omega)) (Evt.self _)
 | d + 1, i, hd, hb => by
  have hi : i < xs.length := by omega
  have ew : wrap64 ((i : Int) + 1) = ((i + 1 : Nat) : Int) := by rw [wrap64_in _ (by omega)]; omega
  have ea : Evt (fun k => impl_undoTx_2_h.f k (gt xs (i : Int)) x1_0) ((impl_undoTx_2_h.f 0 (gt xs (i : Int)) x1_0).getD false) := Evt.self _
  cases hm : (impl_undoTx_2_h.f 0 (gt xs (i : Int)) x1_0).getD false
  ·rw [hm] at ea
   have hb' : ∀ j : Nat, j < i + 1 → (impl_undoTx_2_h.f 0 (gt xs (j : Int)) x1_0).getD false = false := fun j hj => by
    rcases Nat.lt_or_eq_of_le (Nat.le_of_lt_succ hj) with h | rfl
    ·exact hb j h
    ·exact hm
   have st : ∀ o, Evt (fun k => slices_IndexFunc_impl_Coin_h_v2.l0 xs x1_0 k ((i + 1 : Nat) : Int)) o → Evt (fun k => slices_IndexFunc_impl_Coin_h_v2.l0 xs x1_0 k (i : Int)) o := fun o e => by
    refine Evt.s ?_
    simp only [slices_IndexFunc_impl_Coin_h_v2.l0.eq_2, ew]
    exact Evt.t (int_lt hi) (Evt.chk (idx_ok hi) (Evt.bind ea (Evt.f rfl e)))
   rcases slices_DeleteFunc_Coin_v2_idx xs x1_0 h0 d (i + 1) (by omega) hb' with ⟨e, h⟩ | ⟨m, e, h1, h2, h3⟩
   ·exact .inl ⟨st _ e, h⟩
   ·exact .inr ⟨m, st _ e, h1, h2, h3⟩
  ·rw [hm] at ea
   refine .inr ⟨i, Evt.s ?_, hi, hm, hb⟩
   simp only [slices_IndexFunc_impl_Coin_h_v2.l0.eq_2]
   exact Evt.t (int_lt hi) (Evt.chk (idx_ok hi) (Evt.bind ea (Evt.t rfl (Evt.self _))))
theorem slices_DeleteFunc_Coin_v2_run (xs : List CoinH) (x1_0 : Int) (h0 : xs.length ≤ 1048576) : ∃ k, slices_DeleteFunc_impl_Coin_h_v2.f k xs x1_0 = some (xs.filter (slices_DeleteFunc_Coin_v2_p x1_0)) := by
 refine Evt.get ?_
 rcases slices_DeleteFunc_Coin_v2_idx xs x1_0 h0 xs.length 0 (by omega) (fun j hj => by omega) with ⟨e, h⟩ | ⟨i, e, hi, hp, hq⟩
 ·have ef : (xs.filter (slices_DeleteFunc_Coin_v2_p x1_0)) = xs := by
   rw [List.filter_eq_self]
   intro m hm
   obtain ⟨i, hi, rfl⟩ := List.getElem_of_mem hm
   have := h i hi
   rw [gt_eq (by simpa using hi)] at this
   simp only [Int.toNat_natCast] at this
   unfold slices_DeleteFunc_Coin_v2_p
   rw [this]; rfl
  rw [ef]
  exact Evt.bind (Evt.bind e (Evt.self (-1))) (Evt.t rfl (Evt.self _))
 ·have ewi : wrap64 ((i : Int) + 1) = ((i + 1 : Nat) : Int) := by rw [wrap64_in _ (by omega)]; omega
  obtain ⟨s', i', e2, r1, r2, r3⟩ := slices_DeleteFunc_Coin_v2_loop xs x1_0 h0 (xs.length - (i + 1)) (i + 1) i xs (by omega) (by omega) rfl rfl
  have ef : (xs.filter (slices_DeleteFunc_Coin_v2_p x1_0)) = s'.take i' := by
   rw [r3]
   have e1 : xs = xs.take i ++ (gt xs (i : Int) :: xs.drop (i + 1)) := by
    rw [gt_eq (by simpa using hi)]
    simp only [Int.toNat_natCast]
    rw [← List.drop_eq_getElem_cons hi, List.take_append_drop]
   have hk : ¬ slices_DeleteFunc_Coin_v2_p x1_0 (gt xs (i : Int)) = true := by unfold slices_DeleteFunc_Coin_v2_p; rw [hp]; exact Bool.false_ne_true
   have e2 : (xs.take i).filter (slices_DeleteFunc_Coin_v2_p x1_0) = xs.take i := by
    rw [List.filter_eq_self]
    intro m hm
    rw [List.mem_take_iff_getElem] at hm
    obtain ⟨j, hj, rfl⟩ := hm
    have := hq j (by omega)
    rw [gt_eq (by simp; omega)] at this
    simp only [Int.toNat_natCast] at this
    unfold slices_DeleteFunc_Coin_v2_p
    rw [this]; rfl
   conv => lhs; rw [e1, List.filter_append, List.filter_cons_of_neg hk, e2]
  rw [ef]
  have hne : ((i : Int) == -1) = false := beq_false_of_ne (by omega)
  refine Evt.bind (Evt.bind e (Evt.self (i : Int))) (Evt.f hne ?_)
  rw [ewi]
  refine Evt.bind e2 ?_
  show Evt (fun k => chk (cutOk (i' : Int) s'.length) (some (s'.take ((i' : Int)).toNat))) _
  exact Evt.chk (by unfold cutOk; simp; omega) (by simp only [Int.toNat_natCast]; exact Evt.self _)
def slices_DeleteFunc_Coin_v2.f (k : Nat) (x0 : List Coin) (x1_0 : Int) : Option (List Coin) := chk (leB x0.length 1048576) (some (x0.filter fun c => !((impl_undoTx_2_h.f 0 (coinH c (none, 0, 0)) x1_0).getD false)))
theorem slices_DeleteFunc_Coin_v2.calls {k : Nat} {x0 : List Coin} {x1_0 : Int} {p0 : Value} {b1_0 f1_0 : Nat} {w wo : World} {X : List Nat} {d : Kd Coin} (hwo : Olds wo w X) (hX : Hold w [own d 70 p0 x0] X) (hXn : X.Nodup) (hXl : ∀ b ∈ X, b < w.heap.size) (hc1_0 : CellsAt wo b1_0 f1_0 [nI x1_0]) (hd : CoinK d) {r : List Coin} (H : slices_DeleteFunc_Coin_v2.f k x0 x1_0 = some r) :
  Calls Tryz.prog 59 ([p0, .func (.func 60) #[] #[(pA b1_0 f1_0)]] : List Value).toArray w (fun e w_ => ∃ v, e = .returned v ∧ ∃ u0 : Value, v = u0 ∧ Mem w X w_ [own d 70 u0 r]) := by
 obtain ⟨h, H⟩ := chk_some H
 cases H
 obtain ⟨hs, b, hlen, h2, h3, h4, h5, h6⟩ := kept_own (enc := fun (x : CoinH) => ([nI x.fRef.fTx, nI x.fRef.fAt, nI x.fOut.fValue, .slice x.fOut.fRule.fKeys.1 x.fOut.fRule.fKeys.2.1 x.fOut.fRule.fKeys.2.2, nI x.fOut.fRule.fNeed, nI x.fOut.fRule.fAfter, nI x.fHeight, .bool x.fMined] : List Value)) hd.1 (hl := fun _ => rfl) (h1 := kCoinH_one) (R := fun s x => ∃ h, s = coinH x h) (fun w x c f ho => let ⟨h, e⟩ := hd.2 w x c f ho; ⟨coinH x h, e, h, rfl⟩)
  (p := fun c => !((impl_undoTx_2_h.f 0 (coinH c (none, 0, 0)) x1_0).getD false)) (ph := slices_DeleteFunc_Coin_v2_p x1_0) (fun s x ⟨h, e⟩ => by subst e; rfl) hwo hX hXn hXl
 obtain ⟨k', hk⟩ := slices_DeleteFunc_Coin_v2_run hs x1_0 (by rw [hlen]; exact leB_le h)
 exact (slices_DeleteFunc_impl_Coin_h_v2.calls (x1_0 := x1_0) h5 h2 h3 h4 hc1_0 hk).mono fun e w_ ⟨v, he, u0, hv, hm⟩ => ⟨v, he, u0, hv, h6 _ _ hm⟩

def impl_undoTx.f (k : Nat) (x0 : List Coin) (x1 : Tx) (x2 : Int) (x3 : List Coin) : Option ((List Coin) × Int) := ((impl_isId.f k x2).bind fun t10 => (bif !t10 then some (([] : List Coin), 3) else ((impl_areOf.f k x3 x1.fIns).bind fun t11 => (bif !t11 then some (([] : List Coin), 1) else ((impl_areMade.f k x0 x2 x1.fOuts).bind fun t12 => (bif !t12 then some (([] : List Coin), 4) else ((slices_ContainsFunc_impl_Ref.f k x1.fIns x0).bind fun t13 => (bif t13 then some (([] : List Coin), 7) else ((impl_ownCoins.f k x0).bind fun t14 => ((slices_DeleteFunc_Coin_v2.f k t14 x2).bind fun t15 => ((impl_ownCoins.f k x3).bind fun t16 => (chk (leB ((t15.length + t16.length) * 80) 140737488355328) ((impl_sorted.f k (t15 ++ t16)).bind fun t17 => (bif (decide (40 < (t17.length : Int))) then some (([] : List Coin), 2) else some (t17, 0)))))))))))))))
theorem impl_undoTx.calls {k : Nat} {x0 : List Coin} {x1 : Tx} {x2 : Int} {x3 : List Coin} {p0 : Value} {p1_0 : Value} {p1_1 : Value} {p3 : Value} {w : World} (hp0 : RdS kCoin w p0 x0) (hp1_0 : RdS kRef w p1_0 x1.fIns) (hp1_1 : RdS kOut w p1_1 x1.fOuts) (hp3 : RdS kCoin w p3 x3) {r : (List Coin) × Int} (H : impl_undoTx.f k x0 x1 x2 x3 = some r) :
  Calls Tryz.prog 23 ([p0, .agg #[(nI x1.fKind), (nI x1.fMember), p1_0, p1_1], nI x2, p3] : List Value).toArray w (fun e w_ => ∃ v, e = .returned v ∧ ∃ u0 : Value, v = (.tuple #[u0, nI r.2]) ∧ Mem w [] w_ [own kCoin 70 u0 r.1]) := by
 have HM := Mem.start w
 refine calls_run (N := 46) Tryz.func23 rfl rfl rfl rfl ?_
 unfold impl_undoTx.f at H
 refine run_seq (run_region rfl (oz rfl (does_box (cs := [p0]) rfl rfl (rd_cells hp0) HM) ?_))
 rintro _ w18 ⟨b19, rfl, HM⟩
 refine oz rfl (does_box (cs := [nI x1.fKind, nI x1.fMember, p1_0, p1_1]) rfl rfl rfl HM) ?_
 rintro _ w20 ⟨b21, rfl, HM⟩
 refine oz rfl (does_box (cs := [nI x2]) rfl rfl rfl HM) ?_
 rintro _ w22 ⟨b23, rfl, HM⟩
 refine oM rfl (oM rfl (ops_nil (at_then (run_seq (run_block (run_seq ?_))))))
 obtain ⟨t10, h24, H⟩ := bind_some H
 refine run_region rfl (oy rfl (ex_load1 rfl rfl U2 rfl ((HM.box_at 0 rfl) 0 _ rfl)) (oz rfl (does_callk rfl callok54 rfl (impl_isId.calls (x0 := x2) h24)) ?_))
 rintro _ w25 ⟨rfl, hn⟩
 replace HM := HM.callN hn rfl
 refine oy rfl (ex_not rfl rfl) (oM rfl (ops_nil (at_then (run_cond (b := !t10) rfl (fun hb26 => ?_) (fun hb26 => ?_)))))
 ·replace H := cond_t hb26 H
  refine run_seq (run_region rfl (oM rfl (oM rfl (ops_nil (at_then (run_ret (at_block_ret (at_then_ret ?_))))))))
  replace HM := ((HM.empty kCoin 70 none).frd 1 rfl).frd 1 rfl
  replace HM := HM.frd 1 rfl
  cases H
  exact at_ret2 rfl rfl rfl ⟨_, rfl, _, rfl, HM⟩
 ·replace H := cond_f hb26 H
  refine run_seq ?_
  obtain ⟨t11, h27, H⟩ := bind_some H
  refine run_region rfl (oM rfl (oy rfl (ex_fieldAddr (off' := 2) rfl rfl U28 rfl tsz25 rfl) (oy rfl (ex_load1 rfl rfl U25 rfl ((HM.box_at 1 rfl) 2 _ rfl)) (oz rfl (does_callk rfl callok55 rfl (impl_areOf.calls (x0 := x3) (x1 := x1.fIns) (HM.rd hp3) (HM.rd hp1_0) h27)) ?_))))
  rintro _ w28 ⟨rfl, hn⟩
  replace HM := HM.callN hn rfl
  refine oy rfl (ex_not rfl rfl) (oM rfl (ops_nil (at_then (run_cond (b := !t11) rfl (fun hb29 => ?_) (fun hb29 => ?_)))))
  ·replace H := cond_t hb29 H
   refine run_seq (run_region rfl (oM rfl (oM rfl (ops_nil (at_then (run_ret (at_block_ret (at_then_ret ?_))))))))
   replace HM := ((HM.empty kCoin 70 none).frd 1 rfl).frd 1 rfl
   replace HM := HM.frd 1 rfl
   cases H
   exact at_ret2 rfl rfl rfl ⟨_, rfl, _, rfl, HM⟩
  ·replace H := cond_f hb29 H
   refine run_seq ?_
   obtain ⟨t12, h30, H⟩ := bind_some H
   refine run_region rfl (oy rfl (ex_load1 rfl rfl U24 rfl ((HM.box_at 2 rfl) 0 _ rfl)) (oy rfl (ex_load1 rfl rfl U2 rfl ((HM.box_at 0 rfl) 0 _ rfl)) (oy rfl (ex_fieldAddr (off' := 3) rfl rfl U28 rfl tsz26 rfl) (oy rfl (ex_load1 rfl rfl U26 rfl ((HM.box_at 1 rfl) 3 _ rfl)) (oz rfl (does_callk rfl callok56 rfl (impl_areMade.calls (x0 := x0) (x1 := x2) (x2 := x1.fOuts) (HM.rd hp0) (HM.rd hp1_1) h30)) ?_)))))
   rintro _ w31 ⟨rfl, hn⟩
   replace HM := HM.callN hn rfl
   refine oy rfl (ex_not rfl rfl) (oM rfl (ops_nil (at_then (run_cond (b := !t12) rfl (fun hb32 => ?_) (fun hb32 => ?_)))))
   ·replace H := cond_t hb32 H
    refine run_seq (run_region rfl (oM rfl (oM rfl (ops_nil (at_then (run_ret (at_block_ret (at_then_ret ?_))))))))
    replace HM := ((HM.empty kCoin 70 none).frd 1 rfl).frd 1 rfl
    replace HM := HM.frd 1 rfl
    cases H
    exact at_ret2 rfl rfl rfl ⟨_, rfl, _, rfl, HM⟩
   ·replace H := cond_f hb32 H
    refine run_seq ?_
    obtain ⟨t13, h33, H⟩ := bind_some H
    refine run_region rfl (oy rfl (ex_fieldAddr (off' := 2) rfl rfl U28 rfl tsz25 rfl) (oy rfl (ex_load1 rfl rfl U25 rfl ((HM.box_at 1 rfl) 2 _ rfl)) (oy rfl (ex_func rfl rfl) (oz rfl (does_callk rfl callok57 rfl (slices_ContainsFunc_impl_Ref.calls (x0 := x1.fIns) (x1_0 := x0) (HM.rd hp1_0) (HM.box_at 2 rfl) (HM.rd hp0) h33)) ?_))))
    rintro _ w34 ⟨rfl, hn⟩
    replace HM := HM.callN hn rfl
    refine oM rfl (ops_nil (at_then (run_cond (b := t13) rfl (fun hb35 => ?_) (fun hb35 => ?_))))
    ·replace H := cond_t hb35 H
     refine run_seq (run_region rfl (oM rfl (oM rfl (ops_nil (at_then (run_ret (at_block_ret (at_then_ret ?_))))))))
     replace HM := ((HM.empty kCoin 70 none).frd 1 rfl).frd 1 rfl
     replace HM := HM.frd 1 rfl
     cases H
     exact at_ret2 rfl rfl rfl ⟨_, rfl, _, rfl, HM⟩
    ·replace H := cond_f hb35 H
     refine run_skip (at_block (at_then (run_seq ?_)))
     obtain ⟨t14, h36, H⟩ := bind_some H
     obtain ⟨t15, h37, H⟩ := bind_some H
     refine run_region rfl (oy rfl (ex_load1 rfl rfl U24 rfl ((HM.box_at 2 rfl) 0 _ rfl)) (oz rfl (does_callk rfl callok26 rfl (impl_ownCoins.calls (x0 := x0) (HM.rd hp0) h36)) ?_))
     rintro u38 w39 ⟨_, rfl, hn⟩
     replace HM := HM.callN hn rfl
     refine oy rfl (ex_func rfl rfl) ?_
     obtain ⟨F40, hF41, hFn42, hFl43, HMh44, hcl45⟩ := HM.hideN 1 rfl
     refine oz rfl (does_callk rfl callok59 rfl (slices_DeleteFunc_Coin_v2.calls (x0 := t14) (x1_0 := x2) (hide_olds _ _) hF41 hFn42 hFl43 (HMh44.box_at 0 rfl) coinK_own h37)) ?_
     rintro u46 w47 ⟨_, rfl, hn⟩
     replace HM := hcl45 _ _ _ rfl hn
     refine oM rfl (ops_nil (at_then (run_seq ?_)))
     obtain ⟨t16, h48, H⟩ := bind_some H
     obtain ⟨e49, H⟩ := chk_some H
     obtain ⟨t17, h50, H⟩ := bind_some H
     refine run_region rfl (oM rfl (oM rfl (oz rfl (does_callk rfl callok26 rfl (impl_ownCoins.calls (x0 := x3) (HM.rd hp3) h48)) ?_)))
     rintro u51 w52 ⟨_, rfl, hn⟩
     replace HM := (HM.callN hn rfl).fr1 1 rfl
     refine oz rfl (does_append kCoin rfl rfl rfl U24 tsz70 rfl tby70 tz70 rfl rfl (leB_le e49) HM) ?_
     rintro v53 w54 HM
     obtain ⟨F55, hF56, hFn57, hFl58, HMh59, hcl60⟩ := HM.hideN 1 rfl
     refine oz rfl (does_callk rfl callok61 rfl (impl_sorted.calls (x0 := t15 ++ t16) (hide_olds _ _) hF56 hFn57 hFl58 h50)) ?_
     rintro u61 w62 ⟨_, rfl, hn⟩
     replace HM := hcl60 _ _ _ rfl hn
     refine oM rfl (ops_nil (at_then (run_seq (run_seq (run_region rfl (oM rfl (oy rfl (ex_len (d := kCoin) (xs := t17) rfl rfl U24 (HM.own_rd 0 rfl)) (oy rfl (ex_gtr rfl rfl rfl) (ops_nil (at_then (run_cond (b := (decide (40 < (t17.length : Int)))) rfl (fun hb63 => ?_) (fun hb63 => ?_))))))))))))
     ·replace H := cond_t hb63 H
      refine run_seq (run_region rfl (oM rfl (oM rfl (ops_nil (at_then (run_ret (at_then_ret ?_)))))))
      replace HM := ((HM.empty kCoin 70 none).frd 1 rfl).frd 1 rfl
      replace HM := (HM.frd 1 rfl).frd 1 rfl
      cases H
      exact at_ret2 rfl rfl rfl ⟨_, rfl, _, rfl, HM⟩
     ·replace H := cond_f hb63 H
      refine run_skip (at_then (run_seq (run_region rfl (oM rfl (oM rfl (oM rfl (ops_nil (at_then (run_ret ?_)))))))))
      replace HM := ((HM.frd 1 rfl).frd 1 rfl).frd 1 rfl
      cases H
      exact at_ret2 rfl rfl rfl ⟨_, rfl, _, rfl, HM⟩

def impl_UndoTx.l0 (t10 : Int) (t11 : Int) (t12 : Int) : Nat → Int → Option (CoinsResult ⊕ Unit)
 | 0, _ => none
 | k + 1, a13 => (bif (decide (a13 < (([t10, t11, t12] : List Int).length : Int))) then (chk (idxOk a13 ([t10, t11, t12] : List Int).length) (bif ((gt ([t10, t11, t12] : List Int) a13) != 0) then some (.inl (⟨(gt ([t10, t11, t12] : List Int) a13), ([] : List Coin)⟩ : CoinsResult)) else impl_UndoTx.l0 t10 t11 t12 k (wrap64 (a13 + 1)))) else some (.inr ()))
def impl_UndoTx.f (k : Nat) (x0 : List Coin) (x1 : Tx) (x2 : Int) (x3 : List Coin) : Option CoinsResult := (((impl_CoinsFault.f k x0).bind fun t10 => ((impl_CoinsFault.f k x3).bind fun t11 => ((impl_TxFault.f k x1).bind fun t12 => impl_UndoTx.l0 t10 t11 t12 k 0))).bind fun o14 => thn o14 (fun r => some r) (fun _ => ((impl_undoTx.f k x0 x1 x2 x3).bind fun t15 => some (⟨t15.2, t15.1⟩ : CoinsResult))))
theorem impl_UndoTx.calls {k : Nat} {x0 : List Coin} {x1 : Tx} {x2 : Int} {x3 : List Coin} {p0 : Value} {p1_0 : Value} {p1_1 : Value} {p3 : Value} {w : World} (hp0 : RdS kCoin w p0 x0) (hp1_0 : RdS kRef w p1_0 x1.fIns) (hp1_1 : RdS kOut w p1_1 x1.fOuts) (hp3 : RdS kCoin w p3 x3) {r : CoinsResult} (H : impl_UndoTx.f k x0 x1 x2 x3 = some r) :
  Calls Tryz.prog 8 ([p0, .agg #[(nI x1.fKind), (nI x1.fMember), p1_0, p1_1], nI x2, p3] : List Value).toArray w (fun e w_ => ∃ v, e = .returned v ∧ ∃ u0 : Value, v = (.agg #[nI r.fCode, u0]) ∧ Mem w [] w_ [own kCoin 70 u0 r.fCoins]) := by
 have HM := Mem.start w
 refine calls_run (N := 41) Tryz.func8 rfl rfl rfl rfl ?_
 unfold impl_UndoTx.f at H
 refine run_seq (run_region rfl (oz rfl (does_box (cs := [nI x1.fKind, nI x1.fMember, p1_0, p1_1]) rfl rfl rfl HM) ?_))
 rintro _ w16 ⟨b17, rfl, HM⟩
 refine oz rfl (does_alloc (cs := [nI 0, .slice none 0 0]) rfl tz32 rfl HM) ?_
 rintro _ w18 ⟨b19, rfl, HM⟩
 refine ops_nil (at_then ?_)
 obtain ⟨o14, ho20, H⟩ := bind_some H
 refine run_mid (fun ρ_ w_ => Sum.inr () = o14 ∧ ρ_ = [(0, p0), (2, nI x2), (3, p3), (5, pA b17 0), (8, pA b19 0)] ∧ Mem w [] w_ [box b17 28 [nI x1.fKind, nI x1.fMember, p1_0, p1_1], box b19 32 [nI 0, .slice none 0 0]]) ?_ ?_
 ·refine run_seq ?_
  obtain ⟨t10, h21, ho20⟩ := bind_some ho20
  obtain ⟨t11, h22, ho20⟩ := bind_some ho20
  obtain ⟨t12, h23, ho20⟩ := bind_some ho20
  refine run_drawf (fun w_ => Mem w [] w_ [box b19 32 [nI 0, .slice none 0 0], box b17 28 [nI x1.fKind, nI x1.fMember, p1_0, p1_1]]) [(0, true), (2, true), (4, true), (8, true), (1, false), (3, false), (5, false), (6, false), (7, true)] mixed rfl rfl (by kernel_rfl) ?_
  replace HM := HM.grow (fr_drew _)
  have hS := HM.sufN 0 rfl
  refine dp rfl rfl rfl rfl (ex_move rfl rfl) hS (dp rfl rfl rfl rfl (ex_move rfl rfl) hS (drwp_take rfl (guard_none rfl) rfl rfl (fun w_ hS_ => (ldN rfl rfl U28 rfl tsz28 ((hS_.box_at 1 rfl).subL 0 4 rfl) rfl)) hS (dp rfl rfl rfl rfl (ex_move rfl rfl) hS (drwp_one rfl (guard_none rfl) rfl rfl (does_callk rfl callok12 rfl (impl_CoinsFault.calls (x0 := x0) (HM.rd hp0) h21)) ?_))))
  rintro _ w24 ⟨rfl, hn⟩
  replace HM := HM.callN hn rfl
  have hS := HM.sufN 0 rfl
  refine ⟨hS, (drwp_one rfl (guard_none rfl) rfl rfl (does_callk rfl callok12 rfl (impl_CoinsFault.calls (x0 := x3) (HM.rd hp3) h22)) ?_)⟩
  rintro _ w25 ⟨rfl, hn⟩
  replace HM := HM.callN hn rfl
  have hS := HM.sufN 0 rfl
  refine ⟨hS, (drwp_one rfl (guard_none rfl) rfl rfl (does_callk rfl callok17 rfl (impl_TxFault.calls (x0 := x1) (HM.rd hp1_0) (HM.rd hp1_1) h23)) ?_)⟩
  rintro _ w26 ⟨rfl, hn⟩
  replace HM := HM.callN hn rfl
  have hS := HM.sufN 0 rfl
  refine ⟨hS, (drwp_one rfl (guard_none rfl) rfl rfl (does_lit (e := 2) (cs := [nI t10, nI t11, nI t12]) (xs := ([t10, t11, t12] : List Int)) kInt rfl rfl (fun _ => by kernel_rfl) rfl rfl (fun _ _ h => by have h' : _ = [] := h; subst h'; exact (Elems.cons (d := kInt) (x := t10) (f := []) ⟨rfl, rfl⟩ (Elems.cons (d := kInt) (x := t11) (f := []) ⟨rfl, rfl⟩ (Elems.cons (d := kInt) (x := t12) (f := []) ⟨rfl, rfl⟩ .nil)))) HM.emp) ?_)⟩
  rintro v27 w28 HM
  have hS := HM.sufN 1 rfl
  refine ⟨hS, (dp rfl rfl rfl rfl (ex_len (d := kInt) (xs := ([t10, t11, t12] : List Int)) rfl rfl U58 (HM.own_rd 0 rfl)) hS (drwp_done (at_then (run_block ?_))))⟩
  replace HM := (HM.fr1 1 rfl).fr1 2 rfl
  refine run_loop (fun k_ ρ_ w_ => ∃ a13 : Int, impl_UndoTx.l0 t10 t11 t12 k_ a13 = some o14 ∧ ρ_ = [(0, p0), (2, nI x2), (3, p3), (5, pA b17 0), (8, pA b19 0), (21, nI a13), (19, v27), (20, nI (([t10, t11, t12] : List Int).length : Int))] ∧ Mem w [] w_ [box b17 28 [nI x1.fKind, nI x1.fMember, p1_0, p1_1], box b19 32 [nI 0, .slice none 0 0], own kInt 2 v27 ([t10, t11, t12] : List Int)]) k ⟨_, ho20, rfl, HM⟩ (Sub.of rfl) ?_
  clear HM ho20
  rintro k29 _ w30 ⟨a13, ho20, rfl, HM⟩
  obtain _ | k29 := k29
  ·exact nomatch ((impl_UndoTx.l0.eq_1 t10 t11 t12 a13).symm.trans ho20)
  replace ho20 := (impl_UndoTx.l0.eq_2 ..).symm.trans ho20
  refine run_seq (run_region rfl (oy rfl (ex_lss rfl rfl rfl) (ops_nil (at_then (run_seq (run_cond (b := (decide (a13 < (([t10, t11, t12] : List Int).length : Int)))) rfl (fun hb31 => ?_) (fun hb31 => ?_)))))))
  ·replace ho20 := cond_t hb31 ho20
   refine run_skip (at_then (run_seq (run_block (run_seq ?_))))
   obtain ⟨e32, ho20⟩ := chk_some ho20
   refine run_region rfl (oy rfl (ex_indexAddr (d := kInt) rfl rfl rfl U58 tsz2 (HM.own_rd 2 rfl) (idx_lo e32) (idx_hi e32)) (oy rfl (ex_load1 rfl rfl U2 rfl ((rd_plain (HM.own_rd 2 rfl) e32) 0 _ rfl)) (oM rfl (ops_nil (at_then (run_seq (run_region rfl (oM rfl (oy rfl (ex_neq rfl rfl rfl) (ops_nil (at_then (run_cond (b := ((gt ([t10, t11, t12] : List Int) a13) != 0)) rfl (fun hb33 => ?_) (fun hb33 => ?_)))))))))))))
   ·replace ho20 := cond_t hb33 ho20
    refine run_seq (run_region rfl (oM rfl (oy rfl (ex_build (cells := #[(nI (gt ([t10, t11, t12] : List Int) a13)), (.slice none 0 0)]) rfl rfl (by kernel_rfl)) ?_)))
    replace HM := HM.fr1 1 rfl
    refine odS rfl rfl rfl (does_store (vs := [nI (gt ([t10, t11, t12] : List Int) a13), .slice none 0 0]) (cs' := [nI (gt ([t10, t11, t12] : List Int) a13), .slice none 0 0]) rfl rfl rfl rfl tsz32 (Ones.int (Ones.sl Ones.nil)) rfl rfl HM) ?_
    rintro w34 HM
    refine ops_nil (at_then (run_ret (at_block_ret (at_then_ret (at_then_ret (at_block_ret (at_then_ret ?_)))))))
    replace HM := ((HM.empty kCoin 70 none).frd 2 rfl).frd 2 rfl
    replace HM := HM.fr1 1 rfl
    have hcb0 := HM.box_at 0 rfl
    replace HM := HM.frd 0 rfl
    cases ho20
    have hT := thn_inl H
    cases hT
    exact at_retN rfl rfl U32 rfl tsz32 rfl hcb0 ⟨_, rfl, _, rfl, HM⟩
   ·replace ho20 := cond_f hb33 ho20
    exact run_skip (at_block (at_then (run_region rfl (oy rfl (ex_add rfl rfl rfl) (oM rfl (ops_nil (at_again k29 (Nat.lt_succ_self _) ⟨_, ho20, rfl, HM⟩ (Sub.of rfl))))))))
  ·replace ho20 := cond_f hb31 ho20
   refine run_exit (at_then_exit (at_then_exit (at_block_exit ?_)))
   replace HM := HM.frd 2 rfl
   exact at_mid ⟨(sj ho20), rfl, HM⟩ (Sub.of rfl)
 ·rintro _ w35 ⟨rfl, rfl, HM⟩
  replace H := (thn_inr H)
  refine run_seq ?_
  obtain ⟨t15, h36, H⟩ := bind_some H
  refine run_region rfl (oM rfl (oy rfl (ldN rfl rfl U28 rfl tsz28 ((HM.box_at 0 rfl).subL 0 4 rfl) rfl) (oM rfl (oM rfl (oz rfl (does_callk rfl callok23 rfl (impl_undoTx.calls (x0 := x0) (x1 := x1) (x2 := x2) (x3 := x3) (HM.rd hp0) (HM.rd hp1_0) (HM.rd hp1_1) (HM.rd hp3) h36)) ?_)))))
  rintro _ w37 ⟨u38, rfl, hn⟩
  replace HM := HM.callN hn rfl
  refine oM rfl (oy rfl (ex_extract rfl rfl rfl) (oy rfl (ex_extract rfl rfl rfl) (oM rfl (oM rfl (ops_nil (at_then (run_seq (run_region rfl (oM rfl (oM rfl (oy rfl (ex_build1 (fun u38 => [(0, nI t15.2), (1, u38)]) (fun u38 => #[nI t15.2, u38]) rfl rfl (fun _ _ _ => by kernel_rfl) (HM.own_rd 0 rfl).isSl) ?_)))))))))))
  replace HM := HM.fr1 2 rfl
  refine odS rfl rfl rfl (does_store (vs := [nI t15.2, u38]) (cs' := [nI t15.2, u38]) rfl rfl rfl rfl tsz32 (Ones.int (Ones.rd (HM.own_rd 1 rfl) Ones.nil)) rfl rfl HM) ?_
  rintro w39 HM
  refine ops_nil (at_then (run_ret ?_))
  replace HM := HM.frd 2 rfl
  have hcb0 := HM.box_at 0 rfl
  replace HM := HM.frd 0 rfl
  cases H
  exact at_retN rfl rfl U32 rfl tsz32 rfl hcb0 ⟨_, rfl, _, rfl, HM⟩
end Go.Proofs.YtecgbhfgkkpmhacGreat.Zk
