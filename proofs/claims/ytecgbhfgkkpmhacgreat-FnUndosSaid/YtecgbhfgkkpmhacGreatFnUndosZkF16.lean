/- What functions of the program compute, each as a plain function, and that they do. Conditions: as each theorem states them. -/
import Derived.Test.YtecgbhfgkkpmhacGreatFnUndosZkF15
namespace Go.Proofs.YtecgbhfgkkpmhacGreat.Zk
open Go Go.RowKit Go.IntWalk Go.Proofs
set_option linter.unusedVariables false
set_option linter.unusedSimpArgs false
set_option maxRecDepth 100000
set_option maxHeartbeats 4000000
def impl_areMade_1_h.f (k : Nat) (x0 : CoinH) (x1 : Int) : Option Bool := some (x0.fRef.fTx != x1)
theorem impl_areMade_1_h.calls {k : Nat} {x0 : CoinH} {x1 : Int} {b1 f1 : Nat} {w : World} (hc1 : CellsAt w b1 f1 [nI x1]) {r : Bool} (H : impl_areMade_1_h.f k x0 x1 = some r) :
  Calls Tryz.prog 94 ([.agg #[(nI x0.fRef.fTx), (nI x0.fRef.fAt), (nI x0.fOut.fValue), (.slice x0.fOut.fRule.fKeys.1 x0.fOut.fRule.fKeys.2.1 x0.fOut.fRule.fKeys.2.2), (nI x0.fOut.fRule.fNeed), (nI x0.fOut.fRule.fAfter), (nI x0.fHeight), (.bool x0.fMined)], pA b1 f1] : List Value).toArray w (fun e w_ => ∃ v, e = .returned v ∧ v = (.bool r) ∧ Mem w [] w_ []) := by
 have HM := Mem.start w
 refine calls_run (N := 9) Tryz.func94 rfl rfl rfl rfl ?_
 unfold impl_areMade_1_h.f at H
 refine run_seq (run_region rfl (oz rfl (does_box (cs := [nI x0.fRef.fTx, nI x0.fRef.fAt, nI x0.fOut.fValue, .slice x0.fOut.fRule.fKeys.1 x0.fOut.fRule.fKeys.2.1 x0.fOut.fRule.fKeys.2.2, nI x0.fOut.fRule.fNeed, nI x0.fOut.fRule.fAfter, nI x0.fHeight, .bool x0.fMined]) rfl rfl rfl HM) ?_))
 rintro _ w10 ⟨b11, rfl, HM⟩
 refine oM rfl (ops_nil (at_then (run_seq (run_region rfl (oy rfl (ex_fieldAddr (off' := 0) rfl rfl U70 rfl tsz38 rfl) (oy rfl (ex_fieldAddr (off' := 0) rfl rfl U38 rfl tsz2 rfl) (oy rfl (ex_load1 rfl rfl U2 rfl ((HM.box_at 0 rfl) 0 _ rfl)) (oy rfl (ex_load1 rfl rfl U2 rfl ((HM.at_ hc1) 0 _ rfl)) (oy rfl (ex_neq rfl rfl rfl) (oM rfl (ops_nil (at_then ?_))))))))))))
 refine run_ret ?_
 replace HM := HM.frd 0 rfl
 cases H
 exact at_ret1 rfl rfl ⟨_, rfl, rfl, HM⟩

def slices_IndexFunc_impl_Coin_h.l0 (x0 : List CoinH) (x1_0 : Int) : Nat → Int → Option (Int ⊕ Unit)
 | 0, _ => none
 | k + 1, a10 => (bif (decide (a10 < (x0.length : Int))) then (chk (idxOk a10 x0.length) ((impl_areMade_1_h.f k (gt x0 a10) x1_0).bind fun t11 => (bif t11 then some (.inl a10) else slices_IndexFunc_impl_Coin_h.l0 x0 x1_0 k (wrap64 (a10 + 1))))) else some (.inr ()))
def slices_IndexFunc_impl_Coin_h.f (k : Nat) (x0 : List CoinH) (x1_0 : Int) : Option Int := ((slices_IndexFunc_impl_Coin_h.l0 x0 x1_0 k 0).bind fun o12 => thn o12 (fun r => some r) (fun _ => some (-1)))
theorem slices_IndexFunc_impl_Coin_h.calls {k : Nat} {x0 : List CoinH} {x1_0 : Int} {p0 : Value} {b1_0 f1_0 : Nat} {w : World} (hp0 : RdS kCoinH w p0 x0) (hc1_0 : CellsAt w b1_0 f1_0 [nI x1_0]) {r : Int} (H : slices_IndexFunc_impl_Coin_h.f k x0 x1_0 = some r) :
  Calls Tryz.prog 96 ([p0, .func (.func 94) #[] #[(pA b1_0 f1_0)]] : List Value).toArray w (fun e w_ => ∃ v, e = .returned v ∧ v = (nI r) ∧ Mem w [] w_ []) := by
 have HM := Mem.start w
 refine calls_run (N := 19) Tryz.func96 rfl rfl rfl rfl ?_
 unfold slices_IndexFunc_impl_Coin_h.f at H
 refine run_seq (run_region rfl (oM rfl (ops_nil (at_then ?_))))
 obtain ⟨o12, ho13, H⟩ := bind_some H
 refine run_mid (fun ρ_ w_ => Sum.inr () = o12 ∧ ρ_ = [] ∧ Mem w [] w_ []) ?_ ?_
 ·refine run_seq (run_region rfl (oM rfl (oy rfl (ex_len (d := kCoinH) (xs := x0) rfl rfl U24 hp0) (oM rfl (ops_nil (at_then (run_block ?_)))))))
  refine run_loop (fun k_ ρ_ w_ => ∃ a10 : Int, slices_IndexFunc_impl_Coin_h.l0 x0 x1_0 k_ a10 = some o12 ∧ ρ_ = [(0, p0), (1, .func (.func 94) #[] #[(pA b1_0 f1_0)]), (7, nI (x0.length : Int)), (8, nI a10)] ∧ Mem w [] w_ []) k ⟨_, ho13, rfl, HM⟩ (Sub.of rfl) ?_
  clear HM ho13
  rintro k14 _ w15 ⟨a10, ho13, rfl, HM⟩
  obtain _ | k14 := k14
  ·exact nomatch ((slices_IndexFunc_impl_Coin_h.l0.eq_1 x0 x1_0 a10).symm.trans ho13)
  replace ho13 := (slices_IndexFunc_impl_Coin_h.l0.eq_2 ..).symm.trans ho13
  refine run_seq (run_region rfl (oy rfl (ex_lss rfl rfl rfl) (ops_nil (at_then (run_seq (run_cond (b := (decide (a10 < (x0.length : Int)))) rfl (fun hb16 => ?_) (fun hb16 => ?_)))))))
  ·replace ho13 := cond_t hb16 ho13
   refine run_skip (at_then (run_seq (run_block (run_seq (run_region rfl (oM rfl (oM rfl (ops_nil (at_then (run_seq ?_))))))))))
   obtain ⟨e17, ho13⟩ := chk_some ho13
   obtain ⟨t11, h18, ho13⟩ := bind_some ho13
   refine run_region rfl (oM rfl (oM rfl (oM rfl ?_)))
   have hc19 : CellsAt _ (sb p0) (so p0 + (a10).toNat * 8) [(nI ((gt x0 a10).fRef.fTx)), (nI ((gt x0 a10).fRef.fAt)), (nI ((gt x0 a10).fOut.fValue)), (.slice ((gt x0 a10).fOut.fRule.fKeys).1 ((gt x0 a10).fOut.fRule.fKeys).2.1 ((gt x0 a10).fOut.fRule.fKeys).2.2), (nI ((gt x0 a10).fOut.fRule.fNeed)), (nI ((gt x0 a10).fOut.fRule.fAfter)), (nI ((gt x0 a10).fHeight)), (.bool ((gt x0 a10).fMined))] := rd_plain hp0 e17
   refine oy rfl (ex_indexAddr (d := kCoinH) rfl rfl rfl U24 tsz70 hp0 (idx_lo e17) (idx_hi e17)) (oy rfl (ldN rfl rfl U70 rfl tsz70 ((HM.at_ hc19).subL 0 8 rfl) rfl) (oz rfl (does_callvk rfl callok94 rfl rfl rfl (impl_areMade_1_h.calls (x0 := (gt x0 a10)) (x1 := x1_0) (HM.at_ hc1_0) h18)) ?_))
   rintro _ w20 ⟨rfl, hn⟩
   replace HM := HM.callN hn rfl
   refine ops_nil (at_then (run_cond (b := t11) rfl (fun hb21 => ?_) (fun hb21 => ?_)))
   ·replace ho13 := cond_t hb21 ho13
    refine run_seq (run_region rfl (oM rfl (oM rfl (ops_nil (at_then (run_ret (at_block_ret (at_then_ret (at_then_ret (at_block_ret ?_))))))))))
    refine at_then_ret ?_
    cases ho13
    have hT := thn_inl H
    cases hT
    exact at_ret1 rfl rfl ⟨_, rfl, rfl, HM⟩
   ·replace ho13 := cond_f hb21 ho13
    exact run_skip (at_block (at_then (run_region rfl (oy rfl (ex_add rfl rfl rfl) (oM rfl (ops_nil (at_again k14 (Nat.lt_succ_self _) ⟨_, ho13, rfl, HM⟩ (Sub.of rfl))))))))
  ·replace ho13 := cond_f hb16 ho13
   exact run_exit (at_then_exit (at_then_exit (at_block_exit (at_mid ⟨(sj ho13), rfl, HM⟩ Sub.nil))))
 ·rintro _ w22 ⟨rfl, rfl, HM⟩
  replace H := (thn_inr H)
  refine run_seq (run_region rfl (oM rfl (ops_nil (at_then (run_ret ?_)))))
  cases H
  exact at_ret1 rfl rfl ⟨_, rfl, rfl, HM⟩

def slices_DeleteFunc_impl_Coin_h.l0 (x1_0 : Int) : Nat → (List CoinH) → Int → Int → Option ((List CoinH) × Int)
 | 0, _, _, _ => none
 | k + 1, a10, a11, a12 => (bif (decide (a12 < (a10.length : Int))) then (chk (idxOk a12 a10.length) ((impl_areMade_1_h.f k (gt a10 a12) x1_0).bind fun t13 => (bif !t13 then (chk (idxOk a11 a10.length) (slices_DeleteFunc_impl_Coin_h.l0 x1_0 k (a10.set (a11).toNat (gt a10 a12)) (wrap64 (a11 + 1)) (wrap64 (a12 + 1)))) else slices_DeleteFunc_impl_Coin_h.l0 x1_0 k a10 a11 (wrap64 (a12 + 1))))) else some (a10, a11))
def slices_DeleteFunc_impl_Coin_h.f (k : Nat) (x0 : List CoinH) (x1_0 : Int) : Option ((List CoinH)) := ((slices_IndexFunc_impl_Coin_h.f k x0 x1_0).bind fun t14 => (bif (t14 == (-1)) then some x0 else ((slices_DeleteFunc_impl_Coin_h.l0 x1_0 k x0 t14 (wrap64 (t14 + 1))).bind (cur2 (fun a15 a16 => (chk (cutOk a16 a15.length) (some (a15.take (a16).toNat))))))))
theorem slices_DeleteFunc_impl_Coin_h.calls {k : Nat} {x0 : List CoinH} {x1_0 : Int} {p0 : Value} {b1_0 f1_0 : Nat} {w wo : World} {X : List Nat} (hwo : Olds wo w X) (hX : Hold w [own kCoinH 70 p0 x0] X) (hXn : X.Nodup) (hXl : ∀ b ∈ X, b < w.heap.size) (hc1_0 : CellsAt wo b1_0 f1_0 [nI x1_0]) {r : (List CoinH)} (H : slices_DeleteFunc_impl_Coin_h.f k x0 x1_0 = some r) :
  Calls Tryz.prog 59 ([p0, .func (.func 94) #[] #[(pA b1_0 f1_0)]] : List Value).toArray w (fun e w_ => ∃ v, e = .returned v ∧ ∃ u0 : Value, v = u0 ∧ Mem w X w_ [own kCoinH 70 u0 r]) := by
 have HM := Mem.startX hX hXn hXl
 refine calls_run (N := 42) Tryz.func59 rfl rfl rfl rfl ?_
 unfold slices_DeleteFunc_impl_Coin_h.f at H
 refine run_seq (run_region rfl (oM rfl (ops_nil (at_then (run_seq ?_)))))
 obtain ⟨t14, h17, H⟩ := bind_some H
 refine run_region rfl (oM rfl (oM rfl (oz rfl (does_callk rfl callok96 rfl (slices_IndexFunc_impl_Coin_h.calls (x0 := x0) (x1_0 := x1_0) (HM.own_rd 0 rfl) (HM.ato hwo hc1_0) h17)) ?_)))
 rintro _ w18 ⟨rfl, hn⟩
 replace HM := HM.callN hn rfl
 refine oM rfl (ops_nil (at_then (run_seq (run_seq (run_region rfl (oM rfl (oy rfl (ex_eql rfl rfl rfl) (ops_nil (at_then (run_cond (b := (t14 == (-1))) rfl (fun hb19 => ?_) (fun hb19 => ?_)))))))))))
 ·replace H := cond_t hb19 H
  refine run_seq (run_region rfl (oM rfl (oM rfl (ops_nil (at_then (run_ret (at_then_ret ?_)))))))
  cases H
  exact at_ret1 rfl rfl ⟨_, rfl, _, rfl, HM⟩
 ·replace H := cond_f hb19 H
  refine run_skip (at_then ?_)
  obtain ⟨o20, ho21, H⟩ := bind_some H
  refine run_mid (fun ρ_ w_ => ∃ a15 : List CoinH, ∃ a16 : Int, (a15, a16) = o20 ∧ ρ_ = [(0, p0), (5, nI a16)] ∧ Mem w X w_ [own kCoinH 70 p0 a15]) ?_ ?_
  ·clear H
   refine run_seq (run_region rfl (oM rfl (oy rfl (ex_add rfl rfl rfl) (oM rfl (ops_nil (at_then (run_block ?_)))))))
   refine run_loop (fun k_ ρ_ w_ => ∃ a10 : List CoinH, ∃ a11 : Int, ∃ a12 : Int, slices_DeleteFunc_impl_Coin_h.l0 x1_0 k_ a10 a11 a12 = some o20 ∧ ρ_ = [(0, p0), (1, .func (.func 94) #[] #[(pA b1_0 f1_0)]), (5, nI a11), (6, nI a12)] ∧ Mem w X w_ [own kCoinH 70 p0 a10]) k ⟨_, _, _, ho21, rfl, HM⟩ (Sub.of rfl) ?_
   clear HM ho21
   rintro k22 _ w23 ⟨a10, a11, a12, ho21, rfl, HM⟩
   obtain _ | k22 := k22
   ·exact nomatch ((slices_DeleteFunc_impl_Coin_h.l0.eq_1 x1_0 a10 a11 a12).symm.trans ho21)
   replace ho21 := (slices_DeleteFunc_impl_Coin_h.l0.eq_2 ..).symm.trans ho21
   refine run_seq (run_seq (run_region rfl (oM rfl (oM rfl (oy rfl (ex_len (d := kCoinH) (xs := a10) rfl rfl U24 (HM.own_rd 0 rfl)) (oy rfl (ex_lss rfl rfl rfl) (ops_nil (at_then (run_cond (b := (decide (a12 < (a10.length : Int)))) rfl (fun hb24 => ?_) (fun hb24 => ?_))))))))))
   ·replace ho21 := cond_t hb24 ho21
    refine run_skip (at_then (run_seq (run_block (run_seq ?_))))
    obtain ⟨e25, ho21⟩ := chk_some ho21
    refine run_region rfl (oM rfl (oM rfl (oy rfl (ex_indexAddr (d := kCoinH) rfl rfl rfl U24 tsz70 (HM.own_rd 0 rfl) (idx_lo e25) (idx_hi e25)) (oy rfl (ldN rfl rfl U70 rfl tsz70 ((rd_plain (HM.own_rd 0 rfl) e25).subL 0 8 rfl) rfl) (oz rfl (does_alloc (cs := [nI 0, nI 0, nI 0, .slice ((none, 0, 0) : Hdr).1 ((none, 0, 0) : Hdr).2.1 ((none, 0, 0) : Hdr).2.2, nI 0, nI 0, nI 0, .bool false]) rfl tz70 rfl HM) ?_)))))
    rintro _ w26 ⟨b27, rfl, HM⟩
    refine odS rfl rfl rfl (does_store (vs := [nI ((gt a10 a12).fRef.fTx), nI ((gt a10 a12).fRef.fAt), nI ((gt a10 a12).fOut.fValue), .slice ((gt a10 a12).fOut.fRule.fKeys).1 ((gt a10 a12).fOut.fRule.fKeys).2.1 ((gt a10 a12).fOut.fRule.fKeys).2.2, nI ((gt a10 a12).fOut.fRule.fNeed), nI ((gt a10 a12).fOut.fRule.fAfter), nI ((gt a10 a12).fHeight), .bool ((gt a10 a12).fMined)]) (cs' := [nI ((gt a10 a12).fRef.fTx), nI ((gt a10 a12).fRef.fAt), nI ((gt a10 a12).fOut.fValue), .slice ((gt a10 a12).fOut.fRule.fKeys).1 ((gt a10 a12).fOut.fRule.fKeys).2.1 ((gt a10 a12).fOut.fRule.fKeys).2.2, nI ((gt a10 a12).fOut.fRule.fNeed), nI ((gt a10 a12).fOut.fRule.fAfter), nI ((gt a10 a12).fHeight), .bool ((gt a10 a12).fMined)]) rfl rfl rfl rfl tsz70 (Ones.int (Ones.int (Ones.int (Ones.sl (Ones.int (Ones.int (Ones.int (Ones.bool Ones.nil)))))))) rfl rfl HM) ?_
    rintro w28 HM
    refine ops_nil (at_then (run_seq ?_))
    obtain ⟨t13, h29, ho21⟩ := bind_some ho21
    refine run_region rfl (oM rfl (oy rfl (ldN rfl rfl U70 rfl tsz70 ((HM.box_at 0 rfl).subL 0 8 rfl) rfl) (oz rfl (does_callvk rfl callok94 rfl rfl rfl (impl_areMade_1_h.calls (x0 := (gt a10 a12)) (x1 := x1_0) (HM.ato hwo hc1_0) h29)) ?_)))
    rintro _ w30 ⟨rfl, hn⟩
    replace HM := HM.callN hn rfl
    refine oy rfl (ex_not rfl rfl) (ops_nil (at_then (run_cond (b := !t13) rfl (fun hb31 => ?_) (fun hb31 => ?_))))
    ·replace ho21 := cond_t hb31 ho21
     refine run_seq ?_
     obtain ⟨e32, ho21⟩ := chk_some ho21
     refine run_region rfl (oM rfl (oM rfl (oy rfl (ldN rfl rfl U70 rfl tsz70 ((HM.box_at 0 rfl).subL 0 8 rfl) rfl) (oy rfl (ex_indexAddr (d := kCoinH) rfl rfl rfl U24 tsz70 (HM.own_rd 1 rfl) (idx_lo e32) (idx_hi e32)) ?_))))
     replace HM := HM.fr1 1 rfl
     refine odS rfl rfl rfl (does_setElem (vs := [(nI ((gt a10 a12).fRef.fTx)), (nI ((gt a10 a12).fRef.fAt)), (nI ((gt a10 a12).fOut.fValue)), (.slice ((gt a10 a12).fOut.fRule.fKeys).1 ((gt a10 a12).fOut.fRule.fKeys).2.1 ((gt a10 a12).fOut.fRule.fKeys).2.2), (nI ((gt a10 a12).fOut.fRule.fNeed)), (nI ((gt a10 a12).fOut.fRule.fAfter)), (nI ((gt a10 a12).fHeight)), (.bool ((gt a10 a12).fMined))]) (y := (gt a10 a12)) kCoinH rfl rfl rfl rfl rfl tsz70 rfl rfl (idx_nat e32) (fun _ _ h => ⟨rfl, h⟩) (HM.emp.fr1 1 rfl)) ?_
     rintro w33 HM
     refine ops_nil (at_then (run_region rfl (oM rfl (oy rfl (ex_add rfl rfl rfl) (oM rfl (ops_nil (at_block (at_then (run_region rfl (oM rfl ?_))))))))))
     refine oy rfl (ex_add rfl rfl rfl) (oM rfl (ops_nil ?_))
     replace HM := HM.frd 1 rfl
     exact at_again k22 (Nat.lt_succ_self _) ⟨_, _, _, ho21, rfl, HM⟩ (Sub.of rfl)
    ·replace ho21 := cond_f hb31 ho21
     refine run_skip (at_block (at_then (run_region rfl (oM rfl (oy rfl (ex_add rfl rfl rfl) (oM rfl (ops_nil ?_)))))))
     replace HM := HM.frd 0 rfl
     exact at_again k22 (Nat.lt_succ_self _) ⟨_, _, _, ho21, rfl, HM⟩ (Sub.of rfl)
   ·replace ho21 := cond_f hb24 ho21
    exact run_exit (at_then_exit (at_then_exit (at_block_exit (at_mid ⟨_, _, (sj ho21), rfl, HM⟩ (Sub.of rfl)))))
  ·rintro _ w34 ⟨a15, a16, rfl, rfl, HM⟩
   replace H := cur2_mk H
   refine run_seq ?_
   obtain ⟨e35, H⟩ := chk_some H
   refine run_region rfl (oM rfl (oM rfl (oy rfl (ex_cutvL rfl rfl rfl U24 tsz70 (HM.own_rd 0 rfl) e35) ?_)))
   have hcp36 := HM.capI e35
   refine ops_doesN rfl (guard_none rfl) rfl (does_clearL kCoinH rfl rfl U24 tsz70 tz70 rfl rfl (onesC rfl (onesC rfl (onesC rfl (onesC rfl (onesC rfl (onesC rfl (onesC rfl (onesC rfl onesN)))))))) e35 HM) ?_
   rintro _ w37 HM
   refine ops_nil (at_then (run_seq (run_region rfl (oM rfl (oM rfl (oy rfl (ex_cutvH rfl rfl rfl U24 tsz70 (cut_lo e35) hcp36) (oM rfl (ops_nil (at_then (run_ret ?_))))))))))
   cases H
   exact at_ret1 rfl rfl ⟨_, rfl, _, rfl, HM⟩

def coinH (x : Coin) (h : Hdr) : CoinH := ⟨⟨x.fRef.fTx, x.fRef.fAt⟩, ⟨x.fOut.fValue, ⟨h, x.fOut.fRule.fNeed, x.fOut.fRule.fAfter⟩⟩, x.fHeight, x.fMined⟩
def CoinK (d : Kd Coin) : Prop := d.sz = 8 ∧ ∀ w x c f, d.O w x c f → ∃ h : Hdr, (fun (x : CoinH) => ([nI x.fRef.fTx, nI x.fRef.fAt, nI x.fOut.fValue, .slice x.fOut.fRule.fKeys.1 x.fOut.fRule.fKeys.2.1 x.fOut.fRule.fKeys.2.2, nI x.fOut.fRule.fNeed, nI x.fOut.fRule.fAfter, nI x.fHeight, .bool x.fMined] : List Value)) (coinH x h) = c
theorem coinK_own : CoinK kCoin := ⟨rfl, by
 rintro w x c f ⟨v, rfl, ho⟩
 obtain ⟨A, c0, rfl, _⟩ := OwS.rd ho
 exact ⟨(A, _, c0), rfl⟩⟩
theorem coinK_lent {wl : World} {h1 : ∀ x cs, kCoin.R wl x cs → ∀ u ∈ cs, u.oneCell' = true} : CoinK (Kd.lent wl kCoin h1) := ⟨rfl, by
 rintro w x c f ⟨⟨v, rfl, hr⟩, _⟩
 obtain ⟨A, c0, rfl, _⟩ := hr
 exact ⟨(A, _, c0), rfl⟩⟩
def slices_DeleteFunc_Coin_p (x1_0 : Int) (c : CoinH) : Bool := !((impl_areMade_1_h.f 0 c x1_0).getD false)
theorem slices_DeleteFunc_Coin_loop (xs : List CoinH) (x1_0 : Int) (h0 : xs.length ≤ 1048576) : ∀ (d j i : Nat) (s : List CoinH), j + d = xs.length → i ≤ j → s.length = xs.length → s.drop j = xs.drop j →
  ∃ (s' : List CoinH) (i' : Nat), Evt (fun k => slices_DeleteFunc_impl_Coin_h.l0 x1_0 k s (i : Int) (j : Int)) (s', (i' : Int)) ∧ s'.length = xs.length ∧ i' ≤ xs.length ∧ s'.take i' = s.take i ++ (xs.drop j).filter (slices_DeleteFunc_Coin_p x1_0)
 | 0, j, i, s, hd, hij, hs, hdr => by
  refine ⟨s, i, Evt.s ?_, hs, by omega, ?_⟩
  ·simp only [slices_DeleteFunc_impl_Coin_h.l0.eq_2]
   exact Evt.f (decide_eq_false (by omega)) (Evt.self _)
  ·rw [List.drop_of_length_le (by omega), List.filter_nil, List.append_nil]
 | d + 1, j, i, s, hd, hij, hs, hdr => by
  have hj : j < xs.length := by omega
  have hjs : j < s.length := by omega
  have e0 : xs.drop j = gt s (j : Int) :: xs.drop (j + 1) := by
   rw [← hdr, gt_eq (by simpa using hjs)]
   simp only [Int.toNat_natCast]
   rw [List.drop_eq_getElem_cons hjs]
   congr 1
   have := congrArg (List.drop 1) hdr
   rw [List.drop_drop, List.drop_drop] at this
   exact this
  have hdr1 : s.drop (j + 1) = xs.drop (j + 1) := by
   have := congrArg (List.drop 1) hdr
   rw [List.drop_drop, List.drop_drop] at this
   exact this
  have ew : wrap64 ((j : Int) + 1) = ((j + 1 : Nat) : Int) := by rw [wrap64_in _ (by omega)]; omega
  have ewi : wrap64 ((i : Int) + 1) = ((i + 1 : Nat) : Int) := by rw [wrap64_in _ (by omega)]; omega
  have ea : Evt (fun k => impl_areMade_1_h.f k (gt s (j : Int)) x1_0) ((impl_areMade_1_h.f 0 (gt s (j : Int)) x1_0).getD false) := Evt.self _
  cases hm : (impl_areMade_1_h.f 0 (gt s (j : Int)) x1_0).getD false
  ·have hk : slices_DeleteFunc_Coin_p x1_0 (gt s (j : Int)) = true := by unfold slices_DeleteFunc_Coin_p; rw [hm]; rfl
   obtain ⟨s', i', e, r1, r2, r3⟩ := slices_DeleteFunc_Coin_loop xs x1_0 h0 d (j + 1) (i + 1) (s.set i (gt s (j : Int))) (by omega) (by omega) (by rw [List.length_set]; exact hs) (by rw [List.drop_set_of_lt (by omega)]; exact hdr1)
   refine ⟨s', i', Evt.s ?_, r1, r2, ?_⟩
   ·simp only [slices_DeleteFunc_impl_Coin_h.l0.eq_2, ew, ewi, Int.toNat_natCast]
    rw [hm] at ea
    exact Evt.t (int_lt hjs) (Evt.chk (idx_ok hjs) (Evt.bind ea (Evt.t rfl (Evt.chk (idx_ok (by omega)) e))))
   ·rw [r3, e0, List.filter_cons_of_pos hk, List.take_add_one, List.take_set_of_le (Nat.le_refl _), List.getElem?_set_self (by omega)]
    simp
  ·have hk : ¬ slices_DeleteFunc_Coin_p x1_0 (gt s (j : Int)) = true := by unfold slices_DeleteFunc_Coin_p; rw [hm]; exact Bool.false_ne_true
   obtain ⟨s', i', e, r1, r2, r3⟩ := slices_DeleteFunc_Coin_loop xs x1_0 h0 d (j + 1) i s (by omega) (by omega) hs hdr1
   refine ⟨s', i', Evt.s ?_, r1, r2, ?_⟩
   ·simp only [slices_DeleteFunc_impl_Coin_h.l0.eq_2, ew]
    rw [hm] at ea
    exact Evt.t (int_lt hjs) (Evt.chk (idx_ok hjs) (Evt.bind ea (Evt.f rfl e)))
   ·rw [r3, e0, List.filter_cons_of_neg hk]
theorem slices_DeleteFunc_Coin_idx (xs : List CoinH) (x1_0 : Int) (h0 : xs.length ≤ 1048576) : ∀ (d i : Nat), i + d = xs.length → (∀ j : Nat, j < i → (impl_areMade_1_h.f 0 (gt xs (j : Int)) x1_0).getD false = false) →
  (Evt (fun k => slices_IndexFunc_impl_Coin_h.l0 xs x1_0 k (i : Int)) (.inr ()) ∧ ∀ j : Nat, j < xs.length → (impl_areMade_1_h.f 0 (gt xs (j : Int)) x1_0).getD false = false) ∨
  ∃ m : Nat, Evt (fun k => slices_IndexFunc_impl_Coin_h.l0 xs x1_0 k (i : Int)) (.inl (m : Int)) ∧ m < xs.length ∧ (impl_areMade_1_h.f 0 (gt xs (m : Int)) x1_0).getD false = true ∧ ∀ j : Nat, j < m → (impl_areMade_1_h.f 0 (gt xs (j : Int)) x1_0).getD false = false
 | 0, i, hd, hb => by
  refine .inl ⟨Evt.s ?_, fun j hj => hb j (by omega)⟩
  simp only [slices_IndexFunc_impl_Coin_h.l0.eq_2]
  exact Evt.f (ge_lt (by omega)) (Evt.self _)
 | d + 1, i, hd, hb => by
  have hi : i < xs.length := by omega
  have ew : wrap64 ((i : Int) + 1) = ((i + 1 : Nat) : Int) := by rw [wrap64_in _ (by omega)]; omega
  have ea : Evt (fun k => impl_areMade_1_h.f k (gt xs (i : Int)) x1_0) ((impl_areMade_1_h.f 0 (gt xs (i : Int)) x1_0).getD false) := Evt.self _
  cases hm : (impl_areMade_1_h.f 0 (gt xs (i : Int)) x1_0).getD false
  ·rw [hm] at ea
   have hb' : ∀ j : Nat, j < i + 1 → (impl_areMade_1_h.f 0 (gt xs (j : Int)) x1_0).getD false = false := fun j hj => by
    rcases Nat.lt_or_eq_of_le (Nat.le_of_lt_succ hj) with h | rfl
    ·exact hb j h
    ·exact hm
   have st : ∀ o, Evt (fun k => slices_IndexFunc_impl_Coin_h.l0 xs x1_0 k ((i + 1 : Nat) : Int)) o → Evt (fun k => slices_IndexFunc_impl_Coin_h.l0 xs x1_0 k (i : Int)) o := fun o e => by
    refine Evt.s ?_
    simp only [slices_IndexFunc_impl_Coin_h.l0.eq_2, ew]
    exact Evt.t (int_lt hi) (Evt.chk (idx_ok hi) (Evt.bind ea (Evt.f rfl e)))
   rcases slices_DeleteFunc_Coin_idx xs x1_0 h0 d (i + 1) (by omega) hb' with ⟨e, h⟩ | ⟨m, e, h1, h2, h3⟩
   ·exact .inl ⟨st _ e, h⟩
   ·exact .inr ⟨m, st _ e, h1, h2, h3⟩
  ·rw [hm] at ea
   refine .inr ⟨i, Evt.s ?_, hi, hm, hb⟩
   simp only [slices_IndexFunc_impl_Coin_h.l0.eq_2]
   exact Evt.t (int_lt hi) (Evt.chk (idx_ok hi) (Evt.bind ea (Evt.t rfl (Evt.self _))))
theorem slices_DeleteFunc_Coin_run (xs : List CoinH) (x1_0 : Int) (h0 : xs.length ≤ 1048576) : ∃ k, slices_DeleteFunc_impl_Coin_h.f k xs x1_0 = some (xs.filter (slices_DeleteFunc_Coin_p x1_0)) := by
 refine Evt.get ?_
 rcases slices_DeleteFunc_Coin_idx xs x1_0 h0 xs.length 0 (by omega) (fun j hj => by omega) with ⟨e, h⟩ | ⟨i, e, hi, hp, hq⟩
 ·have ef : (xs.filter (slices_DeleteFunc_Coin_p x1_0)) = xs := by
   rw [List.filter_eq_self]
   intro m hm
   obtain ⟨i, hi, rfl⟩ := List.getElem_of_mem hm
   have := h i hi
   rw [gt_eq (by simpa using hi)] at this
   simp only [Int.toNat_natCast] at this
   unfold slices_DeleteFunc_Coin_p
   rw [this]; rfl
  rw [ef]
  exact Evt.bind (Evt.bind e (Evt.self (-1))) (Evt.t rfl (Evt.self _))
 ·have ewi : wrap64 ((i : Int) + 1) = ((i + 1 : Nat) : Int) := by rw [wrap64_in _ (by omega)]; omega
  obtain ⟨s', i', e2, r1, r2, r3⟩ := slices_DeleteFunc_Coin_loop xs x1_0 h0 (xs.length - (i + 1)) (i + 1) i xs (by omega) (by omega) rfl rfl
  have ef : (xs.filter (slices_DeleteFunc_Coin_p x1_0)) = s'.take i' := by
   rw [r3]
   have e1 : xs = xs.take i ++ (gt xs (i : Int) :: xs.drop (i + 1)) := by
    rw [gt_eq (by simpa using hi)]
    simp only [Int.toNat_natCast]
    rw [← List.drop_eq_getElem_cons hi, List.take_append_drop]
   have hk : ¬ slices_DeleteFunc_Coin_p x1_0 (gt xs (i : Int)) = true := by unfold slices_DeleteFunc_Coin_p; rw [hp]; exact Bool.false_ne_true
   have e2 : (xs.take i).filter (slices_DeleteFunc_Coin_p x1_0) = xs.take i := by
    rw [List.filter_eq_self]
    intro m hm
    rw [List.mem_take_iff_getElem] at hm
    obtain ⟨j, hj, rfl⟩ := hm
    have := hq j (by omega)
    rw [gt_eq (by simp; omega)] at this
    simp only [Int.toNat_natCast] at this
    unfold slices_DeleteFunc_Coin_p
    rw [this]; rfl
   conv => lhs; rw [e1, List.filter_append, List.filter_cons_of_neg hk, e2]
  rw [ef]
  have hne : ((i : Int) == -1) = false := beq_false_of_ne (by omega)
  refine Evt.bind (Evt.bind e (Evt.self (i : Int))) (Evt.f hne ?_)
  rw [ewi]
  refine Evt.bind e2 ?_
  show Evt (fun k => chk (cutOk (i' : Int) s'.length) (some (s'.take ((i' : Int)).toNat))) _
  exact Evt.chk (by unfold cutOk; simp; omega) (by simp only [Int.toNat_natCast]; exact Evt.self _)
def slices_DeleteFunc_Coin.f (k : Nat) (x0 : List Coin) (x1_0 : Int) : Option (List Coin) := chk (leB x0.length 1048576) (some (x0.filter fun c => !((impl_areMade_1_h.f 0 (coinH c (none, 0, 0)) x1_0).getD false)))
theorem slices_DeleteFunc_Coin.calls {k : Nat} {x0 : List Coin} {x1_0 : Int} {p0 : Value} {b1_0 f1_0 : Nat} {w wo : World} {X : List Nat} {d : Kd Coin} (hwo : Olds wo w X) (hX : Hold w [own d 70 p0 x0] X) (hXn : X.Nodup) (hXl : ∀ b ∈ X, b < w.heap.size) (hc1_0 : CellsAt wo b1_0 f1_0 [nI x1_0]) (hd : CoinK d) {r : List Coin} (H : slices_DeleteFunc_Coin.f k x0 x1_0 = some r) :
  Calls Tryz.prog 59 ([p0, .func (.func 94) #[] #[(pA b1_0 f1_0)]] : List Value).toArray w (fun e w_ => ∃ v, e = .returned v ∧ ∃ u0 : Value, v = u0 ∧ Mem w X w_ [own d 70 u0 r]) := by
 obtain ⟨h, H⟩ := chk_some H
 cases H
 obtain ⟨hs, b, hlen, h2, h3, h4, h5, h6⟩ := kept_own (enc := fun (x : CoinH) => ([nI x.fRef.fTx, nI x.fRef.fAt, nI x.fOut.fValue, .slice x.fOut.fRule.fKeys.1 x.fOut.fRule.fKeys.2.1 x.fOut.fRule.fKeys.2.2, nI x.fOut.fRule.fNeed, nI x.fOut.fRule.fAfter, nI x.fHeight, .bool x.fMined] : List Value)) hd.1 (hl := fun _ => rfl) (h1 := kCoinH_one) (R := fun s x => ∃ h, s = coinH x h) (fun w x c f ho => let ⟨h, e⟩ := hd.2 w x c f ho; ⟨coinH x h, e, h, rfl⟩)
  (p := fun c => !((impl_areMade_1_h.f 0 (coinH c (none, 0, 0)) x1_0).getD false)) (ph := slices_DeleteFunc_Coin_p x1_0) (fun s x ⟨h, e⟩ => by subst e; rfl) hwo hX hXn hXl
 obtain ⟨k', hk⟩ := slices_DeleteFunc_Coin_run hs x1_0 (by rw [hlen]; exact leB_le h)
 exact (slices_DeleteFunc_impl_Coin_h.calls (x1_0 := x1_0) h5 h2 h3 h4 hc1_0 hk).mono fun e w_ ⟨v, he, u0, hv, hm⟩ => ⟨v, he, u0, hv, h6 _ _ hm⟩

def slices_Equal_int64.l0 (x0 : List Int) (x1 : List Int) : Nat → Int → Option (Bool ⊕ Unit)
 | 0, _ => none
 | k + 1, a10 => (bif (decide (a10 < (x0.length : Int))) then (chk (idxOk a10 x0.length) (chk (idxOk a10 x1.length) (bif ((gt x0 a10) != (gt x1 a10)) then some (.inl false) else slices_Equal_int64.l0 x0 x1 k (wrap64 (a10 + 1))))) else some (.inr ()))
def slices_Equal_int64.f (k : Nat) (x0 : List Int) (x1 : List Int) : Option Bool := (bif ((x0.length : Int) != (x1.length : Int)) then some false else ((slices_Equal_int64.l0 x0 x1 k 0).bind fun o11 => thn o11 (fun r => some r) (fun _ => some true)))
theorem slices_Equal_int64.calls {k : Nat} {x0 : List Int} {x1 : List Int} {p0 : Value} {p1 : Value} {w : World} (hp0 : RdS kInt w p0 x0) (hp1 : RdS kInt w p1 x1) {r : Bool} (H : slices_Equal_int64.f k x0 x1 = some r) :
  Calls Tryz.prog 116 ([p0, p1] : List Value).toArray w (fun e w_ => ∃ v, e = .returned v ∧ v = (.bool r) ∧ Mem w [] w_ []) := by
 have HM := Mem.start w
 refine calls_run (N := 26) Tryz.func116 rfl rfl rfl rfl ?_
 unfold slices_Equal_int64.f at H
 refine run_seq (run_region rfl (oM rfl (ops_nil (at_then (run_seq (run_seq (run_region rfl (oM rfl (oy rfl (ex_len (d := kInt) (xs := x0) rfl rfl U58 hp0) (oM rfl (oy rfl (ex_len (d := kInt) (xs := x1) rfl rfl U58 hp1) ?_)))))))))))
 refine oy rfl (ex_neq rfl rfl rfl) (ops_nil (at_then (run_cond (b := ((x0.length : Int) != (x1.length : Int))) rfl (fun hb12 => ?_) (fun hb12 => ?_))))
 ·replace H := cond_t hb12 H
  refine run_seq (run_region rfl (oM rfl (ops_nil (at_then (run_ret (at_then_ret ?_))))))
  cases H
  exact at_ret1 rfl rfl ⟨_, rfl, rfl, HM⟩
 ·replace H := cond_f hb12 H
  refine run_skip (at_then ?_)
  obtain ⟨o11, ho13, H⟩ := bind_some H
  refine run_mid (fun ρ_ w_ => Sum.inr () = o11 ∧ ρ_ = [] ∧ Mem w [] w_ []) ?_ ?_
  ·refine run_seq (run_region rfl (oM rfl (oy rfl (ex_len (d := kInt) (xs := x0) rfl rfl U58 hp0) (oM rfl (ops_nil (at_then (run_block ?_)))))))
   refine run_loop (fun k_ ρ_ w_ => ∃ a10 : Int, slices_Equal_int64.l0 x0 x1 k_ a10 = some o11 ∧ ρ_ = [(0, p0), (1, p1), (12, nI (x0.length : Int)), (13, nI a10)] ∧ Mem w [] w_ []) k ⟨_, ho13, rfl, HM⟩ (Sub.of rfl) ?_
   clear HM ho13
   rintro k14 _ w15 ⟨a10, ho13, rfl, HM⟩
   obtain _ | k14 := k14
   ·exact nomatch ((slices_Equal_int64.l0.eq_1 x0 x1 a10).symm.trans ho13)
   replace ho13 := (slices_Equal_int64.l0.eq_2 ..).symm.trans ho13
   refine run_seq (run_region rfl (oy rfl (ex_lss rfl rfl rfl) (ops_nil (at_then (run_seq (run_cond (b := (decide (a10 < (x0.length : Int)))) rfl (fun hb16 => ?_) (fun hb16 => ?_)))))))
   ·replace ho13 := cond_t hb16 ho13
    refine run_skip (at_then (run_seq (run_block (run_seq (run_region rfl (oM rfl (oM rfl (ops_nil (at_then (run_seq ?_))))))))))
    obtain ⟨e17, ho13⟩ := chk_some ho13
    obtain ⟨e18, ho13⟩ := chk_some ho13
    refine run_drawf (fun w_ => Mem w [] w_ []) [(0, true), (1, true), (2, true), (3, true), (4, true), (5, true), (6, true), (7, true), (8, true)] mixed rfl rfl (by kernel_rfl) ?_
    replace HM := HM.grow (fr_drew _)
    have hS := HM.sufN 0 rfl
    refine dp rfl rfl rfl rfl (ex_move rfl rfl) hS (dp rfl rfl rfl rfl (ex_move rfl rfl) hS ?_)
    have hc19 : CellsAt _ (sb p0) (so p0 + (a10).toNat * 1) [(nI (gt x0 a10))] := rd_plain hp0 e17
    refine dp rfl rfl rfl rfl (ex_indexAddr (d := kInt) rfl rfl rfl U58 tsz2 hp0 (idx_lo e17) (idx_hi e17)) hS (drwp_take rfl (guard_none rfl) rfl rfl (fun w_ hS_ => (ex_load1 rfl rfl U2 rfl ((hS_.at_ hc19) 0 _ rfl))) hS (dp rfl rfl rfl rfl (ex_move rfl rfl) hS (dp rfl rfl rfl rfl (ex_move rfl rfl) hS ?_)))
    have hc20 : CellsAt _ (sb p1) (so p1 + (a10).toNat * 1) [(nI (gt x1 a10))] := rd_plain hp1 e18
    refine dp rfl rfl rfl rfl (ex_indexAddr (d := kInt) rfl rfl rfl U58 tsz2 hp1 (idx_lo e18) (idx_hi e18)) hS (drwp_take rfl (guard_none rfl) rfl rfl (fun w_ hS_ => (ex_load1 rfl rfl U2 rfl ((hS_.at_ hc20) 0 _ rfl))) hS (dp rfl rfl rfl rfl (ex_neq rfl rfl rfl) hS (drwp_done (at_then (run_cond (b := ((gt x0 a10) != (gt x1 a10))) rfl (fun hb21 => ?_) (fun hb21 => ?_))))))
    ·replace ho13 := cond_t hb21 ho13
     refine run_seq (run_region rfl (oM rfl (ops_nil (at_then (run_ret (at_block_ret (at_then_ret (at_then_ret (at_block_ret (at_then_ret ?_))))))))))
     cases ho13
     have hT := thn_inl H
     cases hT
     exact at_ret1 rfl rfl ⟨_, rfl, rfl, HM⟩
    ·replace ho13 := cond_f hb21 ho13
     exact run_skip (at_block (at_then (run_region rfl (oy rfl (ex_add rfl rfl rfl) (oM rfl (ops_nil (at_again k14 (Nat.lt_succ_self _) ⟨_, ho13, rfl, HM⟩ (Sub.of rfl))))))))
   ·replace ho13 := cond_f hb16 ho13
    exact run_exit (at_then_exit (at_then_exit (at_block_exit (at_mid ⟨(sj ho13), rfl, HM⟩ Sub.nil))))
  ·rintro _ w22 ⟨rfl, rfl, HM⟩
   replace H := (thn_inr H)
   refine run_seq (run_region rfl (oM rfl (ops_nil (at_then (run_ret ?_)))))
   cases H
   exact at_ret1 rfl rfl ⟨_, rfl, rfl, HM⟩

def impl_SameRules.f (k : Nat) (x0 : Rule) (x1 : Rule) : Option Bool := ((slices_Equal_int64.f k x0.fKeys x1.fKeys).bind fun t10 => some ((t10 && (x0.fNeed == x1.fNeed)) && (x0.fAfter == x1.fAfter)))
theorem impl_SameRules.calls {k : Nat} {x0 : Rule} {x1 : Rule} {p0_0 : Value} {p1_0 : Value} {w : World} (hp0_0 : RdS kInt w p0_0 x0.fKeys) (hp1_0 : RdS kInt w p1_0 x1.fKeys) {r : Bool} (H : impl_SameRules.f k x0 x1 = some r) :
  Calls Tryz.prog 100 ([.agg #[p0_0, (nI x0.fNeed), (nI x0.fAfter)], .agg #[p1_0, (nI x1.fNeed), (nI x1.fAfter)]] : List Value).toArray w (fun e w_ => ∃ v, e = .returned v ∧ v = (.bool r) ∧ Mem w [] w_ []) := by
 have HM := Mem.start w
 refine calls_run (N := 24) Tryz.func100 rfl rfl rfl rfl ?_
 unfold impl_SameRules.f at H
 refine run_seq (run_region rfl (oz rfl (does_box (cs := [p0_0, nI x0.fNeed, nI x0.fAfter]) rfl rfl rfl HM) ?_))
 rintro _ w11 ⟨b12, rfl, HM⟩
 refine oz rfl (does_box (cs := [p1_0, nI x1.fNeed, nI x1.fAfter]) rfl rfl rfl HM) ?_
 rintro _ w13 ⟨b14, rfl, HM⟩
 refine oM rfl (ops_nil (at_then (run_seq ?_)))
 obtain ⟨t10, h15, H⟩ := bind_some H
 refine run_meet (fun ρ_ w_ => ρ_ = [(4, .bool ((t10 && (x0.fNeed == x1.fNeed)) && (x0.fAfter == x1.fAfter)))] ∧ Mem w [] w_ []) ?_ ?_
 ·refine run_region rfl (oy rfl (ex_fieldAddr (off' := 0) rfl rfl U66 rfl tsz58 rfl) (oy rfl (ex_load1 rfl rfl U58 rfl ((HM.box_at 1 rfl) 0 _ rfl)) (oy rfl (ex_fieldAddr (off' := 0) rfl rfl U66 rfl tsz58 rfl) (oy rfl (ex_load1 rfl rfl U58 rfl ((HM.box_at 0 rfl) 0 _ rfl)) (oz rfl (does_callk rfl callok116 rfl (slices_Equal_int64.calls (x0 := x0.fKeys) (x1 := x1.fKeys) (HM.rd hp0_0) (HM.rd hp1_0) h15)) ?_)))))
  rintro _ w16 ⟨rfl, hn⟩
  replace HM := HM.callN hn rfl
  refine oM rfl ?_
  refine bool_cases t10 (fun hg17 => ?_) (fun hg17 => ?_)
  ·refine gn rfl hg17 (ex_fieldAddr (off' := 1) rfl rfl U66 rfl tsz2 rfl) (gn rfl hg17 (ex_load1 rfl rfl U2 rfl ((HM.box_at 1 rfl) 1 _ rfl)) (gn rfl hg17 (ex_fieldAddr (off' := 1) rfl rfl U66 rfl tsz2 rfl) (gn rfl hg17 (ex_load1 rfl rfl U2 rfl ((HM.box_at 0 rfl) 1 _ rfl)) (gn rfl hg17 (ex_eql rfl rfl rfl) (ops_ex (v := .bool (t10 && (x0.fNeed == x1.fNeed))) rfl (guard_none rfl) rfl rfl (ex_pand_t rfl rfl hg17 rfl) (oM rfl ?_))))))
   refine bool_cases (t10 && (x0.fNeed == x1.fNeed)) (fun hg18 => ?_) (fun hg18 => ?_)
   ·refine gn rfl hg18 (ex_fieldAddr (off' := 2) rfl rfl U66 rfl tsz2 rfl) (gn rfl hg18 (ex_load1 rfl rfl U2 rfl ((HM.box_at 1 rfl) 2 _ rfl)) (gn rfl hg18 (ex_fieldAddr (off' := 2) rfl rfl U66 rfl tsz2 rfl) (gn rfl hg18 (ex_load1 rfl rfl U2 rfl ((HM.box_at 0 rfl) 2 _ rfl)) (gn rfl hg18 (ex_eql rfl rfl rfl) (ops_ex (v := .bool ((t10 && (x0.fNeed == x1.fNeed)) && (x0.fAfter == x1.fAfter))) rfl (guard_none rfl) rfl rfl (ex_pand_t rfl rfl hg18 rfl) (oM rfl (ops_nil ?_)))))))
    replace HM := (HM.frd 0 rfl).frd 0 rfl
    exact at_meet _ ⟨rfl, HM⟩ (Sub.of rfl)
   ·refine gf rfl hg18 (gf rfl hg18 (gf rfl hg18 (gf rfl hg18 (gf rfl hg18 ?_))))
    have hg19 : ((t10 && (x0.fNeed == x1.fNeed)) && (x0.fAfter == x1.fAfter)) = false := by simp only [hg18, Bool.and_true, Bool.true_and, Bool.and_false, Bool.false_and, Bool.or_true, Bool.true_or, Bool.or_false, Bool.false_or, Bool.not_true, Bool.not_false, Bool.not_not]
    refine ops_ex (v := .bool ((t10 && (x0.fNeed == x1.fNeed)) && (x0.fAfter == x1.fAfter))) rfl (guard_none rfl) rfl rfl (ex_pand_f rfl rfl hg18) (oM rfl (ops_nil ?_))
    replace HM := (HM.frd 0 rfl).frd 0 rfl
    exact at_meet _ ⟨rfl, HM⟩ (Sub.of rfl)
  ·refine gf rfl hg17 (gf rfl hg17 (gf rfl hg17 (gf rfl hg17 (gf rfl hg17 ?_))))
   have hg20 : (t10 && (x0.fNeed == x1.fNeed)) = false := by simp only [hg17, Bool.and_true, Bool.true_and, Bool.and_false, Bool.false_and, Bool.or_true, Bool.true_or, Bool.or_false, Bool.false_or, Bool.not_true, Bool.not_false, Bool.not_not]
   refine ops_ex (v := .bool (t10 && (x0.fNeed == x1.fNeed))) rfl (guard_none rfl) rfl rfl (ex_pand_f rfl rfl hg17) (oM rfl (gf rfl hg20 (gf rfl hg20 (gf rfl hg20 (gf rfl hg20 (gf rfl hg20 ?_))))))
   have hg21 : ((t10 && (x0.fNeed == x1.fNeed)) && (x0.fAfter == x1.fAfter)) = false := by simp only [hg20, Bool.and_true, Bool.true_and, Bool.and_false, Bool.false_and, Bool.or_true, Bool.true_or, Bool.or_false, Bool.false_or, Bool.not_true, Bool.not_false, Bool.not_not]
   refine ops_ex (v := .bool ((t10 && (x0.fNeed == x1.fNeed)) && (x0.fAfter == x1.fAfter))) rfl (guard_none rfl) rfl rfl (ex_pand_f rfl rfl hg20) (oM rfl (ops_nil ?_))
   replace HM := (HM.frd 0 rfl).frd 0 rfl
   exact at_meet _ ⟨rfl, HM⟩ (Sub.of rfl)
 ·rintro _ w22 ⟨rfl, HM⟩
  refine at_then (run_ret ?_)
  cases H
  exact at_ret1 rfl rfl ⟨_, rfl, rfl, HM⟩

def impl_sameOuts.f (k : Nat) (x0 : Out) (x1 : Out) : Option Bool := ((bif (x0.fValue == x1.fValue) then impl_SameRules.f k x0.fRule x1.fRule else some default).bind fun t10 => some ((x0.fValue == x1.fValue) && t10))
theorem impl_sameOuts.calls {k : Nat} {x0 : Out} {x1 : Out} {p0_0 : Value} {p1_0 : Value} {w : World} (hp0_0 : RdS kInt w p0_0 x0.fRule.fKeys) (hp1_0 : RdS kInt w p1_0 x1.fRule.fKeys) {r : Bool} (H : impl_sameOuts.f k x0 x1 = some r) :
  Calls Tryz.prog 65 ([.agg #[(nI x0.fValue), p0_0, (nI x0.fRule.fNeed), (nI x0.fRule.fAfter)], .agg #[(nI x1.fValue), p1_0, (nI x1.fRule.fNeed), (nI x1.fRule.fAfter)]] : List Value).toArray w (fun e w_ => ∃ v, e = .returned v ∧ v = (.bool r) ∧ Mem w [] w_ []) := by
 have HM := Mem.start w
 refine calls_run (N := 17) Tryz.func65 rfl rfl rfl rfl ?_
 unfold impl_sameOuts.f at H
 refine run_seq (run_region rfl (oz rfl (does_box (cs := [nI x0.fValue, p0_0, nI x0.fRule.fNeed, nI x0.fRule.fAfter]) rfl rfl rfl HM) ?_))
 rintro _ w11 ⟨b12, rfl, HM⟩
 refine oz rfl (does_box (cs := [nI x1.fValue, p1_0, nI x1.fRule.fNeed, nI x1.fRule.fAfter]) rfl rfl rfl HM) ?_
 rintro _ w13 ⟨b14, rfl, HM⟩
 refine oM rfl (ops_nil (at_then (run_seq ?_)))
 obtain ⟨t10, h15, H⟩ := bind_some H
 refine run_meet (fun ρ_ w_ => ρ_ = [(4, .bool ((x0.fValue == x1.fValue) && t10))] ∧ Mem w [] w_ []) ?_ ?_
 ·refine run_region rfl (oy rfl (ex_fieldAddr (off' := 0) rfl rfl U68 rfl tsz2 rfl) (oy rfl (ex_load1 rfl rfl U2 rfl ((HM.box_at 1 rfl) 0 _ rfl)) (oy rfl (ex_fieldAddr (off' := 0) rfl rfl U68 rfl tsz2 rfl) (oy rfl (ex_load1 rfl rfl U2 rfl ((HM.box_at 0 rfl) 0 _ rfl)) (oy rfl (ex_eql rfl rfl rfl) (oM rfl ?_))))))
  refine bool_cases (x0.fValue == x1.fValue) (fun hg16 => ?_) (fun hg16 => ?_)
  ·refine gn rfl hg16 (ex_fieldAddr (off' := 1) rfl rfl U68 rfl tsz66 rfl) (gn rfl hg16 (ldN rfl rfl U66 rfl tsz66 ((HM.box_at 1 rfl).subL 1 3 rfl) rfl) (gn rfl hg16 (ex_fieldAddr (off' := 1) rfl rfl U68 rfl tsz66 rfl) (gn rfl hg16 (ldN rfl rfl U66 rfl tsz66 ((HM.box_at 0 rfl).subL 1 3 rfl) rfl) (ops_does rfl (guard_on rfl rfl rfl hg16) rfl rfl (does_callk rfl callok100 rfl (impl_SameRules.calls (x0 := x0.fRule) (x1 := x1.fRule) (HM.rd hp0_0) (HM.rd hp1_0) (cond_t hg16 h15))) ?_))))
   rintro _ w17 ⟨rfl, hn⟩
   replace HM := HM.callN hn rfl
   refine ops_ex (v := .bool ((x0.fValue == x1.fValue) && t10)) rfl (guard_none rfl) rfl rfl (ex_pand_t rfl rfl hg16 rfl) (oM rfl (ops_nil ?_))
   replace HM := (HM.frd 0 rfl).frd 0 rfl
   exact at_meet _ ⟨rfl, HM⟩ (Sub.of rfl)
  ·refine gf rfl hg16 (gf rfl hg16 (gf rfl hg16 (gf rfl hg16 (gf rfl hg16 ?_))))
   have hg18 : ((x0.fValue == x1.fValue) && t10) = false := by simp only [hg16, Bool.and_true, Bool.true_and, Bool.and_false, Bool.false_and, Bool.or_true, Bool.true_or, Bool.or_false, Bool.false_or, Bool.not_true, Bool.not_false, Bool.not_not]
   refine ops_ex (v := .bool ((x0.fValue == x1.fValue) && t10)) rfl (guard_none rfl) rfl rfl (ex_pand_f rfl rfl hg16) (oM rfl (ops_nil ?_))
   replace HM := (HM.frd 0 rfl).frd 0 rfl
   exact at_meet _ ⟨rfl, HM⟩ (Sub.of rfl)
 ·rintro _ w19 ⟨rfl, HM⟩
  refine at_then (run_ret ?_)
  cases H
  exact at_ret1 rfl rfl ⟨_, rfl, rfl, HM⟩

def impl_areMade.l0 (x2 : List Out) (t10 : List Coin) : Nat → Int → Option (Bool ⊕ Unit)
 | 0, _ => none
 | k + 1, a11 => (bif (decide (a11 < (t10.length : Int))) then (chk (idxOk a11 t10.length) (chk (!(!(((gt t10 a11).fRef.fAt) != a11)) || (idxOk a11 x2.length)) ((bif (!(((gt t10 a11).fRef.fAt) != a11)) then impl_sameOuts.f k ((gt t10 a11).fOut) (gt x2 a11) else some default).bind fun t12 => (bif ((((gt t10 a11).fRef.fAt) != a11) || (!t12)) then some (.inl false) else impl_areMade.l0 x2 t10 k (wrap64 (a11 + 1)))))) else some (.inr ()))
def impl_areMade.f (k : Nat) (x0 : List Coin) (x1 : Int) (x2 : List Out) : Option Bool := ((slices_Clone_impl_Coin.f k x0).bind fun t13 => ((slices_DeleteFunc_Coin.f k t13 x1).bind fun t10 => (bif ((t10.length : Int) != (x2.length : Int)) then some false else ((impl_areMade.l0 x2 t10 k 0).bind fun o14 => thn o14 (fun r => some r) (fun _ => some true)))))
theorem impl_areMade.calls {k : Nat} {x0 : List Coin} {x1 : Int} {x2 : List Out} {p0 : Value} {p2 : Value} {w : World} (hp0 : RdS kCoin w p0 x0) (hp2 : RdS kOut w p2 x2) {r : Bool} (H : impl_areMade.f k x0 x1 x2 = some r) :
  Calls Tryz.prog 56 ([p0, nI x1, p2] : List Value).toArray w (fun e w_ => ∃ v, e = .returned v ∧ v = (.bool r) ∧ Mem w [] w_ []) := by
 have HM := Mem.start w
 refine calls_run (N := 42) Tryz.func56 rfl rfl rfl rfl ?_
 unfold impl_areMade.f at H
 refine run_seq (run_region rfl (oz rfl (does_box (cs := [nI x1]) rfl rfl rfl HM) ?_))
 rintro _ w15 ⟨b16, rfl, HM⟩
 refine oM rfl (ops_nil (at_then (run_seq ?_)))
 obtain ⟨t13, h17, H⟩ := bind_some H
 obtain ⟨t10, h18, H⟩ := bind_some H
 refine run_region rfl (oM rfl ?_)
 obtain ⟨F19, hF20, hFn21, hFl22, HMh23, hcl24⟩ := HM.hideO (Ms := []) (olds_refl _)
 refine oz rfl (does_callk rfl callok93 rfl (slices_Clone_impl_Coin.calls (x0 := x0) HMh23 hF20 hFn21 hFl22 hp0 h17)) ?_
 rintro u25 w26 ⟨_, rfl, hn⟩
 replace HM : Mem w [] w26 [own (Kd.lent w kCoin with1_one) 70 u25 t13, box b16 2 [nI x1]] := hcl24 _ _ hn
 refine oy rfl (ex_func rfl rfl) ?_
 obtain ⟨F27, hF28, hFn29, hFl30, HMh31, hcl32⟩ := HM.hideN 1 rfl
 refine oz rfl (does_callk rfl callok59 rfl (slices_DeleteFunc_Coin.calls (x0 := t13) (x1_0 := x1) (hide_olds _ _) hF28 hFn29 hFl30 (HMh31.box_at 0 rfl) coinK_lent h18)) ?_
 rintro u33 w34 ⟨_, rfl, hn⟩
 replace HM := hcl32 _ _ _ rfl hn
 refine oM rfl (ops_nil ?_)
 replace HM := HM.fr1 1 rfl
 obtain ⟨F35, hF36, hFn37, hFl38, HMh39, hcl40⟩ := HM.hideN 1 rfl
 replace hp0 := (HMh39.rd hp0)
 replace hp2 := (HMh39.rd hp2)
 have hz13 := ((HMh39.own_rd 0 rfl).unlent (HMh39.old))
 have hwo := hide_olds w34 F35
 generalize hideB w34 F35 = wz13263 at *
 have HM := Mem.startX hF36 hFn37 hFl38
 refine at_then (run_seq (run_seq (run_region rfl (oM rfl (oy rfl (ex_len (d := kCoin) (xs := t10) rfl rfl U24 hz13) (oM rfl (oy rfl (ex_len (d := kOut) (xs := x2) rfl rfl U26 hp2) (oy rfl (ex_neq rfl rfl rfl) (ops_nil (at_then ?_))))))))))
 refine run_cond (b := ((t10.length : Int) != (x2.length : Int))) rfl (fun hb41 => ?_) (fun hb41 => ?_)
 ·replace H := cond_t hb41 H
  refine run_seq (run_region rfl (oM rfl (ops_nil (at_then (run_ret (at_then_ret ?_))))))
  replace HM := hcl40 _ _ _ rfl HM
  replace HM := (HM.frd 0 rfl).frd 0 rfl
  cases H
  exact at_ret1 rfl rfl ⟨_, rfl, rfl, HM⟩
 ·replace H := cond_f hb41 H
  refine run_skip (at_then ?_)
  obtain ⟨o14, ho42, H⟩ := bind_some H
  refine run_mid (fun ρ_ w_ => Sum.inr () = o14 ∧ ρ_ = [] ∧ Mem w34 F35 w_ []) ?_ ?_
  ·refine run_seq (run_region rfl (oM rfl (oy rfl (ex_len (d := kCoin) (xs := t10) rfl rfl U24 hz13) (oM rfl (ops_nil (at_then (run_block ?_)))))))
   replace HM := HM.frd 0 rfl
   refine run_loop (fun k_ ρ_ w_ => ∃ a11 : Int, impl_areMade.l0 x2 t10 k_ a11 = some o14 ∧ ρ_ = [(2, p2), (19, u33), (20, nI (t10.length : Int)), (21, nI a11)] ∧ Mem w34 F35 w_ []) k ⟨_, ho42, rfl, HM⟩ (Sub.of rfl) ?_
   clear HM ho42
   rintro k43 _ w44 ⟨a11, ho42, rfl, HM⟩
   obtain _ | k43 := k43
   ·exact nomatch ((impl_areMade.l0.eq_1 x2 t10 a11).symm.trans ho42)
   replace ho42 := (impl_areMade.l0.eq_2 ..).symm.trans ho42
   refine run_seq (run_region rfl (oy rfl (ex_lss rfl rfl rfl) (ops_nil (at_then (run_seq (run_cond (b := (decide (a11 < (t10.length : Int)))) rfl (fun hb45 => ?_) (fun hb45 => ?_)))))))
   ·replace ho42 := cond_t hb45 ho42
    refine run_skip (at_then (run_seq (run_block (run_seq ?_))))
    obtain ⟨e46, ho42⟩ := chk_some ho42
    refine run_region rfl (oM rfl ?_)
    obtain ⟨kv47, hc48, hk49⟩ := rd_with1 hz13 e46
    refine oy rfl (ex_indexAddr (d := kCoin) rfl rfl rfl U24 tsz70 hz13 (idx_lo e46) (idx_hi e46)) (oy rfl (ldN rfl rfl U70 rfl tsz70 ((HM.ato hwo hc48).subL 0 8 rfl) rfl) (oz rfl (does_alloc (cs := [nI 0, nI 0, nI 0, .slice none 0 0, nI 0, nI 0, nI 0, .bool false]) rfl tz70 rfl HM) ?_))
    rintro _ w50 ⟨b51, rfl, HM⟩
    refine oM rfl (odS rfl rfl rfl (does_store (vs := [nI ((gt t10 a11).fRef.fTx), nI ((gt t10 a11).fRef.fAt), nI ((gt t10 a11).fOut.fValue), kv47, nI ((gt t10 a11).fOut.fRule.fNeed), nI ((gt t10 a11).fOut.fRule.fAfter), nI ((gt t10 a11).fHeight), .bool ((gt t10 a11).fMined)]) (cs' := [nI ((gt t10 a11).fRef.fTx), nI ((gt t10 a11).fRef.fAt), nI ((gt t10 a11).fOut.fValue), kv47, nI ((gt t10 a11).fOut.fRule.fNeed), nI ((gt t10 a11).fOut.fRule.fAfter), nI ((gt t10 a11).fHeight), .bool ((gt t10 a11).fMined)]) rfl rfl rfl rfl tsz70 (Ones.int (Ones.int (Ones.int (Ones.rd hk49 (Ones.int (Ones.int (Ones.int (Ones.bool Ones.nil)))))))) rfl rfl HM) ?_)
    rintro w52 HM
    refine ops_nil (at_then (run_seq ?_))
    obtain ⟨e53, ho42⟩ := chk_some ho42
    obtain ⟨t12, h54, ho42⟩ := bind_some ho42
    refine run_meet (fun ρ_ w_ => ρ_ = [(2, p2), (19, u33), (20, nI (t10.length : Int)), (21, nI a11), (40, .bool ((((gt t10 a11).fRef.fAt) != a11) || (!t12)))] ∧ Mem w34 F35 w_ []) ?_ ?_
    ·refine run_drawf (fun w_ => Mem w34 F35 w_ [box b51 70 [nI ((gt t10 a11).fRef.fTx), nI ((gt t10 a11).fRef.fAt), nI ((gt t10 a11).fOut.fValue), kv47, nI ((gt t10 a11).fOut.fRule.fNeed), nI ((gt t10 a11).fOut.fRule.fAfter), nI ((gt t10 a11).fHeight), .bool ((gt t10 a11).fMined)]]) [(0, true), (1, true), (2, true), (3, true), (4, true), (5, true), (6, true), (7, true), (8, true), (9, true), (10, true), (11, true), (12, false), (13, true), (14, true)] mixed rfl rfl (by kernel_rfl) ?_
     replace HM := HM.grow (fr_drew _)
     have hS := HM.sufN 0 rfl
     refine dp rfl rfl rfl rfl (ex_fieldAddr (off' := 0) rfl rfl U70 rfl tsz38 rfl) hS (dp rfl rfl rfl rfl (ex_fieldAddr (off' := 1) rfl rfl U38 rfl tsz2 rfl) hS (drwp_take rfl (guard_none rfl) rfl rfl (fun w_ hS_ => (ex_load1 rfl rfl U2 rfl ((hS_.box_at 0 rfl) 1 _ rfl))) hS (dp rfl rfl rfl rfl (ex_move rfl rfl) hS (dp rfl rfl rfl rfl (ex_neq rfl rfl rfl) hS (dp rfl rfl rfl rfl (ex_move rfl rfl) hS ?_)))))
     refine bool_cases (((gt t10 a11).fRef.fAt) != a11) (fun hg55 => ?_) (fun hg55 => ?_)
     ·refine drwp_off rfl (guard_off rfl rfl rfl hg55) rfl rfl hS (drwp_off rfl (guard_off rfl rfl rfl hg55) rfl rfl hS (drwp_off rfl (guard_off rfl rfl rfl hg55) rfl rfl hS (drwp_off rfl (guard_off rfl rfl rfl hg55) rfl rfl hS (drwp_off rfl (guard_off rfl rfl rfl hg55) rfl rfl hS (drwp_off rfl (guard_off rfl rfl rfl hg55) rfl rfl hS (drwp_off1 rfl (guard_off rfl rfl rfl hg55) rfl rfl ⟨hS, (drwp_off rfl (guard_off rfl rfl rfl hg55) rfl rfl hS ?_)⟩))))))
      have hg56 : ((((gt t10 a11).fRef.fAt) != a11) || (!t12)) = true := by simp only [hg55, Bool.and_true, Bool.true_and, Bool.and_false, Bool.false_and, Bool.or_true, Bool.true_or, Bool.or_false, Bool.false_or, Bool.not_true, Bool.not_false, Bool.not_not]
      refine drwp_take (v := .bool ((((gt t10 a11).fRef.fAt) != a11) || (!t12))) rfl (guard_none rfl) rfl rfl (fun w_ hS_ => (ex_por_t rfl rfl hg55)) hS (drwp_done ?_)
      replace HM := HM.frd 0 rfl
      exact at_meet _ ⟨rfl, HM⟩ (Sub.of rfl)
     ·refine drwp_take rfl (guard_on rfl rfl rfl hg55) rfl rfl (fun w_ hS_ => (ex_fieldAddr (off' := 2) rfl rfl U70 rfl tsz68 rfl)) hS (drwp_take rfl (guard_on rfl rfl rfl hg55) rfl rfl (fun w_ hS_ => (ldN rfl rfl U68 rfl tsz68 ((hS_.box_at 0 rfl).subL 2 4 rfl) rfl)) hS (drwp_take rfl (guard_on rfl rfl rfl hg55) rfl rfl (fun w_ hS_ => (ex_move rfl rfl)) hS (drwp_take rfl (guard_on rfl rfl rfl hg55) rfl rfl (fun w_ hS_ => (ex_move rfl rfl)) hS ?_)))
      obtain ⟨kv57, hc58, hk59⟩ := rd_with1 hp2 (or_t e53 (not_mk hg55))
      refine drwp_take rfl (guard_on rfl rfl rfl hg55) rfl rfl (fun w_ hS_ => (ex_indexAddr (d := kOut) rfl rfl rfl U26 tsz68 hp2 (idx_lo (or_t e53 (not_mk hg55))) (idx_hi (or_t e53 (not_mk hg55))))) hS (drwp_take rfl (guard_on rfl rfl rfl hg55) rfl rfl (fun w_ hS_ => (ldN rfl rfl U68 rfl tsz68 ((hS_.ato hwo hc58).subL 0 4 rfl) rfl)) hS (drwp_one rfl (guard_on rfl rfl rfl hg55) rfl rfl (does_callk rfl callok65 rfl (impl_sameOuts.calls (x0 := (gt t10 a11).fOut) (x1 := (gt x2 a11)) (HM.rdo hwo hk49) (HM.rdo hwo hk59) (cond_t (not_mk hg55) h54))) ?_))
      rintro _ w60 ⟨rfl, hn⟩
      replace HM := HM.callN hn rfl
      have hS := HM.sufN 0 rfl
      refine ⟨hS, (drwp_take rfl (guard_on rfl rfl rfl hg55) rfl rfl (fun w_ hS_ => (ex_not rfl rfl)) hS (drwp_take (v := .bool ((((gt t10 a11).fRef.fAt) != a11) || (!t12))) rfl (guard_none rfl) rfl rfl (fun w_ hS_ => (ex_por_f rfl rfl hg55 rfl)) hS (drwp_done ?_)))⟩
      replace HM := HM.frd 0 rfl
      exact at_meet _ ⟨rfl, HM⟩ (Sub.of rfl)
    ·rintro _ w61 ⟨rfl, HM⟩
     refine at_then (run_cond (b := ((((gt t10 a11).fRef.fAt) != a11) || (!t12))) rfl (fun hb62 => ?_) (fun hb62 => ?_))
     ·replace ho42 := cond_t hb62 ho42
      refine run_seq (run_region rfl (oM rfl (ops_nil (at_then (run_ret (at_block_ret (at_then_ret (at_then_ret (at_block_ret (at_then_ret ?_))))))))))
      replace HM := hcl40 _ _ _ rfl HM
      replace HM := HM.frd 0 rfl
      cases ho42
      have hT := thn_inl H
      cases hT
      exact at_ret1 rfl rfl ⟨_, rfl, rfl, HM⟩
     ·replace ho42 := cond_f hb62 ho42
      exact run_skip (at_block (at_then (run_region rfl (oy rfl (ex_add rfl rfl rfl) (oM rfl (ops_nil (at_again k43 (Nat.lt_succ_self _) ⟨_, ho42, rfl, HM⟩ (Sub.of rfl))))))))
   ·replace ho42 := cond_f hb45 ho42
    exact run_exit (at_then_exit (at_then_exit (at_block_exit (at_mid ⟨(sj ho42), rfl, HM⟩ Sub.nil))))
  ·rintro _ w63 ⟨rfl, rfl, HM⟩
   replace H := (thn_inr H)
   refine run_seq (run_region rfl (oM rfl (ops_nil (at_then (run_ret ?_)))))
   replace HM := hcl40 _ _ _ rfl HM
   replace HM := HM.frd 0 rfl
   cases H
   exact at_ret1 rfl rfl ⟨_, rfl, rfl, HM⟩
end Go.Proofs.YtecgbhfgkkpmhacGreat.Zk
