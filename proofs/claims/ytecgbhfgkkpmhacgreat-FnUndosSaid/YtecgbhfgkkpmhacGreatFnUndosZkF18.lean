/- What functions of the program compute, each as a plain function, and that they do. Conditions: as each theorem states them. -/
import Derived.Test.YtecgbhfgkkpmhacGreatFnUndosZkF17
namespace Go.Proofs.YtecgbhfgkkpmhacGreat.Zk
open Go Go.RowKit Go.IntWalk Go.Proofs
set_option linter.unusedVariables false
set_option linter.unusedSimpArgs false
set_option maxRecDepth 100000
set_option maxHeartbeats 4000000
def impl_CoinAt.f (k : Nat) (x0 : List Coin) (x1 : Ref) : Option CoinsResult := ((impl_CoinsFault.f k x0).bind fun t10 => (bif (t10 != 0) then some (⟨t10, ([] : List Coin)⟩ : CoinsResult) else ((impl_findCoin.f k x0 x1).bind fun t11 => (bif !t11.2 then some (⟨4, ([] : List Coin)⟩ : CoinsResult) else (chk (cutOk (wrap64 (t11.1 + 1)) x0.length) (chk (cutOk t11.1 (wrap64 (t11.1 + 1)).toNat) ((impl_ownCoins.f k ((x0.take (wrap64 (t11.1 + 1)).toNat).drop (t11.1).toNat)).bind fun t12 => some (⟨0, t12⟩ : CoinsResult))))))))
theorem impl_CoinAt.calls {k : Nat} {x0 : List Coin} {x1 : Ref} {p0 : Value} {w : World} (hp0 : RdS kCoin w p0 x0) {r : CoinsResult} (H : impl_CoinAt.f k x0 x1 = some r) :
  Calls Tryz.prog 10 ([p0, .agg #[(nI x1.fTx), (nI x1.fAt)]] : List Value).toArray w (fun e w_ => ∃ v, e = .returned v ∧ ∃ u0 : Value, v = (.agg #[nI r.fCode, u0]) ∧ Mem w [] w_ [own kCoin 70 u0 r.fCoins]) := by
 have HM := Mem.start w
 refine calls_run (N := 30) Tryz.func10 rfl rfl rfl rfl ?_
 unfold impl_CoinAt.f at H
 refine run_seq (run_region rfl (oz rfl (does_box (cs := [nI x1.fTx, nI x1.fAt]) rfl rfl rfl HM) ?_))
 rintro _ w13 ⟨b14, rfl, HM⟩
 refine oz rfl (does_alloc (cs := [nI 0, .slice none 0 0]) rfl tz32 rfl HM) ?_
 rintro _ w15 ⟨b16, rfl, HM⟩
 refine ops_nil (at_then (run_seq (run_seq ?_)))
 obtain ⟨t10, h17, H⟩ := bind_some H
 refine run_region rfl (oM rfl (oz rfl (does_callk rfl callok12 rfl (impl_CoinsFault.calls (x0 := x0) (HM.rd hp0) h17)) ?_))
 rintro _ w18 ⟨rfl, hn⟩
 replace HM := HM.callN hn rfl
 refine oM rfl (ops_nil (at_then (run_seq (run_region rfl (oM rfl (oy rfl (ex_neq rfl rfl rfl) (ops_nil (at_then (run_cond (b := (t10 != 0)) rfl (fun hb19 => ?_) (fun hb19 => ?_))))))))))
 ·replace H := cond_t hb19 H
  refine run_seq (run_region rfl (oM rfl (oy rfl (ex_build (cells := #[(nI t10), (.slice none 0 0)]) rfl rfl (by kernel_rfl)) ?_)))
  refine odS rfl rfl rfl (does_store (vs := [nI t10, .slice none 0 0]) (cs' := [nI t10, .slice none 0 0]) rfl rfl rfl rfl tsz32 (Ones.int (Ones.sl Ones.nil)) rfl rfl HM) ?_
  rintro w20 HM
  refine ops_nil (at_then (run_ret (at_then_ret ?_)))
  replace HM := ((HM.empty kCoin 70 none).frd 2 rfl).fr1 1 rfl
  have hcb0 := HM.box_at 0 rfl
  replace HM := HM.frd 0 rfl
  cases H
  exact at_retN rfl rfl U32 rfl tsz32 rfl hcb0 ⟨_, rfl, _, rfl, HM⟩
 ·replace H := cond_f hb19 H
  refine run_skip (at_then (run_seq ?_))
  obtain ⟨t11, h21, H⟩ := bind_some H
  refine run_region rfl (oM rfl (oy rfl (ldN rfl rfl U38 rfl tsz38 ((HM.box_at 1 rfl).subL 0 2 rfl) rfl) (oz rfl (does_callk rfl callok25 rfl (impl_findCoin.calls (x0 := x0) (x1 := x1) (HM.rd hp0) h21)) ?_)))
  rintro _ w22 ⟨rfl, hn⟩
  replace HM := HM.callN hn rfl
  refine oM rfl (oy rfl (ex_extract rfl rfl rfl) (oy rfl (ex_extract rfl rfl rfl) (oM rfl (oM rfl (ops_nil (at_then (run_seq (run_seq (run_region rfl (oM rfl (oy rfl (ex_not rfl rfl) ?_)))))))))))
  refine ops_nil (at_then (run_cond (b := !t11.2) rfl (fun hb23 => ?_) (fun hb23 => ?_)))
  ·replace H := cond_t hb23 H
   refine run_seq (run_region rfl (oy rfl (ex_build (cells := #[(nI 4), (.slice none 0 0)]) rfl rfl (by kernel_rfl)) ?_))
   refine odS rfl rfl rfl (does_store (vs := [nI 4, .slice none 0 0]) (cs' := [nI 4, .slice none 0 0]) rfl rfl rfl rfl tsz32 (Ones.int (Ones.sl Ones.nil)) rfl rfl HM) ?_
   rintro w24 HM
   refine ops_nil (at_then (run_ret (at_then_ret ?_)))
   replace HM := ((HM.empty kCoin 70 none).frd 2 rfl).fr1 1 rfl
   have hcb0 := HM.box_at 0 rfl
   replace HM := HM.frd 0 rfl
   cases H
   exact at_retN rfl rfl U32 rfl tsz32 rfl hcb0 ⟨_, rfl, _, rfl, HM⟩
  ·replace H := cond_f hb23 H
   refine run_skip (at_then (run_seq ?_))
   obtain ⟨e25, H⟩ := chk_some H
   obtain ⟨e26, H⟩ := chk_some H
   obtain ⟨t12, h27, H⟩ := bind_some H
   refine run_region rfl (oM rfl (oM rfl (oM rfl (oy rfl (ex_add rfl rfl rfl) (ops_exE rfl (guard_none rfl) rfl rfl (ex_cutLH kCoin rfl rfl rfl rfl U24 tsz70 hp0 e26 e25) ?_)))))
   rintro u28 hr29
   refine oz rfl (does_callk rfl callok26 rfl (impl_ownCoins.calls (x0 := (x0.take (wrap64 (t11.1 + 1)).toNat).drop (t11.1).toNat) (HM.rd hr29) h27)) ?_
   rintro u30 w31 ⟨_, rfl, hn⟩
   replace HM := HM.callN hn rfl
   refine oy rfl (ex_build1 (fun u30 => [(1, u30)]) (fun u30 => #[nI 0, u30]) rfl rfl (fun _ _ _ => by kernel_rfl) (HM.own_rd 0 rfl).isSl) ?_
   replace HM := HM.fr1 1 rfl
   refine odS rfl rfl rfl (does_store (vs := [nI 0, u30]) (cs' := [nI 0, u30]) rfl rfl rfl rfl tsz32 (Ones.int (Ones.rd (HM.own_rd 1 rfl) Ones.nil)) rfl rfl HM) ?_
   rintro w32 HM
   refine ops_nil (at_then (run_ret ?_))
   replace HM := HM.frd 2 rfl
   have hcb0 := HM.box_at 0 rfl
   replace HM := HM.frd 0 rfl
   cases H
   exact at_retN rfl rfl U32 rfl tsz32 rfl hcb0 ⟨_, rfl, _, rfl, HM⟩

def impl_sameCoin.f (k : Nat) (x0 : Coin) (x1 : Coin) : Option Bool := ((bif ((x0.fRef.fTx == x1.fRef.fTx) && (x0.fRef.fAt == x1.fRef.fAt)) then impl_sameOuts.f k x0.fOut x1.fOut else some default).bind fun t10 => some (((((x0.fRef.fTx == x1.fRef.fTx) && (x0.fRef.fAt == x1.fRef.fAt)) && t10) && (x0.fHeight == x1.fHeight)) && (x0.fMined == x1.fMined)))
theorem impl_sameCoin.calls {k : Nat} {x0 : Coin} {x1 : Coin} {p0_0 : Value} {p1_0 : Value} {w : World} (hp0_0 : RdS kInt w p0_0 x0.fOut.fRule.fKeys) (hp1_0 : RdS kInt w p1_0 x1.fOut.fRule.fKeys) {r : Bool} (H : impl_sameCoin.f k x0 x1 = some r) :
  Calls Tryz.prog 28 ([.agg #[(nI x0.fRef.fTx), (nI x0.fRef.fAt), (nI x0.fOut.fValue), p0_0, (nI x0.fOut.fRule.fNeed), (nI x0.fOut.fRule.fAfter), (nI x0.fHeight), (.bool x0.fMined)], .agg #[(nI x1.fRef.fTx), (nI x1.fRef.fAt), (nI x1.fOut.fValue), p1_0, (nI x1.fOut.fRule.fNeed), (nI x1.fOut.fRule.fAfter), (nI x1.fHeight), (.bool x1.fMined)]] : List Value).toArray w (fun e w_ => ∃ v, e = .returned v ∧ v = (.bool r) ∧ Mem w [] w_ []) := by
 have HM := Mem.start w
 refine calls_run (N := 31) Tryz.func28 rfl rfl rfl rfl ?_
 unfold impl_sameCoin.f at H
 refine run_seq (run_region rfl (oz rfl (does_box (cs := [nI x0.fRef.fTx, nI x0.fRef.fAt, nI x0.fOut.fValue, p0_0, nI x0.fOut.fRule.fNeed, nI x0.fOut.fRule.fAfter, nI x0.fHeight, .bool x0.fMined]) rfl rfl rfl HM) ?_))
 rintro _ w11 ⟨b12, rfl, HM⟩
 refine oz rfl (does_box (cs := [nI x1.fRef.fTx, nI x1.fRef.fAt, nI x1.fOut.fValue, p1_0, nI x1.fOut.fRule.fNeed, nI x1.fOut.fRule.fAfter, nI x1.fHeight, .bool x1.fMined]) rfl rfl rfl HM) ?_
 rintro _ w13 ⟨b14, rfl, HM⟩
 refine oM rfl (ops_nil (at_then (run_seq ?_)))
 obtain ⟨t10, h15, H⟩ := bind_some H
 refine run_meet (fun ρ_ w_ => ρ_ = [(4, .bool (((((x0.fRef.fTx == x1.fRef.fTx) && (x0.fRef.fAt == x1.fRef.fAt)) && t10) && (x0.fHeight == x1.fHeight)) && (x0.fMined == x1.fMined)))] ∧ Mem w [] w_ []) ?_ ?_
 ·refine run_region rfl (oy rfl (ex_fieldAddr (off' := 0) rfl rfl U70 rfl tsz38 rfl) (oy rfl (ldN rfl rfl U38 rfl tsz38 ((HM.box_at 1 rfl).subL 0 2 rfl) rfl) (oy rfl (ex_fieldAddr (off' := 0) rfl rfl U70 rfl tsz38 rfl) (oy rfl (ldN rfl rfl U38 rfl tsz38 ((HM.box_at 0 rfl).subL 0 2 rfl) rfl) (oy rfl (ex_aeql rfl rfl rfl (by kernel_rfl) (eqs38 _ _ _ _ _)) ?_)))))
  refine oM rfl ?_
  refine bool_cases ((x0.fRef.fTx == x1.fRef.fTx) && (x0.fRef.fAt == x1.fRef.fAt)) (fun hg16 => ?_) (fun hg16 => ?_)
  ·refine gn rfl hg16 (ex_fieldAddr (off' := 2) rfl rfl U70 rfl tsz68 rfl) (gn rfl hg16 (ldN rfl rfl U68 rfl tsz68 ((HM.box_at 1 rfl).subL 2 4 rfl) rfl) (gn rfl hg16 (ex_fieldAddr (off' := 2) rfl rfl U70 rfl tsz68 rfl) (gn rfl hg16 (ldN rfl rfl U68 rfl tsz68 ((HM.box_at 0 rfl).subL 2 4 rfl) rfl) (ops_does rfl (guard_on rfl rfl rfl hg16) rfl rfl (does_callk rfl callok65 rfl (impl_sameOuts.calls (x0 := x0.fOut) (x1 := x1.fOut) (HM.rd hp0_0) (HM.rd hp1_0) (cond_t hg16 h15))) ?_))))
   rintro _ w17 ⟨rfl, hn⟩
   replace HM := HM.callN hn rfl
   refine ops_ex (v := .bool (((x0.fRef.fTx == x1.fRef.fTx) && (x0.fRef.fAt == x1.fRef.fAt)) && t10)) rfl (guard_none rfl) rfl rfl (ex_pand_t rfl rfl hg16 rfl) (oM rfl ?_)
   refine bool_cases (((x0.fRef.fTx == x1.fRef.fTx) && (x0.fRef.fAt == x1.fRef.fAt)) && t10) (fun hg18 => ?_) (fun hg18 => ?_)
   ·refine gn rfl hg18 (ex_fieldAddr (off' := 6) rfl rfl U70 rfl tsz2 rfl) (gn rfl hg18 (ex_load1 rfl rfl U2 rfl ((HM.box_at 1 rfl) 6 _ rfl)) (gn rfl hg18 (ex_fieldAddr (off' := 6) rfl rfl U70 rfl tsz2 rfl) (gn rfl hg18 (ex_load1 rfl rfl U2 rfl ((HM.box_at 0 rfl) 6 _ rfl)) (gn rfl hg18 (ex_eql rfl rfl rfl) (ops_ex (v := .bool ((((x0.fRef.fTx == x1.fRef.fTx) && (x0.fRef.fAt == x1.fRef.fAt)) && t10) && (x0.fHeight == x1.fHeight))) rfl (guard_none rfl) rfl rfl (ex_pand_t rfl rfl hg18 rfl) (oM rfl ?_))))))
    refine bool_cases ((((x0.fRef.fTx == x1.fRef.fTx) && (x0.fRef.fAt == x1.fRef.fAt)) && t10) && (x0.fHeight == x1.fHeight)) (fun hg19 => ?_) (fun hg19 => ?_)
    ·refine gn rfl hg19 (ex_fieldAddr (off' := 7) rfl rfl U70 rfl tsz4 rfl) (gn rfl hg19 (ex_load1 rfl rfl U4 rfl ((HM.box_at 1 rfl) 7 _ rfl)) (gn rfl hg19 (ex_fieldAddr (off' := 7) rfl rfl U70 rfl tsz4 rfl) (gn rfl hg19 (ex_load1 rfl rfl U4 rfl ((HM.box_at 0 rfl) 7 _ rfl)) (gn rfl hg19 (ex_beql rfl rfl rfl U4) (ops_ex (v := .bool (((((x0.fRef.fTx == x1.fRef.fTx) && (x0.fRef.fAt == x1.fRef.fAt)) && t10) && (x0.fHeight == x1.fHeight)) && (x0.fMined == x1.fMined))) rfl (guard_none rfl) rfl rfl (ex_pand_t rfl rfl hg19 rfl) (oM rfl (ops_nil ?_)))))))
     replace HM := (HM.frd 0 rfl).frd 0 rfl
     exact at_meet _ ⟨rfl, HM⟩ (Sub.of rfl)
    ·refine gf rfl hg19 (gf rfl hg19 (gf rfl hg19 (gf rfl hg19 (gf rfl hg19 ?_))))
     have hg20 : (((((x0.fRef.fTx == x1.fRef.fTx) && (x0.fRef.fAt == x1.fRef.fAt)) && t10) && (x0.fHeight == x1.fHeight)) && (x0.fMined == x1.fMined)) = false := by simp only [hg19, Bool.and_true, Bool.true_and, Bool.and_false, Bool.false_and, Bool.or_true, Bool.true_or, Bool.or_false, Bool.false_or, Bool.not_true, Bool.not_false, Bool.not_not]
     refine ops_ex (v := .bool (((((x0.fRef.fTx == x1.fRef.fTx) && (x0.fRef.fAt == x1.fRef.fAt)) && t10) && (x0.fHeight == x1.fHeight)) && (x0.fMined == x1.fMined))) rfl (guard_none rfl) rfl rfl (ex_pand_f rfl rfl hg19) (oM rfl (ops_nil ?_))
     replace HM := (HM.frd 0 rfl).frd 0 rfl
     exact at_meet _ ⟨rfl, HM⟩ (Sub.of rfl)
   ·refine gf rfl hg18 (gf rfl hg18 (gf rfl hg18 (gf rfl hg18 (gf rfl hg18 ?_))))
    have hg21 : ((((x0.fRef.fTx == x1.fRef.fTx) && (x0.fRef.fAt == x1.fRef.fAt)) && t10) && (x0.fHeight == x1.fHeight)) = false := by simp only [hg18, Bool.and_true, Bool.true_and, Bool.and_false, Bool.false_and, Bool.or_true, Bool.true_or, Bool.or_false, Bool.false_or, Bool.not_true, Bool.not_false, Bool.not_not]
    refine ops_ex (v := .bool ((((x0.fRef.fTx == x1.fRef.fTx) && (x0.fRef.fAt == x1.fRef.fAt)) && t10) && (x0.fHeight == x1.fHeight))) rfl (guard_none rfl) rfl rfl (ex_pand_f rfl rfl hg18) (oM rfl (gf rfl hg21 (gf rfl hg21 (gf rfl hg21 (gf rfl hg21 (gf rfl hg21 ?_))))))
    have hg22 : (((((x0.fRef.fTx == x1.fRef.fTx) && (x0.fRef.fAt == x1.fRef.fAt)) && t10) && (x0.fHeight == x1.fHeight)) && (x0.fMined == x1.fMined)) = false := by simp only [hg21, Bool.and_true, Bool.true_and, Bool.and_false, Bool.false_and, Bool.or_true, Bool.true_or, Bool.or_false, Bool.false_or, Bool.not_true, Bool.not_false, Bool.not_not]
    refine ops_ex (v := .bool (((((x0.fRef.fTx == x1.fRef.fTx) && (x0.fRef.fAt == x1.fRef.fAt)) && t10) && (x0.fHeight == x1.fHeight)) && (x0.fMined == x1.fMined))) rfl (guard_none rfl) rfl rfl (ex_pand_f rfl rfl hg21) (oM rfl (ops_nil ?_))
    replace HM := (HM.frd 0 rfl).frd 0 rfl
    exact at_meet _ ⟨rfl, HM⟩ (Sub.of rfl)
  ·refine gf rfl hg16 (gf rfl hg16 (gf rfl hg16 (gf rfl hg16 (gf rfl hg16 ?_))))
   have hg23 : (((x0.fRef.fTx == x1.fRef.fTx) && (x0.fRef.fAt == x1.fRef.fAt)) && t10) = false := by simp only [hg16, Bool.and_true, Bool.true_and, Bool.and_false, Bool.false_and, Bool.or_true, Bool.true_or, Bool.or_false, Bool.false_or, Bool.not_true, Bool.not_false, Bool.not_not]
   refine ops_ex (v := .bool (((x0.fRef.fTx == x1.fRef.fTx) && (x0.fRef.fAt == x1.fRef.fAt)) && t10)) rfl (guard_none rfl) rfl rfl (ex_pand_f rfl rfl hg16) (oM rfl (gf rfl hg23 (gf rfl hg23 (gf rfl hg23 (gf rfl hg23 (gf rfl hg23 ?_))))))
   have hg24 : ((((x0.fRef.fTx == x1.fRef.fTx) && (x0.fRef.fAt == x1.fRef.fAt)) && t10) && (x0.fHeight == x1.fHeight)) = false := by simp only [hg23, Bool.and_true, Bool.true_and, Bool.and_false, Bool.false_and, Bool.or_true, Bool.true_or, Bool.or_false, Bool.false_or, Bool.not_true, Bool.not_false, Bool.not_not]
   refine ops_ex (v := .bool ((((x0.fRef.fTx == x1.fRef.fTx) && (x0.fRef.fAt == x1.fRef.fAt)) && t10) && (x0.fHeight == x1.fHeight))) rfl (guard_none rfl) rfl rfl (ex_pand_f rfl rfl hg23) (oM rfl (gf rfl hg24 (gf rfl hg24 (gf rfl hg24 (gf rfl hg24 (gf rfl hg24 ?_))))))
   have hg25 : (((((x0.fRef.fTx == x1.fRef.fTx) && (x0.fRef.fAt == x1.fRef.fAt)) && t10) && (x0.fHeight == x1.fHeight)) && (x0.fMined == x1.fMined)) = false := by simp only [hg24, Bool.and_true, Bool.true_and, Bool.and_false, Bool.false_and, Bool.or_true, Bool.true_or, Bool.or_false, Bool.false_or, Bool.not_true, Bool.not_false, Bool.not_not]
   refine ops_ex (v := .bool (((((x0.fRef.fTx == x1.fRef.fTx) && (x0.fRef.fAt == x1.fRef.fAt)) && t10) && (x0.fHeight == x1.fHeight)) && (x0.fMined == x1.fMined))) rfl (guard_none rfl) rfl rfl (ex_pand_f rfl rfl hg24) (oM rfl (ops_nil ?_))
   replace HM := (HM.frd 0 rfl).frd 0 rfl
   exact at_meet _ ⟨rfl, HM⟩ (Sub.of rfl)
 ·rintro _ w26 ⟨rfl, HM⟩
  refine at_then (run_ret ?_)
  cases H
  exact at_ret1 rfl rfl ⟨_, rfl, rfl, HM⟩

def slices_EqualFunc_impl_Coin.l0 (x0 : List Coin) (x1 : List Coin) : Nat → Int → Option (Bool ⊕ Unit)
 | 0, _ => none
 | k + 1, a10 => (bif (decide (a10 < (x0.length : Int))) then (chk (idxOk a10 x0.length) (chk (idxOk a10 x1.length) ((impl_sameCoin.f k (gt x0 a10) (gt x1 a10)).bind fun t11 => (bif !t11 then some (.inl false) else slices_EqualFunc_impl_Coin.l0 x0 x1 k (wrap64 (a10 + 1)))))) else some (.inr ()))
def slices_EqualFunc_impl_Coin.f (k : Nat) (x0 : List Coin) (x1 : List Coin) : Option Bool := (bif ((x0.length : Int) != (x1.length : Int)) then some false else ((slices_EqualFunc_impl_Coin.l0 x0 x1 k 0).bind fun o12 => thn o12 (fun r => some r) (fun _ => some true)))
theorem slices_EqualFunc_impl_Coin.calls {k : Nat} {x0 : List Coin} {x1 : List Coin} {p0 : Value} {p1 : Value} {w : World} (hp0 : RdS kCoin w p0 x0) (hp1 : RdS kCoin w p1 x1) {r : Bool} (H : slices_EqualFunc_impl_Coin.f k x0 x1 = some r) :
  Calls Tryz.prog 27 ([p0, p1, .func (.func 28) #[] #[]] : List Value).toArray w (fun e w_ => ∃ v, e = .returned v ∧ v = (.bool r) ∧ Mem w [] w_ []) := by
 have HM := Mem.start w
 refine calls_run (N := 32) Tryz.func27 rfl rfl rfl rfl ?_
 unfold slices_EqualFunc_impl_Coin.f at H
 refine run_seq (run_region rfl (oM rfl (ops_nil (at_then (run_seq (run_seq (run_region rfl (oM rfl (oy rfl (ex_len (d := kCoin) (xs := x0) rfl rfl U24 hp0) (oM rfl (oy rfl (ex_len (d := kCoin) (xs := x1) rfl rfl U24 hp1) ?_)))))))))))
 refine oy rfl (ex_neq rfl rfl rfl) (ops_nil (at_then (run_cond (b := ((x0.length : Int) != (x1.length : Int))) rfl (fun hb13 => ?_) (fun hb13 => ?_))))
 ·replace H := cond_t hb13 H
  refine run_seq (run_region rfl (oM rfl (ops_nil (at_then (run_ret (at_then_ret ?_))))))
  cases H
  exact at_ret1 rfl rfl ⟨_, rfl, rfl, HM⟩
 ·replace H := cond_f hb13 H
  refine run_skip (at_then ?_)
  obtain ⟨o12, ho14, H⟩ := bind_some H
  refine run_mid (fun ρ_ w_ => Sum.inr () = o12 ∧ ρ_ = [] ∧ Mem w [] w_ []) ?_ ?_
  ·refine run_seq (run_region rfl (oM rfl (oy rfl (ex_len (d := kCoin) (xs := x0) rfl rfl U24 hp0) (oM rfl (ops_nil (at_then (run_block ?_)))))))
   refine run_loop (fun k_ ρ_ w_ => ∃ a10 : Int, slices_EqualFunc_impl_Coin.l0 x0 x1 k_ a10 = some o12 ∧ ρ_ = [(1, p1), (2, .func (.func 28) #[] #[]), (15, p0), (16, nI (x0.length : Int)), (17, nI a10)] ∧ Mem w [] w_ []) k ⟨_, ho14, rfl, HM⟩ (Sub.of rfl) ?_
   clear HM ho14
   rintro k15 _ w16 ⟨a10, ho14, rfl, HM⟩
   obtain _ | k15 := k15
   ·exact nomatch ((slices_EqualFunc_impl_Coin.l0.eq_1 x0 x1 a10).symm.trans ho14)
   replace ho14 := (slices_EqualFunc_impl_Coin.l0.eq_2 ..).symm.trans ho14
   refine run_seq (run_region rfl (oy rfl (ex_lss rfl rfl rfl) (ops_nil (at_then (run_seq (run_cond (b := (decide (a10 < (x0.length : Int)))) rfl (fun hb17 => ?_) (fun hb17 => ?_)))))))
   ·replace ho14 := cond_t hb17 ho14
    refine run_skip (at_then (run_seq (run_block (run_seq ?_))))
    obtain ⟨e18, ho14⟩ := chk_some ho14
    refine run_region rfl (oM rfl ?_)
    obtain ⟨kv19, hc20, hk21⟩ := rd_with1 hp0 e18
    refine oy rfl (ex_indexAddr (d := kCoin) rfl rfl rfl U24 tsz70 hp0 (idx_lo e18) (idx_hi e18)) (oy rfl (ldN rfl rfl U70 rfl tsz70 ((HM.at_ hc20).subL 0 8 rfl) rfl) (oz rfl (does_alloc (cs := [nI 0, nI 0, nI 0, .slice none 0 0, nI 0, nI 0, nI 0, .bool false]) rfl tz70 rfl HM) ?_))
    rintro _ w22 ⟨b23, rfl, HM⟩
    refine oM rfl (odS rfl rfl rfl (does_store (vs := [nI ((gt x0 a10).fRef.fTx), nI ((gt x0 a10).fRef.fAt), nI ((gt x0 a10).fOut.fValue), kv19, nI ((gt x0 a10).fOut.fRule.fNeed), nI ((gt x0 a10).fOut.fRule.fAfter), nI ((gt x0 a10).fHeight), .bool ((gt x0 a10).fMined)]) (cs' := [nI ((gt x0 a10).fRef.fTx), nI ((gt x0 a10).fRef.fAt), nI ((gt x0 a10).fOut.fValue), kv19, nI ((gt x0 a10).fOut.fRule.fNeed), nI ((gt x0 a10).fOut.fRule.fAfter), nI ((gt x0 a10).fHeight), .bool ((gt x0 a10).fMined)]) rfl rfl rfl rfl tsz70 (Ones.int (Ones.int (Ones.int (Ones.rd hk21 (Ones.int (Ones.int (Ones.int (Ones.bool Ones.nil)))))))) rfl rfl HM) ?_)
    rintro w24 HM
    refine ops_nil (at_then (run_seq ?_))
    obtain ⟨e25, ho14⟩ := chk_some ho14
    refine run_region rfl (oM rfl (oM rfl ?_))
    obtain ⟨kv26, hc27, hk28⟩ := rd_with1 hp1 e25
    refine oy rfl (ex_indexAddr (d := kCoin) rfl rfl rfl U24 tsz70 hp1 (idx_lo e25) (idx_hi e25)) (oy rfl (ldN rfl rfl U70 rfl tsz70 ((HM.at_ hc27).subL 0 8 rfl) rfl) (oz rfl (does_alloc (cs := [nI 0, nI 0, nI 0, .slice none 0 0, nI 0, nI 0, nI 0, .bool false]) rfl tz70 rfl HM) ?_))
    rintro _ w29 ⟨b30, rfl, HM⟩
    refine odS rfl rfl rfl (does_store (vs := [nI ((gt x1 a10).fRef.fTx), nI ((gt x1 a10).fRef.fAt), nI ((gt x1 a10).fOut.fValue), kv26, nI ((gt x1 a10).fOut.fRule.fNeed), nI ((gt x1 a10).fOut.fRule.fAfter), nI ((gt x1 a10).fHeight), .bool ((gt x1 a10).fMined)]) (cs' := [nI ((gt x1 a10).fRef.fTx), nI ((gt x1 a10).fRef.fAt), nI ((gt x1 a10).fOut.fValue), kv26, nI ((gt x1 a10).fOut.fRule.fNeed), nI ((gt x1 a10).fOut.fRule.fAfter), nI ((gt x1 a10).fHeight), .bool ((gt x1 a10).fMined)]) rfl rfl rfl rfl tsz70 (Ones.int (Ones.int (Ones.int (Ones.rd hk28 (Ones.int (Ones.int (Ones.int (Ones.bool Ones.nil)))))))) rfl rfl HM) ?_
    rintro w31 HM
    refine ops_nil (at_then (run_seq ?_))
    obtain ⟨t11, h32, ho14⟩ := bind_some ho14
    refine run_region rfl (oM rfl (oy rfl (ldN rfl rfl U70 rfl tsz70 ((HM.box_at 1 rfl).subL 0 8 rfl) rfl) (oy rfl (ldN rfl rfl U70 rfl tsz70 ((HM.box_at 0 rfl).subL 0 8 rfl) rfl) (oz rfl (does_callvk rfl callok28 rfl rfl rfl (impl_sameCoin.calls (x0 := (gt x0 a10)) (x1 := (gt x1 a10)) (HM.rd hk21) (HM.rd hk28) h32)) ?_))))
    rintro _ w33 ⟨rfl, hn⟩
    replace HM := HM.callN hn rfl
    refine oy rfl (ex_not rfl rfl) (ops_nil (at_then (run_cond (b := !t11) rfl (fun hb34 => ?_) (fun hb34 => ?_))))
    ·replace ho14 := cond_t hb34 ho14
     refine run_seq (run_region rfl (oM rfl (ops_nil (at_then (run_ret (at_block_ret (at_then_ret (at_then_ret (at_block_ret (at_then_ret ?_))))))))))
     replace HM := (HM.frd 0 rfl).frd 0 rfl
     cases ho14
     have hT := thn_inl H
     cases hT
     exact at_ret1 rfl rfl ⟨_, rfl, rfl, HM⟩
    ·replace ho14 := cond_f hb34 ho14
     refine run_skip (at_block (at_then (run_region rfl (oy rfl (ex_add rfl rfl rfl) (oM rfl (ops_nil ?_))))))
     replace HM := (HM.frd 0 rfl).frd 0 rfl
     exact at_again k15 (Nat.lt_succ_self _) ⟨_, ho14, rfl, HM⟩ (Sub.of rfl)
   ·replace ho14 := cond_f hb17 ho14
    exact run_exit (at_then_exit (at_then_exit (at_block_exit (at_mid ⟨(sj ho14), rfl, HM⟩ Sub.nil))))
  ·rintro _ w35 ⟨rfl, rfl, HM⟩
   replace H := (thn_inr H)
   refine run_seq (run_region rfl (oM rfl (ops_nil (at_then (run_ret ?_)))))
   cases H
   exact at_ret1 rfl rfl ⟨_, rfl, rfl, HM⟩

def impl_SameCoins.f (k : Nat) (x0 : List Coin) (x1 : List Coin) : Option Bool := ((slices_EqualFunc_impl_Coin.f k x0 x1).bind fun t10 => some t10)
theorem impl_SameCoins.calls {k : Nat} {x0 : List Coin} {x1 : List Coin} {p0 : Value} {p1 : Value} {w : World} (hp0 : RdS kCoin w p0 x0) (hp1 : RdS kCoin w p1 x1) {r : Bool} (H : impl_SameCoins.f k x0 x1 = some r) :
  Calls Tryz.prog 11 ([p0, p1] : List Value).toArray w (fun e w_ => ∃ v, e = .returned v ∧ v = (.bool r) ∧ Mem w [] w_ []) := by
 have HM := Mem.start w
 refine calls_run (N := 8) Tryz.func11 rfl rfl rfl rfl ?_
 unfold impl_SameCoins.f at H
 refine run_seq (run_region rfl (oM rfl (ops_nil (at_then (run_seq ?_)))))
 obtain ⟨t10, h11, H⟩ := bind_some H
 refine run_region rfl (oM rfl (oM rfl (oz rfl (does_callk rfl callok27 rfl (slices_EqualFunc_impl_Coin.calls (x0 := x0) (x1 := x1) (HM.rd hp0) (HM.rd hp1) h11)) ?_)))
 rintro _ w12 ⟨rfl, hn⟩
 replace HM := HM.callN hn rfl
 refine oM rfl (ops_nil (at_then (run_ret ?_)))
 cases H
 exact at_ret1 rfl rfl ⟨_, rfl, rfl, HM⟩

def laws_FnUndos.l0 (t10 : (List Coin) × Tx × Int × Int) (t11 : CoinsResult) : Nat → Int → Option (Bool ⊕ Unit)
 | 0, _ => none
 | k + 1, a12 => (bif (decide (a12 < (t10.2.1.fIns.length : Int))) then (chk (idxOk a12 t10.2.1.fIns.length) ((impl_CoinAt.f k t11.fCoins (gt t10.2.1.fIns a12)).bind fun t13 => (bif (t13.fCode != 4) then some (.inl false) else laws_FnUndos.l0 t10 t11 k (wrap64 (a12 + 1))))) else some (.inr ()))
def laws_FnUndos.f (k : Nat) (x0 : List Int) : Option Bool := ((laws_lwBig.f k x0).bind fun t14 => (bif t14 then some true else ((spec_DrawSpendTx.f k x0).bind fun t10 => ((impl_SpendTx.f k t10.1 (⟨t10.2.1.fKind, t10.2.1.fMember, t10.2.1.fIns, t10.2.1.fOuts⟩ : Tx) t10.2.2.1 t10.2.2.2).bind fun t11 => (bif (t11.fCode != 0) then ((spec_SpendTx.f k t10.1 (⟨t10.2.1.fKind, t10.2.1.fMember, t10.2.1.fIns, t10.2.1.fOuts⟩ : Tx) t10.2.2.1 t10.2.2.2).bind fun t15 => some (t15.fCode == t11.fCode)) else ((impl_SpentBy.f k t10.1 (⟨t10.2.1.fKind, t10.2.1.fMember, t10.2.1.fIns, t10.2.1.fOuts⟩ : Tx)).bind fun t16 => ((impl_UndoTx.f k t11.fCoins (⟨t10.2.1.fKind, t10.2.1.fMember, t10.2.1.fIns, t10.2.1.fOuts⟩ : Tx) t10.2.2.1 t16.fCoins).bind fun t17 => ((laws_FnUndos.l0 t10 t11 k 0).bind fun o18 => thn o18 (fun r => some r) (fun _ => ((bif (t17.fCode == 0) then impl_SameCoins.f k t17.fCoins t10.1 else some default).bind fun t19 => ((bif ((t17.fCode == 0) && t19) then impl_CoinsFault.f k t11.fCoins else some default).bind fun t20 => ((bif (((t17.fCode == 0) && t19) && (t20 == 0)) then impl_SpendTx.f k t11.fCoins (⟨t10.2.1.fKind, t10.2.1.fMember, t10.2.1.fIns, t10.2.1.fOuts⟩ : Tx) t10.2.2.1 t10.2.2.2 else some default).bind fun t21 => some ((((t17.fCode == 0) && t19) && (t20 == 0)) && (t21.fCode != 0))))))))))))))
theorem laws_FnUndos.calls {k : Nat} {x0 : List Int} {p0 : Value} {w : World} (hp0 : RdS kU8 w p0 x0) {r : Bool} (H : laws_FnUndos.f k x0 = some r) :
  Calls Tryz.prog 3 ([p0] : List Value).toArray w (fun e w_ => ∃ v, e = .returned v ∧ v = (.bool r) ∧ Mem w [] w_ []) := by
 have HM := Mem.start w
 refine calls_run (N := 87) Tryz.func3 rfl rfl rfl rfl ?_
 unfold laws_FnUndos.f at H
 refine run_seq (run_region rfl (oM rfl (ops_nil (at_then (run_seq (run_seq ?_))))))
 obtain ⟨t14, h22, H⟩ := bind_some H
 refine run_region rfl (oM rfl (oz rfl (does_callk rfl callok4 rfl (laws_lwBig.calls (x0 := x0) (HM.rd hp0) h22)) ?_))
 rintro _ w23 ⟨rfl, hn⟩
 replace HM := HM.callN hn rfl
 refine ops_nil (at_then (run_cond (b := t14) rfl (fun hb24 => ?_) (fun hb24 => ?_)))
 ·replace H := cond_t hb24 H
  refine run_seq (run_region rfl (oM rfl (ops_nil (at_then (run_ret (at_then_ret ?_))))))
  cases H
  exact at_ret1 rfl rfl ⟨_, rfl, rfl, HM⟩
 ·replace H := cond_f hb24 H
  refine run_skip (at_then (run_seq ?_))
  obtain ⟨t10, h25, H⟩ := bind_some H
  refine run_region rfl (oM rfl (oz rfl (does_callk rfl callok5 rfl (spec_DrawSpendTx.calls (x0 := x0) (HM.rd hp0) h25)) ?_))
  rintro _ w26 ⟨u27, u28, u29, rfl, hn⟩
  replace HM := HM.callN hn rfl
  refine oM rfl (oy rfl (ex_extract rfl rfl rfl) (oy rfl (ex_extract rfl rfl rfl) (oy rfl (ex_extract rfl rfl rfl) (oy rfl (ex_extract rfl rfl rfl) (oz rfl (does_alloc (cs := [nI 0, nI 0, .slice none 0 0, .slice none 0 0]) rfl tz28 rfl HM) ?_)))))
  rintro _ w30 ⟨b31, rfl, HM⟩
  refine oM rfl (odS rfl rfl rfl (does_store (vs := [nI t10.2.1.fKind, nI t10.2.1.fMember, u28, u29]) (cs' := [nI t10.2.1.fKind, nI t10.2.1.fMember, u28, u29]) rfl rfl rfl rfl tsz28 (Ones.int (Ones.int (Ones.rd (HM.own_rd 2 rfl) (Ones.rd (HM.own_rd 3 rfl) Ones.nil)))) rfl rfl HM) ?_)
  rintro w32 HM
  refine oM rfl (oM rfl (ops_nil (at_then (run_seq ?_))))
  obtain ⟨t11, h33, H⟩ := bind_some H
  refine run_region rfl (oM rfl (oy rfl (ldN rfl rfl U28 rfl tsz28 ((HM.box_at 0 rfl).subL 0 4 rfl) rfl) (oM rfl (oM rfl (oz rfl (does_callk rfl callok6 rfl (impl_SpendTx.calls (x0 := t10.1) (x1 := (⟨t10.2.1.fKind, t10.2.1.fMember, t10.2.1.fIns, t10.2.1.fOuts⟩ : Tx)) (x2 := t10.2.2.1) (x3 := t10.2.2.2) (HM.fro_rd 1 rfl) (HM.own_rd 2 rfl) (HM.own_rd 3 rfl) h33)) ?_)))))
  rintro _ w34 ⟨u35, rfl, hn⟩
  replace HM := HM.callN hn rfl
  refine oz rfl (does_alloc (cs := [nI 0, .slice none 0 0]) rfl tz32 rfl HM) ?_
  rintro _ w36 ⟨b37, rfl, HM⟩
  refine odS rfl rfl rfl (does_store (vs := [nI t11.fCode, u35]) (cs' := [nI t11.fCode, u35]) rfl rfl rfl rfl tsz32 (Ones.int (Ones.rd (HM.own_rd 1 rfl) Ones.nil)) rfl rfl HM) ?_
  rintro w38 HM
  refine ops_nil (at_then (run_seq (run_seq (run_region rfl (oy rfl (ex_fieldAddr (off' := 0) rfl rfl U32 rfl tsz2 rfl) (oy rfl (ex_load1 rfl rfl U2 rfl ((HM.box_at 0 rfl) 0 _ rfl)) (oy rfl (ex_neq rfl rfl rfl) (ops_nil (at_then (run_cond (b := (t11.fCode != 0)) rfl (fun hb39 => ?_) (fun hb39 => ?_)))))))))))
  ·replace H := cond_t hb39 H
   refine run_seq ?_
   obtain ⟨t15, h40, H⟩ := bind_some H
   refine run_drawf (fun w_ => Mem w [] w_ [box b37 32 [nI t11.fCode, u35], own kCoin 70 u35 t11.fCoins, box b31 28 [nI t10.2.1.fKind, nI t10.2.1.fMember, u28, u29], fro kCoin u27 t10.1, own kRef 38 u28 t10.2.1.fIns, own kOut 68 u29 t10.2.1.fOuts]) [(0, true), (1, true), (2, true), (3, true), (6, true), (7, true), (4, false), (5, true), (8, true), (9, true)] mixed rfl rfl (by kernel_rfl) ?_
   replace HM := HM.grow (fr_drew _)
   have hS := HM.sufN 0 rfl
   refine dp rfl rfl rfl rfl (ex_move rfl rfl) hS (drwp_take rfl (guard_none rfl) rfl rfl (fun w_ hS_ => (ldN rfl rfl U28 rfl tsz28 ((hS_.box_at 2 rfl).subL 0 4 rfl) rfl)) hS (dp rfl rfl rfl rfl (ex_move rfl rfl) hS (dp rfl rfl rfl rfl (ex_move rfl rfl) hS (dp rfl rfl rfl rfl (ex_fieldAddr (off' := 0) rfl rfl U32 rfl tsz2 rfl) hS (drwp_take rfl (guard_none rfl) rfl rfl (fun w_ hS_ => (ex_load1 rfl rfl U2 rfl ((hS_.box_at 0 rfl) 0 _ rfl))) hS (drwp_one rfl (guard_none rfl) rfl rfl (does_callk rfl callok7 rfl (spec_SpendTx.calls (x0 := t10.1) (x1 := (⟨t10.2.1.fKind, t10.2.1.fMember, t10.2.1.fIns, t10.2.1.fOuts⟩ : Tx)) (x2 := t10.2.2.1) (x3 := t10.2.2.2) (HM.fro_rd 3 rfl) (HM.own_rd 4 rfl) (HM.own_rd 5 rfl) h40)) ?_))))))
   rintro _ w41 ⟨u42, rfl, hn⟩
   replace HM := HM.callN hn rfl
   have hS := HM.sufN 1 rfl
   refine ⟨hS, (dp rfl rfl rfl rfl (ex_field1 rfl rfl U32 rfl U2 rfl rfl) hS (dp rfl rfl rfl rfl (ex_eql rfl rfl rfl) hS (dp rfl rfl rfl rfl (ex_assign rfl rfl) hS (drwp_done (at_then (run_ret (at_then_ret ?_)))))))⟩
   replace HM := ((HM.frd 0 rfl).frd 0 rfl).frd 0 rfl
   replace HM := ((HM.frd 0 rfl).frd 0 rfl).frd 0 rfl
   replace HM := HM.frd 0 rfl
   cases H
   exact at_ret1 rfl rfl ⟨_, rfl, rfl, HM⟩
  ·replace H := cond_f hb39 H
   refine run_skip (at_then (run_seq ?_))
   obtain ⟨t16, h43, H⟩ := bind_some H
   obtain ⟨t17, h44, H⟩ := bind_some H
   refine run_meet (fun ρ_ w_ => ∃ u45 : Value, ∃ b46 : Nat, ρ_ = [(4, pA b31 0), (3, u27), (5, nI t10.2.2.1), (6, nI t10.2.2.2), (7, pA b37 0), (8, pA b46 0)] ∧ Mem w [] w_ [box b31 28 [nI t10.2.1.fKind, nI t10.2.1.fMember, u28, u29], own kRef 38 u28 t10.2.1.fIns, own kOut 68 u29 t10.2.1.fOuts, fro kCoin u27 t10.1, box b37 32 [nI t11.fCode, u35], own kCoin 70 u35 t11.fCoins, box b46 32 [nI t17.fCode, u45], own kCoin 70 u45 t17.fCoins]) ?_ ?_
   ·refine run_draw (fun w_ => Mem w [] w_ [box b37 32 [nI t11.fCode, u35], own kCoin 70 u35 t11.fCoins, box b31 28 [nI t10.2.1.fKind, nI t10.2.1.fMember, u28, u29], fro kCoin u27 t10.1, own kRef 38 u28 t10.2.1.fIns, own kOut 68 u29 t10.2.1.fOuts]) mixed rfl (l := #[false, false, false, false, false, false, false, false, false, false, false]) rfl ?_
    replace HM := HM.grow (fr_drew _)
    have hS := HM.sufN 0 rfl
    refine drw_cut3 (l' := #[true, true, true, true, true, true, true, true, true, true, false]) (f' := 1) (fun (u47 : Value) => fun (u45 : Value) => fun (b46 : Nat) => [(4, pA b31 0), (3, u27), (5, nI t10.2.2.1), (6, nI t10.2.2.2), (7, pA b37 0), (44, .agg #[(nI t17.fCode), u45]), (8, pA b46 0)]) (fun (u47 : Value) => fun (u45 : Value) => fun (b46 : Nat) => fun w_ => Mem w [] w_ [box b46 32 [nI 0, .slice none 0 0], own kCoin 70 u45 t17.fCoins, own kCoin 70 u47 t16.fCoins, box b37 32 [nI t11.fCode, u35], own kCoin 70 u35 t11.fCoins, box b31 28 [nI t10.2.1.fKind, nI t10.2.1.fMember, u28, u29], fro kCoin u27 t10.1, own kRef 38 u28 t10.2.1.fIns, own kOut 68 u29 t10.2.1.fOuts]) ?_ (fun K48 => ?_)
    ·rintro u47 u45 b46 w49 HM
     have hS := HM.sufN 3 rfl
     refine drw_any [10] (by kernel_rfl) rfl (.cons ?_ .nil)
     refine br_doesS (l' := #[true, true, true, true, true, true, true, true, true, true, true]) rfl (guard_none rfl) rfl (by kernel_rfl) (does_store (vs := [nI t17.fCode, u45]) (cs' := [nI t17.fCode, u45]) rfl rfl rfl rfl tsz32 (Ones.int (Ones.rd (HM.own_rd 1 rfl) Ones.nil)) rfl rfl HM) ?_
     rintro w50 HM
     have hS := HM.sufN 3 rfl
     refine ⟨hS, (drw_done (by kernel_rfl) ?_)⟩
     replace HM := ((HM.frd 2 rfl).fr1 1 rfl).fr1 1 rfl
     replace HM := ((HM.fr1 3 rfl).fr1 3 rfl).fr1 5 rfl
     replace HM := ((HM.fr1 7 rfl).fr1 7 rfl).fr1 7 rfl
     exact at_meet _ ⟨_, _, rfl, HM⟩ (Sub.of rfl)
    refine drw_cut2 (l' := #[true, true, true, true, true, true, true, true, false, true, false]) (f' := 2) (fun (u47 : Value) => fun (b46 : Nat) => [(4, pA b31 0), (3, u27), (5, nI t10.2.2.1), (6, nI t10.2.2.2), (7, pA b37 0), (37, u35), (38, .agg #[(nI t10.2.1.fKind), (nI t10.2.1.fMember), u28, u29]), (39, nI t10.2.2.1), (43, u47), (8, pA b46 0)]) (fun (u47 : Value) => fun (b46 : Nat) => fun w_ => Mem w [] w_ [box b46 32 [nI 0, .slice none 0 0], own kCoin 70 u47 t16.fCoins, box b37 32 [nI t11.fCode, u35], own kCoin 70 u35 t11.fCoins, box b31 28 [nI t10.2.1.fKind, nI t10.2.1.fMember, u28, u29], fro kCoin u27 t10.1, own kRef 38 u28 t10.2.1.fIns, own kOut 68 u29 t10.2.1.fOuts]) ?_ (fun K51 => ?_)
    ·rintro u47 b46 w52 HM
     have hS := HM.sufN 2 rfl
     refine drw_any [8] (by kernel_rfl) rfl (.cons ?_ .nil)
     refine br_does (l' := #[true, true, true, true, true, true, true, true, true, true, false]) rfl (guard_none rfl) rfl rfl (by kernel_rfl) (does_callk rfl callok8 rfl (impl_UndoTx.calls (x0 := t11.fCoins) (x1 := (⟨t10.2.1.fKind, t10.2.1.fMember, t10.2.1.fIns, t10.2.1.fOuts⟩ : Tx)) (x2 := t10.2.2.1) (x3 := t16.fCoins) (HM.own_rd 3 rfl) (HM.own_rd 6 rfl) (HM.own_rd 7 rfl) (HM.own_rd 1 rfl) h44)) ?_
     rintro _ w53 ⟨u45, rfl, hn⟩
     replace HM := HM.callN hn rfl
     have hS := HM.sufN 3 rfl
     refine ⟨hS, ?_⟩
     replace HM := ((HM.fr1 8 rfl).fr1 8 rfl).fr1 8 rfl
     replace HM := ((HM.fr1 8 rfl).fr1 8 rfl).fr1 8 rfl
     replace HM := ((HM.fr1 8 rfl).fr1 7 rfl).fr1 8 rfl
     exact drw_sub (K48 u47 u45 b46 _ HM) (Sub.of rfl)
    refine dt 0 #[true, false, false, false, false, false, false, false, false, false, false] rfl rfl rfl rfl (by kernel_rfl) (ex_fieldAddr (off' := 1) rfl rfl U32 rfl tsz24 rfl) hS ?_
    refine drw_take (i := 1) (l' := #[true, true, false, false, false, false, false, false, false, false, false]) rfl (guard_none rfl) rfl rfl (by kernel_rfl) (fun w_ hS_ => (ex_load1 rfl rfl U24 rfl ((hS_.box_at 0 rfl) 1 _ rfl))) hS ?_
    refine drw_take (i := 2) (l' := #[true, true, true, false, false, false, false, false, false, false, false]) rfl (guard_none rfl) rfl rfl (by kernel_rfl) (fun w_ hS_ => (ldN rfl rfl U28 rfl tsz28 ((hS_.box_at 2 rfl).subL 0 4 rfl) rfl)) hS ?_
    refine dt 3 #[true, true, true, true, false, false, false, false, false, false, false] rfl rfl rfl rfl (by kernel_rfl) (ex_move rfl rfl) hS ?_
    refine dt 4 #[true, true, true, true, true, false, false, false, false, false, false] rfl rfl rfl rfl (by kernel_rfl) (ex_move rfl rfl) hS ?_
    refine drw_take (i := 5) (l' := #[true, true, true, true, true, true, false, false, false, false, false]) rfl (guard_none rfl) rfl rfl (by kernel_rfl) (fun w_ hS_ => (ldN rfl rfl U28 rfl tsz28 ((hS_.box_at 2 rfl).subL 0 4 rfl) rfl)) hS ?_
    refine drw_any [6, 9] (by kernel_rfl) rfl (.cons ?_ (.cons ?_ .nil))
    ·refine br_does (l' := #[true, true, true, true, true, true, true, false, false, false, false]) rfl (guard_none rfl) rfl rfl (by kernel_rfl) (does_callk rfl callok9 rfl (impl_SpentBy.calls (x0 := t10.1) (x1 := (⟨t10.2.1.fKind, t10.2.1.fMember, t10.2.1.fIns, t10.2.1.fOuts⟩ : Tx)) (HM.fro_rd 3 rfl) (HM.own_rd 4 rfl) (HM.own_rd 5 rfl) h43)) ?_
     rintro _ w54 ⟨u47, rfl, hn⟩
     replace HM := HM.callN hn rfl
     have hS := HM.sufN 1 rfl
     refine ⟨hS, (dt 7 #[true, true, true, true, true, true, true, true, false, false, false] rfl rfl rfl rfl (by kernel_rfl) (ex_field1 rfl rfl U32 rfl U24 rfl rfl) hS ?_)⟩
     refine drw_any [8, 9] (by kernel_rfl) rfl (.cons ?_ (.cons ?_ .nil))
     ·refine br_does (l' := #[true, true, true, true, true, true, true, true, true, false, false]) rfl (guard_none rfl) rfl rfl (by kernel_rfl) (does_callk rfl callok8 rfl (impl_UndoTx.calls (x0 := t11.fCoins) (x1 := (⟨t10.2.1.fKind, t10.2.1.fMember, t10.2.1.fIns, t10.2.1.fOuts⟩ : Tx)) (x2 := t10.2.2.1) (x3 := t16.fCoins) (HM.own_rd 2 rfl) (HM.own_rd 5 rfl) (HM.own_rd 6 rfl) (HM.own_rd 0 rfl) h44)) ?_
      rintro _ w55 ⟨u45, rfl, hn⟩
      replace HM := HM.callN hn rfl
      have hS := HM.sufN 2 rfl
      refine ⟨hS, (drw_any [9] (by kernel_rfl) rfl (.cons ?_ .nil))⟩
      refine br_does (l' := #[true, true, true, true, true, true, true, true, true, true, false]) rfl (guard_none rfl) rfl rfl (by kernel_rfl) (does_alloc (cs := [nI 0, .slice none 0 0]) rfl tz32 rfl HM) ?_
      rintro _ w56 ⟨b46, rfl, HM⟩
      have hS := HM.sufN 3 rfl
      exact ⟨hS, (drw_sub (K48 u47 u45 b46 _ HM) (Sub.of rfl))⟩
     ·refine br_does (l' := #[true, true, true, true, true, true, true, true, false, true, false]) rfl (guard_none rfl) rfl rfl (by kernel_rfl) (does_alloc (cs := [nI 0, .slice none 0 0]) rfl tz32 rfl HM) ?_
      rintro _ w57 ⟨b46, rfl, HM⟩
      have hS := HM.sufN 2 rfl
      exact ⟨hS, (drw_sub (K51 u47 b46 _ HM) (Sub.of rfl))⟩
    ·refine br_does (l' := #[true, true, true, true, true, true, false, false, false, true, false]) rfl (guard_none rfl) rfl rfl (by kernel_rfl) (does_alloc (cs := [nI 0, .slice none 0 0]) rfl tz32 rfl HM) ?_
     rintro _ w58 ⟨b46, rfl, HM⟩
     have hS := HM.sufN 1 rfl
     refine ⟨hS, (drw_any [6] (by kernel_rfl) rfl (.cons ?_ .nil))⟩
     refine br_does (l' := #[true, true, true, true, true, true, true, false, false, true, false]) rfl (guard_none rfl) rfl rfl (by kernel_rfl) (does_callk rfl callok9 rfl (impl_SpentBy.calls (x0 := t10.1) (x1 := (⟨t10.2.1.fKind, t10.2.1.fMember, t10.2.1.fIns, t10.2.1.fOuts⟩ : Tx)) (HM.fro_rd 4 rfl) (HM.own_rd 5 rfl) (HM.own_rd 6 rfl) h43)) ?_
     rintro _ w59 ⟨u47, rfl, hn⟩
     replace HM := HM.callN hn rfl
     have hS := HM.sufN 2 rfl
     refine ⟨hS, (dt 7 #[true, true, true, true, true, true, true, true, false, true, false] rfl rfl rfl rfl (by kernel_rfl) (ex_field1 rfl rfl U32 rfl U24 rfl rfl) hS ?_)⟩
     replace HM := ((HM.fr1 7 rfl).fr1 7 rfl).fr1 7 rfl
     replace HM := ((HM.fr1 7 rfl).fr1 7 rfl).fr1 7 rfl
     replace HM := (HM.fr1 6 rfl).fr1 7 rfl
     exact drw_sub (K51 u47 b46 _ HM) (Sub.of rfl)
   ·rintro _ w60 ⟨u45, b46, rfl, HM⟩
    refine at_then ?_
    obtain ⟨o18, ho61, H⟩ := bind_some H
    refine run_mid (fun ρ_ w_ => Sum.inr () = o18 ∧ ρ_ = [(4, pA b31 0), (3, u27), (5, nI t10.2.2.1), (6, nI t10.2.2.2), (7, pA b37 0), (8, pA b46 0)] ∧ Mem w [] w_ [box b31 28 [nI t10.2.1.fKind, nI t10.2.1.fMember, u28, u29], own kRef 38 u28 t10.2.1.fIns, own kOut 68 u29 t10.2.1.fOuts, fro kCoin u27 t10.1, box b37 32 [nI t11.fCode, u35], own kCoin 70 u35 t11.fCoins, box b46 32 [nI t17.fCode, u45], own kCoin 70 u45 t17.fCoins]) ?_ ?_
    ·refine run_seq (run_region rfl (oM rfl (ops_nil (at_then (run_block ?_)))))
     refine run_loop (fun k_ ρ_ w_ => ∃ a12 : Int, laws_FnUndos.l0 t10 t11 k_ a12 = some o18 ∧ ρ_ = [(4, pA b31 0), (3, u27), (5, nI t10.2.2.1), (6, nI t10.2.2.2), (7, pA b37 0), (8, pA b46 0), (9, nI a12)] ∧ Mem w [] w_ [box b31 28 [nI t10.2.1.fKind, nI t10.2.1.fMember, u28, u29], own kRef 38 u28 t10.2.1.fIns, own kOut 68 u29 t10.2.1.fOuts, fro kCoin u27 t10.1, box b37 32 [nI t11.fCode, u35], own kCoin 70 u35 t11.fCoins, box b46 32 [nI t17.fCode, u45], own kCoin 70 u45 t17.fCoins]) k ⟨_, ho61, rfl, HM⟩ (Sub.of rfl) ?_
     clear HM ho61
     rintro k62 _ w63 ⟨a12, ho61, rfl, HM⟩
     obtain _ | k62 := k62
     ·exact nomatch ((laws_FnUndos.l0.eq_1 t10 t11 a12).symm.trans ho61)
     replace ho61 := (laws_FnUndos.l0.eq_2 ..).symm.trans ho61
     refine run_seq (run_seq (run_region rfl (oM rfl (oy rfl (ex_fieldAddr (off' := 2) rfl rfl U28 rfl tsz25 rfl) (oy rfl (ex_load1 rfl rfl U25 rfl ((HM.box_at 0 rfl) 2 _ rfl)) (oy rfl (ex_len (d := kRef) (xs := t10.2.1.fIns) rfl rfl U25 (HM.own_rd 1 rfl)) (oy rfl (ex_lss rfl rfl rfl) (ops_nil (at_then (run_cond (b := (decide (a12 < (t10.2.1.fIns.length : Int)))) rfl (fun hb64 => ?_) (fun hb64 => ?_)))))))))))
     ·replace ho61 := cond_t hb64 ho61
      refine run_skip (at_then (run_seq (run_block (run_seq ?_))))
      obtain ⟨e65, ho61⟩ := chk_some ho61
      obtain ⟨t13, h66, ho61⟩ := bind_some ho61
      refine run_drawf (fun w_ => Mem w [] w_ [box b31 28 [nI t10.2.1.fKind, nI t10.2.1.fMember, u28, u29], own kRef 38 u28 t10.2.1.fIns, own kOut 68 u29 t10.2.1.fOuts, fro kCoin u27 t10.1, box b37 32 [nI t11.fCode, u35], own kCoin 70 u35 t11.fCoins, box b46 32 [nI t17.fCode, u45], own kCoin 70 u45 t17.fCoins]) [(0, true), (1, true), (2, true), (3, true), (4, true), (5, true), (6, true), (7, false), (8, true), (9, true)] mixed rfl rfl (by kernel_rfl) ?_
      replace HM := HM.grow (fr_drew _)
      have hS := HM.sufN 0 rfl
      refine dp rfl rfl rfl rfl (ex_fieldAddr (off' := 1) rfl rfl U32 rfl tsz24 rfl) hS (drwp_take rfl (guard_none rfl) rfl rfl (fun w_ hS_ => (ex_load1 rfl rfl U24 rfl ((hS_.box_at 4 rfl) 1 _ rfl))) hS (dp rfl rfl rfl rfl (ex_fieldAddr (off' := 2) rfl rfl U28 rfl tsz25 rfl) hS (drwp_take rfl (guard_none rfl) rfl rfl (fun w_ hS_ => (ex_load1 rfl rfl U25 rfl ((hS_.box_at 0 rfl) 2 _ rfl))) hS (dp rfl rfl rfl rfl (ex_move rfl rfl) hS (drwp_take rfl (guard_none rfl) rfl rfl (fun w_ hS_ => (ex_indexAddr (d := kRef) rfl rfl rfl U25 tsz38 (hS_.own_rd 1 rfl) (idx_lo e65) (idx_hi e65))) hS (drwp_take rfl (guard_none rfl) rfl rfl (fun w_ hS_ => (ldN rfl rfl U38 rfl tsz38 ((rd_plain (hS_.own_rd 1 rfl) e65).subL 0 2 rfl) rfl)) hS (drwp_one rfl (guard_none rfl) rfl rfl (does_callk rfl callok10 rfl (impl_CoinAt.calls (x0 := t11.fCoins) (x1 := (gt t10.2.1.fIns a12)) (HM.own_rd 5 rfl) h66)) ?_)))))))
      rintro _ w67 ⟨u68, rfl, hn⟩
      replace HM := HM.callN hn rfl
      have hS := HM.sufN 1 rfl
      refine ⟨hS, (dp rfl rfl rfl rfl (ex_field1 rfl rfl U32 rfl U2 rfl rfl) hS (dp rfl rfl rfl rfl (ex_neq rfl rfl rfl) hS (drwp_done (at_then (run_cond (b := (t13.fCode != 4)) rfl (fun hb69 => ?_) (fun hb69 => ?_))))))⟩
      ·replace ho61 := cond_t hb69 ho61
       refine run_seq (run_region rfl (oM rfl (ops_nil (at_then (run_ret (at_block_ret (at_then_ret (at_then_ret (at_block_ret (at_then_ret ?_))))))))))
       replace HM := ((HM.frd 0 rfl).frd 0 rfl).frd 0 rfl
       replace HM := ((HM.frd 0 rfl).frd 0 rfl).frd 0 rfl
       replace HM := ((HM.frd 0 rfl).frd 0 rfl).frd 0 rfl
       cases ho61
       have hT := thn_inl H
       cases hT
       exact at_ret1 rfl rfl ⟨_, rfl, rfl, HM⟩
      ·replace ho61 := cond_f hb69 ho61
       refine run_skip (at_block (at_then (run_region rfl (oM rfl (oy rfl (ex_add rfl rfl rfl) (oM rfl (ops_nil ?_)))))))
       replace HM := HM.frd 0 rfl
       exact at_again k62 (Nat.lt_succ_self _) ⟨_, ho61, rfl, HM⟩ (Sub.of rfl)
     ·replace ho61 := cond_f hb64 ho61
      exact run_exit (at_then_exit (at_then_exit (at_block_exit (at_mid ⟨(sj ho61), rfl, HM⟩ (Sub.of rfl)))))
    ·rintro _ w70 ⟨rfl, rfl, HM⟩
     replace H := (thn_inr H)
     refine run_seq ?_
     obtain ⟨t19, h71, H⟩ := bind_some H
     obtain ⟨t20, h72, H⟩ := bind_some H
     obtain ⟨t21, h73, H⟩ := bind_some H
     refine run_meet (fun ρ_ w_ => ρ_ = [(2, .bool ((((t17.fCode == 0) && t19) && (t20 == 0)) && (t21.fCode != 0)))] ∧ Mem w [] w_ []) ?_ ?_
     ·refine run_region rfl (oy rfl (ex_fieldAddr (off' := 0) rfl rfl U32 rfl tsz2 rfl) (oy rfl (ex_load1 rfl rfl U2 rfl ((HM.box_at 6 rfl) 0 _ rfl)) (oy rfl (ex_eql rfl rfl rfl) (oM rfl ?_))))
      refine bool_cases (t17.fCode == 0) (fun hg74 => ?_) (fun hg74 => ?_)
      ·refine gn rfl hg74 (ex_fieldAddr (off' := 1) rfl rfl U32 rfl tsz24 rfl) (gn rfl hg74 (ex_load1 rfl rfl U24 rfl ((HM.box_at 6 rfl) 1 _ rfl)) (gn rfl hg74 (ex_move rfl rfl) (ops_does rfl (guard_on rfl rfl rfl hg74) rfl rfl (does_callk rfl callok11 rfl (impl_SameCoins.calls (x0 := t17.fCoins) (x1 := t10.1) (HM.own_rd 7 rfl) (HM.fro_rd 3 rfl) (cond_t hg74 h71))) ?_)))
       rintro _ w75 ⟨rfl, hn⟩
       replace HM := HM.callN hn rfl
       refine ops_ex (v := .bool ((t17.fCode == 0) && t19)) rfl (guard_none rfl) rfl rfl (ex_pand_t rfl rfl hg74 rfl) (oM rfl ?_)
       refine bool_cases ((t17.fCode == 0) && t19) (fun hg76 => ?_) (fun hg76 => ?_)
       ·refine gn rfl hg76 (ex_fieldAddr (off' := 1) rfl rfl U32 rfl tsz24 rfl) (gn rfl hg76 (ex_load1 rfl rfl U24 rfl ((HM.box_at 4 rfl) 1 _ rfl)) (ops_does rfl (guard_on rfl rfl rfl hg76) rfl rfl (does_callk rfl callok12 rfl (impl_CoinsFault.calls (x0 := t11.fCoins) (HM.own_rd 5 rfl) (cond_t hg76 h72))) ?_))
        rintro _ w77 ⟨rfl, hn⟩
        replace HM := HM.callN hn rfl
        refine gn rfl hg76 (ex_eql rfl rfl rfl) (ops_ex (v := .bool (((t17.fCode == 0) && t19) && (t20 == 0))) rfl (guard_none rfl) rfl rfl (ex_pand_t rfl rfl hg76 rfl) (oM rfl ?_))
        refine bool_cases (((t17.fCode == 0) && t19) && (t20 == 0)) (fun hg78 => ?_) (fun hg78 => ?_)
        ·refine gn rfl hg78 (ex_fieldAddr (off' := 1) rfl rfl U32 rfl tsz24 rfl) (gn rfl hg78 (ex_load1 rfl rfl U24 rfl ((HM.box_at 4 rfl) 1 _ rfl)) (gn rfl hg78 (ldN rfl rfl U28 rfl tsz28 ((HM.box_at 0 rfl).subL 0 4 rfl) rfl) (gn rfl hg78 (ex_move rfl rfl) (gn rfl hg78 (ex_move rfl rfl) (ops_does rfl (guard_on rfl rfl rfl hg78) rfl rfl (does_callk rfl callok6 rfl (impl_SpendTx.calls (x0 := t11.fCoins) (x1 := (⟨t10.2.1.fKind, t10.2.1.fMember, t10.2.1.fIns, t10.2.1.fOuts⟩ : Tx)) (x2 := t10.2.2.1) (x3 := t10.2.2.2) (HM.own_rd 5 rfl) (HM.own_rd 1 rfl) (HM.own_rd 2 rfl) (cond_t hg78 h73))) ?_)))))
         rintro _ w79 ⟨u80, rfl, hn⟩
         replace HM := HM.callN hn rfl
         refine gn rfl hg78 (ex_field1 rfl rfl U32 rfl U2 rfl rfl) (gn rfl hg78 (ex_neq rfl rfl rfl) (ops_ex (v := .bool ((((t17.fCode == 0) && t19) && (t20 == 0)) && (t21.fCode != 0))) rfl (guard_none rfl) rfl rfl (ex_pand_t rfl rfl hg78 rfl) (oM rfl (ops_nil ?_))))
         replace HM := ((HM.frd 0 rfl).frd 0 rfl).frd 0 rfl
         replace HM := ((HM.frd 0 rfl).frd 0 rfl).frd 0 rfl
         replace HM := ((HM.frd 0 rfl).frd 0 rfl).frd 0 rfl
         exact at_meet _ ⟨rfl, HM⟩ (Sub.of rfl)
        ·refine gf rfl hg78 (gf rfl hg78 (gf rfl hg78 (gf rfl hg78 (gf rfl hg78 (gf rfl hg78 (gf rfl hg78 (gf rfl hg78 ?_)))))))
         have hg81 : ((((t17.fCode == 0) && t19) && (t20 == 0)) && (t21.fCode != 0)) = false := by simp only [hg78, Bool.and_true, Bool.true_and, Bool.and_false, Bool.false_and, Bool.or_true, Bool.true_or, Bool.or_false, Bool.false_or, Bool.not_true, Bool.not_false, Bool.not_not]
         refine ops_ex (v := .bool ((((t17.fCode == 0) && t19) && (t20 == 0)) && (t21.fCode != 0))) rfl (guard_none rfl) rfl rfl (ex_pand_f rfl rfl hg78) (oM rfl (ops_nil ?_))
         replace HM := ((HM.frd 0 rfl).frd 0 rfl).frd 0 rfl
         replace HM := ((HM.frd 0 rfl).frd 0 rfl).frd 0 rfl
         replace HM := (HM.frd 0 rfl).frd 0 rfl
         exact at_meet _ ⟨rfl, HM⟩ (Sub.of rfl)
       ·refine gf rfl hg76 (gf rfl hg76 (gf rfl hg76 (gf rfl hg76 ?_)))
        have hg82 : (((t17.fCode == 0) && t19) && (t20 == 0)) = false := by simp only [hg76, Bool.and_true, Bool.true_and, Bool.and_false, Bool.false_and, Bool.or_true, Bool.true_or, Bool.or_false, Bool.false_or, Bool.not_true, Bool.not_false, Bool.not_not]
        refine ops_ex (v := .bool (((t17.fCode == 0) && t19) && (t20 == 0))) rfl (guard_none rfl) rfl rfl (ex_pand_f rfl rfl hg76) (oM rfl (gf rfl hg82 (gf rfl hg82 (gf rfl hg82 (gf rfl hg82 (gf rfl hg82 (gf rfl hg82 (gf rfl hg82 (gf rfl hg82 ?_)))))))))
        have hg83 : ((((t17.fCode == 0) && t19) && (t20 == 0)) && (t21.fCode != 0)) = false := by simp only [hg82, Bool.and_true, Bool.true_and, Bool.and_false, Bool.false_and, Bool.or_true, Bool.true_or, Bool.or_false, Bool.false_or, Bool.not_true, Bool.not_false, Bool.not_not]
        refine ops_ex (v := .bool ((((t17.fCode == 0) && t19) && (t20 == 0)) && (t21.fCode != 0))) rfl (guard_none rfl) rfl rfl (ex_pand_f rfl rfl hg82) (oM rfl (ops_nil ?_))
        replace HM := ((HM.frd 0 rfl).frd 0 rfl).frd 0 rfl
        replace HM := ((HM.frd 0 rfl).frd 0 rfl).frd 0 rfl
        replace HM := (HM.frd 0 rfl).frd 0 rfl
        exact at_meet _ ⟨rfl, HM⟩ (Sub.of rfl)
      ·refine gf rfl hg74 (gf rfl hg74 (gf rfl hg74 (gf rfl hg74 ?_)))
       have hg84 : ((t17.fCode == 0) && t19) = false := by simp only [hg74, Bool.and_true, Bool.true_and, Bool.and_false, Bool.false_and, Bool.or_true, Bool.true_or, Bool.or_false, Bool.false_or, Bool.not_true, Bool.not_false, Bool.not_not]
       refine ops_ex (v := .bool ((t17.fCode == 0) && t19)) rfl (guard_none rfl) rfl rfl (ex_pand_f rfl rfl hg74) (oM rfl (gf rfl hg84 (gf rfl hg84 (gf rfl hg84 (gf rfl hg84 ?_)))))
       have hg85 : (((t17.fCode == 0) && t19) && (t20 == 0)) = false := by simp only [hg84, Bool.and_true, Bool.true_and, Bool.and_false, Bool.false_and, Bool.or_true, Bool.true_or, Bool.or_false, Bool.false_or, Bool.not_true, Bool.not_false, Bool.not_not]
       refine ops_ex (v := .bool (((t17.fCode == 0) && t19) && (t20 == 0))) rfl (guard_none rfl) rfl rfl (ex_pand_f rfl rfl hg84) (oM rfl (gf rfl hg85 (gf rfl hg85 (gf rfl hg85 (gf rfl hg85 (gf rfl hg85 (gf rfl hg85 (gf rfl hg85 (gf rfl hg85 ?_)))))))))
       have hg86 : ((((t17.fCode == 0) && t19) && (t20 == 0)) && (t21.fCode != 0)) = false := by simp only [hg85, Bool.and_true, Bool.true_and, Bool.and_false, Bool.false_and, Bool.or_true, Bool.true_or, Bool.or_false, Bool.false_or, Bool.not_true, Bool.not_false, Bool.not_not]
       refine ops_ex (v := .bool ((((t17.fCode == 0) && t19) && (t20 == 0)) && (t21.fCode != 0))) rfl (guard_none rfl) rfl rfl (ex_pand_f rfl rfl hg85) (oM rfl (ops_nil ?_))
       replace HM := ((HM.frd 0 rfl).frd 0 rfl).frd 0 rfl
       replace HM := ((HM.frd 0 rfl).frd 0 rfl).frd 0 rfl
       replace HM := (HM.frd 0 rfl).frd 0 rfl
       exact at_meet _ ⟨rfl, HM⟩ (Sub.of rfl)
     ·rintro _ w87 ⟨rfl, HM⟩
      refine at_then (run_ret ?_)
      cases H
      exact at_ret1 rfl rfl ⟨_, rfl, rfl, HM⟩
end Go.Proofs.YtecgbhfgkkpmhacGreat.Zk
