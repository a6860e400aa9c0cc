/- What functions of the program compute, each as a plain function, and that they do. Conditions: as each theorem states them. -/
import Derived.Test.YtecgbhfgkkpmhaaFnCoinsZkF7
namespace Go.Proofs.Ytecgbhfgkkpmhaa.Zk
open Go Go.RowKit Go.IntWalk Go.Proofs
set_option linter.unusedVariables false
set_option linter.unusedSimpArgs false
set_option maxRecDepth 100000
set_option maxHeartbeats 4000000
def slices_EqualFunc_impl_Coin.l0 (x0 : List Coin) (x1 : List Coin) : Nat → Int → Option (Bool ⊕ Unit)
 | 0, _ => none
 | k + 1, a6670 => (bif (decide (a6670 < (x0.length : Int))) then (chk (idxOk a6670 x0.length) (chk (idxOk a6670 x1.length) ((impl_sameCoin.f k (gt x0 a6670) (gt x1 a6670)).bind fun t6710 => (bif !t6710 then some (.inl false) else slices_EqualFunc_impl_Coin.l0 x0 x1 k (wrap64 (a6670 + 1)))))) else some (.inr ()))
theorem slices_EqualFunc_impl_Coin.l0_z (x0 : List Coin) (x1 : List Coin) (a6670 : Int) : slices_EqualFunc_impl_Coin.l0 x0 x1 0 a6670 = none := rfl
theorem slices_EqualFunc_impl_Coin.l0_s (x0 : List Coin) (x1 : List Coin) (k : Nat) (a6670 : Int) : slices_EqualFunc_impl_Coin.l0 x0 x1 (k + 1) a6670 = (bif (decide (a6670 < (x0.length : Int))) then (chk (idxOk a6670 x0.length) (chk (idxOk a6670 x1.length) ((impl_sameCoin.f k (gt x0 a6670) (gt x1 a6670)).bind fun t6710 => (bif !t6710 then some (.inl false) else slices_EqualFunc_impl_Coin.l0 x0 x1 k (wrap64 (a6670 + 1)))))) else some (.inr ())) := rfl
def slices_EqualFunc_impl_Coin.f (k : Nat) (x0 : List Coin) (x1 : List Coin) : Option Bool := (bif ((x0.length : Int) != (x1.length : Int)) then some false else ((slices_EqualFunc_impl_Coin.l0 x0 x1 k 0).bind fun o6650 => thn o6650 (fun r => some r) (fun _ => some true)))
theorem slices_EqualFunc_impl_Coin.calls {k : Nat} {x0 : List Coin} {x1 : List Coin} {p0 : Value} {p1 : Value} {w : World} (hp0 : RdS kCoin w p0 x0) (hp1 : RdS kCoin w p1 x1) {r : Bool} (H : slices_EqualFunc_impl_Coin.f k x0 x1 = some r) :
  Calls Try.prog 39 ([p0, p1, .func (.func 40) #[] #[]] : List Value).toArray w (fun e w_ => ∃ v, e = .returned v ∧ v = (.bool r) ∧ Mem w [] w_ []) := by
 have HM := Mem.start w
 refine calls_run (N := 32) Try.func39 rfl rfl rfl rfl ?_
 unfold slices_EqualFunc_impl_Coin.f at H
 refine run_seq ?_
 refine run_region rfl ?_
 refine ox rfl rfl rfl rfl (ex_assign rfl rfl) ?_
 refine ops_nil (at_then (run_seq ?_))
 refine run_seq ?_
 refine run_region rfl ?_
 refine ox rfl rfl rfl rfl (ex_move rfl rfl) ?_
 refine ox rfl rfl rfl rfl (ex_len (d := kCoin) (xs := x0) rfl rfl Try.underlying24 hp0) ?_
 refine ox rfl rfl rfl rfl (ex_move rfl rfl) ?_
 refine ox rfl rfl rfl rfl (ex_len (d := kCoin) (xs := x1) rfl rfl Try.underlying24 hp1) ?_
 refine ox rfl rfl rfl rfl (ex_neq rfl rfl rfl) ?_
 refine ops_nil (at_then ?_)
 refine run_cond (b := ((x0.length : Int) != (x1.length : Int))) rfl (fun hb6594 => ?_) (fun hb6594 => ?_)
 ·replace H := cond_t hb6594 H
  refine run_seq ?_
  refine run_region rfl ?_
  refine ox rfl rfl rfl rfl (ex_assign rfl rfl) ?_
  refine ops_nil (at_then ?_)
  refine run_ret ?_
  refine at_then_ret ?_
  have hR := Option.some.inj H
  subst hR
  exact at_ret1 rfl rfl ⟨_, rfl, rfl, HM⟩
 ·replace H := cond_f hb6594 H
  refine run_skip ?_
  refine at_then ?_
  obtain ⟨o6650, ho6651, H⟩ := bind_some H
  refine run_mid (fun ρ_ w_ => Sum.inr () = o6650 ∧ ρ_ = [] ∧ Mem w [] w_ []) ?_ ?_
  ·skip
   refine run_seq ?_
   refine run_region rfl ?_
   refine ox rfl rfl rfl rfl (ex_move rfl rfl) ?_
   refine ox rfl rfl rfl rfl (ex_len (d := kCoin) (xs := x0) rfl rfl Try.underlying24 hp0) ?_
   refine ox rfl rfl rfl rfl (ex_move rfl rfl) ?_
   refine ops_nil (at_then ?_)
   refine run_block ?_
   refine run_loop (fun k_ ρ_ w_ => ∃ a6670 : Int, slices_EqualFunc_impl_Coin.l0 x0 x1 k_ a6670 = some o6650 ∧ ρ_ = [(1, p1), (2, .func (.func 40) #[] #[]), (15, p0), (16, .int .i64 (x0.length : Int)), (17, .int .i64 a6670)] ∧ Mem w [] w_ []) k (ρ1 := [(1, p1), (2, .func (.func 40) #[] #[]), (15, p0), (16, .int .i64 (x0.length : Int)), (17, .int .i64 0)]) ⟨_, ho6651, rfl, HM⟩ (Sub.cons rfl (Sub.cons rfl (Sub.cons rfl (Sub.cons rfl (Sub.cons rfl Sub.nil))))) ?_
   clear HM ho6651
   rintro k6689 _ w6690 ⟨a6670, ho6651, rfl, HM⟩
   obtain _ | k6689 := k6689
   ·exact nomatch ((slices_EqualFunc_impl_Coin.l0_z x0 x1 a6670).symm.trans ho6651)
   replace ho6651 := (slices_EqualFunc_impl_Coin.l0_s x0 x1 k6689 a6670).symm.trans ho6651
   refine run_seq ?_
   refine run_region rfl ?_
   refine ox rfl rfl rfl rfl (ex_lss rfl rfl rfl) ?_
   refine ops_nil (at_then (run_seq ?_))
   refine run_cond (b := (decide (a6670 < (x0.length : Int)))) rfl (fun hb6691 => ?_) (fun hb6691 => ?_)
   ·replace ho6651 := cond_t hb6691 ho6651
    refine run_skip ?_
    refine at_then ?_
    refine run_seq ?_
    refine run_block ?_
    refine run_seq ?_
    obtain ⟨e6692, ho6651⟩ := chk_some ho6651
    refine run_region rfl ?_
    refine ox rfl rfl rfl rfl (ex_move rfl rfl) ?_
    obtain ⟨kv6694, hc6693, hk6695⟩ : ∃ u, CellsAt _ (sb p0) (so p0 + (a6670).toNat * 8) [(.int .i64 ((gt x0 a6670).fRef.fTx)), (.int .i64 ((gt x0 a6670).fRef.fAt)), (.int .i64 ((gt x0 a6670).fOut.fValue)), u, (.int .i64 ((gt x0 a6670).fOut.fRule.fNeed)), (.int .i64 ((gt x0 a6670).fOut.fRule.fAfter)), (.int .i64 ((gt x0 a6670).fHeight)), (.bool ((gt x0 a6670).fMined))] ∧ RdS kInt _ u ((gt x0 a6670).fOut.fRule.fKeys) := rd_with1 hp0 e6692
    refine ox rfl rfl rfl rfl (ex_indexAddr (d := kCoin) rfl rfl rfl Try.underlying24 tsz41 hp0 (idx_lo e6692) (idx_hi e6692)) ?_
    refine ox rfl rfl rfl rfl (ex_loadN (cs := [(.int .i64 ((gt x0 a6670).fRef.fTx)), (.int .i64 ((gt x0 a6670).fRef.fAt)), (.int .i64 ((gt x0 a6670).fOut.fValue)), kv6694, (.int .i64 ((gt x0 a6670).fOut.fRule.fNeed)), (.int .i64 ((gt x0 a6670).fOut.fRule.fAfter)), (.int .i64 ((gt x0 a6670).fHeight)), (.bool ((gt x0 a6670).fMined))]) rfl rfl Try.underlying41 rfl tsz41 rfl ((HM.at_ hc6693).sub 0 8 rfl)) ?_
    refine od rfl rfl rfl rfl (does_alloc (cs := [.int .i64 0, .int .i64 0, .int .i64 0, .slice none 0 0, .int .i64 0, .int .i64 0, .int .i64 0, .bool false]) rfl tz41 rfl HM) ?_
    rintro _ w6699 ⟨b6696, rfl, HM⟩
    refine ox rfl rfl rfl rfl (ex_assign rfl rfl) ?_
    refine odS rfl rfl rfl (does_store (vs := [.int .i64 ((gt x0 a6670).fRef.fTx), .int .i64 ((gt x0 a6670).fRef.fAt), .int .i64 ((gt x0 a6670).fOut.fValue), kv6694, .int .i64 ((gt x0 a6670).fOut.fRule.fNeed), .int .i64 ((gt x0 a6670).fOut.fRule.fAfter), .int .i64 ((gt x0 a6670).fHeight), .bool ((gt x0 a6670).fMined)]) (cs' := [.int .i64 ((gt x0 a6670).fRef.fTx), .int .i64 ((gt x0 a6670).fRef.fAt), .int .i64 ((gt x0 a6670).fOut.fValue), kv6694, .int .i64 ((gt x0 a6670).fOut.fRule.fNeed), .int .i64 ((gt x0 a6670).fOut.fRule.fAfter), .int .i64 ((gt x0 a6670).fHeight), .bool ((gt x0 a6670).fMined)]) rfl rfl rfl rfl tsz41 (Ones.int (Ones.int (Ones.int (Ones.rd hk6695 (Ones.int (Ones.int (Ones.int (Ones.bool Ones.nil)))))))) rfl rfl HM) ?_
    rintro w6700 HM
    refine ops_nil (at_then (run_seq ?_))
    obtain ⟨e6701, ho6651⟩ := chk_some ho6651
    refine run_region rfl ?_
    refine ox rfl rfl rfl rfl (ex_move rfl rfl) ?_
    refine ox rfl rfl rfl rfl (ex_move rfl rfl) ?_
    obtain ⟨kv6703, hc6702, hk6704⟩ : ∃ u, CellsAt _ (sb p1) (so p1 + (a6670).toNat * 8) [(.int .i64 ((gt x1 a6670).fRef.fTx)), (.int .i64 ((gt x1 a6670).fRef.fAt)), (.int .i64 ((gt x1 a6670).fOut.fValue)), u, (.int .i64 ((gt x1 a6670).fOut.fRule.fNeed)), (.int .i64 ((gt x1 a6670).fOut.fRule.fAfter)), (.int .i64 ((gt x1 a6670).fHeight)), (.bool ((gt x1 a6670).fMined))] ∧ RdS kInt _ u ((gt x1 a6670).fOut.fRule.fKeys) := rd_with1 hp1 e6701
    refine ox rfl rfl rfl rfl (ex_indexAddr (d := kCoin) rfl rfl rfl Try.underlying24 tsz41 hp1 (idx_lo e6701) (idx_hi e6701)) ?_
    refine ox rfl rfl rfl rfl (ex_loadN (cs := [(.int .i64 ((gt x1 a6670).fRef.fTx)), (.int .i64 ((gt x1 a6670).fRef.fAt)), (.int .i64 ((gt x1 a6670).fOut.fValue)), kv6703, (.int .i64 ((gt x1 a6670).fOut.fRule.fNeed)), (.int .i64 ((gt x1 a6670).fOut.fRule.fAfter)), (.int .i64 ((gt x1 a6670).fHeight)), (.bool ((gt x1 a6670).fMined))]) rfl rfl Try.underlying41 rfl tsz41 rfl ((HM.at_ hc6702).sub 0 8 rfl)) ?_
    refine od rfl rfl rfl rfl (does_alloc (cs := [.int .i64 0, .int .i64 0, .int .i64 0, .slice none 0 0, .int .i64 0, .int .i64 0, .int .i64 0, .bool false]) rfl tz41 rfl HM) ?_
    rintro _ w6708 ⟨b6705, rfl, HM⟩
    refine odS rfl rfl rfl (does_store (vs := [.int .i64 ((gt x1 a6670).fRef.fTx), .int .i64 ((gt x1 a6670).fRef.fAt), .int .i64 ((gt x1 a6670).fOut.fValue), kv6703, .int .i64 ((gt x1 a6670).fOut.fRule.fNeed), .int .i64 ((gt x1 a6670).fOut.fRule.fAfter), .int .i64 ((gt x1 a6670).fHeight), .bool ((gt x1 a6670).fMined)]) (cs' := [.int .i64 ((gt x1 a6670).fRef.fTx), .int .i64 ((gt x1 a6670).fRef.fAt), .int .i64 ((gt x1 a6670).fOut.fValue), kv6703, .int .i64 ((gt x1 a6670).fOut.fRule.fNeed), .int .i64 ((gt x1 a6670).fOut.fRule.fAfter), .int .i64 ((gt x1 a6670).fHeight), .bool ((gt x1 a6670).fMined)]) rfl rfl rfl rfl tsz41 (Ones.int (Ones.int (Ones.int (Ones.rd hk6704 (Ones.int (Ones.int (Ones.int (Ones.bool Ones.nil)))))))) rfl rfl HM) ?_
    rintro w6709 HM
    refine ops_nil (at_then (run_seq ?_))
    obtain ⟨t6710, h6711, ho6651⟩ := bind_some ho6651
    refine run_region rfl ?_
    refine ox rfl rfl rfl rfl (ex_move rfl rfl) ?_
    refine ox rfl rfl rfl rfl (ex_loadN (cs := [(.int .i64 ((gt x0 a6670).fRef.fTx)), (.int .i64 ((gt x0 a6670).fRef.fAt)), (.int .i64 ((gt x0 a6670).fOut.fValue)), kv6694, (.int .i64 ((gt x0 a6670).fOut.fRule.fNeed)), (.int .i64 ((gt x0 a6670).fOut.fRule.fAfter)), (.int .i64 ((gt x0 a6670).fHeight)), (.bool ((gt x0 a6670).fMined))]) rfl rfl Try.underlying41 rfl tsz41 rfl ((HM.box_at 1 rfl).sub 0 8 rfl)) ?_
    refine ox rfl rfl rfl rfl (ex_loadN (cs := [(.int .i64 ((gt x1 a6670).fRef.fTx)), (.int .i64 ((gt x1 a6670).fRef.fAt)), (.int .i64 ((gt x1 a6670).fOut.fValue)), kv6703, (.int .i64 ((gt x1 a6670).fOut.fRule.fNeed)), (.int .i64 ((gt x1 a6670).fOut.fRule.fAfter)), (.int .i64 ((gt x1 a6670).fHeight)), (.bool ((gt x1 a6670).fMined))]) rfl rfl Try.underlying41 rfl tsz41 rfl ((HM.box_at 0 rfl).sub 0 8 rfl)) ?_
    refine od rfl rfl rfl rfl (does_callvk rfl callok40 rfl rfl rfl (impl_sameCoin.calls (x0 := (gt x0 a6670)) (x1 := (gt x1 a6670)) (HM.rd hk6695) (HM.rd hk6704) h6711)) ?_
    rintro _ w6712 ⟨rfl, hn⟩
    replace HM : Mem w [] w6712 [box b6705 41 [.int .i64 ((gt x1 a6670).fRef.fTx), .int .i64 ((gt x1 a6670).fRef.fAt), .int .i64 ((gt x1 a6670).fOut.fValue), kv6703, .int .i64 ((gt x1 a6670).fOut.fRule.fNeed), .int .i64 ((gt x1 a6670).fOut.fRule.fAfter), .int .i64 ((gt x1 a6670).fHeight), .bool ((gt x1 a6670).fMined)], box b6696 41 [.int .i64 ((gt x0 a6670).fRef.fTx), .int .i64 ((gt x0 a6670).fRef.fAt), .int .i64 ((gt x0 a6670).fOut.fValue), kv6694, .int .i64 ((gt x0 a6670).fOut.fRule.fNeed), .int .i64 ((gt x0 a6670).fOut.fRule.fAfter), .int .i64 ((gt x0 a6670).fHeight), .bool ((gt x0 a6670).fMined)]] := HM.call hn
    refine ox rfl rfl rfl rfl (ex_not rfl rfl) ?_
    refine ops_nil (at_then ?_)
    refine run_cond (b := !t6710) rfl (fun hb6713 => ?_) (fun hb6713 => ?_)
    ·replace ho6651 := cond_t hb6713 ho6651
     refine run_seq ?_
     refine run_region rfl ?_
     refine ox rfl rfl rfl rfl (ex_assign rfl rfl) ?_
     refine ops_nil (at_then ?_)
     refine run_ret ?_
     refine at_block_ret ?_
     refine at_then_ret ?_
     refine at_then_ret ?_
     refine at_block_ret ?_
     refine at_then_ret ?_
     replace HM := (HM.front 0 rfl rfl).drop
     replace HM := (HM.front 0 rfl rfl).drop
     have hR := Option.some.inj ho6651
     subst hR
     have hT := thn_inl H
     have hR := Option.some.inj hT
     subst hR
     exact at_ret1 rfl rfl ⟨_, rfl, rfl, HM⟩
    ·replace ho6651 := cond_f hb6713 ho6651
     refine run_skip ?_
     refine at_block ?_
     refine at_then ?_
     refine run_region rfl ?_
     refine ox rfl rfl rfl rfl (ex_add rfl rfl rfl) ?_
     refine ox rfl rfl rfl rfl (ex_move rfl rfl) ?_
     refine ops_nil ?_
     replace HM := (HM.front 0 rfl rfl).drop
     replace HM := (HM.front 0 rfl rfl).drop
     exact at_again k6689 (ρ1 := [(1, p1), (2, .func (.func 40) #[] #[]), (15, p0), (16, .int .i64 (x0.length : Int)), (17, .int .i64 (wrap64 (a6670 + 1)))]) (Nat.lt_succ_self _) ⟨_, ho6651, rfl, HM⟩ (Sub.cons rfl (Sub.cons rfl (Sub.cons rfl (Sub.cons rfl (Sub.cons rfl Sub.nil)))))
   ·replace ho6651 := cond_f hb6691 ho6651
    refine run_exit ?_
    refine at_then_exit ?_
    refine at_then_exit ?_
    refine at_block_exit ?_
    exact at_mid (ρ' := []) ⟨(Option.some.inj ho6651), rfl, HM⟩ Sub.nil
  ·rintro _ w6714 ⟨rfl, rfl, HM⟩
   replace H := (thn_inr H)
   refine run_seq ?_
   refine run_region rfl ?_
   refine ox rfl rfl rfl rfl (ex_assign rfl rfl) ?_
   refine ops_nil (at_then ?_)
   refine run_ret ?_
   have hR := Option.some.inj H
   subst hR
   exact at_ret1 rfl rfl ⟨_, rfl, rfl, HM⟩

def impl_SameCoins.f (k : Nat) (x0 : List Coin) (x1 : List Coin) : Option Bool := ((slices_EqualFunc_impl_Coin.f k x0 x1).bind fun t6717 => some t6717)
theorem impl_SameCoins.calls {k : Nat} {x0 : List Coin} {x1 : List Coin} {p0 : Value} {p1 : Value} {w : World} (hp0 : RdS kCoin w p0 x0) (hp1 : RdS kCoin w p1 x1) {r : Bool} (H : impl_SameCoins.f k x0 x1 = some r) :
  Calls Try.prog 13 ([p0, p1] : List Value).toArray w (fun e w_ => ∃ v, e = .returned v ∧ v = (.bool r) ∧ Mem w [] w_ []) := by
 have HM := Mem.start w
 refine calls_run (N := 8) Try.func13 rfl rfl rfl rfl ?_
 unfold impl_SameCoins.f at H
 refine run_seq ?_
 refine run_region rfl ?_
 refine ox rfl rfl rfl rfl (ex_assign rfl rfl) ?_
 refine ops_nil (at_then (run_seq ?_))
 obtain ⟨t6717, h6718, H⟩ := bind_some H
 refine run_region rfl ?_
 refine ox rfl rfl rfl rfl (ex_move rfl rfl) ?_
 refine ox rfl rfl rfl rfl (ex_move rfl rfl) ?_
 refine od rfl rfl rfl rfl (does_callk rfl callok39 rfl (slices_EqualFunc_impl_Coin.calls (x0 := x0) (x1 := x1) (HM.rd hp0) (HM.rd hp1) h6718)) ?_
 rintro _ w6719 ⟨rfl, hn⟩
 replace HM : Mem w [] w6719 [] := HM.call hn
 refine ox rfl rfl rfl rfl (ex_assign rfl rfl) ?_
 refine ops_nil (at_then ?_)
 refine run_ret ?_
 have hR := Option.some.inj H
 subst hR
 exact at_ret1 rfl rfl ⟨_, rfl, rfl, HM⟩

def spec_l4Among.l0 (x0 : List Int) (x1 : Int) : Nat → Int → Option (Bool ⊕ Unit)
 | 0, _ => none
 | k + 1, a6776 => (bif (decide (a6776 < (x0.length : Int))) then (chk (idxOk a6776 x0.length) (bif ((gt x0 a6776) == x1) then some (.inl true) else spec_l4Among.l0 x0 x1 k (wrap64 (a6776 + 1)))) else some (.inr ()))
theorem spec_l4Among.l0_z (x0 : List Int) (x1 : Int) (a6776 : Int) : spec_l4Among.l0 x0 x1 0 a6776 = none := rfl
theorem spec_l4Among.l0_s (x0 : List Int) (x1 : Int) (k : Nat) (a6776 : Int) : spec_l4Among.l0 x0 x1 (k + 1) a6776 = (bif (decide (a6776 < (x0.length : Int))) then (chk (idxOk a6776 x0.length) (bif ((gt x0 a6776) == x1) then some (.inl true) else spec_l4Among.l0 x0 x1 k (wrap64 (a6776 + 1)))) else some (.inr ())) := rfl
def spec_l4Among.f (k : Nat) (x0 : List Int) (x1 : Int) : Option Bool := ((spec_l4Among.l0 x0 x1 k 0).bind fun o6770 => thn o6770 (fun r => some r) (fun _ => some false))
theorem spec_l4Among.calls {k : Nat} {x0 : List Int} {x1 : Int} {p0 : Value} {w : World} (hp0 : RdS kInt w p0 x0) {r : Bool} (H : spec_l4Among.f k x0 x1 = some r) :
  Calls Try.prog 41 ([p0, .int .i64 x1] : List Value).toArray w (fun e w_ => ∃ v, e = .returned v ∧ v = (.bool r) ∧ Mem w [] w_ []) := by
 have HM := Mem.start w
 refine calls_run (N := 18) Try.func41 rfl rfl rfl rfl ?_
 unfold spec_l4Among.f at H
 refine run_seq ?_
 refine run_region rfl ?_
 refine ox rfl rfl rfl rfl (ex_assign rfl rfl) ?_
 refine ops_nil (at_then ?_)
 obtain ⟨o6770, ho6771, H⟩ := bind_some H
 refine run_mid (fun ρ_ w_ => Sum.inr () = o6770 ∧ ρ_ = [] ∧ Mem w [] w_ []) ?_ ?_
 ·skip
  refine run_seq ?_
  refine run_region rfl ?_
  refine ox rfl rfl rfl rfl (ex_assign rfl rfl) ?_
  refine ops_nil (at_then ?_)
  refine run_block ?_
  refine run_loop (fun k_ ρ_ w_ => ∃ a6776 : Int, spec_l4Among.l0 x0 x1 k_ a6776 = some o6770 ∧ ρ_ = [(0, p0), (1, .int .i64 x1), (5, .int .i64 a6776)] ∧ Mem w [] w_ []) k (ρ1 := [(0, p0), (1, .int .i64 x1), (5, .int .i64 0)]) ⟨_, ho6771, rfl, HM⟩ (Sub.cons rfl (Sub.cons rfl (Sub.cons rfl Sub.nil))) ?_
  clear HM ho6771
  rintro k6781 _ w6782 ⟨a6776, ho6771, rfl, HM⟩
  obtain _ | k6781 := k6781
  ·exact nomatch ((spec_l4Among.l0_z x0 x1 a6776).symm.trans ho6771)
  replace ho6771 := (spec_l4Among.l0_s x0 x1 k6781 a6776).symm.trans ho6771
  refine run_seq ?_
  refine run_seq ?_
  refine run_region rfl ?_
  refine ox rfl rfl rfl rfl (ex_move rfl rfl) ?_
  refine ox rfl rfl rfl rfl (ex_move rfl rfl) ?_
  refine ox rfl rfl rfl rfl (ex_len (d := kInt) (xs := x0) rfl rfl Try.underlying32 hp0) ?_
  refine ox rfl rfl rfl rfl (ex_lss rfl rfl rfl) ?_
  refine ops_nil (at_then ?_)
  refine run_cond (b := (decide (a6776 < (x0.length : Int)))) rfl (fun hb6783 => ?_) (fun hb6783 => ?_)
  ·replace ho6771 := cond_t hb6783 ho6771
   refine run_skip ?_
   refine at_then ?_
   refine run_seq ?_
   refine run_block ?_
   refine run_seq ?_
   obtain ⟨e6784, ho6771⟩ := chk_some ho6771
   refine run_region rfl ?_
   refine ox rfl rfl rfl rfl (ex_move rfl rfl) ?_
   refine ox rfl rfl rfl rfl (ex_move rfl rfl) ?_
   have hc6785 : CellsAt _ (sb p0) (so p0 + (a6776).toNat * 1) [(.int .i64 (gt x0 a6776))] := rd_plain hp0 e6784
   refine ox rfl rfl rfl rfl (ex_indexAddr (d := kInt) rfl rfl rfl Try.underlying32 tsz2 hp0 (idx_lo e6784) (idx_hi e6784)) ?_
   refine ox rfl rfl rfl rfl (ex_load1 rfl rfl Try.underlying2 rfl ((HM.at_ hc6785) 0 _ rfl)) ?_
   refine ox rfl rfl rfl rfl (ex_move rfl rfl) ?_
   refine ox rfl rfl rfl rfl (ex_eql rfl rfl rfl) ?_
   refine ops_nil (at_then ?_)
   refine run_cond (b := ((gt x0 a6776) == x1)) rfl (fun hb6786 => ?_) (fun hb6786 => ?_)
   ·replace ho6771 := cond_t hb6786 ho6771
    refine run_seq ?_
    refine run_region rfl ?_
    refine ox rfl rfl rfl rfl (ex_assign rfl rfl) ?_
    refine ops_nil (at_then ?_)
    refine run_ret ?_
    refine at_block_ret ?_
    refine at_then_ret ?_
    refine at_then_ret ?_
    refine at_block_ret ?_
    refine at_then_ret ?_
    have hR := Option.some.inj ho6771
    subst hR
    have hT := thn_inl H
    have hR := Option.some.inj hT
    subst hR
    exact at_ret1 rfl rfl ⟨_, rfl, rfl, HM⟩
   ·replace ho6771 := cond_f hb6786 ho6771
    refine run_skip ?_
    refine at_block ?_
    refine at_then ?_
    refine run_region rfl ?_
    refine ox rfl rfl rfl rfl (ex_move rfl rfl) ?_
    refine ox rfl rfl rfl rfl (ex_add rfl rfl rfl) ?_
    refine ox rfl rfl rfl rfl (ex_assign rfl rfl) ?_
    refine ops_nil ?_
    exact at_again k6781 (ρ1 := [(0, p0), (1, .int .i64 x1), (5, .int .i64 (wrap64 (a6776 + 1)))]) (Nat.lt_succ_self _) ⟨_, ho6771, rfl, HM⟩ (Sub.cons rfl (Sub.cons rfl (Sub.cons rfl Sub.nil)))
  ·replace ho6771 := cond_f hb6783 ho6771
   refine run_exit ?_
   refine at_then_exit ?_
   refine at_then_exit ?_
   refine at_block_exit ?_
   exact at_mid (ρ' := []) ⟨(Option.some.inj ho6771), rfl, HM⟩ Sub.nil
 ·rintro _ w6787 ⟨rfl, rfl, HM⟩
  replace H := (thn_inr H)
  refine run_seq ?_
  refine run_region rfl ?_
  refine ox rfl rfl rfl rfl (ex_assign rfl rfl) ?_
  refine ops_nil (at_then ?_)
  refine run_ret ?_
  have hR := Option.some.inj H
  subst hR
  exact at_ret1 rfl rfl ⟨_, rfl, rfl, HM⟩

def spec_OwnedBy.l0 (x0 : List Coin) (x1 : Int) : Nat → Int → Int → Option Int
 | 0, _, _ => none
 | k + 1, a6913, a6914 => (bif (decide (a6914 < (x0.length : Int))) then (chk (idxOk a6914 x0.length) (chk (!(((gt x0 a6914).fOut.fRule.fNeed) == 1) || (idxOk a6914 x0.length)) ((bif (((gt x0 a6914).fOut.fRule.fNeed) == 1) then spec_l4Among.f k ((gt x0 a6914).fOut.fRule.fKeys) x1 else some default).bind fun t6942 => (bif ((((gt x0 a6914).fOut.fRule.fNeed) == 1) && t6942) then (chk (idxOk a6914 x0.length) (spec_OwnedBy.l0 x0 x1 k (wrap64 (a6913 + ((gt x0 a6914).fOut.fValue))) (wrap64 (a6914 + 1)))) else spec_OwnedBy.l0 x0 x1 k a6913 (wrap64 (a6914 + 1)))))) else some a6913)
theorem spec_OwnedBy.l0_z (x0 : List Coin) (x1 : Int) (a6913 : Int) (a6914 : Int) : spec_OwnedBy.l0 x0 x1 0 a6913 a6914 = none := rfl
theorem spec_OwnedBy.l0_s (x0 : List Coin) (x1 : Int) (k : Nat) (a6913 : Int) (a6914 : Int) : spec_OwnedBy.l0 x0 x1 (k + 1) a6913 a6914 = (bif (decide (a6914 < (x0.length : Int))) then (chk (idxOk a6914 x0.length) (chk (!(((gt x0 a6914).fOut.fRule.fNeed) == 1) || (idxOk a6914 x0.length)) ((bif (((gt x0 a6914).fOut.fRule.fNeed) == 1) then spec_l4Among.f k ((gt x0 a6914).fOut.fRule.fKeys) x1 else some default).bind fun t6942 => (bif ((((gt x0 a6914).fOut.fRule.fNeed) == 1) && t6942) then (chk (idxOk a6914 x0.length) (spec_OwnedBy.l0 x0 x1 k (wrap64 (a6913 + ((gt x0 a6914).fOut.fValue))) (wrap64 (a6914 + 1)))) else spec_OwnedBy.l0 x0 x1 k a6913 (wrap64 (a6914 + 1)))))) else some a6913) := rfl
def spec_OwnedBy.f (k : Nat) (x0 : List Coin) (x1 : Int) : Option IntResult := ((spec_l4Fault.f k x0).bind fun t6839 => (bif (t6839 != 0) then some (⟨t6839, 0⟩ : IntResult) else ((spec_OwnedBy.l0 x0 x1 k 0 0).bind (fun a6894 => some (⟨0, a6894⟩ : IntResult)))))
theorem spec_OwnedBy.calls {k : Nat} {x0 : List Coin} {x1 : Int} {p0 : Value} {w : World} (hp0 : RdS kCoin w p0 x0) {r : IntResult} (H : spec_OwnedBy.f k x0 x1 = some r) :
  Calls Try.prog 14 ([p0, .int .i64 x1] : List Value).toArray w (fun e w_ => ∃ v, e = .returned v ∧ v = (.agg #[.int .i64 r.fCode, .int .i64 r.fValue]) ∧ Mem w [] w_ []) := by
 have HM := Mem.start w
 refine calls_run (N := 49) Try.func14 rfl rfl rfl rfl ?_
 unfold spec_OwnedBy.f at H
 refine run_seq ?_
 refine run_region rfl ?_
 refine od rfl rfl rfl rfl (does_alloc (cs := [.int .i64 0, .int .i64 0]) rfl tz44 rfl HM) ?_
 rintro _ w6835 ⟨b6832, rfl, HM⟩
 refine ops_nil (at_then (run_seq ?_))
 refine run_seq ?_
 obtain ⟨t6839, h6840, H⟩ := bind_some H
 refine run_region rfl ?_
 refine ox rfl rfl rfl rfl (ex_move rfl rfl) ?_
 refine od rfl rfl rfl rfl (does_callk rfl callok23 rfl (spec_l4Fault.calls (x0 := x0) (HM.rd hp0) h6840)) ?_
 rintro _ w6841 ⟨rfl, hn⟩
 replace HM : Mem w [] w6841 [box b6832 44 [.int .i64 0, .int .i64 0]] := HM.call hn
 refine ox rfl rfl rfl rfl (ex_assign rfl rfl) ?_
 refine ops_nil (at_then (run_seq ?_))
 refine run_region rfl ?_
 refine ox rfl rfl rfl rfl (ex_move rfl rfl) ?_
 refine ox rfl rfl rfl rfl (ex_neq rfl rfl rfl) ?_
 refine ops_nil (at_then ?_)
 refine run_cond (b := (t6839 != 0)) rfl (fun hb6842 => ?_) (fun hb6842 => ?_)
 ·replace H := cond_t hb6842 H
  refine run_seq ?_
  refine run_region rfl ?_
  refine ox rfl rfl rfl rfl (ex_move rfl rfl) ?_
  refine ox rfl rfl rfl rfl (ex_build (cells := #[(.int .i64 t6839), (.int .i64 0)]) rfl rfl (by kernel_rfl)) ?_
  refine odS rfl rfl rfl (does_store (vs := [.int .i64 t6839, .int .i64 0]) (cs' := [.int .i64 t6839, .int .i64 0]) rfl rfl rfl rfl tsz44 (Ones.int (Ones.int Ones.nil)) rfl rfl HM) ?_
  rintro w6843 HM
  refine ops_nil (at_then ?_)
  refine run_ret ?_
  refine at_then_ret ?_
  have hcb0 := HM.box_at 0 rfl
  replace HM := (HM.front 0 rfl rfl).drop
  have hR := Option.some.inj H
  subst hR
  exact at_retN rfl rfl Try.underlying44 rfl tsz44 rfl hcb0 ⟨_, rfl, rfl, HM⟩
 ·replace H := cond_f hb6842 H
  refine run_skip ?_
  refine at_then ?_
  refine run_seq ?_
  refine run_region rfl ?_
  refine ox rfl rfl rfl rfl (ex_assign rfl rfl) ?_
  refine ops_nil (at_then ?_)
  obtain ⟨o6895, ho6896, H⟩ := bind_some H
  refine run_mid (fun ρ_ w_ => ∃ a6894 : Int, a6894 = o6895 ∧ ρ_ = [(4, .pointer (some ⟨b6832, 0, none⟩)), (6, .int .i64 a6894)] ∧ Mem w [] w_ [box b6832 44 [.int .i64 0, .int .i64 0]]) ?_ ?_
  ·clear H
   refine run_seq ?_
   refine run_region rfl ?_
   refine ox rfl rfl rfl rfl (ex_assign rfl rfl) ?_
   refine ops_nil (at_then ?_)
   refine run_block ?_
   refine run_loop (fun k_ ρ_ w_ => ∃ a6913 : Int, ∃ a6914 : Int, spec_OwnedBy.l0 x0 x1 k_ a6913 a6914 = some o6895 ∧ ρ_ = [(0, p0), (1, .int .i64 x1), (4, .pointer (some ⟨b6832, 0, none⟩)), (6, .int .i64 a6913), (7, .int .i64 a6914)] ∧ Mem w [] w_ [box b6832 44 [.int .i64 0, .int .i64 0]]) k (ρ1 := [(0, p0), (1, .int .i64 x1), (4, .pointer (some ⟨b6832, 0, none⟩)), (6, .int .i64 0), (7, .int .i64 0)]) ⟨_, _, ho6896, rfl, HM⟩ (Sub.cons rfl (Sub.cons rfl (Sub.cons rfl (Sub.cons rfl (Sub.cons rfl Sub.nil))))) ?_
   clear HM ho6896
   rintro k6931 _ w6932 ⟨a6913, a6914, ho6896, rfl, HM⟩
   obtain _ | k6931 := k6931
   ·exact nomatch ((spec_OwnedBy.l0_z x0 x1 a6913 a6914).symm.trans ho6896)
   replace ho6896 := (spec_OwnedBy.l0_s x0 x1 k6931 a6913 a6914).symm.trans ho6896
   refine run_seq ?_
   refine run_seq ?_
   refine run_region rfl ?_
   refine ox rfl rfl rfl rfl (ex_move rfl rfl) ?_
   refine ox rfl rfl rfl rfl (ex_move rfl rfl) ?_
   refine ox rfl rfl rfl rfl (ex_len (d := kCoin) (xs := x0) rfl rfl Try.underlying24 hp0) ?_
   refine ox rfl rfl rfl rfl (ex_lss rfl rfl rfl) ?_
   refine ops_nil (at_then ?_)
   refine run_cond (b := (decide (a6914 < (x0.length : Int)))) rfl (fun hb6933 => ?_) (fun hb6933 => ?_)
   ·replace ho6896 := cond_t hb6933 ho6896
    refine run_skip ?_
    refine at_then ?_
    refine run_seq ?_
    refine run_block ?_
    refine run_seq ?_
    obtain ⟨e6934, ho6896⟩ := chk_some ho6896
    obtain ⟨e6938, ho6896⟩ := chk_some ho6896
    obtain ⟨t6942, h6943, ho6896⟩ := bind_some ho6896
    refine run_meet (fun ρ_ w_ => ρ_ = [(0, p0), (1, .int .i64 x1), (4, .pointer (some ⟨b6832, 0, none⟩)), (6, .int .i64 a6913), (7, .int .i64 a6914), (38, .bool ((((gt x0 a6914).fOut.fRule.fNeed) == 1) && t6942))] ∧ Mem w [] w_ [box b6832 44 [.int .i64 0, .int .i64 0]]) ?_ ?_
    ·skip
     refine run_region rfl ?_
     refine ox rfl rfl rfl rfl (ex_move rfl rfl) ?_
     refine ox rfl rfl rfl rfl (ex_move rfl rfl) ?_
     obtain ⟨kv6936, hc6935, hk6937⟩ : ∃ u, CellsAt _ (sb p0) (so p0 + (a6914).toNat * 8) [(.int .i64 ((gt x0 a6914).fRef.fTx)), (.int .i64 ((gt x0 a6914).fRef.fAt)), (.int .i64 ((gt x0 a6914).fOut.fValue)), u, (.int .i64 ((gt x0 a6914).fOut.fRule.fNeed)), (.int .i64 ((gt x0 a6914).fOut.fRule.fAfter)), (.int .i64 ((gt x0 a6914).fHeight)), (.bool ((gt x0 a6914).fMined))] ∧ RdS kInt _ u ((gt x0 a6914).fOut.fRule.fKeys) := rd_with1 hp0 e6934
     refine ox rfl rfl rfl rfl (ex_indexAddr (d := kCoin) rfl rfl rfl Try.underlying24 tsz41 hp0 (idx_lo e6934) (idx_hi e6934)) ?_
     refine ox rfl rfl rfl rfl (ex_fieldAddr (off' := so p0 + (a6914).toNat * 8 + 2) rfl rfl Try.underlying41 rfl tsz36 rfl) ?_
     refine ox rfl rfl rfl rfl (ex_fieldAddr (off' := so p0 + (a6914).toNat * 8 + 3) rfl rfl Try.underlying36 rfl tsz34 rfl) ?_
     refine ox rfl rfl rfl rfl (ex_fieldAddr (off' := so p0 + (a6914).toNat * 8 + 4) rfl rfl Try.underlying34 rfl tsz2 rfl) ?_
     refine ox rfl rfl rfl rfl (ex_load1 rfl rfl Try.underlying2 rfl ((HM.at_ hc6935) 4 _ rfl)) ?_
     refine ox rfl rfl rfl rfl (ex_eql rfl rfl rfl) ?_
     refine ox rfl rfl rfl rfl (ex_move rfl rfl) ?_
     refine bool_cases (((gt x0 a6914).fOut.fRule.fNeed) == 1) (fun hg6944 => ?_) (fun hg6944 => ?_)
     ·skip
      refine ops_ex rfl (guard_on rfl rfl rfl hg6944) rfl rfl (ex_move rfl rfl) ?_
      refine ops_ex rfl (guard_on rfl rfl rfl hg6944) rfl rfl (ex_move rfl rfl) ?_
      obtain ⟨kv6940, hc6939, hk6941⟩ : ∃ u, CellsAt _ (sb p0) (so p0 + (a6914).toNat * 8) [(.int .i64 ((gt x0 a6914).fRef.fTx)), (.int .i64 ((gt x0 a6914).fRef.fAt)), (.int .i64 ((gt x0 a6914).fOut.fValue)), u, (.int .i64 ((gt x0 a6914).fOut.fRule.fNeed)), (.int .i64 ((gt x0 a6914).fOut.fRule.fAfter)), (.int .i64 ((gt x0 a6914).fHeight)), (.bool ((gt x0 a6914).fMined))] ∧ RdS kInt _ u ((gt x0 a6914).fOut.fRule.fKeys) := rd_with1 hp0 (or_t e6938 hg6944)
      refine ops_ex rfl (guard_on rfl rfl rfl hg6944) rfl rfl (ex_indexAddr (d := kCoin) rfl rfl rfl Try.underlying24 tsz41 hp0 (idx_lo (or_t e6938 hg6944)) (idx_hi (or_t e6938 hg6944))) ?_
      refine ops_ex rfl (guard_on rfl rfl rfl hg6944) rfl rfl (ex_fieldAddr (off' := so p0 + (a6914).toNat * 8 + 2) rfl rfl Try.underlying41 rfl tsz36 rfl) ?_
      refine ops_ex rfl (guard_on rfl rfl rfl hg6944) rfl rfl (ex_fieldAddr (off' := so p0 + (a6914).toNat * 8 + 3) rfl rfl Try.underlying36 rfl tsz34 rfl) ?_
      refine ops_ex rfl (guard_on rfl rfl rfl hg6944) rfl rfl (ex_fieldAddr (off' := so p0 + (a6914).toNat * 8 + 3) rfl rfl Try.underlying34 rfl tsz32 rfl) ?_
      refine ops_ex rfl (guard_on rfl rfl rfl hg6944) rfl rfl (ex_load1 rfl rfl Try.underlying32 rfl ((HM.at_ hc6939) 3 _ rfl)) ?_
      refine ops_ex rfl (guard_on rfl rfl rfl hg6944) rfl rfl (ex_move rfl rfl) ?_
      refine ops_does rfl (guard_on rfl rfl rfl hg6944) rfl rfl (does_callk rfl callok41 rfl (spec_l4Among.calls (x0 := (gt x0 a6914).fOut.fRule.fKeys) (x1 := x1) (HM.rd hk6941) (cond_t hg6944 h6943))) ?_
      rintro _ w6945 ⟨rfl, hn⟩
      replace HM : Mem w [] w6945 [box b6832 44 [.int .i64 0, .int .i64 0]] := HM.call hn
      refine ops_ex (v := .bool ((((gt x0 a6914).fOut.fRule.fNeed) == 1) && t6942)) rfl (guard_none rfl) rfl rfl (ex_pand_t rfl rfl hg6944 rfl) ?_
      refine ops_nil ?_
      exact at_meet [(0, p0), (1, .int .i64 x1), (4, .pointer (some ⟨b6832, 0, none⟩)), (6, .int .i64 a6913), (7, .int .i64 a6914), (38, .bool ((((gt x0 a6914).fOut.fRule.fNeed) == 1) && t6942))] ⟨rfl, HM⟩ (Sub.cons rfl (Sub.cons rfl (Sub.cons rfl (Sub.cons rfl (Sub.cons rfl (Sub.cons rfl Sub.nil))))))
     ·skip
      refine ops_off rfl (guard_off rfl rfl rfl hg6944) rfl rfl ?_
      refine ops_off rfl (guard_off rfl rfl rfl hg6944) rfl rfl ?_
      refine ops_off rfl (guard_off rfl rfl rfl hg6944) rfl rfl ?_
      refine ops_off rfl (guard_off rfl rfl rfl hg6944) rfl rfl ?_
      refine ops_off rfl (guard_off rfl rfl rfl hg6944) rfl rfl ?_
      refine ops_off rfl (guard_off rfl rfl rfl hg6944) rfl rfl ?_
      refine ops_off rfl (guard_off rfl rfl rfl hg6944) rfl rfl ?_
      refine ops_off rfl (guard_off rfl rfl rfl hg6944) rfl rfl ?_
      refine ops_off rfl (guard_off rfl rfl rfl hg6944) rfl rfl ?_
      have hg6946 : ((((gt x0 a6914).fOut.fRule.fNeed) == 1) && t6942) = false := by simp only [hg6944, Bool.and_true, Bool.true_and, Bool.and_false, Bool.false_and, Bool.or_true, Bool.true_or, Bool.or_false, Bool.false_or, Bool.not_true, Bool.not_false, Bool.not_not]
      refine ops_ex (v := .bool ((((gt x0 a6914).fOut.fRule.fNeed) == 1) && t6942)) rfl (guard_none rfl) rfl rfl (ex_pand_f rfl rfl hg6944) ?_
      refine ops_nil ?_
      exact at_meet [(0, p0), (1, .int .i64 x1), (4, .pointer (some ⟨b6832, 0, none⟩)), (6, .int .i64 a6913), (7, .int .i64 a6914), (38, .bool ((((gt x0 a6914).fOut.fRule.fNeed) == 1) && t6942))] ⟨rfl, HM⟩ (Sub.cons rfl (Sub.cons rfl (Sub.cons rfl (Sub.cons rfl (Sub.cons rfl (Sub.cons rfl Sub.nil))))))
    ·rintro _ w6947 ⟨rfl, HM⟩
     refine at_then ?_
     refine run_cond (b := ((((gt x0 a6914).fOut.fRule.fNeed) == 1) && t6942)) rfl (fun hb6948 => ?_) (fun hb6948 => ?_)
     ·replace ho6896 := cond_t hb6948 ho6896
      obtain ⟨e6949, ho6896⟩ := chk_some ho6896
      refine run_region rfl ?_
      refine ox rfl rfl rfl rfl (ex_move rfl rfl) ?_
      refine ox rfl rfl rfl rfl (ex_move rfl rfl) ?_
      refine ox rfl rfl rfl rfl (ex_move rfl rfl) ?_
      obtain ⟨kv6951, hc6950, hk6952⟩ : ∃ u, CellsAt _ (sb p0) (so p0 + (a6914).toNat * 8) [(.int .i64 ((gt x0 a6914).fRef.fTx)), (.int .i64 ((gt x0 a6914).fRef.fAt)), (.int .i64 ((gt x0 a6914).fOut.fValue)), u, (.int .i64 ((gt x0 a6914).fOut.fRule.fNeed)), (.int .i64 ((gt x0 a6914).fOut.fRule.fAfter)), (.int .i64 ((gt x0 a6914).fHeight)), (.bool ((gt x0 a6914).fMined))] ∧ RdS kInt _ u ((gt x0 a6914).fOut.fRule.fKeys) := rd_with1 hp0 e6949
      refine ox rfl rfl rfl rfl (ex_indexAddr (d := kCoin) rfl rfl rfl Try.underlying24 tsz41 hp0 (idx_lo e6949) (idx_hi e6949)) ?_
      refine ox rfl rfl rfl rfl (ex_fieldAddr (off' := so p0 + (a6914).toNat * 8 + 2) rfl rfl Try.underlying41 rfl tsz36 rfl) ?_
      refine ox rfl rfl rfl rfl (ex_fieldAddr (off' := so p0 + (a6914).toNat * 8 + 2) rfl rfl Try.underlying36 rfl tsz2 rfl) ?_
      refine ox rfl rfl rfl rfl (ex_load1 rfl rfl Try.underlying2 rfl ((HM.at_ hc6950) 2 _ rfl)) ?_
      refine ox rfl rfl rfl rfl (ex_add rfl rfl rfl) ?_
      refine ox rfl rfl rfl rfl (ex_assign rfl rfl) ?_
      refine ops_nil ?_
      refine at_block ?_
      refine at_then ?_
      refine run_region rfl ?_
      refine ox rfl rfl rfl rfl (ex_move rfl rfl) ?_
      refine ox rfl rfl rfl rfl (ex_add rfl rfl rfl) ?_
      refine ox rfl rfl rfl rfl (ex_assign rfl rfl) ?_
      refine ops_nil ?_
      exact at_again k6931 (ρ1 := [(0, p0), (1, .int .i64 x1), (4, .pointer (some ⟨b6832, 0, none⟩)), (6, .int .i64 (wrap64 (a6913 + ((gt x0 a6914).fOut.fValue)))), (7, .int .i64 (wrap64 (a6914 + 1)))]) (Nat.lt_succ_self _) ⟨_, _, ho6896, rfl, HM⟩ (Sub.cons rfl (Sub.cons rfl (Sub.cons rfl (Sub.cons rfl (Sub.cons rfl Sub.nil)))))
     ·replace ho6896 := cond_f hb6948 ho6896
      refine run_skip ?_
      refine at_block ?_
      refine at_then ?_
      refine run_region rfl ?_
      refine ox rfl rfl rfl rfl (ex_move rfl rfl) ?_
      refine ox rfl rfl rfl rfl (ex_add rfl rfl rfl) ?_
      refine ox rfl rfl rfl rfl (ex_assign rfl rfl) ?_
      refine ops_nil ?_
      exact at_again k6931 (ρ1 := [(0, p0), (1, .int .i64 x1), (4, .pointer (some ⟨b6832, 0, none⟩)), (6, .int .i64 a6913), (7, .int .i64 (wrap64 (a6914 + 1)))]) (Nat.lt_succ_self _) ⟨_, _, ho6896, rfl, HM⟩ (Sub.cons rfl (Sub.cons rfl (Sub.cons rfl (Sub.cons rfl (Sub.cons rfl Sub.nil)))))
   ·replace ho6896 := cond_f hb6933 ho6896
    refine run_exit ?_
    refine at_then_exit ?_
    refine at_then_exit ?_
    refine at_block_exit ?_
    exact at_mid (ρ' := [(4, .pointer (some ⟨b6832, 0, none⟩)), (6, .int .i64 a6913)]) ⟨_, (Option.some.inj ho6896), rfl, HM⟩ (Sub.cons rfl (Sub.cons rfl Sub.nil))
  ·rintro _ w6953 ⟨a6894, rfl, rfl, HM⟩
   refine run_seq ?_
   refine run_region rfl ?_
   refine ox rfl rfl rfl rfl (ex_move rfl rfl) ?_
   refine ox rfl rfl rfl rfl (ex_build (cells := #[(.int .i64 0), (.int .i64 a6894)]) rfl rfl (by kernel_rfl)) ?_
   refine odS rfl rfl rfl (does_store (vs := [.int .i64 0, .int .i64 a6894]) (cs' := [.int .i64 0, .int .i64 a6894]) rfl rfl rfl rfl tsz44 (Ones.int (Ones.int Ones.nil)) rfl rfl HM) ?_
   rintro w6954 HM
   refine ops_nil (at_then ?_)
   refine run_ret ?_
   have hcb0 := HM.box_at 0 rfl
   replace HM := (HM.front 0 rfl rfl).drop
   have hR := Option.some.inj H
   subst hR
   exact at_retN rfl rfl Try.underlying44 rfl tsz44 rfl hcb0 ⟨_, rfl, rfl, HM⟩

def laws_FnCoins.l0 (t6966 : (List Coin) × Int × (List Out) × Int × Bool) (t6973 : CoinsResult) : Nat → Int → (List Ref) → Int → Option (Bool ⊕ (Int × (List Ref)))
 | 0, _, _, _ => none
 | k + 1, a7093, a7095, a7097 => (bif (decide (a7097 < (t6966.2.2.1.length : Int))) then (chk (idxOk a7097 t6966.2.2.1.length) (chk (leB ((a7095.length + ([(⟨t6966.2.1, a7097⟩ : Ref)] : List Ref).length) * 16) 140737488355328) (chk (idxOk a7097 (a7095 ++ ([(⟨t6966.2.1, a7097⟩ : Ref)] : List Ref)).length) ((impl_CoinAt.f k t6973.fCoins (gt (a7095 ++ ([(⟨t6966.2.1, a7097⟩ : Ref)] : List Ref)) a7097)).bind fun t7132 => (chk (!(!(t7132.fCode != 0)) || (idxOk (0 : Int) t7132.fCoins.length)) (chk (!(!(t7132.fCode != 0)) || (idxOk a7097 t6966.2.2.1.length)) (chk (!(!((t7132.fCode != 0) || (((gt t7132.fCoins (0 : Int)).fOut.fValue) != ((gt t6966.2.2.1 a7097).fValue)))) || (idxOk (0 : Int) t7132.fCoins.length)) (chk (!(!(((t7132.fCode != 0) || (((gt t7132.fCoins (0 : Int)).fOut.fValue) != ((gt t6966.2.2.1 a7097).fValue))) || (((gt t7132.fCoins (0 : Int)).fHeight) != t6966.2.2.2.1))) || (idxOk (0 : Int) t7132.fCoins.length)) (bif ((((t7132.fCode != 0) || (((gt t7132.fCoins (0 : Int)).fOut.fValue) != ((gt t6966.2.2.1 a7097).fValue))) || (((gt t7132.fCoins (0 : Int)).fHeight) != t6966.2.2.2.1)) || (((gt t7132.fCoins (0 : Int)).fMined) != t6966.2.2.2.2)) then some (.inl false) else laws_FnCoins.l0 t6966 t6973 k (wrap64 (a7093 + ((gt t6966.2.2.1 a7097).fValue))) (a7095 ++ ([(⟨t6966.2.1, a7097⟩ : Ref)] : List Ref)) (wrap64 (a7097 + 1))))))))))) else some (.inr (a7093, a7095)))
theorem laws_FnCoins.l0_z (t6966 : (List Coin) × Int × (List Out) × Int × Bool) (t6973 : CoinsResult) (a7093 : Int) (a7095 : List Ref) (a7097 : Int) : laws_FnCoins.l0 t6966 t6973 0 a7093 a7095 a7097 = none := rfl
theorem laws_FnCoins.l0_s (t6966 : (List Coin) × Int × (List Out) × Int × Bool) (t6973 : CoinsResult) (k : Nat) (a7093 : Int) (a7095 : List Ref) (a7097 : Int) : laws_FnCoins.l0 t6966 t6973 (k + 1) a7093 a7095 a7097 = (bif (decide (a7097 < (t6966.2.2.1.length : Int))) then (chk (idxOk a7097 t6966.2.2.1.length) (chk (leB ((a7095.length + ([(⟨t6966.2.1, a7097⟩ : Ref)] : List Ref).length) * 16) 140737488355328) (chk (idxOk a7097 (a7095 ++ ([(⟨t6966.2.1, a7097⟩ : Ref)] : List Ref)).length) ((impl_CoinAt.f k t6973.fCoins (gt (a7095 ++ ([(⟨t6966.2.1, a7097⟩ : Ref)] : List Ref)) a7097)).bind fun t7132 => (chk (!(!(t7132.fCode != 0)) || (idxOk (0 : Int) t7132.fCoins.length)) (chk (!(!(t7132.fCode != 0)) || (idxOk a7097 t6966.2.2.1.length)) (chk (!(!((t7132.fCode != 0) || (((gt t7132.fCoins (0 : Int)).fOut.fValue) != ((gt t6966.2.2.1 a7097).fValue)))) || (idxOk (0 : Int) t7132.fCoins.length)) (chk (!(!(((t7132.fCode != 0) || (((gt t7132.fCoins (0 : Int)).fOut.fValue) != ((gt t6966.2.2.1 a7097).fValue))) || (((gt t7132.fCoins (0 : Int)).fHeight) != t6966.2.2.2.1))) || (idxOk (0 : Int) t7132.fCoins.length)) (bif ((((t7132.fCode != 0) || (((gt t7132.fCoins (0 : Int)).fOut.fValue) != ((gt t6966.2.2.1 a7097).fValue))) || (((gt t7132.fCoins (0 : Int)).fHeight) != t6966.2.2.2.1)) || (((gt t7132.fCoins (0 : Int)).fMined) != t6966.2.2.2.2)) then some (.inl false) else laws_FnCoins.l0 t6966 t6973 k (wrap64 (a7093 + ((gt t6966.2.2.1 a7097).fValue))) (a7095 ++ ([(⟨t6966.2.1, a7097⟩ : Ref)] : List Ref)) (wrap64 (a7097 + 1))))))))))) else some (.inr (a7093, a7095))) := rfl
def laws_FnCoins.f (k : Nat) (x0 : List Int) : Option Bool := ((laws_lwBig.f k x0).bind fun t6962 => (bif t6962 then some true else ((spec_DrawPutCoins.f k x0).bind fun t6966 => ((impl_PutCoins.f k t6966.1 t6966.2.1 t6966.2.2.1 t6966.2.2.2.1 t6966.2.2.2.2).bind fun t6973 => (bif (t6973.fCode != 0) then ((spec_PutCoins.f k t6966.1 t6966.2.1 t6966.2.2.1 t6966.2.2.2.1 t6966.2.2.2.2).bind fun t6989 => some (t6989.fCode == t6973.fCode)) else ((laws_FnCoins.l0 t6966 t6973 k 0 ([] : List Ref) 0).bind fun o7070 => thn o7070 (fun r => some r) (cur2 (fun a7066 a7068 => ((impl_TakeCoins.f k t6973.fCoins a7068).bind fun t7168 => ((impl_OwnedBy.f k t6973.fCoins 2).bind fun t7178 => ((impl_CoinsFault.f k t6973.fCoins).bind fun t7186 => ((bif (t7186 == 0) then impl_CoinSum.f k t6973.fCoins else some default).bind fun t7188 => ((bif (t7186 == 0) then impl_CoinSum.f k t6966.1 else some default).bind fun t7190 => ((bif (((t7186 == 0) && (t7188.fValue == (wrap64 (t7190.fValue + a7066)))) && (t7168.fCode == 0)) then impl_SameCoins.f k t7168.fCoins t6966.1 else some default).bind fun t7192 => ((bif (((((t7186 == 0) && (t7188.fValue == (wrap64 (t7190.fValue + a7066)))) && (t7168.fCode == 0)) && t7192) && (t7178.fCode == 0)) then impl_CoinSum.f k t6973.fCoins else some default).bind fun t7194 => ((bif ((((((t7186 == 0) && (t7188.fValue == (wrap64 (t7190.fValue + a7066)))) && (t7168.fCode == 0)) && t7192) && (t7178.fCode == 0)) && (decide (t7178.fValue ≤ t7194.fValue))) then spec_OwnedBy.f k t6973.fCoins 2 else some default).bind fun t7196 => ((bif (((((((t7186 == 0) && (t7188.fValue == (wrap64 (t7190.fValue + a7066)))) && (t7168.fCode == 0)) && t7192) && (t7178.fCode == 0)) && (decide (t7178.fValue ≤ t7194.fValue))) && (t7178.fValue == t7196.fValue)) then impl_SameCoins.f k t6973.fCoins t6973.fCoins else some default).bind fun t7198 => some ((((((((t7186 == 0) && (t7188.fValue == (wrap64 (t7190.fValue + a7066)))) && (t7168.fCode == 0)) && t7192) && (t7178.fCode == 0)) && (decide (t7178.fValue ≤ t7194.fValue))) && (t7178.fValue == t7196.fValue)) && t7198))))))))))))))))))
theorem laws_FnCoins.calls {k : Nat} {x0 : List Int} {p0 : Value} {w : World} (hp0 : RdS kU8 w p0 x0) {r : Bool} (H : laws_FnCoins.f k x0 = some r) :
  Calls Try.prog 3 ([p0] : List Value).toArray w (fun e w_ => ∃ v, e = .returned v ∧ v = (.bool r) ∧ Mem w [] w_ []) := by
 have HM := Mem.start w
 refine calls_run (N := 170) Try.func3 rfl rfl rfl rfl ?_
 unfold laws_FnCoins.f at H
 refine run_seq ?_
 refine run_region rfl ?_
 refine ox rfl rfl rfl rfl (ex_assign rfl rfl) ?_
 refine ops_nil (at_then (run_seq ?_))
 refine run_seq ?_
 obtain ⟨t6962, h6963, H⟩ := bind_some H
 refine run_region rfl ?_
 refine ox rfl rfl rfl rfl (ex_move rfl rfl) ?_
 refine od rfl rfl rfl rfl (does_callk rfl callok4 rfl (laws_lwBig.calls (x0 := x0) (HM.rd hp0) h6963)) ?_
 rintro _ w6964 ⟨rfl, hn⟩
 replace HM : Mem w [] w6964 [] := HM.call hn
 refine ops_nil (at_then ?_)
 refine run_cond (b := t6962) rfl (fun hb6965 => ?_) (fun hb6965 => ?_)
 ·replace H := cond_t hb6965 H
  refine run_seq ?_
  refine run_region rfl ?_
  refine ox rfl rfl rfl rfl (ex_assign rfl rfl) ?_
  refine ops_nil (at_then ?_)
  refine run_ret ?_
  refine at_then_ret ?_
  have hR := Option.some.inj H
  subst hR
  exact at_ret1 rfl rfl ⟨_, rfl, rfl, HM⟩
 ·replace H := cond_f hb6965 H
  refine run_skip ?_
  refine at_then ?_
  refine run_seq ?_
  obtain ⟨t6966, h6967, H⟩ := bind_some H
  refine run_region rfl ?_
  refine ox rfl rfl rfl rfl (ex_move rfl rfl) ?_
  refine od rfl rfl rfl rfl (does_callk rfl callok5 rfl (spec_DrawPutCoins.calls (x0 := x0) (HM.rd hp0) h6967)) ?_
  rintro _ w6972 ⟨u6968, u6970, rfl, hn⟩
  replace HM : Mem w [] w6972 [fro kCoin u6968 t6966.1, own kOut 36 u6970 t6966.2.2.1] := HM.call hn
  refine ox rfl rfl rfl rfl (ex_move rfl rfl) ?_
  refine ox rfl rfl rfl rfl (ex_extract rfl rfl rfl) ?_
  refine ox rfl rfl rfl rfl (ex_extract rfl rfl rfl) ?_
  refine ox rfl rfl rfl rfl (ex_extract rfl rfl rfl) ?_
  refine ox rfl rfl rfl rfl (ex_extract rfl rfl rfl) ?_
  refine ox rfl rfl rfl rfl (ex_extract rfl rfl rfl) ?_
  refine ox rfl rfl rfl rfl (ex_assign rfl rfl) ?_
  refine ox rfl rfl rfl rfl (ex_assign rfl rfl) ?_
  refine ox rfl rfl rfl rfl (ex_assign rfl rfl) ?_
  refine ox rfl rfl rfl rfl (ex_assign rfl rfl) ?_
  refine ox rfl rfl rfl rfl (ex_assign rfl rfl) ?_
  refine ops_nil (at_then (run_seq ?_))
  obtain ⟨t6973, h6974, H⟩ := bind_some H
  refine run_region rfl ?_
  refine ox rfl rfl rfl rfl (ex_move rfl rfl) ?_
  refine ox rfl rfl rfl rfl (ex_move rfl rfl) ?_
  refine ox rfl rfl rfl rfl (ex_move rfl rfl) ?_
  refine ox rfl rfl rfl rfl (ex_move rfl rfl) ?_
  refine ox rfl rfl rfl rfl (ex_move rfl rfl) ?_
  refine od rfl rfl rfl rfl (does_callk rfl callok6 rfl (impl_PutCoins.calls (x0 := t6966.1) (x1 := t6966.2.1) (x2 := t6966.2.2.1) (x3 := t6966.2.2.2.1) (x4 := t6966.2.2.2.2) (HM.fro_rd 0 rfl) (HM.own_rd 1 rfl) h6974)) ?_
  rintro _ w6980 ⟨u6975, rfl, hn⟩
  replace HM : Mem w [] w6980 [own kCoin 41 u6975 t6973.fCoins, fro kCoin u6968 t6966.1, own kOut 36 u6970 t6966.2.2.1] := HM.call hn
  refine od rfl rfl rfl rfl (does_alloc (cs := [.int .i64 0, .slice none 0 0]) rfl tz29 rfl HM) ?_
  rintro _ w6981 ⟨b6977, rfl, HM⟩
  refine odS rfl rfl rfl (does_store (vs := [.int .i64 t6973.fCode, u6975]) (cs' := [.int .i64 t6973.fCode, u6975]) rfl rfl rfl rfl tsz29 (Ones.int (Ones.rd (HM.own_rd 1 rfl) Ones.nil)) rfl rfl HM) ?_
  rintro w6982 HM
  refine ops_nil (at_then (run_seq ?_))
  refine run_seq ?_
  refine run_region rfl ?_
  refine ox rfl rfl rfl rfl (ex_fieldAddr (off' := 0) rfl rfl Try.underlying29 rfl tsz2 rfl) ?_
  refine ox rfl rfl rfl rfl (ex_load1 rfl rfl Try.underlying2 rfl ((HM.box_at 0 rfl) 0 _ rfl)) ?_
  refine ox rfl rfl rfl rfl (ex_neq rfl rfl rfl) ?_
  refine ops_nil (at_then ?_)
  refine run_cond (b := (t6973.fCode != 0)) rfl (fun hb6988 => ?_) (fun hb6988 => ?_)
  ·replace H := cond_t hb6988 H
   refine run_seq ?_
   obtain ⟨t6989, h6990, H⟩ := bind_some H
   refine run_drawf (fun w_ => Mem w [] w_ [box b6977 29 [.int .i64 t6973.fCode, u6975], own kCoin 41 u6975 t6973.fCoins, fro kCoin u6968 t6966.1, own kOut 36 u6970 t6966.2.2.1]) [(0, true), (1, true), (2, true), (3, true), (4, true), (7, true), (8, true), (5, false), (6, true), (9, true), (10, true)] mixed rfl rfl (by kernel_rfl) ?_
   replace HM := HM.grow (fr_drew _)
   have hS := Mem.suf (M := []) HM
   refine dp rfl rfl rfl rfl (ex_move rfl rfl) hS ?_
   refine dp rfl rfl rfl rfl (ex_move rfl rfl) hS ?_
   refine dp rfl rfl rfl rfl (ex_move rfl rfl) hS ?_
   refine dp rfl rfl rfl rfl (ex_move rfl rfl) hS ?_
   refine dp rfl rfl rfl rfl (ex_move rfl rfl) hS ?_
   refine dp rfl rfl rfl rfl (ex_fieldAddr (off' := 0) rfl rfl Try.underlying29 rfl tsz2 rfl) hS ?_
   refine drwp_take rfl (guard_none rfl) rfl rfl (fun w_ hS_ => (ex_load1 rfl rfl Try.underlying2 rfl ((hS_.box_at 0 rfl) 0 _ rfl))) hS ?_
   refine drwp_one rfl (guard_none rfl) rfl rfl (does_callk rfl callok7 rfl (spec_PutCoins.calls (x0 := t6966.1) (x1 := t6966.2.1) (x2 := t6966.2.2.1) (x3 := t6966.2.2.2.1) (x4 := t6966.2.2.2.2) (HM.fro_rd 2 rfl) (HM.own_rd 3 rfl) h6990)) ?_
   rintro _ w6993 ⟨u6991, rfl, hn⟩
   replace HM : Mem w [] w6993 [own kCoin 41 u6991 t6989.fCoins, box b6977 29 [.int .i64 t6973.fCode, u6975], own kCoin 41 u6975 t6973.fCoins, fro kCoin u6968 t6966.1, own kOut 36 u6970 t6966.2.2.1] := HM.call hn
   have hS := Mem.suf (M := [own kCoin 41 u6991 t6989.fCoins]) HM
   refine ⟨hS, ?_⟩
   refine dp rfl rfl rfl rfl (ex_field1 rfl rfl Try.underlying29 rfl Try.underlying2 rfl rfl) hS ?_
   refine dp rfl rfl rfl rfl (ex_eql rfl rfl rfl) hS ?_
   refine dp rfl rfl rfl rfl (ex_assign rfl rfl) hS ?_
   refine drwp_done ?_
   refine at_then ?_
   refine run_ret ?_
   refine at_then_ret ?_
   replace HM := (HM.front 0 rfl rfl).drop
   replace HM := (HM.front 0 rfl rfl).drop
   replace HM := (HM.front 0 rfl rfl).drop
   replace HM := (HM.front 0 rfl rfl).drop
   replace HM := (HM.front 0 rfl rfl).drop
   have hR := Option.some.inj H
   subst hR
   exact at_ret1 rfl rfl ⟨_, rfl, rfl, HM⟩
  ·replace H := cond_f hb6988 H
   refine run_skip ?_
   refine at_then ?_
   refine run_seq ?_
   refine run_region rfl ?_
   refine ox rfl rfl rfl rfl (ex_assign rfl rfl) ?_
   refine ops_nil (at_then (run_seq ?_))
   refine run_region rfl ?_
   refine od rfl rfl rfl rfl (does_lit (e := 38) (cs := []) (xs := ([] : List Ref)) kRef rfl rfl (fun _ => by kernel_rfl) rfl rfl (fun _ _ h => by have h' : _ = [] := h; subst h'; exact .nil) HM.emp) ?_
   rintro v6994 w6997 HM
   refine ox rfl rfl rfl rfl (ex_assign rfl rfl) ?_
   refine ops_nil (at_then ?_)
   obtain ⟨o7070, ho7071, H⟩ := bind_some H
   refine run_mid (fun ρ_ w_ => ∃ a7066 : Int, ∃ v7067 : Value, ∃ a7068 : List Ref, Sum.inr (a7066, a7068) = o7070 ∧ ρ_ = [(3, u6968), (8, .pointer (some ⟨b6977, 0, none⟩)), (9, .int .i64 a7066), (10, v7067)] ∧ Mem w [] w_ [fro kCoin u6968 t6966.1, box b6977 29 [.int .i64 t6973.fCode, u6975], own kCoin 41 u6975 t6973.fCoins, own kRef 38 v7067 a7068]) ?_ ?_
   ·skip
    refine run_seq ?_
    refine run_region rfl ?_
    refine ox rfl rfl rfl rfl (ex_assign rfl rfl) ?_
    refine ops_nil (at_then ?_)
    refine run_block ?_
    replace HM := HM.front 2 rfl rfl
    replace HM := HM.front 2 rfl rfl
    replace HM := HM.front 4 rfl rfl
    replace HM := HM.front 4 rfl rfl
    refine run_loop (fun k_ ρ_ w_ => ∃ a7093 : Int, ∃ v7094 : Value, ∃ a7095 : List Ref, ∃ a7097 : Int, laws_FnCoins.l0 t6966 t6973 k_ a7093 a7095 a7097 = some o7070 ∧ ρ_ = [(3, u6968), (4, .int .i64 t6966.2.1), (5, u6970), (6, .int .i64 t6966.2.2.2.1), (7, .bool t6966.2.2.2.2), (8, .pointer (some ⟨b6977, 0, none⟩)), (9, .int .i64 a7093), (10, v7094), (11, .int .i64 a7097)] ∧ Mem w [] w_ [fro kCoin u6968 t6966.1, own kOut 36 u6970 t6966.2.2.1, box b6977 29 [.int .i64 t6973.fCode, u6975], own kCoin 41 u6975 t6973.fCoins, own kRef 38 v7094 a7095]) k (ρ1 := [(3, u6968), (4, .int .i64 t6966.2.1), (5, u6970), (6, .int .i64 t6966.2.2.2.1), (7, .bool t6966.2.2.2.2), (8, .pointer (some ⟨b6977, 0, none⟩)), (9, .int .i64 0), (10, v6994), (11, .int .i64 0)]) ⟨_, _, _, _, ho7071, rfl, HM⟩ (Sub.cons rfl (Sub.cons rfl (Sub.cons rfl (Sub.cons rfl (Sub.cons rfl (Sub.cons rfl (Sub.cons rfl (Sub.cons rfl (Sub.cons rfl Sub.nil))))))))) ?_
    clear HM ho7071
    rintro k7119 _ w7120 ⟨a7093, v7094, a7095, a7097, ho7071, rfl, HM⟩
    obtain _ | k7119 := k7119
    ·exact nomatch ((laws_FnCoins.l0_z t6966 t6973 a7093 a7095 a7097).symm.trans ho7071)
    replace ho7071 := (laws_FnCoins.l0_s t6966 t6973 k7119 a7093 a7095 a7097).symm.trans ho7071
    refine run_seq ?_
    refine run_seq ?_
    refine run_region rfl ?_
    refine ox rfl rfl rfl rfl (ex_move rfl rfl) ?_
    refine ox rfl rfl rfl rfl (ex_move rfl rfl) ?_
    refine ox rfl rfl rfl rfl (ex_len (d := kOut) (xs := t6966.2.2.1) rfl rfl Try.underlying25 (HM.own_rd 1 rfl)) ?_
    refine ox rfl rfl rfl rfl (ex_lss rfl rfl rfl) ?_
    refine ops_nil (at_then ?_)
    refine run_cond (b := (decide (a7097 < (t6966.2.2.1.length : Int)))) rfl (fun hb7121 => ?_) (fun hb7121 => ?_)
    ·replace ho7071 := cond_t hb7121 ho7071
     refine run_skip ?_
     refine at_then ?_
     refine run_seq ?_
     refine run_block ?_
     refine run_seq ?_
     obtain ⟨e7122, ho7071⟩ := chk_some ho7071
     refine run_region rfl ?_
     refine ox rfl rfl rfl rfl (ex_move rfl rfl) ?_
     refine ox rfl rfl rfl rfl (ex_move rfl rfl) ?_
     refine ox rfl rfl rfl rfl (ex_move rfl rfl) ?_
     refine ox rfl rfl rfl rfl (ex_indexAddr (d := kOut) rfl rfl rfl Try.underlying25 tsz36 (HM.own_rd 1 rfl) (idx_lo e7122) (idx_hi e7122)) ?_
     refine ox rfl rfl rfl rfl (ex_fieldAddr (off' := so u6970 + (a7097).toNat * 4) rfl rfl Try.underlying36 rfl tsz2 rfl) ?_
     refine ox rfl rfl rfl rfl (let ⟨_, hc_, _⟩ := rd_with1 (HM.own_rd 1 rfl) e7122; ex_load1 rfl rfl Try.underlying2 rfl (hc_ 0 _ rfl)) ?_
     refine ox rfl rfl rfl rfl (ex_add rfl rfl rfl) ?_
     refine ox rfl rfl rfl rfl (ex_assign rfl rfl) ?_
     refine ops_nil (at_then (run_seq ?_))
     obtain ⟨e7126, ho7071⟩ := chk_some ho7071
     refine run_region rfl ?_
     refine ox rfl rfl rfl rfl (ex_move rfl rfl) ?_
     refine ox rfl rfl rfl rfl (ex_move rfl rfl) ?_
     refine ox rfl rfl rfl rfl (ex_move rfl rfl) ?_
     refine ox rfl rfl rfl rfl (ex_build (cells := #[(.int .i64 t6966.2.1), (.int .i64 a7097)]) rfl rfl (by kernel_rfl)) ?_
     refine od rfl rfl rfl rfl (does_lit (e := 38) (cs := [.int .i64 t6966.2.1, .int .i64 a7097]) (xs := ([(⟨t6966.2.1, a7097⟩ : Ref)] : List Ref)) kRef rfl rfl (fun _ => by kernel_rfl) rfl rfl (fun _ _ h => by have h' : _ = [] := h; subst h'; exact (Elems.cons (d := kRef) (x := (⟨t6966.2.1, a7097⟩ : Ref)) (f := []) ⟨rfl, rfl⟩ .nil)) HM.emp) ?_
     rintro v7123 w7129 HM
     replace HM := HM.front 5 rfl rfl
     refine od rfl rfl rfl rfl (does_appendR kRef flat_plain rfl rfl rfl Try.underlying31 tsz38 rfl tby38 tz38 rfl rfl (leB_le e7126) (HM.own_rd 1 rfl) HM) ?_
     rintro v7127 w7130 HM
     refine ox rfl rfl rfl rfl (ex_assign rfl rfl) ?_
     refine ops_nil (at_then (run_seq ?_))
     obtain ⟨e7131, ho7071⟩ := chk_some ho7071
     obtain ⟨t7132, h7133, ho7071⟩ := bind_some ho7071
     refine run_meet (fun ρ_ w_ => ∃ u7134 : Value, ∃ b7136 : Nat, ρ_ = [(3, u6968), (4, .int .i64 t6966.2.1), (5, u6970), (6, .int .i64 t6966.2.2.2.1), (7, .bool t6966.2.2.2.2), (8, .pointer (some ⟨b6977, 0, none⟩)), (9, .int .i64 (wrap64 (a7093 + ((gt t6966.2.2.1 a7097).fValue)))), (10, v7127), (11, .int .i64 a7097), (12, .pointer (some ⟨b7136, 0, none⟩))] ∧ Mem w [] w_ [fro kCoin u6968 t6966.1, own kOut 36 u6970 t6966.2.2.1, box b6977 29 [.int .i64 t6973.fCode, u6975], own kCoin 41 u6975 t6973.fCoins, own kRef 38 v7127 (a7095 ++ ([(⟨t6966.2.1, a7097⟩ : Ref)] : List Ref)), box b7136 29 [.int .i64 t7132.fCode, u7134], own kCoin 41 u7134 t7132.fCoins]) ?_ ?_
     ·skip
      refine run_draw (fun w_ => Mem w [] w_ [own kRef 38 v7127 (a7095 ++ ([(⟨t6966.2.1, a7097⟩ : Ref)] : List Ref)), own kRef 38 v7123 ([(⟨t6966.2.1, a7097⟩ : Ref)] : List Ref), fro kCoin u6968 t6966.1, own kOut 36 u6970 t6966.2.2.1, box b6977 29 [.int .i64 t6973.fCode, u6975], own kCoin 41 u6975 t6973.fCoins]) mixed rfl (l := #[false, false, false, false, false, false, false, false, false]) rfl ?_
      replace HM := HM.grow (fr_drew _)
      have hS := Mem.suf (M := []) HM
      refine drw_cut2 (l' := #[true, true, true, true, true, true, true, true, false]) (f' := 1) (fun (u7134 : Value) => fun (b7136 : Nat) => [(3, u6968), (4, .int .i64 t6966.2.1), (5, u6970), (6, .int .i64 t6966.2.2.2.1), (7, .bool t6966.2.2.2.2), (8, .pointer (some ⟨b6977, 0, none⟩)), (9, .int .i64 (wrap64 (a7093 + ((gt t6966.2.2.1 a7097).fValue)))), (10, v7127), (11, .int .i64 a7097), (70, .agg #[(.int .i64 t7132.fCode), u7134]), (12, .pointer (some ⟨b7136, 0, none⟩))]) (fun (u7134 : Value) => fun (b7136 : Nat) => fun w_ => Mem w [] w_ [box b7136 29 [.int .i64 0, .slice none 0 0], own kCoin 41 u7134 t7132.fCoins, own kRef 38 v7127 (a7095 ++ ([(⟨t6966.2.1, a7097⟩ : Ref)] : List Ref)), own kRef 38 v7123 ([(⟨t6966.2.1, a7097⟩ : Ref)] : List Ref), fro kCoin u6968 t6966.1, own kOut 36 u6970 t6966.2.2.1, box b6977 29 [.int .i64 t6973.fCode, u6975], own kCoin 41 u6975 t6973.fCoins]) ?_ (fun K7144 => ?_)
      ·rintro u7134 b7136 w7145 HM
       replace HM : Mem w [] w7145 [box b7136 29 [.int .i64 0, .slice none 0 0], own kCoin 41 u7134 t7132.fCoins, own kRef 38 v7127 (a7095 ++ ([(⟨t6966.2.1, a7097⟩ : Ref)] : List Ref)), own kRef 38 v7123 ([(⟨t6966.2.1, a7097⟩ : Ref)] : List Ref), fro kCoin u6968 t6966.1, own kOut 36 u6970 t6966.2.2.1, box b6977 29 [.int .i64 t6973.fCode, u6975], own kCoin 41 u6975 t6973.fCoins] := HM
       have hS := Mem.suf (M := [box b7136 29 [.int .i64 0, .slice none 0 0], own kCoin 41 u7134 t7132.fCoins]) HM
       refine drw_any [8] (by kernel_rfl) rfl (.cons ?_ .nil)
       refine br_doesS (l' := #[true, true, true, true, true, true, true, true, true]) rfl (guard_none rfl) rfl (by kernel_rfl) (does_store (vs := [.int .i64 t7132.fCode, u7134]) (cs' := [.int .i64 t7132.fCode, u7134]) rfl rfl rfl rfl tsz29 (Ones.int (Ones.rd (HM.own_rd 1 rfl) Ones.nil)) rfl rfl HM) ?_
       rintro w7146 HM
       have hS := Mem.suf (M := [box b7136 29 [.int .i64 t7132.fCode, u7134], own kCoin 41 u7134 t7132.fCoins]) HM
       refine ⟨hS, ?_⟩
       refine drw_done (by kernel_rfl) ?_
       replace HM := (HM.front 3 rfl rfl).drop
       replace HM := HM.front 1 rfl rfl
       replace HM := HM.front 1 rfl rfl
       replace HM := HM.front 2 rfl rfl
       replace HM := HM.front 6 rfl rfl
       replace HM := HM.front 6 rfl rfl
       replace HM := HM.front 6 rfl rfl
       replace HM := HM.front 6 rfl rfl
       exact at_meet [(3, u6968), (4, .int .i64 t6966.2.1), (5, u6970), (6, .int .i64 t6966.2.2.2.1), (7, .bool t6966.2.2.2.2), (8, .pointer (some ⟨b6977, 0, none⟩)), (9, .int .i64 (wrap64 (a7093 + ((gt t6966.2.2.1 a7097).fValue)))), (10, v7127), (11, .int .i64 a7097), (12, .pointer (some ⟨b7136, 0, none⟩))] ⟨_, _, rfl, HM⟩ (Sub.cons rfl (Sub.cons rfl (Sub.cons rfl (Sub.cons rfl (Sub.cons rfl (Sub.cons rfl (Sub.cons rfl (Sub.cons rfl (Sub.cons rfl (Sub.cons rfl Sub.nil))))))))))
      refine dt 0 #[true, false, false, false, false, false, false, false, false] rfl rfl rfl rfl (by kernel_rfl) (ex_fieldAddr (off' := 1) rfl rfl Try.underlying29 rfl tsz24 rfl) hS ?_
      refine drw_take (i := 1) (l' := #[true, true, false, false, false, false, false, false, false]) rfl (guard_none rfl) rfl rfl (by kernel_rfl) (fun w_ hS_ => (ex_load1 rfl rfl Try.underlying24 rfl ((hS_.box_at 4 rfl) 1 _ rfl))) hS ?_
      refine dt 2 #[true, true, true, false, false, false, false, false, false] rfl rfl rfl rfl (by kernel_rfl) (ex_move rfl rfl) hS ?_
      refine dt 3 #[true, true, true, true, false, false, false, false, false] rfl rfl rfl rfl (by kernel_rfl) (ex_move rfl rfl) hS ?_
      refine drw_take (i := 4) (l' := #[true, true, true, true, true, false, false, false, false]) rfl (guard_none rfl) rfl rfl (by kernel_rfl) (fun w_ hS_ => (ex_indexAddr (d := kRef) rfl rfl rfl Try.underlying31 tsz38 (hS_.own_rd 0 rfl) (idx_lo e7131) (idx_hi e7131))) hS ?_
      refine drw_take (i := 5) (l' := #[true, true, true, true, true, true, false, false, false]) rfl (guard_none rfl) rfl rfl (by kernel_rfl) (fun w_ hS_ => (ex_loadN (cs := [(.int .i64 ((gt (a7095 ++ ([(⟨t6966.2.1, a7097⟩ : Ref)] : List Ref)) a7097).fTx)), (.int .i64 ((gt (a7095 ++ ([(⟨t6966.2.1, a7097⟩ : Ref)] : List Ref)) a7097).fAt))]) rfl rfl Try.underlying38 rfl tsz38 rfl ((rd_plain (hS_.own_rd 0 rfl) e7131).sub 0 2 rfl))) hS ?_
      refine drw_any [6, 7] (by kernel_rfl) rfl (.cons ?_ (.cons ?_ .nil))
      ·skip
       refine br_does (l' := #[true, true, true, true, true, true, true, false, false]) rfl (guard_none rfl) rfl rfl (by kernel_rfl) (does_callk rfl callok8 rfl (impl_CoinAt.calls (x0 := t6973.fCoins) (x1 := (gt (a7095 ++ ([(⟨t6966.2.1, a7097⟩ : Ref)] : List Ref)) a7097)) (HM.own_rd 5 rfl) h7133)) ?_
       rintro _ w7147 ⟨u7134, rfl, hn⟩
       replace HM : Mem w [] w7147 [own kCoin 41 u7134 t7132.fCoins, own kRef 38 v7127 (a7095 ++ ([(⟨t6966.2.1, a7097⟩ : Ref)] : List Ref)), own kRef 38 v7123 ([(⟨t6966.2.1, a7097⟩ : Ref)] : List Ref), fro kCoin u6968 t6966.1, own kOut 36 u6970 t6966.2.2.1, box b6977 29 [.int .i64 t6973.fCode, u6975], own kCoin 41 u6975 t6973.fCoins] := HM.call hn
       have hS := Mem.suf (M := [own kCoin 41 u7134 t7132.fCoins]) HM
       refine ⟨hS, ?_⟩
       refine drw_any [7] (by kernel_rfl) rfl (.cons ?_ .nil)
       refine br_does (l' := #[true, true, true, true, true, true, true, true, false]) rfl (guard_none rfl) rfl rfl (by kernel_rfl) (does_alloc (cs := [.int .i64 0, .slice none 0 0]) rfl tz29 rfl HM) ?_
       rintro _ w7148 ⟨b7136, rfl, HM⟩
       have hS := Mem.suf (M := [box b7136 29 [.int .i64 0, .slice none 0 0], own kCoin 41 u7134 t7132.fCoins]) HM
       refine ⟨hS, ?_⟩
       exact drw_sub (K7144 u7134 b7136 _ HM) (Sub.cons rfl (Sub.cons rfl (Sub.cons rfl (Sub.cons rfl (Sub.cons rfl (Sub.cons rfl (Sub.cons rfl (Sub.cons rfl (Sub.cons rfl (Sub.cons rfl (Sub.cons rfl Sub.nil)))))))))))
      ·skip
       refine br_does (l' := #[true, true, true, true, true, true, false, true, false]) rfl (guard_none rfl) rfl rfl (by kernel_rfl) (does_alloc (cs := [.int .i64 0, .slice none 0 0]) rfl tz29 rfl HM) ?_
       rintro _ w7149 ⟨b7136, rfl, HM⟩
       have hS := Mem.suf (M := [box b7136 29 [.int .i64 0, .slice none 0 0]]) HM
       refine ⟨hS, ?_⟩
       refine drw_any [6] (by kernel_rfl) rfl (.cons ?_ .nil)
       refine br_does (l' := #[true, true, true, true, true, true, true, true, false]) rfl (guard_none rfl) rfl rfl (by kernel_rfl) (does_callk rfl callok8 rfl (impl_CoinAt.calls (x0 := t6973.fCoins) (x1 := (gt (a7095 ++ ([(⟨t6966.2.1, a7097⟩ : Ref)] : List Ref)) a7097)) (HM.own_rd 6 rfl) h7133)) ?_
       rintro _ w7150 ⟨u7134, rfl, hn⟩
       replace HM : Mem w [] w7150 [own kCoin 41 u7134 t7132.fCoins, box b7136 29 [.int .i64 0, .slice none 0 0], own kRef 38 v7127 (a7095 ++ ([(⟨t6966.2.1, a7097⟩ : Ref)] : List Ref)), own kRef 38 v7123 ([(⟨t6966.2.1, a7097⟩ : Ref)] : List Ref), fro kCoin u6968 t6966.1, own kOut 36 u6970 t6966.2.2.1, box b6977 29 [.int .i64 t6973.fCode, u6975], own kCoin 41 u6975 t6973.fCoins] := HM.call hn
       have hS := Mem.suf (M := [own kCoin 41 u7134 t7132.fCoins, box b7136 29 [.int .i64 0, .slice none 0 0]]) HM
       refine ⟨hS, ?_⟩
       replace HM := HM.front 7 rfl rfl
       replace HM := HM.front 7 rfl rfl
       replace HM := HM.front 7 rfl rfl
       replace HM := HM.front 7 rfl rfl
       replace HM := HM.front 7 rfl rfl
       replace HM := HM.front 7 rfl rfl
       replace HM := HM.front 6 rfl rfl
       replace HM := HM.front 7 rfl rfl
       exact drw_sub (K7144 u7134 b7136 _ HM) (Sub.cons rfl (Sub.cons rfl (Sub.cons rfl (Sub.cons rfl (Sub.cons rfl (Sub.cons rfl (Sub.cons rfl (Sub.cons rfl (Sub.cons rfl (Sub.cons rfl (Sub.cons rfl Sub.nil)))))))))))
     ·rintro _ w7151 ⟨u7134, b7136, rfl, HM⟩
      refine at_then ?_
      refine run_seq ?_
      obtain ⟨e7152, ho7071⟩ := chk_some ho7071
      obtain ⟨e7153, ho7071⟩ := chk_some ho7071
      obtain ⟨e7154, ho7071⟩ := chk_some ho7071
      obtain ⟨e7155, ho7071⟩ := chk_some ho7071
      refine run_meet (fun ρ_ w_ => ρ_ = [(3, u6968), (4, .int .i64 t6966.2.1), (5, u6970), (6, .int .i64 t6966.2.2.2.1), (7, .bool t6966.2.2.2.2), (8, .pointer (some ⟨b6977, 0, none⟩)), (9, .int .i64 (wrap64 (a7093 + ((gt t6966.2.2.1 a7097).fValue)))), (10, v7127), (11, .int .i64 a7097), (105, .bool ((((t7132.fCode != 0) || (((gt t7132.fCoins (0 : Int)).fOut.fValue) != ((gt t6966.2.2.1 a7097).fValue))) || (((gt t7132.fCoins (0 : Int)).fHeight) != t6966.2.2.2.1)) || (((gt t7132.fCoins (0 : Int)).fMined) != t6966.2.2.2.2)))] ∧ Mem w [] w_ [fro kCoin u6968 t6966.1, own kOut 36 u6970 t6966.2.2.1, box b6977 29 [.int .i64 t6973.fCode, u6975], own kCoin 41 u6975 t6973.fCoins, own kRef 38 v7127 (a7095 ++ ([(⟨t6966.2.1, a7097⟩ : Ref)] : List Ref))]) ?_ ?_
      ·skip
       refine run_drawf (fun w_ => Mem w [] w_ [fro kCoin u6968 t6966.1, own kOut 36 u6970 t6966.2.2.1, box b6977 29 [.int .i64 t6973.fCode, u6975], own kCoin 41 u6975 t6973.fCoins, own kRef 38 v7127 (a7095 ++ ([(⟨t6966.2.1, a7097⟩ : Ref)] : List Ref)), box b7136 29 [.int .i64 t7132.fCode, u7134], own kCoin 41 u7134 t7132.fCoins]) [(0, true), (1, true), (2, true), (3, true), (4, true), (5, true), (6, true), (7, true), (8, true), (9, true), (10, true), (11, true), (12, true), (13, true), (14, true), (15, true), (16, true), (17, true), (18, true), (19, true), (20, true), (21, true), (22, true), (23, true), (24, true), (25, true), (26, true), (27, true), (28, true), (29, true), (30, true), (31, true), (32, true), (33, true), (34, true)] mixed rfl rfl (by kernel_rfl) ?_
       replace HM := HM.grow (fr_drew _)
       have hS := Mem.suf (M := []) HM
       refine dp rfl rfl rfl rfl (ex_fieldAddr (off' := 0) rfl rfl Try.underlying29 rfl tsz2 rfl) hS ?_
       refine drwp_take rfl (guard_none rfl) rfl rfl (fun w_ hS_ => (ex_load1 rfl rfl Try.underlying2 rfl ((hS_.box_at 5 rfl) 0 _ rfl))) hS ?_
       refine dp rfl rfl rfl rfl (ex_neq rfl rfl rfl) hS ?_
       refine dp rfl rfl rfl rfl (ex_move rfl rfl) hS ?_
       refine bool_cases (t7132.fCode != 0) (fun hg7156 => ?_) (fun hg7156 => ?_)
       ·skip
        refine drwp_off rfl (guard_off rfl rfl rfl hg7156) rfl rfl hS ?_
        refine drwp_off rfl (guard_off rfl rfl rfl hg7156) rfl rfl hS ?_
        refine drwp_off rfl (guard_off rfl rfl rfl hg7156) rfl rfl hS ?_
        refine drwp_off rfl (guard_off rfl rfl rfl hg7156) rfl rfl hS ?_
        refine drwp_off rfl (guard_off rfl rfl rfl hg7156) rfl rfl hS ?_
        refine drwp_off rfl (guard_off rfl rfl rfl hg7156) rfl rfl hS ?_
        refine drwp_off rfl (guard_off rfl rfl rfl hg7156) rfl rfl hS ?_
        refine drwp_off rfl (guard_off rfl rfl rfl hg7156) rfl rfl hS ?_
        refine drwp_off rfl (guard_off rfl rfl rfl hg7156) rfl rfl hS ?_
        refine drwp_off rfl (guard_off rfl rfl rfl hg7156) rfl rfl hS ?_
        refine drwp_off rfl (guard_off rfl rfl rfl hg7156) rfl rfl hS ?_
        refine drwp_off rfl (guard_off rfl rfl rfl hg7156) rfl rfl hS ?_
        have hg7157 : ((t7132.fCode != 0) || (((gt t7132.fCoins (0 : Int)).fOut.fValue) != ((gt t6966.2.2.1 a7097).fValue))) = true := by simp only [hg7156, Bool.and_true, Bool.true_and, Bool.and_false, Bool.false_and, Bool.or_true, Bool.true_or, Bool.or_false, Bool.false_or, Bool.not_true, Bool.not_false, Bool.not_not]
        refine drwp_take (v := .bool ((t7132.fCode != 0) || (((gt t7132.fCoins (0 : Int)).fOut.fValue) != ((gt t6966.2.2.1 a7097).fValue)))) rfl (guard_none rfl) rfl rfl (fun w_ hS_ => (ex_por_t rfl rfl hg7156)) hS ?_
        refine dp rfl rfl rfl rfl (ex_move rfl rfl) hS ?_
        refine drwp_off rfl (guard_off rfl rfl rfl hg7157) rfl rfl hS ?_
        refine drwp_off rfl (guard_off rfl rfl rfl hg7157) rfl rfl hS ?_
        refine drwp_off rfl (guard_off rfl rfl rfl hg7157) rfl rfl hS ?_
        refine drwp_off rfl (guard_off rfl rfl rfl hg7157) rfl rfl hS ?_
        refine drwp_off rfl (guard_off rfl rfl rfl hg7157) rfl rfl hS ?_
        refine drwp_off rfl (guard_off rfl rfl rfl hg7157) rfl rfl hS ?_
        refine drwp_off rfl (guard_off rfl rfl rfl hg7157) rfl rfl hS ?_
        have hg7158 : (((t7132.fCode != 0) || (((gt t7132.fCoins (0 : Int)).fOut.fValue) != ((gt t6966.2.2.1 a7097).fValue))) || (((gt t7132.fCoins (0 : Int)).fHeight) != t6966.2.2.2.1)) = true := by simp only [hg7157, Bool.and_true, Bool.true_and, Bool.and_false, Bool.false_and, Bool.or_true, Bool.true_or, Bool.or_false, Bool.false_or, Bool.not_true, Bool.not_false, Bool.not_not]
        refine drwp_take (v := .bool (((t7132.fCode != 0) || (((gt t7132.fCoins (0 : Int)).fOut.fValue) != ((gt t6966.2.2.1 a7097).fValue))) || (((gt t7132.fCoins (0 : Int)).fHeight) != t6966.2.2.2.1))) rfl (guard_none rfl) rfl rfl (fun w_ hS_ => (ex_por_t rfl rfl hg7157)) hS ?_
        refine dp rfl rfl rfl rfl (ex_move rfl rfl) hS ?_
        refine drwp_off rfl (guard_off rfl rfl rfl hg7158) rfl rfl hS ?_
        refine drwp_off rfl (guard_off rfl rfl rfl hg7158) rfl rfl hS ?_
        refine drwp_off rfl (guard_off rfl rfl rfl hg7158) rfl rfl hS ?_
        refine drwp_off rfl (guard_off rfl rfl rfl hg7158) rfl rfl hS ?_
        refine drwp_off rfl (guard_off rfl rfl rfl hg7158) rfl rfl hS ?_
        refine drwp_off rfl (guard_off rfl rfl rfl hg7158) rfl rfl hS ?_
        refine drwp_off rfl (guard_off rfl rfl rfl hg7158) rfl rfl hS ?_
        have hg7159 : ((((t7132.fCode != 0) || (((gt t7132.fCoins (0 : Int)).fOut.fValue) != ((gt t6966.2.2.1 a7097).fValue))) || (((gt t7132.fCoins (0 : Int)).fHeight) != t6966.2.2.2.1)) || (((gt t7132.fCoins (0 : Int)).fMined) != t6966.2.2.2.2)) = true := by simp only [hg7158, Bool.and_true, Bool.true_and, Bool.and_false, Bool.false_and, Bool.or_true, Bool.true_or, Bool.or_false, Bool.false_or, Bool.not_true, Bool.not_false, Bool.not_not]
        refine drwp_take (v := .bool ((((t7132.fCode != 0) || (((gt t7132.fCoins (0 : Int)).fOut.fValue) != ((gt t6966.2.2.1 a7097).fValue))) || (((gt t7132.fCoins (0 : Int)).fHeight) != t6966.2.2.2.1)) || (((gt t7132.fCoins (0 : Int)).fMined) != t6966.2.2.2.2))) rfl (guard_none rfl) rfl rfl (fun w_ hS_ => (ex_por_t rfl rfl hg7158)) hS ?_
        refine drwp_done ?_
        replace HM := (HM.front 5 rfl rfl).drop
        replace HM := (HM.front 5 rfl rfl).drop
        exact at_meet [(3, u6968), (4, .int .i64 t6966.2.1), (5, u6970), (6, .int .i64 t6966.2.2.2.1), (7, .bool t6966.2.2.2.2), (8, .pointer (some ⟨b6977, 0, none⟩)), (9, .int .i64 (wrap64 (a7093 + ((gt t6966.2.2.1 a7097).fValue)))), (10, v7127), (11, .int .i64 a7097), (105, .bool ((((t7132.fCode != 0) || (((gt t7132.fCoins (0 : Int)).fOut.fValue) != ((gt t6966.2.2.1 a7097).fValue))) || (((gt t7132.fCoins (0 : Int)).fHeight) != t6966.2.2.2.1)) || (((gt t7132.fCoins (0 : Int)).fMined) != t6966.2.2.2.2)))] ⟨rfl, HM⟩ (Sub.cons rfl (Sub.cons rfl (Sub.cons rfl (Sub.cons rfl (Sub.cons rfl (Sub.cons rfl (Sub.cons rfl (Sub.cons rfl (Sub.cons rfl (Sub.cons rfl Sub.nil))))))))))
       ·skip
        refine drwp_take rfl (guard_on rfl rfl rfl hg7156) rfl rfl (fun w_ hS_ => (ex_fieldAddr (off' := 1) rfl rfl Try.underlying29 rfl tsz24 rfl)) hS ?_
        refine drwp_take rfl (guard_on rfl rfl rfl hg7156) rfl rfl (fun w_ hS_ => (ex_load1 rfl rfl Try.underlying24 rfl ((hS_.box_at 5 rfl) 1 _ rfl))) hS ?_
        refine drwp_take rfl (guard_on rfl rfl rfl hg7156) rfl rfl (fun w_ hS_ => (ex_indexAddr (d := kCoin) rfl rfl rfl Try.underlying24 tsz41 (hS_.own_rd 6 rfl) (idx_lo (or_t e7152 (not_mk hg7156))) (idx_hi (or_t e7152 (not_mk hg7156))))) hS ?_
        refine drwp_take rfl (guard_on rfl rfl rfl hg7156) rfl rfl (fun w_ hS_ => (ex_fieldAddr (off' := so u7134 + ((0 : Int)).toNat * 8 + 2) rfl rfl Try.underlying41 rfl tsz36 rfl)) hS ?_
        refine drwp_take rfl (guard_on rfl rfl rfl hg7156) rfl rfl (fun w_ hS_ => (ex_fieldAddr (off' := so u7134 + ((0 : Int)).toNat * 8 + 2) rfl rfl Try.underlying36 rfl tsz2 rfl)) hS ?_
        refine drwp_take rfl (guard_on rfl rfl rfl hg7156) rfl rfl (fun w_ hS_ => (let ⟨_, hc_, _⟩ := rd_with1 (hS_.own_rd 6 rfl) (or_t e7152 (not_mk hg7156)); ex_load1 rfl rfl Try.underlying2 rfl (hc_ 2 _ rfl))) hS ?_
        refine drwp_take rfl (guard_on rfl rfl rfl hg7156) rfl rfl (fun w_ hS_ => (ex_move rfl rfl)) hS ?_
        refine drwp_take rfl (guard_on rfl rfl rfl hg7156) rfl rfl (fun w_ hS_ => (ex_move rfl rfl)) hS ?_
        refine drwp_take rfl (guard_on rfl rfl rfl hg7156) rfl rfl (fun w_ hS_ => (ex_indexAddr (d := kOut) rfl rfl rfl Try.underlying25 tsz36 (hS_.own_rd 1 rfl) (idx_lo (or_t e7153 (not_mk hg7156))) (idx_hi (or_t e7153 (not_mk hg7156))))) hS ?_
        refine drwp_take rfl (guard_on rfl rfl rfl hg7156) rfl rfl (fun w_ hS_ => (ex_fieldAddr (off' := so u6970 + (a7097).toNat * 4) rfl rfl Try.underlying36 rfl tsz2 rfl)) hS ?_
        refine drwp_take rfl (guard_on rfl rfl rfl hg7156) rfl rfl (fun w_ hS_ => (let ⟨_, hc_, _⟩ := rd_with1 (hS_.own_rd 1 rfl) (or_t e7153 (not_mk hg7156)); ex_load1 rfl rfl Try.underlying2 rfl (hc_ 0 _ rfl))) hS ?_
        refine drwp_take rfl (guard_on rfl rfl rfl hg7156) rfl rfl (fun w_ hS_ => (ex_neq rfl rfl rfl)) hS ?_
        refine drwp_take (v := .bool ((t7132.fCode != 0) || (((gt t7132.fCoins (0 : Int)).fOut.fValue) != ((gt t6966.2.2.1 a7097).fValue)))) rfl (guard_none rfl) rfl rfl (fun w_ hS_ => (ex_por_f rfl rfl hg7156 rfl)) hS ?_
        refine dp rfl rfl rfl rfl (ex_move rfl rfl) hS ?_
        refine bool_cases ((t7132.fCode != 0) || (((gt t7132.fCoins (0 : Int)).fOut.fValue) != ((gt t6966.2.2.1 a7097).fValue))) (fun hg7160 => ?_) (fun hg7160 => ?_)
        ·skip
         refine drwp_off rfl (guard_off rfl rfl rfl hg7160) rfl rfl hS ?_
         refine drwp_off rfl (guard_off rfl rfl rfl hg7160) rfl rfl hS ?_
         refine drwp_off rfl (guard_off rfl rfl rfl hg7160) rfl rfl hS ?_
         refine drwp_off rfl (guard_off rfl rfl rfl hg7160) rfl rfl hS ?_
         refine drwp_off rfl (guard_off rfl rfl rfl hg7160) rfl rfl hS ?_
         refine drwp_off rfl (guard_off rfl rfl rfl hg7160) rfl rfl hS ?_
         refine drwp_off rfl (guard_off rfl rfl rfl hg7160) rfl rfl hS ?_
         have hg7161 : (((t7132.fCode != 0) || (((gt t7132.fCoins (0 : Int)).fOut.fValue) != ((gt t6966.2.2.1 a7097).fValue))) || (((gt t7132.fCoins (0 : Int)).fHeight) != t6966.2.2.2.1)) = true := by simp only [hg7160, Bool.and_true, Bool.true_and, Bool.and_false, Bool.false_and, Bool.or_true, Bool.true_or, Bool.or_false, Bool.false_or, Bool.not_true, Bool.not_false, Bool.not_not]
         refine drwp_take (v := .bool (((t7132.fCode != 0) || (((gt t7132.fCoins (0 : Int)).fOut.fValue) != ((gt t6966.2.2.1 a7097).fValue))) || (((gt t7132.fCoins (0 : Int)).fHeight) != t6966.2.2.2.1))) rfl (guard_none rfl) rfl rfl (fun w_ hS_ => (ex_por_t rfl rfl hg7160)) hS ?_
         refine dp rfl rfl rfl rfl (ex_move rfl rfl) hS ?_
         refine drwp_off rfl (guard_off rfl rfl rfl hg7161) rfl rfl hS ?_
         refine drwp_off rfl (guard_off rfl rfl rfl hg7161) rfl rfl hS ?_
         refine drwp_off rfl (guard_off rfl rfl rfl hg7161) rfl rfl hS ?_
         refine drwp_off rfl (guard_off rfl rfl rfl hg7161) rfl rfl hS ?_
         refine drwp_off rfl (guard_off rfl rfl rfl hg7161) rfl rfl hS ?_
         refine drwp_off rfl (guard_off rfl rfl rfl hg7161) rfl rfl hS ?_
         refine drwp_off rfl (guard_off rfl rfl rfl hg7161) rfl rfl hS ?_
         have hg7162 : ((((t7132.fCode != 0) || (((gt t7132.fCoins (0 : Int)).fOut.fValue) != ((gt t6966.2.2.1 a7097).fValue))) || (((gt t7132.fCoins (0 : Int)).fHeight) != t6966.2.2.2.1)) || (((gt t7132.fCoins (0 : Int)).fMined) != t6966.2.2.2.2)) = true := by simp only [hg7161, Bool.and_true, Bool.true_and, Bool.and_false, Bool.false_and, Bool.or_true, Bool.true_or, Bool.or_false, Bool.false_or, Bool.not_true, Bool.not_false, Bool.not_not]
         refine drwp_take (v := .bool ((((t7132.fCode != 0) || (((gt t7132.fCoins (0 : Int)).fOut.fValue) != ((gt t6966.2.2.1 a7097).fValue))) || (((gt t7132.fCoins (0 : Int)).fHeight) != t6966.2.2.2.1)) || (((gt t7132.fCoins (0 : Int)).fMined) != t6966.2.2.2.2))) rfl (guard_none rfl) rfl rfl (fun w_ hS_ => (ex_por_t rfl rfl hg7161)) hS ?_
         refine drwp_done ?_
         replace HM := (HM.front 5 rfl rfl).drop
         replace HM := (HM.front 5 rfl rfl).drop
         exact at_meet [(3, u6968), (4, .int .i64 t6966.2.1), (5, u6970), (6, .int .i64 t6966.2.2.2.1), (7, .bool t6966.2.2.2.2), (8, .pointer (some ⟨b6977, 0, none⟩)), (9, .int .i64 (wrap64 (a7093 + ((gt t6966.2.2.1 a7097).fValue)))), (10, v7127), (11, .int .i64 a7097), (105, .bool ((((t7132.fCode != 0) || (((gt t7132.fCoins (0 : Int)).fOut.fValue) != ((gt t6966.2.2.1 a7097).fValue))) || (((gt t7132.fCoins (0 : Int)).fHeight) != t6966.2.2.2.1)) || (((gt t7132.fCoins (0 : Int)).fMined) != t6966.2.2.2.2)))] ⟨rfl, HM⟩ (Sub.cons rfl (Sub.cons rfl (Sub.cons rfl (Sub.cons rfl (Sub.cons rfl (Sub.cons rfl (Sub.cons rfl (Sub.cons rfl (Sub.cons rfl (Sub.cons rfl Sub.nil))))))))))
        ·skip
         refine drwp_take rfl (guard_on rfl rfl rfl hg7160) rfl rfl (fun w_ hS_ => (ex_fieldAddr (off' := 1) rfl rfl Try.underlying29 rfl tsz24 rfl)) hS ?_
         refine drwp_take rfl (guard_on rfl rfl rfl hg7160) rfl rfl (fun w_ hS_ => (ex_load1 rfl rfl Try.underlying24 rfl ((hS_.box_at 5 rfl) 1 _ rfl))) hS ?_
         refine drwp_take rfl (guard_on rfl rfl rfl hg7160) rfl rfl (fun w_ hS_ => (ex_indexAddr (d := kCoin) rfl rfl rfl Try.underlying24 tsz41 (hS_.own_rd 6 rfl) (idx_lo (or_t e7154 (not_mk hg7160))) (idx_hi (or_t e7154 (not_mk hg7160))))) hS ?_
         refine drwp_take rfl (guard_on rfl rfl rfl hg7160) rfl rfl (fun w_ hS_ => (ex_fieldAddr (off' := so u7134 + ((0 : Int)).toNat * 8 + 6) rfl rfl Try.underlying41 rfl tsz2 rfl)) hS ?_
         refine drwp_take rfl (guard_on rfl rfl rfl hg7160) rfl rfl (fun w_ hS_ => (let ⟨_, hc_, _⟩ := rd_with1 (hS_.own_rd 6 rfl) (or_t e7154 (not_mk hg7160)); ex_load1 rfl rfl Try.underlying2 rfl (hc_ 6 _ rfl))) hS ?_
         refine drwp_take rfl (guard_on rfl rfl rfl hg7160) rfl rfl (fun w_ hS_ => (ex_move rfl rfl)) hS ?_
         refine drwp_take rfl (guard_on rfl rfl rfl hg7160) rfl rfl (fun w_ hS_ => (ex_neq rfl rfl rfl)) hS ?_
         refine drwp_take (v := .bool (((t7132.fCode != 0) || (((gt t7132.fCoins (0 : Int)).fOut.fValue) != ((gt t6966.2.2.1 a7097).fValue))) || (((gt t7132.fCoins (0 : Int)).fHeight) != t6966.2.2.2.1))) rfl (guard_none rfl) rfl rfl (fun w_ hS_ => (ex_por_f rfl rfl hg7160 rfl)) hS ?_
         refine dp rfl rfl rfl rfl (ex_move rfl rfl) hS ?_
         refine bool_cases (((t7132.fCode != 0) || (((gt t7132.fCoins (0 : Int)).fOut.fValue) != ((gt t6966.2.2.1 a7097).fValue))) || (((gt t7132.fCoins (0 : Int)).fHeight) != t6966.2.2.2.1)) (fun hg7163 => ?_) (fun hg7163 => ?_)
         ·skip
          refine drwp_off rfl (guard_off rfl rfl rfl hg7163) rfl rfl hS ?_
          refine drwp_off rfl (guard_off rfl rfl rfl hg7163) rfl rfl hS ?_
          refine drwp_off rfl (guard_off rfl rfl rfl hg7163) rfl rfl hS ?_
          refine drwp_off rfl (guard_off rfl rfl rfl hg7163) rfl rfl hS ?_
          refine drwp_off rfl (guard_off rfl rfl rfl hg7163) rfl rfl hS ?_
          refine drwp_off rfl (guard_off rfl rfl rfl hg7163) rfl rfl hS ?_
          refine drwp_off rfl (guard_off rfl rfl rfl hg7163) rfl rfl hS ?_
          have hg7164 : ((((t7132.fCode != 0) || (((gt t7132.fCoins (0 : Int)).fOut.fValue) != ((gt t6966.2.2.1 a7097).fValue))) || (((gt t7132.fCoins (0 : Int)).fHeight) != t6966.2.2.2.1)) || (((gt t7132.fCoins (0 : Int)).fMined) != t6966.2.2.2.2)) = true := by simp only [hg7163, Bool.and_true, Bool.true_and, Bool.and_false, Bool.false_and, Bool.or_true, Bool.true_or, Bool.or_false, Bool.false_or, Bool.not_true, Bool.not_false, Bool.not_not]
          refine drwp_take (v := .bool ((((t7132.fCode != 0) || (((gt t7132.fCoins (0 : Int)).fOut.fValue) != ((gt t6966.2.2.1 a7097).fValue))) || (((gt t7132.fCoins (0 : Int)).fHeight) != t6966.2.2.2.1)) || (((gt t7132.fCoins (0 : Int)).fMined) != t6966.2.2.2.2))) rfl (guard_none rfl) rfl rfl (fun w_ hS_ => (ex_por_t rfl rfl hg7163)) hS ?_
          refine drwp_done ?_
          replace HM := (HM.front 5 rfl rfl).drop
          replace HM := (HM.front 5 rfl rfl).drop
          exact at_meet [(3, u6968), (4, .int .i64 t6966.2.1), (5, u6970), (6, .int .i64 t6966.2.2.2.1), (7, .bool t6966.2.2.2.2), (8, .pointer (some ⟨b6977, 0, none⟩)), (9, .int .i64 (wrap64 (a7093 + ((gt t6966.2.2.1 a7097).fValue)))), (10, v7127), (11, .int .i64 a7097), (105, .bool ((((t7132.fCode != 0) || (((gt t7132.fCoins (0 : Int)).fOut.fValue) != ((gt t6966.2.2.1 a7097).fValue))) || (((gt t7132.fCoins (0 : Int)).fHeight) != t6966.2.2.2.1)) || (((gt t7132.fCoins (0 : Int)).fMined) != t6966.2.2.2.2)))] ⟨rfl, HM⟩ (Sub.cons rfl (Sub.cons rfl (Sub.cons rfl (Sub.cons rfl (Sub.cons rfl (Sub.cons rfl (Sub.cons rfl (Sub.cons rfl (Sub.cons rfl (Sub.cons rfl Sub.nil))))))))))
         ·skip
          refine drwp_take rfl (guard_on rfl rfl rfl hg7163) rfl rfl (fun w_ hS_ => (ex_fieldAddr (off' := 1) rfl rfl Try.underlying29 rfl tsz24 rfl)) hS ?_
          refine drwp_take rfl (guard_on rfl rfl rfl hg7163) rfl rfl (fun w_ hS_ => (ex_load1 rfl rfl Try.underlying24 rfl ((hS_.box_at 5 rfl) 1 _ rfl))) hS ?_
          refine drwp_take rfl (guard_on rfl rfl rfl hg7163) rfl rfl (fun w_ hS_ => (ex_indexAddr (d := kCoin) rfl rfl rfl Try.underlying24 tsz41 (hS_.own_rd 6 rfl) (idx_lo (or_t e7155 (not_mk hg7163))) (idx_hi (or_t e7155 (not_mk hg7163))))) hS ?_
          refine drwp_take rfl (guard_on rfl rfl rfl hg7163) rfl rfl (fun w_ hS_ => (ex_fieldAddr (off' := so u7134 + ((0 : Int)).toNat * 8 + 7) rfl rfl Try.underlying41 rfl tsz4 rfl)) hS ?_
          refine drwp_take rfl (guard_on rfl rfl rfl hg7163) rfl rfl (fun w_ hS_ => (let ⟨_, hc_, _⟩ := rd_with1 (hS_.own_rd 6 rfl) (or_t e7155 (not_mk hg7163)); ex_load1 rfl rfl Try.underlying4 rfl (hc_ 7 _ rfl))) hS ?_
          refine drwp_take rfl (guard_on rfl rfl rfl hg7163) rfl rfl (fun w_ hS_ => (ex_move rfl rfl)) hS ?_
          refine drwp_take rfl (guard_on rfl rfl rfl hg7163) rfl rfl (fun w_ hS_ => (ex_bneq rfl rfl rfl Try.underlying4)) hS ?_
          refine drwp_take (v := .bool ((((t7132.fCode != 0) || (((gt t7132.fCoins (0 : Int)).fOut.fValue) != ((gt t6966.2.2.1 a7097).fValue))) || (((gt t7132.fCoins (0 : Int)).fHeight) != t6966.2.2.2.1)) || (((gt t7132.fCoins (0 : Int)).fMined) != t6966.2.2.2.2))) rfl (guard_none rfl) rfl rfl (fun w_ hS_ => (ex_por_f rfl rfl hg7163 rfl)) hS ?_
          refine drwp_done ?_
          replace HM := (HM.front 5 rfl rfl).drop
          replace HM := (HM.front 5 rfl rfl).drop
          exact at_meet [(3, u6968), (4, .int .i64 t6966.2.1), (5, u6970), (6, .int .i64 t6966.2.2.2.1), (7, .bool t6966.2.2.2.2), (8, .pointer (some ⟨b6977, 0, none⟩)), (9, .int .i64 (wrap64 (a7093 + ((gt t6966.2.2.1 a7097).fValue)))), (10, v7127), (11, .int .i64 a7097), (105, .bool ((((t7132.fCode != 0) || (((gt t7132.fCoins (0 : Int)).fOut.fValue) != ((gt t6966.2.2.1 a7097).fValue))) || (((gt t7132.fCoins (0 : Int)).fHeight) != t6966.2.2.2.1)) || (((gt t7132.fCoins (0 : Int)).fMined) != t6966.2.2.2.2)))] ⟨rfl, HM⟩ (Sub.cons rfl (Sub.cons rfl (Sub.cons rfl (Sub.cons rfl (Sub.cons rfl (Sub.cons rfl (Sub.cons rfl (Sub.cons rfl (Sub.cons rfl (Sub.cons rfl Sub.nil))))))))))
      ·rintro _ w7165 ⟨rfl, HM⟩
       refine at_then ?_
       refine run_cond (b := ((((t7132.fCode != 0) || (((gt t7132.fCoins (0 : Int)).fOut.fValue) != ((gt t6966.2.2.1 a7097).fValue))) || (((gt t7132.fCoins (0 : Int)).fHeight) != t6966.2.2.2.1)) || (((gt t7132.fCoins (0 : Int)).fMined) != t6966.2.2.2.2))) rfl (fun hb7166 => ?_) (fun hb7166 => ?_)
       ·replace ho7071 := cond_t hb7166 ho7071
        refine run_seq ?_
        refine run_region rfl ?_
        refine ox rfl rfl rfl rfl (ex_assign rfl rfl) ?_
        refine ops_nil (at_then ?_)
        refine run_ret ?_
        refine at_block_ret ?_
        refine at_then_ret ?_
        refine at_then_ret ?_
        refine at_block_ret ?_
        refine at_then_ret ?_
        replace HM := (HM.front 0 rfl rfl).drop
        replace HM := (HM.front 0 rfl rfl).drop
        replace HM := (HM.front 0 rfl rfl).drop
        replace HM := (HM.front 0 rfl rfl).drop
        replace HM := (HM.front 0 rfl rfl).drop
        have hR := Option.some.inj ho7071
        subst hR
        have hT := thn_inl H
        have hR := Option.some.inj hT
        subst hR
        exact at_ret1 rfl rfl ⟨_, rfl, rfl, HM⟩
       ·replace ho7071 := cond_f hb7166 ho7071
        refine run_skip ?_
        refine at_block ?_
        refine at_then ?_
        refine run_region rfl ?_
        refine ox rfl rfl rfl rfl (ex_move rfl rfl) ?_
        refine ox rfl rfl rfl rfl (ex_add rfl rfl rfl) ?_
        refine ox rfl rfl rfl rfl (ex_assign rfl rfl) ?_
        refine ops_nil ?_
        exact at_again k7119 (ρ1 := [(3, u6968), (4, .int .i64 t6966.2.1), (5, u6970), (6, .int .i64 t6966.2.2.2.1), (7, .bool t6966.2.2.2.2), (8, .pointer (some ⟨b6977, 0, none⟩)), (9, .int .i64 (wrap64 (a7093 + ((gt t6966.2.2.1 a7097).fValue)))), (10, v7127), (11, .int .i64 (wrap64 (a7097 + 1)))]) (Nat.lt_succ_self _) ⟨_, _, _, _, ho7071, rfl, HM⟩ (Sub.cons rfl (Sub.cons rfl (Sub.cons rfl (Sub.cons rfl (Sub.cons rfl (Sub.cons rfl (Sub.cons rfl (Sub.cons rfl (Sub.cons rfl Sub.nil)))))))))
    ·replace ho7071 := cond_f hb7121 ho7071
     refine run_exit ?_
     refine at_then_exit ?_
     refine at_then_exit ?_
     refine at_block_exit ?_
     replace HM := (HM.front 1 rfl rfl).drop
     exact at_mid (ρ' := [(3, u6968), (8, .pointer (some ⟨b6977, 0, none⟩)), (9, .int .i64 a7093), (10, v7094)]) ⟨_, _, _, (Option.some.inj ho7071), rfl, HM⟩ (Sub.cons rfl (Sub.cons rfl (Sub.cons rfl (Sub.cons rfl Sub.nil))))
   ·rintro _ w7167 ⟨a7066, v7067, a7068, rfl, rfl, HM⟩
    replace H := cur2_mk (thn_inr H)
    refine run_seq ?_
    obtain ⟨t7168, h7169, H⟩ := bind_some H
    refine run_region rfl ?_
    refine ox rfl rfl rfl rfl (ex_fieldAddr (off' := 1) rfl rfl Try.underlying29 rfl tsz24 rfl) ?_
    refine ox rfl rfl rfl rfl (ex_load1 rfl rfl Try.underlying24 rfl ((HM.box_at 1 rfl) 1 _ rfl)) ?_
    refine ox rfl rfl rfl rfl (ex_move rfl rfl) ?_
    refine od rfl rfl rfl rfl (does_callk rfl callok9 rfl (impl_TakeCoins.calls (x0 := t6973.fCoins) (x1 := a7068) (HM.own_rd 2 rfl) (HM.own_rd 3 rfl) h7169)) ?_
    rintro _ w7175 ⟨u7170, rfl, hn⟩
    replace HM : Mem w [] w7175 [own kCoin 41 u7170 t7168.fCoins, fro kCoin u6968 t6966.1, box b6977 29 [.int .i64 t6973.fCode, u6975], own kCoin 41 u6975 t6973.fCoins, own kRef 38 v7067 a7068] := HM.call hn
    refine od rfl rfl rfl rfl (does_alloc (cs := [.int .i64 0, .slice none 0 0]) rfl tz29 rfl HM) ?_
    rintro _ w7176 ⟨b7172, rfl, HM⟩
    refine odS rfl rfl rfl (does_store (vs := [.int .i64 t7168.fCode, u7170]) (cs' := [.int .i64 t7168.fCode, u7170]) rfl rfl rfl rfl tsz29 (Ones.int (Ones.rd (HM.own_rd 1 rfl) Ones.nil)) rfl rfl HM) ?_
    rintro w7177 HM
    refine ops_nil (at_then (run_seq ?_))
    obtain ⟨t7178, h7179, H⟩ := bind_some H
    refine run_region rfl ?_
    refine ox rfl rfl rfl rfl (ex_fieldAddr (off' := 1) rfl rfl Try.underlying29 rfl tsz24 rfl) ?_
    refine ox rfl rfl rfl rfl (ex_load1 rfl rfl Try.underlying24 rfl ((HM.box_at 3 rfl) 1 _ rfl)) ?_
    refine od rfl rfl rfl rfl (does_callk rfl callok10 rfl (impl_OwnedBy.calls (x0 := t6973.fCoins) (x1 := 2) (HM.own_rd 4 rfl) h7179)) ?_
    rintro _ w7183 ⟨rfl, hn⟩
    replace HM : Mem w [] w7183 [box b7172 29 [.int .i64 t7168.fCode, u7170], own kCoin 41 u7170 t7168.fCoins, fro kCoin u6968 t6966.1, box b6977 29 [.int .i64 t6973.fCode, u6975], own kCoin 41 u6975 t6973.fCoins, own kRef 38 v7067 a7068] := HM.call hn
    refine od rfl rfl rfl rfl (does_alloc (cs := [.int .i64 0, .int .i64 0]) rfl tz44 rfl HM) ?_
    rintro _ w7184 ⟨b7180, rfl, HM⟩
    refine odS rfl rfl rfl (does_store (vs := [.int .i64 t7178.fCode, .int .i64 t7178.fValue]) (cs' := [.int .i64 t7178.fCode, .int .i64 t7178.fValue]) rfl rfl rfl rfl tsz44 (Ones.int (Ones.int Ones.nil)) rfl rfl HM) ?_
    rintro w7185 HM
    refine ops_nil (at_then (run_seq ?_))
    obtain ⟨t7186, h7187, H⟩ := bind_some H
    obtain ⟨t7188, h7189, H⟩ := bind_some H
    obtain ⟨t7190, h7191, H⟩ := bind_some H
    obtain ⟨t7192, h7193, H⟩ := bind_some H
    obtain ⟨t7194, h7195, H⟩ := bind_some H
    obtain ⟨t7196, h7197, H⟩ := bind_some H
    obtain ⟨t7198, h7199, H⟩ := bind_some H
    refine run_meet (fun ρ_ w_ => ρ_ = [(2, .bool ((((((((t7186 == 0) && (t7188.fValue == (wrap64 (t7190.fValue + a7066)))) && (t7168.fCode == 0)) && t7192) && (t7178.fCode == 0)) && (decide (t7178.fValue ≤ t7194.fValue))) && (t7178.fValue == t7196.fValue)) && t7198))] ∧ Mem w [] w_ []) ?_ ?_
    ·skip
     refine run_drawf (fun w_ => Mem w [] w_ [box b7180 44 [.int .i64 t7178.fCode, .int .i64 t7178.fValue], box b7172 29 [.int .i64 t7168.fCode, u7170], own kCoin 41 u7170 t7168.fCoins, fro kCoin u6968 t6966.1, box b6977 29 [.int .i64 t6973.fCode, u6975], own kCoin 41 u6975 t6973.fCoins, own kRef 38 v7067 a7068]) [(0, true), (1, true), (2, false), (3, true), (4, true), (5, true), (6, true), (9, true), (12, true), (7, false), (8, true), (10, false), (11, true), (13, true), (14, true), (15, true), (16, true), (17, true), (18, true), (19, true), (20, true), (21, true), (22, true), (23, true), (24, true), (25, false), (26, true), (27, true), (28, true), (29, true), (30, true), (31, true), (32, true), (33, true), (34, true), (35, true), (36, true), (37, false), (38, true), (39, true), (40, true), (41, true), (42, true), (43, true), (44, true), (45, true), (46, false), (47, true), (48, true), (49, true), (50, true), (51, true), (52, true), (53, true), (54, true), (55, false), (56, true), (57, true)] mixed rfl rfl (by kernel_rfl) ?_
     replace HM := HM.grow (fr_drew _)
     have hS := Mem.suf (M := []) HM
     refine dp rfl rfl rfl rfl (ex_fieldAddr (off' := 1) rfl rfl Try.underlying29 rfl tsz24 rfl) hS ?_
     refine drwp_take rfl (guard_none rfl) rfl rfl (fun w_ hS_ => (ex_load1 rfl rfl Try.underlying24 rfl ((hS_.box_at 4 rfl) 1 _ rfl))) hS ?_
     refine drwp_one rfl (guard_none rfl) rfl rfl (does_callk rfl callok11 rfl (impl_CoinsFault.calls (x0 := t6973.fCoins) (HM.own_rd 5 rfl) h7187)) ?_
     rintro _ w7200 ⟨rfl, hn⟩
     replace HM : Mem w [] w7200 [box b7180 44 [.int .i64 t7178.fCode, .int .i64 t7178.fValue], box b7172 29 [.int .i64 t7168.fCode, u7170], own kCoin 41 u7170 t7168.fCoins, fro kCoin u6968 t6966.1, box b6977 29 [.int .i64 t6973.fCode, u6975], own kCoin 41 u6975 t6973.fCoins, own kRef 38 v7067 a7068] := HM.call hn
     have hS := Mem.suf (M := []) HM
     refine ⟨hS, ?_⟩
     refine dp rfl rfl rfl rfl (ex_eql rfl rfl rfl) hS ?_
     refine dp rfl rfl rfl rfl (ex_move rfl rfl) hS ?_
     refine bool_cases (t7186 == 0) (fun hg7201 => ?_) (fun hg7201 => ?_)
     ·skip
      refine drwp_take rfl (guard_on rfl rfl rfl hg7201) rfl rfl (fun w_ hS_ => (ex_fieldAddr (off' := 1) rfl rfl Try.underlying29 rfl tsz24 rfl)) hS ?_
      refine drwp_take rfl (guard_on rfl rfl rfl hg7201) rfl rfl (fun w_ hS_ => (ex_load1 rfl rfl Try.underlying24 rfl ((hS_.box_at 4 rfl) 1 _ rfl))) hS ?_
      refine drwp_take rfl (guard_on rfl rfl rfl hg7201) rfl rfl (fun w_ hS_ => (ex_move rfl rfl)) hS ?_
      refine drwp_take rfl (guard_on rfl rfl rfl hg7201) rfl rfl (fun w_ hS_ => (ex_move rfl rfl)) hS ?_
      refine drwp_one rfl (guard_on rfl rfl rfl hg7201) rfl rfl (does_callk rfl callok12 rfl (impl_CoinSum.calls (x0 := t6973.fCoins) (HM.own_rd 5 rfl) (cond_t hg7201 h7189))) ?_
      rintro _ w7202 ⟨rfl, hn⟩
      replace HM : Mem w [] w7202 [box b7180 44 [.int .i64 t7178.fCode, .int .i64 t7178.fValue], box b7172 29 [.int .i64 t7168.fCode, u7170], own kCoin 41 u7170 t7168.fCoins, fro kCoin u6968 t6966.1, box b6977 29 [.int .i64 t6973.fCode, u6975], own kCoin 41 u6975 t6973.fCoins, own kRef 38 v7067 a7068] := HM.call hn
      have hS := Mem.suf (M := []) HM
      refine ⟨hS, ?_⟩
      refine drwp_take rfl (guard_on rfl rfl rfl hg7201) rfl rfl (fun w_ hS_ => (ex_field1 rfl rfl Try.underlying44 rfl Try.underlying2 rfl rfl)) hS ?_
      refine drwp_one rfl (guard_on rfl rfl rfl hg7201) rfl rfl (does_callk rfl callok12 rfl (impl_CoinSum.calls (x0 := t6966.1) (HM.fro_rd 3 rfl) (cond_t hg7201 h7191))) ?_
      rintro _ w7203 ⟨rfl, hn⟩
      replace HM : Mem w [] w7203 [box b7180 44 [.int .i64 t7178.fCode, .int .i64 t7178.fValue], box b7172 29 [.int .i64 t7168.fCode, u7170], own kCoin 41 u7170 t7168.fCoins, fro kCoin u6968 t6966.1, box b6977 29 [.int .i64 t6973.fCode, u6975], own kCoin 41 u6975 t6973.fCoins, own kRef 38 v7067 a7068] := HM.call hn
      have hS := Mem.suf (M := []) HM
      refine ⟨hS, ?_⟩
      refine drwp_take rfl (guard_on rfl rfl rfl hg7201) rfl rfl (fun w_ hS_ => (ex_field1 rfl rfl Try.underlying44 rfl Try.underlying2 rfl rfl)) hS ?_
      refine drwp_take rfl (guard_on rfl rfl rfl hg7201) rfl rfl (fun w_ hS_ => (ex_add rfl rfl rfl)) hS ?_
      refine drwp_take rfl (guard_on rfl rfl rfl hg7201) rfl rfl (fun w_ hS_ => (ex_eql rfl rfl rfl)) hS ?_
      refine drwp_take (v := .bool ((t7186 == 0) && (t7188.fValue == (wrap64 (t7190.fValue + a7066))))) rfl (guard_none rfl) rfl rfl (fun w_ hS_ => (ex_pand_t rfl rfl hg7201 rfl)) hS ?_
      refine dp rfl rfl rfl rfl (ex_move rfl rfl) hS ?_
      refine bool_cases ((t7186 == 0) && (t7188.fValue == (wrap64 (t7190.fValue + a7066)))) (fun hg7204 => ?_) (fun hg7204 => ?_)
      ·skip
       refine drwp_take rfl (guard_on rfl rfl rfl hg7204) rfl rfl (fun w_ hS_ => (ex_fieldAddr (off' := 0) rfl rfl Try.underlying29 rfl tsz2 rfl)) hS ?_
       refine drwp_take rfl (guard_on rfl rfl rfl hg7204) rfl rfl (fun w_ hS_ => (ex_load1 rfl rfl Try.underlying2 rfl ((hS_.box_at 1 rfl) 0 _ rfl))) hS ?_
       refine drwp_take rfl (guard_on rfl rfl rfl hg7204) rfl rfl (fun w_ hS_ => (ex_eql rfl rfl rfl)) hS ?_
       refine drwp_take (v := .bool (((t7186 == 0) && (t7188.fValue == (wrap64 (t7190.fValue + a7066)))) && (t7168.fCode == 0))) rfl (guard_none rfl) rfl rfl (fun w_ hS_ => (ex_pand_t rfl rfl hg7204 rfl)) hS ?_
       refine dp rfl rfl rfl rfl (ex_move rfl rfl) hS ?_
       refine bool_cases (((t7186 == 0) && (t7188.fValue == (wrap64 (t7190.fValue + a7066)))) && (t7168.fCode == 0)) (fun hg7205 => ?_) (fun hg7205 => ?_)
       ·skip
        refine drwp_take rfl (guard_on rfl rfl rfl hg7205) rfl rfl (fun w_ hS_ => (ex_fieldAddr (off' := 1) rfl rfl Try.underlying29 rfl tsz24 rfl)) hS ?_
        refine drwp_take rfl (guard_on rfl rfl rfl hg7205) rfl rfl (fun w_ hS_ => (ex_load1 rfl rfl Try.underlying24 rfl ((hS_.box_at 1 rfl) 1 _ rfl))) hS ?_
        refine drwp_take rfl (guard_on rfl rfl rfl hg7205) rfl rfl (fun w_ hS_ => (ex_move rfl rfl)) hS ?_
        refine drwp_one rfl (guard_on rfl rfl rfl hg7205) rfl rfl (does_callk rfl callok13 rfl (impl_SameCoins.calls (x0 := t7168.fCoins) (x1 := t6966.1) (HM.own_rd 2 rfl) (HM.fro_rd 3 rfl) (cond_t hg7205 h7193))) ?_
        rintro _ w7206 ⟨rfl, hn⟩
        replace HM : Mem w [] w7206 [box b7180 44 [.int .i64 t7178.fCode, .int .i64 t7178.fValue], box b7172 29 [.int .i64 t7168.fCode, u7170], own kCoin 41 u7170 t7168.fCoins, fro kCoin u6968 t6966.1, box b6977 29 [.int .i64 t6973.fCode, u6975], own kCoin 41 u6975 t6973.fCoins, own kRef 38 v7067 a7068] := HM.call hn
        have hS := Mem.suf (M := []) HM
        refine ⟨hS, ?_⟩
        refine drwp_take (v := .bool ((((t7186 == 0) && (t7188.fValue == (wrap64 (t7190.fValue + a7066)))) && (t7168.fCode == 0)) && t7192)) rfl (guard_none rfl) rfl rfl (fun w_ hS_ => (ex_pand_t rfl rfl hg7205 rfl)) hS ?_
        refine dp rfl rfl rfl rfl (ex_move rfl rfl) hS ?_
        refine bool_cases ((((t7186 == 0) && (t7188.fValue == (wrap64 (t7190.fValue + a7066)))) && (t7168.fCode == 0)) && t7192) (fun hg7207 => ?_) (fun hg7207 => ?_)
        ·skip
         refine drwp_take rfl (guard_on rfl rfl rfl hg7207) rfl rfl (fun w_ hS_ => (ex_fieldAddr (off' := 0) rfl rfl Try.underlying44 rfl tsz2 rfl)) hS ?_
         refine drwp_take rfl (guard_on rfl rfl rfl hg7207) rfl rfl (fun w_ hS_ => (ex_load1 rfl rfl Try.underlying2 rfl ((hS_.box_at 0 rfl) 0 _ rfl))) hS ?_
         refine drwp_take rfl (guard_on rfl rfl rfl hg7207) rfl rfl (fun w_ hS_ => (ex_eql rfl rfl rfl)) hS ?_
         refine drwp_take (v := .bool (((((t7186 == 0) && (t7188.fValue == (wrap64 (t7190.fValue + a7066)))) && (t7168.fCode == 0)) && t7192) && (t7178.fCode == 0))) rfl (guard_none rfl) rfl rfl (fun w_ hS_ => (ex_pand_t rfl rfl hg7207 rfl)) hS ?_
         refine dp rfl rfl rfl rfl (ex_move rfl rfl) hS ?_
         refine bool_cases (((((t7186 == 0) && (t7188.fValue == (wrap64 (t7190.fValue + a7066)))) && (t7168.fCode == 0)) && t7192) && (t7178.fCode == 0)) (fun hg7208 => ?_) (fun hg7208 => ?_)
         ·skip
          refine drwp_take rfl (guard_on rfl rfl rfl hg7208) rfl rfl (fun w_ hS_ => (ex_fieldAddr (off' := 1) rfl rfl Try.underlying44 rfl tsz2 rfl)) hS ?_
          refine drwp_take rfl (guard_on rfl rfl rfl hg7208) rfl rfl (fun w_ hS_ => (ex_load1 rfl rfl Try.underlying2 rfl ((hS_.box_at 0 rfl) 1 _ rfl))) hS ?_
          refine drwp_take rfl (guard_on rfl rfl rfl hg7208) rfl rfl (fun w_ hS_ => (ex_fieldAddr (off' := 1) rfl rfl Try.underlying29 rfl tsz24 rfl)) hS ?_
          refine drwp_take rfl (guard_on rfl rfl rfl hg7208) rfl rfl (fun w_ hS_ => (ex_load1 rfl rfl Try.underlying24 rfl ((hS_.box_at 4 rfl) 1 _ rfl))) hS ?_
          refine drwp_one rfl (guard_on rfl rfl rfl hg7208) rfl rfl (does_callk rfl callok12 rfl (impl_CoinSum.calls (x0 := t6973.fCoins) (HM.own_rd 5 rfl) (cond_t hg7208 h7195))) ?_
          rintro _ w7209 ⟨rfl, hn⟩
          replace HM : Mem w [] w7209 [box b7180 44 [.int .i64 t7178.fCode, .int .i64 t7178.fValue], box b7172 29 [.int .i64 t7168.fCode, u7170], own kCoin 41 u7170 t7168.fCoins, fro kCoin u6968 t6966.1, box b6977 29 [.int .i64 t6973.fCode, u6975], own kCoin 41 u6975 t6973.fCoins, own kRef 38 v7067 a7068] := HM.call hn
          have hS := Mem.suf (M := []) HM
          refine ⟨hS, ?_⟩
          refine drwp_take rfl (guard_on rfl rfl rfl hg7208) rfl rfl (fun w_ hS_ => (ex_field1 rfl rfl Try.underlying44 rfl Try.underlying2 rfl rfl)) hS ?_
          refine drwp_take rfl (guard_on rfl rfl rfl hg7208) rfl rfl (fun w_ hS_ => (ex_leq rfl rfl rfl)) hS ?_
          refine drwp_take (v := .bool ((((((t7186 == 0) && (t7188.fValue == (wrap64 (t7190.fValue + a7066)))) && (t7168.fCode == 0)) && t7192) && (t7178.fCode == 0)) && (decide (t7178.fValue ≤ t7194.fValue)))) rfl (guard_none rfl) rfl rfl (fun w_ hS_ => (ex_pand_t rfl rfl hg7208 rfl)) hS ?_
          refine dp rfl rfl rfl rfl (ex_move rfl rfl) hS ?_
          refine bool_cases ((((((t7186 == 0) && (t7188.fValue == (wrap64 (t7190.fValue + a7066)))) && (t7168.fCode == 0)) && t7192) && (t7178.fCode == 0)) && (decide (t7178.fValue ≤ t7194.fValue))) (fun hg7210 => ?_) (fun hg7210 => ?_)
          ·skip
           refine drwp_take rfl (guard_on rfl rfl rfl hg7210) rfl rfl (fun w_ hS_ => (ex_fieldAddr (off' := 1) rfl rfl Try.underlying44 rfl tsz2 rfl)) hS ?_
           refine drwp_take rfl (guard_on rfl rfl rfl hg7210) rfl rfl (fun w_ hS_ => (ex_load1 rfl rfl Try.underlying2 rfl ((hS_.box_at 0 rfl) 1 _ rfl))) hS ?_
           refine drwp_take rfl (guard_on rfl rfl rfl hg7210) rfl rfl (fun w_ hS_ => (ex_fieldAddr (off' := 1) rfl rfl Try.underlying29 rfl tsz24 rfl)) hS ?_
           refine drwp_take rfl (guard_on rfl rfl rfl hg7210) rfl rfl (fun w_ hS_ => (ex_load1 rfl rfl Try.underlying24 rfl ((hS_.box_at 4 rfl) 1 _ rfl))) hS ?_
           refine drwp_one rfl (guard_on rfl rfl rfl hg7210) rfl rfl (does_callk rfl callok14 rfl (spec_OwnedBy.calls (x0 := t6973.fCoins) (x1 := 2) (HM.own_rd 5 rfl) (cond_t hg7210 h7197))) ?_
           rintro _ w7211 ⟨rfl, hn⟩
           replace HM : Mem w [] w7211 [box b7180 44 [.int .i64 t7178.fCode, .int .i64 t7178.fValue], box b7172 29 [.int .i64 t7168.fCode, u7170], own kCoin 41 u7170 t7168.fCoins, fro kCoin u6968 t6966.1, box b6977 29 [.int .i64 t6973.fCode, u6975], own kCoin 41 u6975 t6973.fCoins, own kRef 38 v7067 a7068] := HM.call hn
           have hS := Mem.suf (M := []) HM
           refine ⟨hS, ?_⟩
           refine drwp_take rfl (guard_on rfl rfl rfl hg7210) rfl rfl (fun w_ hS_ => (ex_field1 rfl rfl Try.underlying44 rfl Try.underlying2 rfl rfl)) hS ?_
           refine drwp_take rfl (guard_on rfl rfl rfl hg7210) rfl rfl (fun w_ hS_ => (ex_eql rfl rfl rfl)) hS ?_
           refine drwp_take (v := .bool (((((((t7186 == 0) && (t7188.fValue == (wrap64 (t7190.fValue + a7066)))) && (t7168.fCode == 0)) && t7192) && (t7178.fCode == 0)) && (decide (t7178.fValue ≤ t7194.fValue))) && (t7178.fValue == t7196.fValue))) rfl (guard_none rfl) rfl rfl (fun w_ hS_ => (ex_pand_t rfl rfl hg7210 rfl)) hS ?_
           refine dp rfl rfl rfl rfl (ex_move rfl rfl) hS ?_
           refine bool_cases (((((((t7186 == 0) && (t7188.fValue == (wrap64 (t7190.fValue + a7066)))) && (t7168.fCode == 0)) && t7192) && (t7178.fCode == 0)) && (decide (t7178.fValue ≤ t7194.fValue))) && (t7178.fValue == t7196.fValue)) (fun hg7212 => ?_) (fun hg7212 => ?_)
           ·skip
            refine drwp_take rfl (guard_on rfl rfl rfl hg7212) rfl rfl (fun w_ hS_ => (ex_fieldAddr (off' := 1) rfl rfl Try.underlying29 rfl tsz24 rfl)) hS ?_
            refine drwp_take rfl (guard_on rfl rfl rfl hg7212) rfl rfl (fun w_ hS_ => (ex_load1 rfl rfl Try.underlying24 rfl ((hS_.box_at 4 rfl) 1 _ rfl))) hS ?_
            refine drwp_take rfl (guard_on rfl rfl rfl hg7212) rfl rfl (fun w_ hS_ => (ex_fieldAddr (off' := 1) rfl rfl Try.underlying29 rfl tsz24 rfl)) hS ?_
            refine drwp_take rfl (guard_on rfl rfl rfl hg7212) rfl rfl (fun w_ hS_ => (ex_load1 rfl rfl Try.underlying24 rfl ((hS_.box_at 4 rfl) 1 _ rfl))) hS ?_
            refine drwp_one rfl (guard_on rfl rfl rfl hg7212) rfl rfl (does_callk rfl callok13 rfl (impl_SameCoins.calls (x0 := t6973.fCoins) (x1 := t6973.fCoins) (HM.own_rd 5 rfl) (HM.own_rd 5 rfl) (cond_t hg7212 h7199))) ?_
            rintro _ w7213 ⟨rfl, hn⟩
            replace HM : Mem w [] w7213 [box b7180 44 [.int .i64 t7178.fCode, .int .i64 t7178.fValue], box b7172 29 [.int .i64 t7168.fCode, u7170], own kCoin 41 u7170 t7168.fCoins, fro kCoin u6968 t6966.1, box b6977 29 [.int .i64 t6973.fCode, u6975], own kCoin 41 u6975 t6973.fCoins, own kRef 38 v7067 a7068] := HM.call hn
            have hS := Mem.suf (M := []) HM
            refine ⟨hS, ?_⟩
            refine drwp_take (v := .bool ((((((((t7186 == 0) && (t7188.fValue == (wrap64 (t7190.fValue + a7066)))) && (t7168.fCode == 0)) && t7192) && (t7178.fCode == 0)) && (decide (t7178.fValue ≤ t7194.fValue))) && (t7178.fValue == t7196.fValue)) && t7198)) rfl (guard_none rfl) rfl rfl (fun w_ hS_ => (ex_pand_t rfl rfl hg7212 rfl)) hS ?_
            refine dp rfl rfl rfl rfl (ex_assign rfl rfl) hS ?_
            refine drwp_done ?_
            replace HM := (HM.front 0 rfl rfl).drop
            replace HM := (HM.front 0 rfl rfl).drop
            replace HM := (HM.front 0 rfl rfl).drop
            replace HM := (HM.front 0 rfl rfl).drop
            replace HM := (HM.front 0 rfl rfl).drop
            replace HM := (HM.front 0 rfl rfl).drop
            replace HM := (HM.front 0 rfl rfl).drop
            exact at_meet [(2, .bool ((((((((t7186 == 0) && (t7188.fValue == (wrap64 (t7190.fValue + a7066)))) && (t7168.fCode == 0)) && t7192) && (t7178.fCode == 0)) && (decide (t7178.fValue ≤ t7194.fValue))) && (t7178.fValue == t7196.fValue)) && t7198))] ⟨rfl, HM⟩ (Sub.cons rfl Sub.nil)
           ·skip
            refine drwp_off rfl (guard_off rfl rfl rfl hg7212) rfl rfl hS ?_
            refine drwp_off rfl (guard_off rfl rfl rfl hg7212) rfl rfl hS ?_
            refine drwp_off rfl (guard_off rfl rfl rfl hg7212) rfl rfl hS ?_
            refine drwp_off rfl (guard_off rfl rfl rfl hg7212) rfl rfl hS ?_
            refine drwp_off1 rfl (guard_off rfl rfl rfl hg7212) rfl rfl ⟨hS, ?_⟩
            have hg7214 : ((((((((t7186 == 0) && (t7188.fValue == (wrap64 (t7190.fValue + a7066)))) && (t7168.fCode == 0)) && t7192) && (t7178.fCode == 0)) && (decide (t7178.fValue ≤ t7194.fValue))) && (t7178.fValue == t7196.fValue)) && t7198) = false := by simp only [hg7212, Bool.and_true, Bool.true_and, Bool.and_false, Bool.false_and, Bool.or_true, Bool.true_or, Bool.or_false, Bool.false_or, Bool.not_true, Bool.not_false, Bool.not_not]
            refine drwp_take (v := .bool ((((((((t7186 == 0) && (t7188.fValue == (wrap64 (t7190.fValue + a7066)))) && (t7168.fCode == 0)) && t7192) && (t7178.fCode == 0)) && (decide (t7178.fValue ≤ t7194.fValue))) && (t7178.fValue == t7196.fValue)) && t7198)) rfl (guard_none rfl) rfl rfl (fun w_ hS_ => (ex_pand_f rfl rfl hg7212)) hS ?_
            refine dp rfl rfl rfl rfl (ex_assign rfl rfl) hS ?_
            refine drwp_done ?_
            replace HM := (HM.front 0 rfl rfl).drop
            replace HM := (HM.front 0 rfl rfl).drop
            replace HM := (HM.front 0 rfl rfl).drop
            replace HM := (HM.front 0 rfl rfl).drop
            replace HM := (HM.front 0 rfl rfl).drop
            replace HM := (HM.front 0 rfl rfl).drop
            replace HM := (HM.front 0 rfl rfl).drop
            exact at_meet [(2, .bool ((((((((t7186 == 0) && (t7188.fValue == (wrap64 (t7190.fValue + a7066)))) && (t7168.fCode == 0)) && t7192) && (t7178.fCode == 0)) && (decide (t7178.fValue ≤ t7194.fValue))) && (t7178.fValue == t7196.fValue)) && t7198))] ⟨rfl, HM⟩ (Sub.cons rfl Sub.nil)
          ·skip
           refine drwp_off rfl (guard_off rfl rfl rfl hg7210) rfl rfl hS ?_
           refine drwp_off rfl (guard_off rfl rfl rfl hg7210) rfl rfl hS ?_
           refine drwp_off rfl (guard_off rfl rfl rfl hg7210) rfl rfl hS ?_
           refine drwp_off rfl (guard_off rfl rfl rfl hg7210) rfl rfl hS ?_
           refine drwp_off1 rfl (guard_off rfl rfl rfl hg7210) rfl rfl ⟨hS, ?_⟩
           refine drwp_off rfl (guard_off rfl rfl rfl hg7210) rfl rfl hS ?_
           refine drwp_off rfl (guard_off rfl rfl rfl hg7210) rfl rfl hS ?_
           have hg7215 : (((((((t7186 == 0) && (t7188.fValue == (wrap64 (t7190.fValue + a7066)))) && (t7168.fCode == 0)) && t7192) && (t7178.fCode == 0)) && (decide (t7178.fValue ≤ t7194.fValue))) && (t7178.fValue == t7196.fValue)) = false := by simp only [hg7210, Bool.and_true, Bool.true_and, Bool.and_false, Bool.false_and, Bool.or_true, Bool.true_or, Bool.or_false, Bool.false_or, Bool.not_true, Bool.not_false, Bool.not_not]
           refine drwp_take (v := .bool (((((((t7186 == 0) && (t7188.fValue == (wrap64 (t7190.fValue + a7066)))) && (t7168.fCode == 0)) && t7192) && (t7178.fCode == 0)) && (decide (t7178.fValue ≤ t7194.fValue))) && (t7178.fValue == t7196.fValue))) rfl (guard_none rfl) rfl rfl (fun w_ hS_ => (ex_pand_f rfl rfl hg7210)) hS ?_
           refine dp rfl rfl rfl rfl (ex_move rfl rfl) hS ?_
           refine drwp_off rfl (guard_off rfl rfl rfl hg7215) rfl rfl hS ?_
           refine drwp_off rfl (guard_off rfl rfl rfl hg7215) rfl rfl hS ?_
           refine drwp_off rfl (guard_off rfl rfl rfl hg7215) rfl rfl hS ?_
           refine drwp_off rfl (guard_off rfl rfl rfl hg7215) rfl rfl hS ?_
           refine drwp_off1 rfl (guard_off rfl rfl rfl hg7215) rfl rfl ⟨hS, ?_⟩
           have hg7216 : ((((((((t7186 == 0) && (t7188.fValue == (wrap64 (t7190.fValue + a7066)))) && (t7168.fCode == 0)) && t7192) && (t7178.fCode == 0)) && (decide (t7178.fValue ≤ t7194.fValue))) && (t7178.fValue == t7196.fValue)) && t7198) = false := by simp only [hg7215, Bool.and_true, Bool.true_and, Bool.and_false, Bool.false_and, Bool.or_true, Bool.true_or, Bool.or_false, Bool.false_or, Bool.not_true, Bool.not_false, Bool.not_not]
           refine drwp_take (v := .bool ((((((((t7186 == 0) && (t7188.fValue == (wrap64 (t7190.fValue + a7066)))) && (t7168.fCode == 0)) && t7192) && (t7178.fCode == 0)) && (decide (t7178.fValue ≤ t7194.fValue))) && (t7178.fValue == t7196.fValue)) && t7198)) rfl (guard_none rfl) rfl rfl (fun w_ hS_ => (ex_pand_f rfl rfl hg7215)) hS ?_
           refine dp rfl rfl rfl rfl (ex_assign rfl rfl) hS ?_
           refine drwp_done ?_
           replace HM := (HM.front 0 rfl rfl).drop
           replace HM := (HM.front 0 rfl rfl).drop
           replace HM := (HM.front 0 rfl rfl).drop
           replace HM := (HM.front 0 rfl rfl).drop
           replace HM := (HM.front 0 rfl rfl).drop
           replace HM := (HM.front 0 rfl rfl).drop
           replace HM := (HM.front 0 rfl rfl).drop
           exact at_meet [(2, .bool ((((((((t7186 == 0) && (t7188.fValue == (wrap64 (t7190.fValue + a7066)))) && (t7168.fCode == 0)) && t7192) && (t7178.fCode == 0)) && (decide (t7178.fValue ≤ t7194.fValue))) && (t7178.fValue == t7196.fValue)) && t7198))] ⟨rfl, HM⟩ (Sub.cons rfl Sub.nil)
         ·skip
          refine drwp_off rfl (guard_off rfl rfl rfl hg7208) rfl rfl hS ?_
          refine drwp_off rfl (guard_off rfl rfl rfl hg7208) rfl rfl hS ?_
          refine drwp_off rfl (guard_off rfl rfl rfl hg7208) rfl rfl hS ?_
          refine drwp_off rfl (guard_off rfl rfl rfl hg7208) rfl rfl hS ?_
          refine drwp_off1 rfl (guard_off rfl rfl rfl hg7208) rfl rfl ⟨hS, ?_⟩
          refine drwp_off rfl (guard_off rfl rfl rfl hg7208) rfl rfl hS ?_
          refine drwp_off rfl (guard_off rfl rfl rfl hg7208) rfl rfl hS ?_
          have hg7217 : ((((((t7186 == 0) && (t7188.fValue == (wrap64 (t7190.fValue + a7066)))) && (t7168.fCode == 0)) && t7192) && (t7178.fCode == 0)) && (decide (t7178.fValue ≤ t7194.fValue))) = false := by simp only [hg7208, Bool.and_true, Bool.true_and, Bool.and_false, Bool.false_and, Bool.or_true, Bool.true_or, Bool.or_false, Bool.false_or, Bool.not_true, Bool.not_false, Bool.not_not]
          refine drwp_take (v := .bool ((((((t7186 == 0) && (t7188.fValue == (wrap64 (t7190.fValue + a7066)))) && (t7168.fCode == 0)) && t7192) && (t7178.fCode == 0)) && (decide (t7178.fValue ≤ t7194.fValue)))) rfl (guard_none rfl) rfl rfl (fun w_ hS_ => (ex_pand_f rfl rfl hg7208)) hS ?_
          refine dp rfl rfl rfl rfl (ex_move rfl rfl) hS ?_
          refine drwp_off rfl (guard_off rfl rfl rfl hg7217) rfl rfl hS ?_
          refine drwp_off rfl (guard_off rfl rfl rfl hg7217) rfl rfl hS ?_
          refine drwp_off rfl (guard_off rfl rfl rfl hg7217) rfl rfl hS ?_
          refine drwp_off rfl (guard_off rfl rfl rfl hg7217) rfl rfl hS ?_
          refine drwp_off1 rfl (guard_off rfl rfl rfl hg7217) rfl rfl ⟨hS, ?_⟩
          refine drwp_off rfl (guard_off rfl rfl rfl hg7217) rfl rfl hS ?_
          refine drwp_off rfl (guard_off rfl rfl rfl hg7217) rfl rfl hS ?_
          have hg7218 : (((((((t7186 == 0) && (t7188.fValue == (wrap64 (t7190.fValue + a7066)))) && (t7168.fCode == 0)) && t7192) && (t7178.fCode == 0)) && (decide (t7178.fValue ≤ t7194.fValue))) && (t7178.fValue == t7196.fValue)) = false := by simp only [hg7217, Bool.and_true, Bool.true_and, Bool.and_false, Bool.false_and, Bool.or_true, Bool.true_or, Bool.or_false, Bool.false_or, Bool.not_true, Bool.not_false, Bool.not_not]
          refine drwp_take (v := .bool (((((((t7186 == 0) && (t7188.fValue == (wrap64 (t7190.fValue + a7066)))) && (t7168.fCode == 0)) && t7192) && (t7178.fCode == 0)) && (decide (t7178.fValue ≤ t7194.fValue))) && (t7178.fValue == t7196.fValue))) rfl (guard_none rfl) rfl rfl (fun w_ hS_ => (ex_pand_f rfl rfl hg7217)) hS ?_
          refine dp rfl rfl rfl rfl (ex_move rfl rfl) hS ?_
          refine drwp_off rfl (guard_off rfl rfl rfl hg7218) rfl rfl hS ?_
          refine drwp_off rfl (guard_off rfl rfl rfl hg7218) rfl rfl hS ?_
          refine drwp_off rfl (guard_off rfl rfl rfl hg7218) rfl rfl hS ?_
          refine drwp_off rfl (guard_off rfl rfl rfl hg7218) rfl rfl hS ?_
          refine drwp_off1 rfl (guard_off rfl rfl rfl hg7218) rfl rfl ⟨hS, ?_⟩
          have hg7219 : ((((((((t7186 == 0) && (t7188.fValue == (wrap64 (t7190.fValue + a7066)))) && (t7168.fCode == 0)) && t7192) && (t7178.fCode == 0)) && (decide (t7178.fValue ≤ t7194.fValue))) && (t7178.fValue == t7196.fValue)) && t7198) = false := by simp only [hg7218, Bool.and_true, Bool.true_and, Bool.and_false, Bool.false_and, Bool.or_true, Bool.true_or, Bool.or_false, Bool.false_or, Bool.not_true, Bool.not_false, Bool.not_not]
          refine drwp_take (v := .bool ((((((((t7186 == 0) && (t7188.fValue == (wrap64 (t7190.fValue + a7066)))) && (t7168.fCode == 0)) && t7192) && (t7178.fCode == 0)) && (decide (t7178.fValue ≤ t7194.fValue))) && (t7178.fValue == t7196.fValue)) && t7198)) rfl (guard_none rfl) rfl rfl (fun w_ hS_ => (ex_pand_f rfl rfl hg7218)) hS ?_
          refine dp rfl rfl rfl rfl (ex_assign rfl rfl) hS ?_
          refine drwp_done ?_
          replace HM := (HM.front 0 rfl rfl).drop
          replace HM := (HM.front 0 rfl rfl).drop
          replace HM := (HM.front 0 rfl rfl).drop
          replace HM := (HM.front 0 rfl rfl).drop
          replace HM := (HM.front 0 rfl rfl).drop
          replace HM := (HM.front 0 rfl rfl).drop
          replace HM := (HM.front 0 rfl rfl).drop
          exact at_meet [(2, .bool ((((((((t7186 == 0) && (t7188.fValue == (wrap64 (t7190.fValue + a7066)))) && (t7168.fCode == 0)) && t7192) && (t7178.fCode == 0)) && (decide (t7178.fValue ≤ t7194.fValue))) && (t7178.fValue == t7196.fValue)) && t7198))] ⟨rfl, HM⟩ (Sub.cons rfl Sub.nil)
        ·skip
         refine drwp_off rfl (guard_off rfl rfl rfl hg7207) rfl rfl hS ?_
         refine drwp_off rfl (guard_off rfl rfl rfl hg7207) rfl rfl hS ?_
         refine drwp_off rfl (guard_off rfl rfl rfl hg7207) rfl rfl hS ?_
         have hg7220 : (((((t7186 == 0) && (t7188.fValue == (wrap64 (t7190.fValue + a7066)))) && (t7168.fCode == 0)) && t7192) && (t7178.fCode == 0)) = false := by simp only [hg7207, Bool.and_true, Bool.true_and, Bool.and_false, Bool.false_and, Bool.or_true, Bool.true_or, Bool.or_false, Bool.false_or, Bool.not_true, Bool.not_false, Bool.not_not]
         refine drwp_take (v := .bool (((((t7186 == 0) && (t7188.fValue == (wrap64 (t7190.fValue + a7066)))) && (t7168.fCode == 0)) && t7192) && (t7178.fCode == 0))) rfl (guard_none rfl) rfl rfl (fun w_ hS_ => (ex_pand_f rfl rfl hg7207)) hS ?_
         refine dp rfl rfl rfl rfl (ex_move rfl rfl) hS ?_
         refine drwp_off rfl (guard_off rfl rfl rfl hg7220) rfl rfl hS ?_
         refine drwp_off rfl (guard_off rfl rfl rfl hg7220) rfl rfl hS ?_
         refine drwp_off rfl (guard_off rfl rfl rfl hg7220) rfl rfl hS ?_
         refine drwp_off rfl (guard_off rfl rfl rfl hg7220) rfl rfl hS ?_
         refine drwp_off1 rfl (guard_off rfl rfl rfl hg7220) rfl rfl ⟨hS, ?_⟩
         refine drwp_off rfl (guard_off rfl rfl rfl hg7220) rfl rfl hS ?_
         refine drwp_off rfl (guard_off rfl rfl rfl hg7220) rfl rfl hS ?_
         have hg7221 : ((((((t7186 == 0) && (t7188.fValue == (wrap64 (t7190.fValue + a7066)))) && (t7168.fCode == 0)) && t7192) && (t7178.fCode == 0)) && (decide (t7178.fValue ≤ t7194.fValue))) = false := by simp only [hg7220, Bool.and_true, Bool.true_and, Bool.and_false, Bool.false_and, Bool.or_true, Bool.true_or, Bool.or_false, Bool.false_or, Bool.not_true, Bool.not_false, Bool.not_not]
         refine drwp_take (v := .bool ((((((t7186 == 0) && (t7188.fValue == (wrap64 (t7190.fValue + a7066)))) && (t7168.fCode == 0)) && t7192) && (t7178.fCode == 0)) && (decide (t7178.fValue ≤ t7194.fValue)))) rfl (guard_none rfl) rfl rfl (fun w_ hS_ => (ex_pand_f rfl rfl hg7220)) hS ?_
         refine dp rfl rfl rfl rfl (ex_move rfl rfl) hS ?_
         refine drwp_off rfl (guard_off rfl rfl rfl hg7221) rfl rfl hS ?_
         refine drwp_off rfl (guard_off rfl rfl rfl hg7221) rfl rfl hS ?_
         refine drwp_off rfl (guard_off rfl rfl rfl hg7221) rfl rfl hS ?_
         refine drwp_off rfl (guard_off rfl rfl rfl hg7221) rfl rfl hS ?_
         refine drwp_off1 rfl (guard_off rfl rfl rfl hg7221) rfl rfl ⟨hS, ?_⟩
         refine drwp_off rfl (guard_off rfl rfl rfl hg7221) rfl rfl hS ?_
         refine drwp_off rfl (guard_off rfl rfl rfl hg7221) rfl rfl hS ?_
         have hg7222 : (((((((t7186 == 0) && (t7188.fValue == (wrap64 (t7190.fValue + a7066)))) && (t7168.fCode == 0)) && t7192) && (t7178.fCode == 0)) && (decide (t7178.fValue ≤ t7194.fValue))) && (t7178.fValue == t7196.fValue)) = false := by simp only [hg7221, Bool.and_true, Bool.true_and, Bool.and_false, Bool.false_and, Bool.or_true, Bool.true_or, Bool.or_false, Bool.false_or, Bool.not_true, Bool.not_false, Bool.not_not]
         refine drwp_take (v := .bool (((((((t7186 == 0) && (t7188.fValue == (wrap64 (t7190.fValue + a7066)))) && (t7168.fCode == 0)) && t7192) && (t7178.fCode == 0)) && (decide (t7178.fValue ≤ t7194.fValue))) && (t7178.fValue == t7196.fValue))) rfl (guard_none rfl) rfl rfl (fun w_ hS_ => (ex_pand_f rfl rfl hg7221)) hS ?_
         refine dp rfl rfl rfl rfl (ex_move rfl rfl) hS ?_
         refine drwp_off rfl (guard_off rfl rfl rfl hg7222) rfl rfl hS ?_
         refine drwp_off rfl (guard_off rfl rfl rfl hg7222) rfl rfl hS ?_
         refine drwp_off rfl (guard_off rfl rfl rfl hg7222) rfl rfl hS ?_
         refine drwp_off rfl (guard_off rfl rfl rfl hg7222) rfl rfl hS ?_
         refine drwp_off1 rfl (guard_off rfl rfl rfl hg7222) rfl rfl ⟨hS, ?_⟩
         have hg7223 : ((((((((t7186 == 0) && (t7188.fValue == (wrap64 (t7190.fValue + a7066)))) && (t7168.fCode == 0)) && t7192) && (t7178.fCode == 0)) && (decide (t7178.fValue ≤ t7194.fValue))) && (t7178.fValue == t7196.fValue)) && t7198) = false := by simp only [hg7222, Bool.and_true, Bool.true_and, Bool.and_false, Bool.false_and, Bool.or_true, Bool.true_or, Bool.or_false, Bool.false_or, Bool.not_true, Bool.not_false, Bool.not_not]
         refine drwp_take (v := .bool ((((((((t7186 == 0) && (t7188.fValue == (wrap64 (t7190.fValue + a7066)))) && (t7168.fCode == 0)) && t7192) && (t7178.fCode == 0)) && (decide (t7178.fValue ≤ t7194.fValue))) && (t7178.fValue == t7196.fValue)) && t7198)) rfl (guard_none rfl) rfl rfl (fun w_ hS_ => (ex_pand_f rfl rfl hg7222)) hS ?_
         refine dp rfl rfl rfl rfl (ex_assign rfl rfl) hS ?_
         refine drwp_done ?_
         replace HM := (HM.front 0 rfl rfl).drop
         replace HM := (HM.front 0 rfl rfl).drop
         replace HM := (HM.front 0 rfl rfl).drop
         replace HM := (HM.front 0 rfl rfl).drop
         replace HM := (HM.front 0 rfl rfl).drop
         replace HM := (HM.front 0 rfl rfl).drop
         replace HM := (HM.front 0 rfl rfl).drop
         exact at_meet [(2, .bool ((((((((t7186 == 0) && (t7188.fValue == (wrap64 (t7190.fValue + a7066)))) && (t7168.fCode == 0)) && t7192) && (t7178.fCode == 0)) && (decide (t7178.fValue ≤ t7194.fValue))) && (t7178.fValue == t7196.fValue)) && t7198))] ⟨rfl, HM⟩ (Sub.cons rfl Sub.nil)
       ·skip
        refine drwp_off rfl (guard_off rfl rfl rfl hg7205) rfl rfl hS ?_
        refine drwp_off rfl (guard_off rfl rfl rfl hg7205) rfl rfl hS ?_
        refine drwp_off rfl (guard_off rfl rfl rfl hg7205) rfl rfl hS ?_
        refine drwp_off1 rfl (guard_off rfl rfl rfl hg7205) rfl rfl ⟨hS, ?_⟩
        have hg7224 : ((((t7186 == 0) && (t7188.fValue == (wrap64 (t7190.fValue + a7066)))) && (t7168.fCode == 0)) && t7192) = false := by simp only [hg7205, Bool.and_true, Bool.true_and, Bool.and_false, Bool.false_and, Bool.or_true, Bool.true_or, Bool.or_false, Bool.false_or, Bool.not_true, Bool.not_false, Bool.not_not]
        refine drwp_take (v := .bool ((((t7186 == 0) && (t7188.fValue == (wrap64 (t7190.fValue + a7066)))) && (t7168.fCode == 0)) && t7192)) rfl (guard_none rfl) rfl rfl (fun w_ hS_ => (ex_pand_f rfl rfl hg7205)) hS ?_
        refine dp rfl rfl rfl rfl (ex_move rfl rfl) hS ?_
        refine drwp_off rfl (guard_off rfl rfl rfl hg7224) rfl rfl hS ?_
        refine drwp_off rfl (guard_off rfl rfl rfl hg7224) rfl rfl hS ?_
        refine drwp_off rfl (guard_off rfl rfl rfl hg7224) rfl rfl hS ?_
        have hg7225 : (((((t7186 == 0) && (t7188.fValue == (wrap64 (t7190.fValue + a7066)))) && (t7168.fCode == 0)) && t7192) && (t7178.fCode == 0)) = false := by simp only [hg7224, Bool.and_true, Bool.true_and, Bool.and_false, Bool.false_and, Bool.or_true, Bool.true_or, Bool.or_false, Bool.false_or, Bool.not_true, Bool.not_false, Bool.not_not]
        refine drwp_take (v := .bool (((((t7186 == 0) && (t7188.fValue == (wrap64 (t7190.fValue + a7066)))) && (t7168.fCode == 0)) && t7192) && (t7178.fCode == 0))) rfl (guard_none rfl) rfl rfl (fun w_ hS_ => (ex_pand_f rfl rfl hg7224)) hS ?_
        refine dp rfl rfl rfl rfl (ex_move rfl rfl) hS ?_
        refine drwp_off rfl (guard_off rfl rfl rfl hg7225) rfl rfl hS ?_
        refine drwp_off rfl (guard_off rfl rfl rfl hg7225) rfl rfl hS ?_
        refine drwp_off rfl (guard_off rfl rfl rfl hg7225) rfl rfl hS ?_
        refine drwp_off rfl (guard_off rfl rfl rfl hg7225) rfl rfl hS ?_
        refine drwp_off1 rfl (guard_off rfl rfl rfl hg7225) rfl rfl ⟨hS, ?_⟩
        refine drwp_off rfl (guard_off rfl rfl rfl hg7225) rfl rfl hS ?_
        refine drwp_off rfl (guard_off rfl rfl rfl hg7225) rfl rfl hS ?_
        have hg7226 : ((((((t7186 == 0) && (t7188.fValue == (wrap64 (t7190.fValue + a7066)))) && (t7168.fCode == 0)) && t7192) && (t7178.fCode == 0)) && (decide (t7178.fValue ≤ t7194.fValue))) = false := by simp only [hg7225, Bool.and_true, Bool.true_and, Bool.and_false, Bool.false_and, Bool.or_true, Bool.true_or, Bool.or_false, Bool.false_or, Bool.not_true, Bool.not_false, Bool.not_not]
        refine drwp_take (v := .bool ((((((t7186 == 0) && (t7188.fValue == (wrap64 (t7190.fValue + a7066)))) && (t7168.fCode == 0)) && t7192) && (t7178.fCode == 0)) && (decide (t7178.fValue ≤ t7194.fValue)))) rfl (guard_none rfl) rfl rfl (fun w_ hS_ => (ex_pand_f rfl rfl hg7225)) hS ?_
        refine dp rfl rfl rfl rfl (ex_move rfl rfl) hS ?_
        refine drwp_off rfl (guard_off rfl rfl rfl hg7226) rfl rfl hS ?_
        refine drwp_off rfl (guard_off rfl rfl rfl hg7226) rfl rfl hS ?_
        refine drwp_off rfl (guard_off rfl rfl rfl hg7226) rfl rfl hS ?_
        refine drwp_off rfl (guard_off rfl rfl rfl hg7226) rfl rfl hS ?_
        refine drwp_off1 rfl (guard_off rfl rfl rfl hg7226) rfl rfl ⟨hS, ?_⟩
        refine drwp_off rfl (guard_off rfl rfl rfl hg7226) rfl rfl hS ?_
        refine drwp_off rfl (guard_off rfl rfl rfl hg7226) rfl rfl hS ?_
        have hg7227 : (((((((t7186 == 0) && (t7188.fValue == (wrap64 (t7190.fValue + a7066)))) && (t7168.fCode == 0)) && t7192) && (t7178.fCode == 0)) && (decide (t7178.fValue ≤ t7194.fValue))) && (t7178.fValue == t7196.fValue)) = false := by simp only [hg7226, Bool.and_true, Bool.true_and, Bool.and_false, Bool.false_and, Bool.or_true, Bool.true_or, Bool.or_false, Bool.false_or, Bool.not_true, Bool.not_false, Bool.not_not]
        refine drwp_take (v := .bool (((((((t7186 == 0) && (t7188.fValue == (wrap64 (t7190.fValue + a7066)))) && (t7168.fCode == 0)) && t7192) && (t7178.fCode == 0)) && (decide (t7178.fValue ≤ t7194.fValue))) && (t7178.fValue == t7196.fValue))) rfl (guard_none rfl) rfl rfl (fun w_ hS_ => (ex_pand_f rfl rfl hg7226)) hS ?_
        refine dp rfl rfl rfl rfl (ex_move rfl rfl) hS ?_
        refine drwp_off rfl (guard_off rfl rfl rfl hg7227) rfl rfl hS ?_
        refine drwp_off rfl (guard_off rfl rfl rfl hg7227) rfl rfl hS ?_
        refine drwp_off rfl (guard_off rfl rfl rfl hg7227) rfl rfl hS ?_
        refine drwp_off rfl (guard_off rfl rfl rfl hg7227) rfl rfl hS ?_
        refine drwp_off1 rfl (guard_off rfl rfl rfl hg7227) rfl rfl ⟨hS, ?_⟩
        have hg7228 : ((((((((t7186 == 0) && (t7188.fValue == (wrap64 (t7190.fValue + a7066)))) && (t7168.fCode == 0)) && t7192) && (t7178.fCode == 0)) && (decide (t7178.fValue ≤ t7194.fValue))) && (t7178.fValue == t7196.fValue)) && t7198) = false := by simp only [hg7227, Bool.and_true, Bool.true_and, Bool.and_false, Bool.false_and, Bool.or_true, Bool.true_or, Bool.or_false, Bool.false_or, Bool.not_true, Bool.not_false, Bool.not_not]
        refine drwp_take (v := .bool ((((((((t7186 == 0) && (t7188.fValue == (wrap64 (t7190.fValue + a7066)))) && (t7168.fCode == 0)) && t7192) && (t7178.fCode == 0)) && (decide (t7178.fValue ≤ t7194.fValue))) && (t7178.fValue == t7196.fValue)) && t7198)) rfl (guard_none rfl) rfl rfl (fun w_ hS_ => (ex_pand_f rfl rfl hg7227)) hS ?_
        refine dp rfl rfl rfl rfl (ex_assign rfl rfl) hS ?_
        refine drwp_done ?_
        replace HM := (HM.front 0 rfl rfl).drop
        replace HM := (HM.front 0 rfl rfl).drop
        replace HM := (HM.front 0 rfl rfl).drop
        replace HM := (HM.front 0 rfl rfl).drop
        replace HM := (HM.front 0 rfl rfl).drop
        replace HM := (HM.front 0 rfl rfl).drop
        replace HM := (HM.front 0 rfl rfl).drop
        exact at_meet [(2, .bool ((((((((t7186 == 0) && (t7188.fValue == (wrap64 (t7190.fValue + a7066)))) && (t7168.fCode == 0)) && t7192) && (t7178.fCode == 0)) && (decide (t7178.fValue ≤ t7194.fValue))) && (t7178.fValue == t7196.fValue)) && t7198))] ⟨rfl, HM⟩ (Sub.cons rfl Sub.nil)
      ·skip
       refine drwp_off rfl (guard_off rfl rfl rfl hg7204) rfl rfl hS ?_
       refine drwp_off rfl (guard_off rfl rfl rfl hg7204) rfl rfl hS ?_
       refine drwp_off rfl (guard_off rfl rfl rfl hg7204) rfl rfl hS ?_
       have hg7229 : (((t7186 == 0) && (t7188.fValue == (wrap64 (t7190.fValue + a7066)))) && (t7168.fCode == 0)) = false := by simp only [hg7204, Bool.and_true, Bool.true_and, Bool.and_false, Bool.false_and, Bool.or_true, Bool.true_or, Bool.or_false, Bool.false_or, Bool.not_true, Bool.not_false, Bool.not_not]
       refine drwp_take (v := .bool (((t7186 == 0) && (t7188.fValue == (wrap64 (t7190.fValue + a7066)))) && (t7168.fCode == 0))) rfl (guard_none rfl) rfl rfl (fun w_ hS_ => (ex_pand_f rfl rfl hg7204)) hS ?_
       refine dp rfl rfl rfl rfl (ex_move rfl rfl) hS ?_
       refine drwp_off rfl (guard_off rfl rfl rfl hg7229) rfl rfl hS ?_
       refine drwp_off rfl (guard_off rfl rfl rfl hg7229) rfl rfl hS ?_
       refine drwp_off rfl (guard_off rfl rfl rfl hg7229) rfl rfl hS ?_
       refine drwp_off1 rfl (guard_off rfl rfl rfl hg7229) rfl rfl ⟨hS, ?_⟩
       have hg7230 : ((((t7186 == 0) && (t7188.fValue == (wrap64 (t7190.fValue + a7066)))) && (t7168.fCode == 0)) && t7192) = false := by simp only [hg7229, Bool.and_true, Bool.true_and, Bool.and_false, Bool.false_and, Bool.or_true, Bool.true_or, Bool.or_false, Bool.false_or, Bool.not_true, Bool.not_false, Bool.not_not]
       refine drwp_take (v := .bool ((((t7186 == 0) && (t7188.fValue == (wrap64 (t7190.fValue + a7066)))) && (t7168.fCode == 0)) && t7192)) rfl (guard_none rfl) rfl rfl (fun w_ hS_ => (ex_pand_f rfl rfl hg7229)) hS ?_
       refine dp rfl rfl rfl rfl (ex_move rfl rfl) hS ?_
       refine drwp_off rfl (guard_off rfl rfl rfl hg7230) rfl rfl hS ?_
       refine drwp_off rfl (guard_off rfl rfl rfl hg7230) rfl rfl hS ?_
       refine drwp_off rfl (guard_off rfl rfl rfl hg7230) rfl rfl hS ?_
       have hg7231 : (((((t7186 == 0) && (t7188.fValue == (wrap64 (t7190.fValue + a7066)))) && (t7168.fCode == 0)) && t7192) && (t7178.fCode == 0)) = false := by simp only [hg7230, Bool.and_true, Bool.true_and, Bool.and_false, Bool.false_and, Bool.or_true, Bool.true_or, Bool.or_false, Bool.false_or, Bool.not_true, Bool.not_false, Bool.not_not]
       refine drwp_take (v := .bool (((((t7186 == 0) && (t7188.fValue == (wrap64 (t7190.fValue + a7066)))) && (t7168.fCode == 0)) && t7192) && (t7178.fCode == 0))) rfl (guard_none rfl) rfl rfl (fun w_ hS_ => (ex_pand_f rfl rfl hg7230)) hS ?_
       refine dp rfl rfl rfl rfl (ex_move rfl rfl) hS ?_
       refine drwp_off rfl (guard_off rfl rfl rfl hg7231) rfl rfl hS ?_
       refine drwp_off rfl (guard_off rfl rfl rfl hg7231) rfl rfl hS ?_
       refine drwp_off rfl (guard_off rfl rfl rfl hg7231) rfl rfl hS ?_
       refine drwp_off rfl (guard_off rfl rfl rfl hg7231) rfl rfl hS ?_
       refine drwp_off1 rfl (guard_off rfl rfl rfl hg7231) rfl rfl ⟨hS, ?_⟩
       refine drwp_off rfl (guard_off rfl rfl rfl hg7231) rfl rfl hS ?_
       refine drwp_off rfl (guard_off rfl rfl rfl hg7231) rfl rfl hS ?_
       have hg7232 : ((((((t7186 == 0) && (t7188.fValue == (wrap64 (t7190.fValue + a7066)))) && (t7168.fCode == 0)) && t7192) && (t7178.fCode == 0)) && (decide (t7178.fValue ≤ t7194.fValue))) = false := by simp only [hg7231, Bool.and_true, Bool.true_and, Bool.and_false, Bool.false_and, Bool.or_true, Bool.true_or, Bool.or_false, Bool.false_or, Bool.not_true, Bool.not_false, Bool.not_not]
       refine drwp_take (v := .bool ((((((t7186 == 0) && (t7188.fValue == (wrap64 (t7190.fValue + a7066)))) && (t7168.fCode == 0)) && t7192) && (t7178.fCode == 0)) && (decide (t7178.fValue ≤ t7194.fValue)))) rfl (guard_none rfl) rfl rfl (fun w_ hS_ => (ex_pand_f rfl rfl hg7231)) hS ?_
       refine dp rfl rfl rfl rfl (ex_move rfl rfl) hS ?_
       refine drwp_off rfl (guard_off rfl rfl rfl hg7232) rfl rfl hS ?_
       refine drwp_off rfl (guard_off rfl rfl rfl hg7232) rfl rfl hS ?_
       refine drwp_off rfl (guard_off rfl rfl rfl hg7232) rfl rfl hS ?_
       refine drwp_off rfl (guard_off rfl rfl rfl hg7232) rfl rfl hS ?_
       refine drwp_off1 rfl (guard_off rfl rfl rfl hg7232) rfl rfl ⟨hS, ?_⟩
       refine drwp_off rfl (guard_off rfl rfl rfl hg7232) rfl rfl hS ?_
       refine drwp_off rfl (guard_off rfl rfl rfl hg7232) rfl rfl hS ?_
       have hg7233 : (((((((t7186 == 0) && (t7188.fValue == (wrap64 (t7190.fValue + a7066)))) && (t7168.fCode == 0)) && t7192) && (t7178.fCode == 0)) && (decide (t7178.fValue ≤ t7194.fValue))) && (t7178.fValue == t7196.fValue)) = false := by simp only [hg7232, Bool.and_true, Bool.true_and, Bool.and_false, Bool.false_and, Bool.or_true, Bool.true_or, Bool.or_false, Bool.false_or, Bool.not_true, Bool.not_false, Bool.not_not]
       refine drwp_take (v := .bool (((((((t7186 == 0) && (t7188.fValue == (wrap64 (t7190.fValue + a7066)))) && (t7168.fCode == 0)) && t7192) && (t7178.fCode == 0)) && (decide (t7178.fValue ≤ t7194.fValue))) && (t7178.fValue == t7196.fValue))) rfl (guard_none rfl) rfl rfl (fun w_ hS_ => (ex_pand_f rfl rfl hg7232)) hS ?_
       refine dp rfl rfl rfl rfl (ex_move rfl rfl) hS ?_
       refine drwp_off rfl (guard_off rfl rfl rfl hg7233) rfl rfl hS ?_
       refine drwp_off rfl (guard_off rfl rfl rfl hg7233) rfl rfl hS ?_
       refine drwp_off rfl (guard_off rfl rfl rfl hg7233) rfl rfl hS ?_
       refine drwp_off rfl (guard_off rfl rfl rfl hg7233) rfl rfl hS ?_
       refine drwp_off1 rfl (guard_off rfl rfl rfl hg7233) rfl rfl ⟨hS, ?_⟩
       have hg7234 : ((((((((t7186 == 0) && (t7188.fValue == (wrap64 (t7190.fValue + a7066)))) && (t7168.fCode == 0)) && t7192) && (t7178.fCode == 0)) && (decide (t7178.fValue ≤ t7194.fValue))) && (t7178.fValue == t7196.fValue)) && t7198) = false := by simp only [hg7233, Bool.and_true, Bool.true_and, Bool.and_false, Bool.false_and, Bool.or_true, Bool.true_or, Bool.or_false, Bool.false_or, Bool.not_true, Bool.not_false, Bool.not_not]
       refine drwp_take (v := .bool ((((((((t7186 == 0) && (t7188.fValue == (wrap64 (t7190.fValue + a7066)))) && (t7168.fCode == 0)) && t7192) && (t7178.fCode == 0)) && (decide (t7178.fValue ≤ t7194.fValue))) && (t7178.fValue == t7196.fValue)) && t7198)) rfl (guard_none rfl) rfl rfl (fun w_ hS_ => (ex_pand_f rfl rfl hg7233)) hS ?_
       refine dp rfl rfl rfl rfl (ex_assign rfl rfl) hS ?_
       refine drwp_done ?_
       replace HM := (HM.front 0 rfl rfl).drop
       replace HM := (HM.front 0 rfl rfl).drop
       replace HM := (HM.front 0 rfl rfl).drop
       replace HM := (HM.front 0 rfl rfl).drop
       replace HM := (HM.front 0 rfl rfl).drop
       replace HM := (HM.front 0 rfl rfl).drop
       replace HM := (HM.front 0 rfl rfl).drop
       exact at_meet [(2, .bool ((((((((t7186 == 0) && (t7188.fValue == (wrap64 (t7190.fValue + a7066)))) && (t7168.fCode == 0)) && t7192) && (t7178.fCode == 0)) && (decide (t7178.fValue ≤ t7194.fValue))) && (t7178.fValue == t7196.fValue)) && t7198))] ⟨rfl, HM⟩ (Sub.cons rfl Sub.nil)
     ·skip
      refine drwp_off rfl (guard_off rfl rfl rfl hg7201) rfl rfl hS ?_
      refine drwp_off rfl (guard_off rfl rfl rfl hg7201) rfl rfl hS ?_
      refine drwp_off rfl (guard_off rfl rfl rfl hg7201) rfl rfl hS ?_
      refine drwp_off rfl (guard_off rfl rfl rfl hg7201) rfl rfl hS ?_
      refine drwp_off1 rfl (guard_off rfl rfl rfl hg7201) rfl rfl ⟨hS, ?_⟩
      refine drwp_off rfl (guard_off rfl rfl rfl hg7201) rfl rfl hS ?_
      refine drwp_off1 rfl (guard_off rfl rfl rfl hg7201) rfl rfl ⟨hS, ?_⟩
      refine drwp_off rfl (guard_off rfl rfl rfl hg7201) rfl rfl hS ?_
      refine drwp_off rfl (guard_off rfl rfl rfl hg7201) rfl rfl hS ?_
      refine drwp_off rfl (guard_off rfl rfl rfl hg7201) rfl rfl hS ?_
      have hg7235 : ((t7186 == 0) && (t7188.fValue == (wrap64 (t7190.fValue + a7066)))) = false := by simp only [hg7201, Bool.and_true, Bool.true_and, Bool.and_false, Bool.false_and, Bool.or_true, Bool.true_or, Bool.or_false, Bool.false_or, Bool.not_true, Bool.not_false, Bool.not_not]
      refine drwp_take (v := .bool ((t7186 == 0) && (t7188.fValue == (wrap64 (t7190.fValue + a7066))))) rfl (guard_none rfl) rfl rfl (fun w_ hS_ => (ex_pand_f rfl rfl hg7201)) hS ?_
      refine dp rfl rfl rfl rfl (ex_move rfl rfl) hS ?_
      refine drwp_off rfl (guard_off rfl rfl rfl hg7235) rfl rfl hS ?_
      refine drwp_off rfl (guard_off rfl rfl rfl hg7235) rfl rfl hS ?_
      refine drwp_off rfl (guard_off rfl rfl rfl hg7235) rfl rfl hS ?_
      have hg7236 : (((t7186 == 0) && (t7188.fValue == (wrap64 (t7190.fValue + a7066)))) && (t7168.fCode == 0)) = false := by simp only [hg7235, Bool.and_true, Bool.true_and, Bool.and_false, Bool.false_and, Bool.or_true, Bool.true_or, Bool.or_false, Bool.false_or, Bool.not_true, Bool.not_false, Bool.not_not]
      refine drwp_take (v := .bool (((t7186 == 0) && (t7188.fValue == (wrap64 (t7190.fValue + a7066)))) && (t7168.fCode == 0))) rfl (guard_none rfl) rfl rfl (fun w_ hS_ => (ex_pand_f rfl rfl hg7235)) hS ?_
      refine dp rfl rfl rfl rfl (ex_move rfl rfl) hS ?_
      refine drwp_off rfl (guard_off rfl rfl rfl hg7236) rfl rfl hS ?_
      refine drwp_off rfl (guard_off rfl rfl rfl hg7236) rfl rfl hS ?_
      refine drwp_off rfl (guard_off rfl rfl rfl hg7236) rfl rfl hS ?_
      refine drwp_off1 rfl (guard_off rfl rfl rfl hg7236) rfl rfl ⟨hS, ?_⟩
      have hg7237 : ((((t7186 == 0) && (t7188.fValue == (wrap64 (t7190.fValue + a7066)))) && (t7168.fCode == 0)) && t7192) = false := by simp only [hg7236, Bool.and_true, Bool.true_and, Bool.and_false, Bool.false_and, Bool.or_true, Bool.true_or, Bool.or_false, Bool.false_or, Bool.not_true, Bool.not_false, Bool.not_not]
      refine drwp_take (v := .bool ((((t7186 == 0) && (t7188.fValue == (wrap64 (t7190.fValue + a7066)))) && (t7168.fCode == 0)) && t7192)) rfl (guard_none rfl) rfl rfl (fun w_ hS_ => (ex_pand_f rfl rfl hg7236)) hS ?_
      refine dp rfl rfl rfl rfl (ex_move rfl rfl) hS ?_
      refine drwp_off rfl (guard_off rfl rfl rfl hg7237) rfl rfl hS ?_
      refine drwp_off rfl (guard_off rfl rfl rfl hg7237) rfl rfl hS ?_
      refine drwp_off rfl (guard_off rfl rfl rfl hg7237) rfl rfl hS ?_
      have hg7238 : (((((t7186 == 0) && (t7188.fValue == (wrap64 (t7190.fValue + a7066)))) && (t7168.fCode == 0)) && t7192) && (t7178.fCode == 0)) = false := by simp only [hg7237, Bool.and_true, Bool.true_and, Bool.and_false, Bool.false_and, Bool.or_true, Bool.true_or, Bool.or_false, Bool.false_or, Bool.not_true, Bool.not_false, Bool.not_not]
      refine drwp_take (v := .bool (((((t7186 == 0) && (t7188.fValue == (wrap64 (t7190.fValue + a7066)))) && (t7168.fCode == 0)) && t7192) && (t7178.fCode == 0))) rfl (guard_none rfl) rfl rfl (fun w_ hS_ => (ex_pand_f rfl rfl hg7237)) hS ?_
      refine dp rfl rfl rfl rfl (ex_move rfl rfl) hS ?_
      refine drwp_off rfl (guard_off rfl rfl rfl hg7238) rfl rfl hS ?_
      refine drwp_off rfl (guard_off rfl rfl rfl hg7238) rfl rfl hS ?_
      refine drwp_off rfl (guard_off rfl rfl rfl hg7238) rfl rfl hS ?_
      refine drwp_off rfl (guard_off rfl rfl rfl hg7238) rfl rfl hS ?_
      refine drwp_off1 rfl (guard_off rfl rfl rfl hg7238) rfl rfl ⟨hS, ?_⟩
      refine drwp_off rfl (guard_off rfl rfl rfl hg7238) rfl rfl hS ?_
      refine drwp_off rfl (guard_off rfl rfl rfl hg7238) rfl rfl hS ?_
      have hg7239 : ((((((t7186 == 0) && (t7188.fValue == (wrap64 (t7190.fValue + a7066)))) && (t7168.fCode == 0)) && t7192) && (t7178.fCode == 0)) && (decide (t7178.fValue ≤ t7194.fValue))) = false := by simp only [hg7238, Bool.and_true, Bool.true_and, Bool.and_false, Bool.false_and, Bool.or_true, Bool.true_or, Bool.or_false, Bool.false_or, Bool.not_true, Bool.not_false, Bool.not_not]
      refine drwp_take (v := .bool ((((((t7186 == 0) && (t7188.fValue == (wrap64 (t7190.fValue + a7066)))) && (t7168.fCode == 0)) && t7192) && (t7178.fCode == 0)) && (decide (t7178.fValue ≤ t7194.fValue)))) rfl (guard_none rfl) rfl rfl (fun w_ hS_ => (ex_pand_f rfl rfl hg7238)) hS ?_
      refine dp rfl rfl rfl rfl (ex_move rfl rfl) hS ?_
      refine drwp_off rfl (guard_off rfl rfl rfl hg7239) rfl rfl hS ?_
      refine drwp_off rfl (guard_off rfl rfl rfl hg7239) rfl rfl hS ?_
      refine drwp_off rfl (guard_off rfl rfl rfl hg7239) rfl rfl hS ?_
      refine drwp_off rfl (guard_off rfl rfl rfl hg7239) rfl rfl hS ?_
      refine drwp_off1 rfl (guard_off rfl rfl rfl hg7239) rfl rfl ⟨hS, ?_⟩
      refine drwp_off rfl (guard_off rfl rfl rfl hg7239) rfl rfl hS ?_
      refine drwp_off rfl (guard_off rfl rfl rfl hg7239) rfl rfl hS ?_
      have hg7240 : (((((((t7186 == 0) && (t7188.fValue == (wrap64 (t7190.fValue + a7066)))) && (t7168.fCode == 0)) && t7192) && (t7178.fCode == 0)) && (decide (t7178.fValue ≤ t7194.fValue))) && (t7178.fValue == t7196.fValue)) = false := by simp only [hg7239, Bool.and_true, Bool.true_and, Bool.and_false, Bool.false_and, Bool.or_true, Bool.true_or, Bool.or_false, Bool.false_or, Bool.not_true, Bool.not_false, Bool.not_not]
      refine drwp_take (v := .bool (((((((t7186 == 0) && (t7188.fValue == (wrap64 (t7190.fValue + a7066)))) && (t7168.fCode == 0)) && t7192) && (t7178.fCode == 0)) && (decide (t7178.fValue ≤ t7194.fValue))) && (t7178.fValue == t7196.fValue))) rfl (guard_none rfl) rfl rfl (fun w_ hS_ => (ex_pand_f rfl rfl hg7239)) hS ?_
      refine dp rfl rfl rfl rfl (ex_move rfl rfl) hS ?_
      refine drwp_off rfl (guard_off rfl rfl rfl hg7240) rfl rfl hS ?_
      refine drwp_off rfl (guard_off rfl rfl rfl hg7240) rfl rfl hS ?_
      refine drwp_off rfl (guard_off rfl rfl rfl hg7240) rfl rfl hS ?_
      refine drwp_off rfl (guard_off rfl rfl rfl hg7240) rfl rfl hS ?_
      refine drwp_off1 rfl (guard_off rfl rfl rfl hg7240) rfl rfl ⟨hS, ?_⟩
      have hg7241 : ((((((((t7186 == 0) && (t7188.fValue == (wrap64 (t7190.fValue + a7066)))) && (t7168.fCode == 0)) && t7192) && (t7178.fCode == 0)) && (decide (t7178.fValue ≤ t7194.fValue))) && (t7178.fValue == t7196.fValue)) && t7198) = false := by simp only [hg7240, Bool.and_true, Bool.true_and, Bool.and_false, Bool.false_and, Bool.or_true, Bool.true_or, Bool.or_false, Bool.false_or, Bool.not_true, Bool.not_false, Bool.not_not]
      refine drwp_take (v := .bool ((((((((t7186 == 0) && (t7188.fValue == (wrap64 (t7190.fValue + a7066)))) && (t7168.fCode == 0)) && t7192) && (t7178.fCode == 0)) && (decide (t7178.fValue ≤ t7194.fValue))) && (t7178.fValue == t7196.fValue)) && t7198)) rfl (guard_none rfl) rfl rfl (fun w_ hS_ => (ex_pand_f rfl rfl hg7240)) hS ?_
      refine dp rfl rfl rfl rfl (ex_assign rfl rfl) hS ?_
      refine drwp_done ?_
      replace HM := (HM.front 0 rfl rfl).drop
      replace HM := (HM.front 0 rfl rfl).drop
      replace HM := (HM.front 0 rfl rfl).drop
      replace HM := (HM.front 0 rfl rfl).drop
      replace HM := (HM.front 0 rfl rfl).drop
      replace HM := (HM.front 0 rfl rfl).drop
      replace HM := (HM.front 0 rfl rfl).drop
      exact at_meet [(2, .bool ((((((((t7186 == 0) && (t7188.fValue == (wrap64 (t7190.fValue + a7066)))) && (t7168.fCode == 0)) && t7192) && (t7178.fCode == 0)) && (decide (t7178.fValue ≤ t7194.fValue))) && (t7178.fValue == t7196.fValue)) && t7198))] ⟨rfl, HM⟩ (Sub.cons rfl Sub.nil)
    ·rintro _ w7242 ⟨rfl, HM⟩
     refine at_then ?_
     refine run_ret ?_
     have hR := Option.some.inj H
     subst hR
     exact at_ret1 rfl rfl ⟨_, rfl, rfl, HM⟩
end Go.Proofs.Ytecgbhfgkkpmhaa.Zk
