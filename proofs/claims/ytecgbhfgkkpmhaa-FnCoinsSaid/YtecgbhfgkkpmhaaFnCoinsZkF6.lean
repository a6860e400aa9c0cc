/- What functions of the program compute, each as a plain function, and that they do. Conditions: as each theorem states them. -/
import Derived.Test.YtecgbhfgkkpmhaaFnCoinsZkF5
namespace Go.Proofs.Ytecgbhfgkkpmhaa.Zk
open Go Go.RowKit Go.IntWalk Go.Proofs
set_option linter.unusedVariables false
set_option linter.unusedSimpArgs false
set_option maxRecDepth 100000
set_option maxHeartbeats 4000000
def impl_PutCoins.f (k : Nat) (x0 : List Coin) (x1 : Int) (x2 : List Out) (x3 : Int) (x4 : Bool) : Option CoinsResult := ((impl_CoinsFault.f k x0).bind fun t5390 => (bif (t5390 != 0) then some (⟨t5390, ([] : List Coin)⟩ : CoinsResult) else ((impl_putCoins.f k x0 x1 x2 x3 x4).bind fun t5396 => some (⟨t5396.2, t5396.1⟩ : CoinsResult))))
theorem impl_PutCoins.calls {k : Nat} {x0 : List Coin} {x1 : Int} {x2 : List Out} {x3 : Int} {x4 : Bool} {p0 : Value} {p2 : Value} {w : World} (hp0 : RdS kCoin w p0 x0) (hp2 : RdS kOut w p2 x2) {r : CoinsResult} (H : impl_PutCoins.f k x0 x1 x2 x3 x4 = some r) :
  Calls Try.prog 6 ([p0, .int .i64 x1, p2, .int .i64 x3, .bool x4] : List Value).toArray w (fun e w_ => ∃ v, e = .returned v ∧ ∃ u0 : Value, v = (.agg #[.int .i64 r.fCode, u0]) ∧ Mem w [] w_ [own kCoin 41 u0 r.fCoins]) := by
 have HM := Mem.start w
 refine calls_run (N := 32) Try.func6 rfl rfl rfl rfl ?_
 unfold impl_PutCoins.f at H
 refine run_seq ?_
 refine run_region rfl ?_
 refine od rfl rfl rfl rfl (does_alloc (cs := [.int .i64 0, .slice none 0 0]) rfl tz29 rfl HM) ?_
 rintro _ w5386 ⟨b5383, rfl, HM⟩
 refine ops_nil (at_then (run_seq ?_))
 refine run_seq ?_
 obtain ⟨t5390, h5391, H⟩ := bind_some H
 refine run_region rfl ?_
 refine ox rfl rfl rfl rfl (ex_move rfl rfl) ?_
 refine od rfl rfl rfl rfl (does_callk rfl callok11 rfl (impl_CoinsFault.calls (x0 := x0) (HM.rd hp0) h5391)) ?_
 rintro _ w5392 ⟨rfl, hn⟩
 replace HM : Mem w [] w5392 [box b5383 29 [.int .i64 0, .slice none 0 0]] := HM.call hn
 refine ox rfl rfl rfl rfl (ex_assign rfl rfl) ?_
 refine ops_nil (at_then (run_seq ?_))
 refine run_region rfl ?_
 refine ox rfl rfl rfl rfl (ex_move rfl rfl) ?_
 refine ox rfl rfl rfl rfl (ex_neq rfl rfl rfl) ?_
 refine ops_nil (at_then ?_)
 refine run_cond (b := (t5390 != 0)) rfl (fun hb5393 => ?_) (fun hb5393 => ?_)
 ·replace H := cond_t hb5393 H
  refine run_seq ?_
  refine run_region rfl ?_
  refine ox rfl rfl rfl rfl (ex_move rfl rfl) ?_
  refine ox rfl rfl rfl rfl (ex_build (cells := #[(.int .i64 t5390), (.slice none 0 0)]) rfl rfl (by kernel_rfl)) ?_
  refine odS rfl rfl rfl (does_store (vs := [.int .i64 t5390, .slice none 0 0]) (cs' := [.int .i64 t5390, .slice none 0 0]) rfl rfl rfl rfl tsz29 (Ones.int (Ones.sl Ones.nil)) rfl rfl HM) ?_
  rintro w5394 HM
  refine ops_nil (at_then ?_)
  refine run_ret ?_
  refine at_then_ret ?_
  replace HM := HM.empty kCoin 41 none
  replace HM := HM.front 1 rfl rfl
  have hcb0 := HM.box_at 0 rfl
  replace HM := (HM.front 0 rfl rfl).drop
  have hR := Option.some.inj H
  subst hR
  exact at_retN rfl rfl Try.underlying29 rfl tsz29 rfl hcb0 ⟨_, rfl, _, rfl, HM⟩
 ·replace H := cond_f hb5393 H
  refine run_skip ?_
  refine at_then ?_
  refine run_seq ?_
  obtain ⟨t5396, h5397, H⟩ := bind_some H
  refine run_region rfl ?_
  refine ox rfl rfl rfl rfl (ex_move rfl rfl) ?_
  refine ox rfl rfl rfl rfl (ex_move rfl rfl) ?_
  refine ox rfl rfl rfl rfl (ex_move rfl rfl) ?_
  refine ox rfl rfl rfl rfl (ex_move rfl rfl) ?_
  refine ox rfl rfl rfl rfl (ex_move rfl rfl) ?_
  refine od rfl rfl rfl rfl (does_callk rfl callok22 rfl (impl_putCoins.calls (x0 := x0) (x1 := x1) (x2 := x2) (x3 := x3) (x4 := x4) (HM.rd hp0) (HM.rd hp2) h5397)) ?_
  rintro _ w5400 ⟨u5398, rfl, hn⟩
  replace HM : Mem w [] w5400 [own kCoin 41 u5398 t5396.1, box b5383 29 [.int .i64 0, .slice none 0 0]] := HM.call hn
  refine ox rfl rfl rfl rfl (ex_move rfl rfl) ?_
  refine ox rfl rfl rfl rfl (ex_extract rfl rfl rfl) ?_
  refine ox rfl rfl rfl rfl (ex_extract rfl rfl rfl) ?_
  refine ox rfl rfl rfl rfl (ex_assign rfl rfl) ?_
  refine ox rfl rfl rfl rfl (ex_assign rfl rfl) ?_
  refine ops_nil (at_then (run_seq ?_))
  refine run_region rfl ?_
  refine ox rfl rfl rfl rfl (ex_move rfl rfl) ?_
  refine ox rfl rfl rfl rfl (ex_move rfl rfl) ?_
  refine ox rfl rfl rfl rfl (ex_build1 (fun u5398 => [(0, .int .i64 t5396.2), (1, u5398)]) (fun u5398 => #[.int .i64 t5396.2, u5398]) rfl rfl (fun _ _ _ => by kernel_rfl) (HM.own_rd 0 rfl).isSl) ?_
  replace HM := HM.front 1 rfl rfl
  refine odS rfl rfl rfl (does_store (vs := [.int .i64 t5396.2, u5398]) (cs' := [.int .i64 t5396.2, u5398]) rfl rfl rfl rfl tsz29 (Ones.int (Ones.rd (HM.own_rd 1 rfl) Ones.nil)) rfl rfl HM) ?_
  rintro w5401 HM
  refine ops_nil (at_then ?_)
  refine run_ret ?_
  have hcb0 := HM.box_at 0 rfl
  replace HM := (HM.front 0 rfl rfl).drop
  have hR := Option.some.inj H
  subst hR
  exact at_retN rfl rfl Try.underlying29 rfl tsz29 rfl hcb0 ⟨_, rfl, _, rfl, HM⟩

def impl_findCoin_1.f (k : Nat) (x0 : Coin) (x1 : Ref) : Option Int := ((impl_compareRefs.f k x0.fRef x1).bind fun t5471 => some t5471)
theorem impl_findCoin_1.calls {k : Nat} {x0 : Coin} {x1 : Ref} {p0_0 : Value} {w : World} (hp0_0 : RdS kInt w p0_0 x0.fOut.fRule.fKeys) {r : Int} (H : impl_findCoin_1.f k x0 x1 = some r) :
  Calls Try.prog 56 ([.agg #[(.int .i64 x0.fRef.fTx), (.int .i64 x0.fRef.fAt), (.int .i64 x0.fOut.fValue), p0_0, (.int .i64 x0.fOut.fRule.fNeed), (.int .i64 x0.fOut.fRule.fAfter), (.int .i64 x0.fHeight), (.bool x0.fMined)], .agg #[(.int .i64 x1.fTx), (.int .i64 x1.fAt)]] : List Value).toArray w (fun e w_ => ∃ v, e = .returned v ∧ v = (.int .i64 r) ∧ Mem w [] w_ []) := by
 have HM := Mem.start w
 refine calls_run (N := 9) Try.func56 rfl rfl rfl rfl ?_
 unfold impl_findCoin_1.f at H
 refine run_seq ?_
 refine run_region rfl ?_
 refine od rfl rfl rfl rfl (does_box (cs := [.int .i64 x0.fRef.fTx, .int .i64 x0.fRef.fAt, .int .i64 x0.fOut.fValue, p0_0, .int .i64 x0.fOut.fRule.fNeed, .int .i64 x0.fOut.fRule.fAfter, .int .i64 x0.fHeight, .bool x0.fMined]) rfl rfl rfl HM) ?_
 rintro _ w5469 ⟨b5463, rfl, HM⟩
 refine od rfl rfl rfl rfl (does_box (cs := [.int .i64 x1.fTx, .int .i64 x1.fAt]) rfl rfl rfl HM) ?_
 rintro _ w5470 ⟨b5466, rfl, HM⟩
 refine ox rfl rfl rfl rfl (ex_assign rfl rfl) ?_
 refine ops_nil (at_then (run_seq ?_))
 obtain ⟨t5471, h5472, H⟩ := bind_some H
 refine run_region rfl ?_
 refine ox rfl rfl rfl rfl (ex_fieldAddr (off' := 0) rfl rfl Try.underlying41 rfl tsz38 rfl) ?_
 refine ox rfl rfl rfl rfl (ex_loadN (cs := [(.int .i64 x0.fRef.fTx), (.int .i64 x0.fRef.fAt)]) rfl rfl Try.underlying38 rfl tsz38 rfl ((HM.box_at 1 rfl).sub 0 2 rfl)) ?_
 refine ox rfl rfl rfl rfl (ex_loadN (cs := [(.int .i64 x1.fTx), (.int .i64 x1.fAt)]) rfl rfl Try.underlying38 rfl tsz38 rfl ((HM.box_at 0 rfl).sub 0 2 rfl)) ?_
 refine od rfl rfl rfl rfl (does_callk rfl callok38 rfl (impl_compareRefs.calls (x0 := x0.fRef) (x1 := x1) h5472)) ?_
 rintro _ w5473 ⟨rfl, hn⟩
 replace HM : Mem w [] w5473 [box b5466 38 [.int .i64 x1.fTx, .int .i64 x1.fAt], box b5463 41 [.int .i64 x0.fRef.fTx, .int .i64 x0.fRef.fAt, .int .i64 x0.fOut.fValue, p0_0, .int .i64 x0.fOut.fRule.fNeed, .int .i64 x0.fOut.fRule.fAfter, .int .i64 x0.fHeight, .bool x0.fMined]] := HM.call hn
 refine ox rfl rfl rfl rfl (ex_assign rfl rfl) ?_
 refine ops_nil (at_then ?_)
 refine run_ret ?_
 replace HM := (HM.front 0 rfl rfl).drop
 replace HM := (HM.front 0 rfl rfl).drop
 have hR := Option.some.inj H
 subst hR
 exact at_ret1 rfl rfl ⟨_, rfl, rfl, HM⟩

def slices_BinarySearchFunc_impl_Coin.l0 (x0 : List Coin) (x1 : Ref) : Nat → Int → Int → Option Int
 | 0, _, _ => none
 | k + 1, a5551, a5552 => (bif (decide (a5551 < a5552)) then (chk (decide (0 ≤ (1 : Int)) && decide ((1 : Int) ≤ IntKind.u64.bits)) (chk (idxOk (wrap64 ((IntKind.u64.wrap (wrap64 (a5551 + a5552))) / 2 ^ ((1 : Int)).toNat)) x0.length) ((impl_findCoin_1.f k (gt x0 (wrap64 ((IntKind.u64.wrap (wrap64 (a5551 + a5552))) / 2 ^ ((1 : Int)).toNat))) x1).bind fun t5570 => (bif (decide (t5570 < 0)) then slices_BinarySearchFunc_impl_Coin.l0 x0 x1 k (wrap64 ((wrap64 ((IntKind.u64.wrap (wrap64 (a5551 + a5552))) / 2 ^ ((1 : Int)).toNat)) + 1)) a5552 else slices_BinarySearchFunc_impl_Coin.l0 x0 x1 k a5551 (wrap64 ((IntKind.u64.wrap (wrap64 (a5551 + a5552))) / 2 ^ ((1 : Int)).toNat)))))) else some a5551)
theorem slices_BinarySearchFunc_impl_Coin.l0_z (x0 : List Coin) (x1 : Ref) (a5551 : Int) (a5552 : Int) : slices_BinarySearchFunc_impl_Coin.l0 x0 x1 0 a5551 a5552 = none := rfl
theorem slices_BinarySearchFunc_impl_Coin.l0_s (x0 : List Coin) (x1 : Ref) (k : Nat) (a5551 : Int) (a5552 : Int) : slices_BinarySearchFunc_impl_Coin.l0 x0 x1 (k + 1) a5551 a5552 = (bif (decide (a5551 < a5552)) then (chk (decide (0 ≤ (1 : Int)) && decide ((1 : Int) ≤ IntKind.u64.bits)) (chk (idxOk (wrap64 ((IntKind.u64.wrap (wrap64 (a5551 + a5552))) / 2 ^ ((1 : Int)).toNat)) x0.length) ((impl_findCoin_1.f k (gt x0 (wrap64 ((IntKind.u64.wrap (wrap64 (a5551 + a5552))) / 2 ^ ((1 : Int)).toNat))) x1).bind fun t5570 => (bif (decide (t5570 < 0)) then slices_BinarySearchFunc_impl_Coin.l0 x0 x1 k (wrap64 ((wrap64 ((IntKind.u64.wrap (wrap64 (a5551 + a5552))) / 2 ^ ((1 : Int)).toNat)) + 1)) a5552 else slices_BinarySearchFunc_impl_Coin.l0 x0 x1 k a5551 (wrap64 ((IntKind.u64.wrap (wrap64 (a5551 + a5552))) / 2 ^ ((1 : Int)).toNat)))))) else some a5551) := rfl
def slices_BinarySearchFunc_impl_Coin.f (k : Nat) (x0 : List Coin) (x1 : Ref) : Option (Int × Bool) := ((slices_BinarySearchFunc_impl_Coin.l0 x0 x1 k 0 (x0.length : Int)).bind (fun a5539 => (chk (!(decide (a5539 < (x0.length : Int))) || (idxOk a5539 x0.length)) ((bif (decide (a5539 < (x0.length : Int))) then impl_findCoin_1.f k (gt x0 a5539) x1 else some default).bind fun t5579 => some (a5539, ((decide (a5539 < (x0.length : Int))) && (t5579 == 0)))))))
theorem slices_BinarySearchFunc_impl_Coin.calls {k : Nat} {x0 : List Coin} {x1 : Ref} {p0 : Value} {w : World} (hp0 : RdS kCoin w p0 x0) {r : Int × Bool} (H : slices_BinarySearchFunc_impl_Coin.f k x0 x1 = some r) :
  Calls Try.prog 55 ([p0, .agg #[(.int .i64 x1.fTx), (.int .i64 x1.fAt)], .func (.func 56) #[] #[]] : List Value).toArray w (fun e w_ => ∃ v, e = .returned v ∧ v = (.tuple #[.int .i64 r.1, .bool r.2]) ∧ Mem w [] w_ []) := by
 have HM := Mem.start w
 refine calls_run (N := 49) Try.func55 rfl rfl rfl rfl ?_
 unfold slices_BinarySearchFunc_impl_Coin.f at H
 refine run_seq ?_
 refine run_region rfl ?_
 refine od rfl rfl rfl rfl (does_box (cs := [.int .i64 x1.fTx, .int .i64 x1.fAt]) rfl rfl rfl HM) ?_
 rintro _ w5509 ⟨b5506, rfl, HM⟩
 refine ox rfl rfl rfl rfl (ex_assign rfl rfl) ?_
 refine ox rfl rfl rfl rfl (ex_assign rfl rfl) ?_
 refine ops_nil (at_then (run_seq ?_))
 refine run_region rfl ?_
 refine ox rfl rfl rfl rfl (ex_move rfl rfl) ?_
 refine ox rfl rfl rfl rfl (ex_len (d := kCoin) (xs := x0) rfl rfl Try.underlying24 hp0) ?_
 refine ox rfl rfl rfl rfl (ex_assign rfl rfl) ?_
 refine ops_nil (at_then (run_seq ?_))
 refine run_region rfl ?_
 refine ox rfl rfl rfl rfl (ex_move rfl rfl) ?_
 refine ox rfl rfl rfl rfl (ex_assign rfl rfl) ?_
 refine ox rfl rfl rfl rfl (ex_assign rfl rfl) ?_
 refine ops_nil (at_then ?_)
 obtain ⟨o5540, ho5541, H⟩ := bind_some H
 refine run_mid (fun ρ_ w_ => ∃ a5539 : Int, a5539 = o5540 ∧ ρ_ = [(0, p0), (2, .func (.func 56) #[] #[]), (4, .pointer (some ⟨b5506, 0, none⟩)), (8, .int .i64 (x0.length : Int)), (9, .int .i64 a5539)] ∧ Mem w [] w_ [box b5506 38 [.int .i64 x1.fTx, .int .i64 x1.fAt]]) ?_ ?_
 ·clear H
  refine run_block ?_
  refine run_loop (fun k_ ρ_ w_ => ∃ a5551 : Int, ∃ a5552 : Int, slices_BinarySearchFunc_impl_Coin.l0 x0 x1 k_ a5551 a5552 = some o5540 ∧ ρ_ = [(0, p0), (2, .func (.func 56) #[] #[]), (4, .pointer (some ⟨b5506, 0, none⟩)), (8, .int .i64 (x0.length : Int)), (9, .int .i64 a5551), (10, .int .i64 a5552)] ∧ Mem w [] w_ [box b5506 38 [.int .i64 x1.fTx, .int .i64 x1.fAt]]) k (ρ1 := [(0, p0), (2, .func (.func 56) #[] #[]), (4, .pointer (some ⟨b5506, 0, none⟩)), (8, .int .i64 (x0.length : Int)), (9, .int .i64 0), (10, .int .i64 (x0.length : Int))]) ⟨_, _, ho5541, rfl, HM⟩ (Sub.cons rfl (Sub.cons rfl (Sub.cons rfl (Sub.cons rfl (Sub.cons rfl (Sub.cons rfl Sub.nil)))))) ?_
  clear HM ho5541
  rintro k5562 _ w5563 ⟨a5551, a5552, ho5541, rfl, HM⟩
  obtain _ | k5562 := k5562
  ·exact nomatch ((slices_BinarySearchFunc_impl_Coin.l0_z x0 x1 a5551 a5552).symm.trans ho5541)
  replace ho5541 := (slices_BinarySearchFunc_impl_Coin.l0_s x0 x1 k5562 a5551 a5552).symm.trans ho5541
  refine run_seq ?_
  refine run_seq ?_
  refine run_region rfl ?_
  refine ox rfl rfl rfl rfl (ex_move rfl rfl) ?_
  refine ox rfl rfl rfl rfl (ex_move rfl rfl) ?_
  refine ox rfl rfl rfl rfl (ex_lss rfl rfl rfl) ?_
  refine ops_nil (at_then ?_)
  refine run_cond (b := (decide (a5551 < a5552))) rfl (fun hb5564 => ?_) (fun hb5564 => ?_)
  ·replace ho5541 := cond_t hb5564 ho5541
   refine run_skip ?_
   refine at_then ?_
   refine run_block ?_
   refine run_seq ?_
   obtain ⟨e5565, ho5541⟩ := chk_some ho5541
   refine run_region rfl ?_
   refine ox rfl rfl rfl rfl (ex_move rfl rfl) ?_
   refine ox rfl rfl rfl rfl (ex_move rfl rfl) ?_
   refine ox rfl rfl rfl rfl (ex_add rfl rfl rfl) ?_
   refine ox rfl rfl rfl rfl (ex_conv rfl rfl (by rw [Try.underlying3]; rfl) Try.underlying96) ?_
   refine ox rfl rfl rfl rfl (ex_shr rfl rfl rfl e5565) ?_
   refine ox rfl rfl rfl rfl (ex_conv64 rfl rfl (by rw [Try.underlying96]; rfl) Try.underlying3) ?_
   refine ox rfl rfl rfl rfl (ex_assign rfl rfl) ?_
   refine ops_nil (at_then (run_seq ?_))
   obtain ⟨e5566, ho5541⟩ := chk_some ho5541
   obtain ⟨t5570, h5571, ho5541⟩ := bind_some ho5541
   refine run_drawf (fun w_ => Mem w [] w_ [box b5506 38 [.int .i64 x1.fTx, .int .i64 x1.fAt]]) [(0, true), (1, true), (2, true), (3, true), (4, true), (5, true), (6, false), (7, true)] mixed rfl rfl (by kernel_rfl) ?_
   replace HM := HM.grow (fr_drew _)
   have hS := Mem.suf (M := []) HM
   refine dp rfl rfl rfl rfl (ex_move rfl rfl) hS ?_
   refine dp rfl rfl rfl rfl (ex_move rfl rfl) hS ?_
   refine dp rfl rfl rfl rfl (ex_move rfl rfl) hS ?_
   obtain ⟨kv5568, hc5567, hk5569⟩ : ∃ u, CellsAt _ (sb p0) (so p0 + (wrap64 ((IntKind.u64.wrap (wrap64 (a5551 + a5552))) / 2 ^ ((1 : Int)).toNat)).toNat * 8) [(.int .i64 ((gt x0 (wrap64 ((IntKind.u64.wrap (wrap64 (a5551 + a5552))) / 2 ^ ((1 : Int)).toNat))).fRef.fTx)), (.int .i64 ((gt x0 (wrap64 ((IntKind.u64.wrap (wrap64 (a5551 + a5552))) / 2 ^ ((1 : Int)).toNat))).fRef.fAt)), (.int .i64 ((gt x0 (wrap64 ((IntKind.u64.wrap (wrap64 (a5551 + a5552))) / 2 ^ ((1 : Int)).toNat))).fOut.fValue)), u, (.int .i64 ((gt x0 (wrap64 ((IntKind.u64.wrap (wrap64 (a5551 + a5552))) / 2 ^ ((1 : Int)).toNat))).fOut.fRule.fNeed)), (.int .i64 ((gt x0 (wrap64 ((IntKind.u64.wrap (wrap64 (a5551 + a5552))) / 2 ^ ((1 : Int)).toNat))).fOut.fRule.fAfter)), (.int .i64 ((gt x0 (wrap64 ((IntKind.u64.wrap (wrap64 (a5551 + a5552))) / 2 ^ ((1 : Int)).toNat))).fHeight)), (.bool ((gt x0 (wrap64 ((IntKind.u64.wrap (wrap64 (a5551 + a5552))) / 2 ^ ((1 : Int)).toNat))).fMined))] ∧ RdS kInt _ u ((gt x0 (wrap64 ((IntKind.u64.wrap (wrap64 (a5551 + a5552))) / 2 ^ ((1 : Int)).toNat))).fOut.fRule.fKeys) := rd_with1 hp0 e5566
   refine dp rfl rfl rfl rfl (ex_indexAddr (d := kCoin) rfl rfl rfl Try.underlying24 tsz41 hp0 (idx_lo e5566) (idx_hi e5566)) hS ?_
   refine drwp_take rfl (guard_none rfl) rfl rfl (fun w_ hS_ => (ex_loadN (cs := [(.int .i64 ((gt x0 (wrap64 ((IntKind.u64.wrap (wrap64 (a5551 + a5552))) / 2 ^ ((1 : Int)).toNat))).fRef.fTx)), (.int .i64 ((gt x0 (wrap64 ((IntKind.u64.wrap (wrap64 (a5551 + a5552))) / 2 ^ ((1 : Int)).toNat))).fRef.fAt)), (.int .i64 ((gt x0 (wrap64 ((IntKind.u64.wrap (wrap64 (a5551 + a5552))) / 2 ^ ((1 : Int)).toNat))).fOut.fValue)), kv5568, (.int .i64 ((gt x0 (wrap64 ((IntKind.u64.wrap (wrap64 (a5551 + a5552))) / 2 ^ ((1 : Int)).toNat))).fOut.fRule.fNeed)), (.int .i64 ((gt x0 (wrap64 ((IntKind.u64.wrap (wrap64 (a5551 + a5552))) / 2 ^ ((1 : Int)).toNat))).fOut.fRule.fAfter)), (.int .i64 ((gt x0 (wrap64 ((IntKind.u64.wrap (wrap64 (a5551 + a5552))) / 2 ^ ((1 : Int)).toNat))).fHeight)), (.bool ((gt x0 (wrap64 ((IntKind.u64.wrap (wrap64 (a5551 + a5552))) / 2 ^ ((1 : Int)).toNat))).fMined))]) rfl rfl Try.underlying41 rfl tsz41 rfl ((hS_.at_ hc5567).sub 0 8 rfl))) hS ?_
   refine drwp_take rfl (guard_none rfl) rfl rfl (fun w_ hS_ => (ex_loadN (cs := [(.int .i64 x1.fTx), (.int .i64 x1.fAt)]) rfl rfl Try.underlying38 rfl tsz38 rfl ((hS_.box_at 0 rfl).sub 0 2 rfl))) hS ?_
   refine drwp_one rfl (guard_none rfl) rfl rfl (does_callvk rfl callok56 rfl rfl rfl (impl_findCoin_1.calls (x0 := (gt x0 (wrap64 ((IntKind.u64.wrap (wrap64 (a5551 + a5552))) / 2 ^ ((1 : Int)).toNat)))) (x1 := x1) (HM.rd hk5569) h5571)) ?_
   rintro _ w5572 ⟨rfl, hn⟩
   replace HM : Mem w [] w5572 [box b5506 38 [.int .i64 x1.fTx, .int .i64 x1.fAt]] := HM.call hn
   have hS := Mem.suf (M := []) HM
   refine ⟨hS, ?_⟩
   refine dp rfl rfl rfl rfl (ex_lss rfl rfl rfl) hS ?_
   refine drwp_done ?_
   refine at_then ?_
   refine run_cond (b := (decide (t5570 < 0))) rfl (fun hb5573 => ?_) (fun hb5573 => ?_)
   ·replace ho5541 := cond_t hb5573 ho5541
    refine run_region rfl ?_
    refine ox rfl rfl rfl rfl (ex_move rfl rfl) ?_
    refine ox rfl rfl rfl rfl (ex_add rfl rfl rfl) ?_
    refine ox rfl rfl rfl rfl (ex_assign rfl rfl) ?_
    refine ops_nil ?_
    refine at_block ?_
    exact at_again k5562 (ρ1 := [(0, p0), (2, .func (.func 56) #[] #[]), (4, .pointer (some ⟨b5506, 0, none⟩)), (8, .int .i64 (x0.length : Int)), (9, .int .i64 (wrap64 ((wrap64 ((IntKind.u64.wrap (wrap64 (a5551 + a5552))) / 2 ^ ((1 : Int)).toNat)) + 1))), (10, .int .i64 a5552)]) (Nat.lt_succ_self _) ⟨_, _, ho5541, rfl, HM⟩ (Sub.cons rfl (Sub.cons rfl (Sub.cons rfl (Sub.cons rfl (Sub.cons rfl (Sub.cons rfl Sub.nil))))))
   ·replace ho5541 := cond_f hb5573 ho5541
    refine run_region rfl ?_
    refine ox rfl rfl rfl rfl (ex_move rfl rfl) ?_
    refine ox rfl rfl rfl rfl (ex_assign rfl rfl) ?_
    refine ops_nil ?_
    refine at_block ?_
    exact at_again k5562 (ρ1 := [(0, p0), (2, .func (.func 56) #[] #[]), (4, .pointer (some ⟨b5506, 0, none⟩)), (8, .int .i64 (x0.length : Int)), (9, .int .i64 a5551), (10, .int .i64 (wrap64 ((IntKind.u64.wrap (wrap64 (a5551 + a5552))) / 2 ^ ((1 : Int)).toNat)))]) (Nat.lt_succ_self _) ⟨_, _, ho5541, rfl, HM⟩ (Sub.cons rfl (Sub.cons rfl (Sub.cons rfl (Sub.cons rfl (Sub.cons rfl (Sub.cons rfl Sub.nil))))))
  ·replace ho5541 := cond_f hb5564 ho5541
   refine run_exit ?_
   refine at_then_exit ?_
   refine at_then_exit ?_
   refine at_block_exit ?_
   exact at_mid (ρ' := [(0, p0), (2, .func (.func 56) #[] #[]), (4, .pointer (some ⟨b5506, 0, none⟩)), (8, .int .i64 (x0.length : Int)), (9, .int .i64 a5551)]) ⟨_, (Option.some.inj ho5541), rfl, HM⟩ (Sub.cons rfl (Sub.cons rfl (Sub.cons rfl (Sub.cons rfl (Sub.cons rfl Sub.nil)))))
 ·rintro _ w5574 ⟨a5539, rfl, rfl, HM⟩
  refine run_seq ?_
  obtain ⟨e5575, H⟩ := chk_some H
  obtain ⟨t5579, h5580, H⟩ := bind_some H
  refine run_meet (fun ρ_ w_ => ρ_ = [(6, .int .i64 a5539), (7, .bool ((decide (a5539 < (x0.length : Int))) && (t5579 == 0)))] ∧ Mem w [] w_ []) ?_ ?_
  ·skip
   refine run_drawf (fun w_ => Mem w [] w_ [box b5506 38 [.int .i64 x1.fTx, .int .i64 x1.fAt]]) [(0, true), (1, true), (2, true), (3, true), (4, true), (5, true), (6, true), (7, true), (8, true), (9, true), (10, true), (11, false), (12, true), (13, true), (14, true), (15, true)] mixed rfl rfl (by kernel_rfl) ?_
   replace HM := HM.grow (fr_drew _)
   have hS := Mem.suf (M := []) HM
   refine dp rfl rfl rfl rfl (ex_move rfl rfl) hS ?_
   refine dp rfl rfl rfl rfl (ex_move rfl rfl) hS ?_
   refine dp rfl rfl rfl rfl (ex_move rfl rfl) hS ?_
   refine dp rfl rfl rfl rfl (ex_lss rfl rfl rfl) hS ?_
   refine dp rfl rfl rfl rfl (ex_move rfl rfl) hS ?_
   refine bool_cases (decide (a5539 < (x0.length : Int))) (fun hg5581 => ?_) (fun hg5581 => ?_)
   ·skip
    refine drwp_take rfl (guard_on rfl rfl rfl hg5581) rfl rfl (fun w_ hS_ => (ex_move rfl rfl)) hS ?_
    refine drwp_take rfl (guard_on rfl rfl rfl hg5581) rfl rfl (fun w_ hS_ => (ex_move rfl rfl)) hS ?_
    refine drwp_take rfl (guard_on rfl rfl rfl hg5581) rfl rfl (fun w_ hS_ => (ex_move rfl rfl)) hS ?_
    obtain ⟨kv5577, hc5576, hk5578⟩ : ∃ u, CellsAt _ (sb p0) (so p0 + (a5539).toNat * 8) [(.int .i64 ((gt x0 a5539).fRef.fTx)), (.int .i64 ((gt x0 a5539).fRef.fAt)), (.int .i64 ((gt x0 a5539).fOut.fValue)), u, (.int .i64 ((gt x0 a5539).fOut.fRule.fNeed)), (.int .i64 ((gt x0 a5539).fOut.fRule.fAfter)), (.int .i64 ((gt x0 a5539).fHeight)), (.bool ((gt x0 a5539).fMined))] ∧ RdS kInt _ u ((gt x0 a5539).fOut.fRule.fKeys) := rd_with1 hp0 (or_t e5575 hg5581)
    refine drwp_take rfl (guard_on rfl rfl rfl hg5581) rfl rfl (fun w_ hS_ => (ex_indexAddr (d := kCoin) rfl rfl rfl Try.underlying24 tsz41 hp0 (idx_lo (or_t e5575 hg5581)) (idx_hi (or_t e5575 hg5581)))) hS ?_
    refine drwp_take rfl (guard_on rfl rfl rfl hg5581) rfl rfl (fun w_ hS_ => (ex_loadN (cs := [(.int .i64 ((gt x0 a5539).fRef.fTx)), (.int .i64 ((gt x0 a5539).fRef.fAt)), (.int .i64 ((gt x0 a5539).fOut.fValue)), kv5577, (.int .i64 ((gt x0 a5539).fOut.fRule.fNeed)), (.int .i64 ((gt x0 a5539).fOut.fRule.fAfter)), (.int .i64 ((gt x0 a5539).fHeight)), (.bool ((gt x0 a5539).fMined))]) rfl rfl Try.underlying41 rfl tsz41 rfl ((hS_.at_ hc5576).sub 0 8 rfl))) hS ?_
    refine drwp_take rfl (guard_on rfl rfl rfl hg5581) rfl rfl (fun w_ hS_ => (ex_loadN (cs := [(.int .i64 x1.fTx), (.int .i64 x1.fAt)]) rfl rfl Try.underlying38 rfl tsz38 rfl ((hS_.box_at 0 rfl).sub 0 2 rfl))) hS ?_
    refine drwp_one rfl (guard_on rfl rfl rfl hg5581) rfl rfl (does_callvk rfl callok56 rfl rfl rfl (impl_findCoin_1.calls (x0 := (gt x0 a5539)) (x1 := x1) (HM.rd hk5578) (cond_t hg5581 h5580))) ?_
    rintro _ w5582 ⟨rfl, hn⟩
    replace HM : Mem w [] w5582 [box b5506 38 [.int .i64 x1.fTx, .int .i64 x1.fAt]] := HM.call hn
    have hS := Mem.suf (M := []) HM
    refine ⟨hS, ?_⟩
    refine drwp_take rfl (guard_on rfl rfl rfl hg5581) rfl rfl (fun w_ hS_ => (ex_eql rfl rfl rfl)) hS ?_
    refine drwp_take (v := .bool ((decide (a5539 < (x0.length : Int))) && (t5579 == 0))) rfl (guard_none rfl) rfl rfl (fun w_ hS_ => (ex_pand_t rfl rfl hg5581 rfl)) hS ?_
    refine dp rfl rfl rfl rfl (ex_assign rfl rfl) hS ?_
    refine dp rfl rfl rfl rfl (ex_assign rfl rfl) hS ?_
    refine drwp_done ?_
    replace HM := (HM.front 0 rfl rfl).drop
    exact at_meet [(6, .int .i64 a5539), (7, .bool ((decide (a5539 < (x0.length : Int))) && (t5579 == 0)))] ⟨rfl, HM⟩ (Sub.cons rfl (Sub.cons rfl Sub.nil))
   ·skip
    refine drwp_off rfl (guard_off rfl rfl rfl hg5581) rfl rfl hS ?_
    refine drwp_off rfl (guard_off rfl rfl rfl hg5581) rfl rfl hS ?_
    refine drwp_off rfl (guard_off rfl rfl rfl hg5581) rfl rfl hS ?_
    refine drwp_off rfl (guard_off rfl rfl rfl hg5581) rfl rfl hS ?_
    refine drwp_off rfl (guard_off rfl rfl rfl hg5581) rfl rfl hS ?_
    refine drwp_off rfl (guard_off rfl rfl rfl hg5581) rfl rfl hS ?_
    refine drwp_off1 rfl (guard_off rfl rfl rfl hg5581) rfl rfl ⟨hS, ?_⟩
    refine drwp_off rfl (guard_off rfl rfl rfl hg5581) rfl rfl hS ?_
    have hg5583 : ((decide (a5539 < (x0.length : Int))) && (t5579 == 0)) = false := by simp only [hg5581, Bool.and_true, Bool.true_and, Bool.and_false, Bool.false_and, Bool.or_true, Bool.true_or, Bool.or_false, Bool.false_or, Bool.not_true, Bool.not_false, Bool.not_not]
    refine drwp_take (v := .bool ((decide (a5539 < (x0.length : Int))) && (t5579 == 0))) rfl (guard_none rfl) rfl rfl (fun w_ hS_ => (ex_pand_f rfl rfl hg5581)) hS ?_
    refine dp rfl rfl rfl rfl (ex_assign rfl rfl) hS ?_
    refine dp rfl rfl rfl rfl (ex_assign rfl rfl) hS ?_
    refine drwp_done ?_
    replace HM := (HM.front 0 rfl rfl).drop
    exact at_meet [(6, .int .i64 a5539), (7, .bool ((decide (a5539 < (x0.length : Int))) && (t5579 == 0)))] ⟨rfl, HM⟩ (Sub.cons rfl (Sub.cons rfl Sub.nil))
  ·rintro _ w5584 ⟨rfl, HM⟩
   refine at_then ?_
   refine run_ret ?_
   have hR := Option.some.inj H
   subst hR
   exact at_ret2 rfl rfl rfl ⟨_, rfl, rfl, HM⟩

def impl_findCoin.f (k : Nat) (x0 : List Coin) (x1 : Ref) : Option (Int × Bool) := ((slices_BinarySearchFunc_impl_Coin.f k x0 x1).bind fun t5591 => some (t5591.1, t5591.2))
theorem impl_findCoin.calls {k : Nat} {x0 : List Coin} {x1 : Ref} {p0 : Value} {w : World} (hp0 : RdS kCoin w p0 x0) {r : Int × Bool} (H : impl_findCoin.f k x0 x1 = some r) :
  Calls Try.prog 29 ([p0, .agg #[(.int .i64 x1.fTx), (.int .i64 x1.fAt)]] : List Value).toArray w (fun e w_ => ∃ v, e = .returned v ∧ v = (.tuple #[.int .i64 r.1, .bool r.2]) ∧ Mem w [] w_ []) := by
 have HM := Mem.start w
 refine calls_run (N := 11) Try.func29 rfl rfl rfl rfl ?_
 unfold impl_findCoin.f at H
 refine run_seq ?_
 refine run_region rfl ?_
 refine od rfl rfl rfl rfl (does_box (cs := [.int .i64 x1.fTx, .int .i64 x1.fAt]) rfl rfl rfl HM) ?_
 rintro _ w5590 ⟨b5587, rfl, HM⟩
 refine ox rfl rfl rfl rfl (ex_assign rfl rfl) ?_
 refine ox rfl rfl rfl rfl (ex_assign rfl rfl) ?_
 refine ops_nil (at_then (run_seq ?_))
 obtain ⟨t5591, h5592, H⟩ := bind_some H
 refine run_region rfl ?_
 refine ox rfl rfl rfl rfl (ex_move rfl rfl) ?_
 refine ox rfl rfl rfl rfl (ex_loadN (cs := [(.int .i64 x1.fTx), (.int .i64 x1.fAt)]) rfl rfl Try.underlying38 rfl tsz38 rfl ((HM.box_at 0 rfl).sub 0 2 rfl)) ?_
 refine od rfl rfl rfl rfl (does_callk rfl callok55 rfl (slices_BinarySearchFunc_impl_Coin.calls (x0 := x0) (x1 := x1) (HM.rd hp0) h5592)) ?_
 rintro _ w5593 ⟨rfl, hn⟩
 replace HM : Mem w [] w5593 [box b5587 38 [.int .i64 x1.fTx, .int .i64 x1.fAt]] := HM.call hn
 refine ox rfl rfl rfl rfl (ex_extract rfl rfl rfl) ?_
 refine ox rfl rfl rfl rfl (ex_extract rfl rfl rfl) ?_
 refine ox rfl rfl rfl rfl (ex_assign rfl rfl) ?_
 refine ox rfl rfl rfl rfl (ex_assign rfl rfl) ?_
 refine ops_nil (at_then ?_)
 refine run_ret ?_
 replace HM := (HM.front 0 rfl rfl).drop
 have hR := Option.some.inj H
 subst hR
 exact at_ret2 rfl rfl rfl ⟨_, rfl, rfl, HM⟩

def impl_CoinAt.f (k : Nat) (x0 : List Coin) (x1 : Ref) : Option CoinsResult := ((impl_CoinsFault.f k x0).bind fun t5618 => (bif (t5618 != 0) then some (⟨t5618, ([] : List Coin)⟩ : CoinsResult) else ((impl_findCoin.f k x0 x1).bind fun t5624 => (bif !t5624.2 then some (⟨4, ([] : List Coin)⟩ : CoinsResult) else (chk (cutOk (wrap64 (t5624.1 + 1)) x0.length) (chk (cutOk t5624.1 (wrap64 (t5624.1 + 1)).toNat) ((impl_ownCoins.f k ((x0.take (wrap64 (t5624.1 + 1)).toNat).drop (t5624.1).toNat)).bind fun t5636 => some (⟨0, t5636⟩ : CoinsResult))))))))
theorem impl_CoinAt.calls {k : Nat} {x0 : List Coin} {x1 : Ref} {p0 : Value} {w : World} (hp0 : RdS kCoin w p0 x0) {r : CoinsResult} (H : impl_CoinAt.f k x0 x1 = some r) :
  Calls Try.prog 8 ([p0, .agg #[(.int .i64 x1.fTx), (.int .i64 x1.fAt)]] : List Value).toArray w (fun e w_ => ∃ v, e = .returned v ∧ ∃ u0 : Value, v = (.agg #[.int .i64 r.fCode, u0]) ∧ Mem w [] w_ [own kCoin 41 u0 r.fCoins]) := by
 have HM := Mem.start w
 refine calls_run (N := 30) Try.func8 rfl rfl rfl rfl ?_
 unfold impl_CoinAt.f at H
 refine run_seq ?_
 refine run_region rfl ?_
 refine od rfl rfl rfl rfl (does_box (cs := [.int .i64 x1.fTx, .int .i64 x1.fAt]) rfl rfl rfl HM) ?_
 rintro _ w5613 ⟨b5607, rfl, HM⟩
 refine od rfl rfl rfl rfl (does_alloc (cs := [.int .i64 0, .slice none 0 0]) rfl tz29 rfl HM) ?_
 rintro _ w5614 ⟨b5610, rfl, HM⟩
 refine ops_nil (at_then (run_seq ?_))
 refine run_seq ?_
 obtain ⟨t5618, h5619, H⟩ := bind_some H
 refine run_region rfl ?_
 refine ox rfl rfl rfl rfl (ex_move rfl rfl) ?_
 refine od rfl rfl rfl rfl (does_callk rfl callok11 rfl (impl_CoinsFault.calls (x0 := x0) (HM.rd hp0) h5619)) ?_
 rintro _ w5620 ⟨rfl, hn⟩
 replace HM : Mem w [] w5620 [box b5610 29 [.int .i64 0, .slice none 0 0], box b5607 38 [.int .i64 x1.fTx, .int .i64 x1.fAt]] := HM.call hn
 refine ox rfl rfl rfl rfl (ex_assign rfl rfl) ?_
 refine ops_nil (at_then (run_seq ?_))
 refine run_region rfl ?_
 refine ox rfl rfl rfl rfl (ex_move rfl rfl) ?_
 refine ox rfl rfl rfl rfl (ex_neq rfl rfl rfl) ?_
 refine ops_nil (at_then ?_)
 refine run_cond (b := (t5618 != 0)) rfl (fun hb5621 => ?_) (fun hb5621 => ?_)
 ·replace H := cond_t hb5621 H
  refine run_seq ?_
  refine run_region rfl ?_
  refine ox rfl rfl rfl rfl (ex_move rfl rfl) ?_
  refine ox rfl rfl rfl rfl (ex_build (cells := #[(.int .i64 t5618), (.slice none 0 0)]) rfl rfl (by kernel_rfl)) ?_
  refine odS rfl rfl rfl (does_store (vs := [.int .i64 t5618, .slice none 0 0]) (cs' := [.int .i64 t5618, .slice none 0 0]) rfl rfl rfl rfl tsz29 (Ones.int (Ones.sl Ones.nil)) rfl rfl HM) ?_
  rintro w5622 HM
  refine ops_nil (at_then ?_)
  refine run_ret ?_
  refine at_then_ret ?_
  replace HM := HM.empty kCoin 41 none
  replace HM := (HM.front 2 rfl rfl).drop
  replace HM := HM.front 1 rfl rfl
  have hcb0 := HM.box_at 0 rfl
  replace HM := (HM.front 0 rfl rfl).drop
  have hR := Option.some.inj H
  subst hR
  exact at_retN rfl rfl Try.underlying29 rfl tsz29 rfl hcb0 ⟨_, rfl, _, rfl, HM⟩
 ·replace H := cond_f hb5621 H
  refine run_skip ?_
  refine at_then ?_
  refine run_seq ?_
  obtain ⟨t5624, h5625, H⟩ := bind_some H
  refine run_region rfl ?_
  refine ox rfl rfl rfl rfl (ex_move rfl rfl) ?_
  refine ox rfl rfl rfl rfl (ex_loadN (cs := [(.int .i64 x1.fTx), (.int .i64 x1.fAt)]) rfl rfl Try.underlying38 rfl tsz38 rfl ((HM.box_at 1 rfl).sub 0 2 rfl)) ?_
  refine od rfl rfl rfl rfl (does_callk rfl callok29 rfl (impl_findCoin.calls (x0 := x0) (x1 := x1) (HM.rd hp0) h5625)) ?_
  rintro _ w5626 ⟨rfl, hn⟩
  replace HM : Mem w [] w5626 [box b5610 29 [.int .i64 0, .slice none 0 0], box b5607 38 [.int .i64 x1.fTx, .int .i64 x1.fAt]] := HM.call hn
  refine ox rfl rfl rfl rfl (ex_move rfl rfl) ?_
  refine ox rfl rfl rfl rfl (ex_extract rfl rfl rfl) ?_
  refine ox rfl rfl rfl rfl (ex_extract rfl rfl rfl) ?_
  refine ox rfl rfl rfl rfl (ex_assign rfl rfl) ?_
  refine ox rfl rfl rfl rfl (ex_assign rfl rfl) ?_
  refine ops_nil (at_then (run_seq ?_))
  refine run_seq ?_
  refine run_region rfl ?_
  refine ox rfl rfl rfl rfl (ex_move rfl rfl) ?_
  refine ox rfl rfl rfl rfl (ex_not rfl rfl) ?_
  refine ops_nil (at_then ?_)
  refine run_cond (b := !t5624.2) rfl (fun hb5628 => ?_) (fun hb5628 => ?_)
  ·replace H := cond_t hb5628 H
   refine run_seq ?_
   refine run_region rfl ?_
   refine ox rfl rfl rfl rfl (ex_build (cells := #[(.int .i64 4), (.slice none 0 0)]) rfl rfl (by kernel_rfl)) ?_
   refine odS rfl rfl rfl (does_store (vs := [.int .i64 4, .slice none 0 0]) (cs' := [.int .i64 4, .slice none 0 0]) rfl rfl rfl rfl tsz29 (Ones.int (Ones.sl Ones.nil)) rfl rfl HM) ?_
   rintro w5629 HM
   refine ops_nil (at_then ?_)
   refine run_ret ?_
   refine at_then_ret ?_
   replace HM := HM.empty kCoin 41 none
   replace HM := (HM.front 2 rfl rfl).drop
   replace HM := HM.front 1 rfl rfl
   have hcb0 := HM.box_at 0 rfl
   replace HM := (HM.front 0 rfl rfl).drop
   have hR := Option.some.inj H
   subst hR
   exact at_retN rfl rfl Try.underlying29 rfl tsz29 rfl hcb0 ⟨_, rfl, _, rfl, HM⟩
  ·replace H := cond_f hb5628 H
   refine run_skip ?_
   refine at_then ?_
   refine run_seq ?_
   obtain ⟨e5631, H⟩ := chk_some H
   obtain ⟨e5632, H⟩ := chk_some H
   obtain ⟨t5636, h5637, H⟩ := bind_some H
   refine run_region rfl ?_
   refine ox rfl rfl rfl rfl (ex_move rfl rfl) ?_
   refine ox rfl rfl rfl rfl (ex_move rfl rfl) ?_
   refine ox rfl rfl rfl rfl (ex_move rfl rfl) ?_
   refine ox rfl rfl rfl rfl (ex_add rfl rfl rfl) ?_
   refine ops_exE rfl (guard_none rfl) rfl rfl (ex_cutLH kCoin rfl rfl rfl rfl Try.underlying24 tsz41 hp0 e5632 e5631) ?_
   rintro u5633 hr5635
   refine od rfl rfl rfl rfl (does_callk rfl callok30 rfl (impl_ownCoins.calls (x0 := (x0.take (wrap64 (t5624.1 + 1)).toNat).drop (t5624.1).toNat) (HM.rd hr5635) h5637)) ?_
   rintro u5638 w5640 ⟨_, rfl, hn⟩
   replace HM : Mem w [] w5640 [own kCoin 41 u5638 t5636, box b5610 29 [.int .i64 0, .slice none 0 0], box b5607 38 [.int .i64 x1.fTx, .int .i64 x1.fAt]] := HM.call hn
   refine ox rfl rfl rfl rfl (ex_build1 (fun u5638 => [(1, u5638)]) (fun u5638 => #[.int .i64 0, u5638]) rfl rfl (fun _ _ _ => by kernel_rfl) (HM.own_rd 0 rfl).isSl) ?_
   replace HM := HM.front 1 rfl rfl
   refine odS rfl rfl rfl (does_store (vs := [.int .i64 0, u5638]) (cs' := [.int .i64 0, u5638]) rfl rfl rfl rfl tsz29 (Ones.int (Ones.rd (HM.own_rd 1 rfl) Ones.nil)) rfl rfl HM) ?_
   rintro w5641 HM
   refine ops_nil (at_then ?_)
   refine run_ret ?_
   replace HM := (HM.front 2 rfl rfl).drop
   have hcb0 := HM.box_at 0 rfl
   replace HM := (HM.front 0 rfl rfl).drop
   have hR := Option.some.inj H
   subst hR
   exact at_retN rfl rfl Try.underlying29 rfl tsz29 rfl hcb0 ⟨_, rfl, _, rfl, HM⟩

def slices_Delete_impl_Coin.f (k : Nat) (x0 : List Coin) (x1 : Int) (x2 : Int) : Option ((List Coin)) := (chk (cutOk x2 x0.length) (chk (cutOk x1 (x2).toNat) (bif (x1 == x2) then some x0 else (chk (cutOk x1 x0.length) (chk (cutOk x2 x0.length) (chk (cutOk x1 (x2).toNat) (chk (decide (x1 < x2)) (chk (decide (((x0.take (x1).toNat ++ x0.drop (x2).toNat).length : Int) ≤ (x0.length : Int))) (some (x0.take (x1).toNat ++ x0.drop (x2).toNat))))))))))
theorem slices_Delete_impl_Coin.calls {k : Nat} {x0 : List Coin} {x1 : Int} {x2 : Int} {p0 : Value} {w wo : World} {X : List Nat} (hwo : Olds wo w X) (hX : Hold w [own kCoin 41 p0 x0] X) (hXn : X.Nodup) (hXl : ∀ b ∈ X, b < w.heap.size)  {r : (List Coin)} (H : slices_Delete_impl_Coin.f k x0 x1 x2 = some r) :
  Calls Try.prog 57 ([p0, .int .i64 x1, .int .i64 x2] : List Value).toArray w (fun e w_ => ∃ v, e = .returned v ∧ ∃ u0 : Value, v = u0 ∧ Mem w X w_ [own kCoin 41 u0 r]) := by
 have HM := Mem.startX hX hXn hXl
 refine calls_run (N := 33) Try.func57 rfl rfl rfl rfl ?_
 unfold slices_Delete_impl_Coin.f at H
 refine run_seq ?_
 refine run_region rfl ?_
 refine ox rfl rfl rfl rfl (ex_assign rfl rfl) ?_
 refine ops_nil (at_then (run_seq ?_))
 obtain ⟨e5745, H⟩ := chk_some H
 obtain ⟨e5746, H⟩ := chk_some H
 refine run_region rfl ?_
 refine ox rfl rfl rfl rfl (ex_move rfl rfl) ?_
 refine ox rfl rfl rfl rfl (ex_move rfl rfl) ?_
 refine ox rfl rfl rfl rfl (ex_move rfl rfl) ?_
 refine ox rfl rfl rfl rfl (ex_move rfl rfl) ?_
 refine ox rfl rfl rfl rfl (ex_len (d := kCoin) (xs := x0) rfl rfl Try.underlying24 (HM.own_rd 0 rfl)) ?_
 refine ops_exE rfl (guard_none rfl) rfl rfl (ex_cut3 rfl rfl rfl rfl rfl Try.underlying24 tsz41 (cut_lo e5746) (cut_lt2 e5746 e5745) (cut_le2 e5745) ((HM.own_rd 0 rfl).cap.le (Nat.le_refl _))) ?_
 rintro _ _
 refine ops_nil (at_then (run_seq ?_))
 refine run_seq ?_
 refine run_region rfl ?_
 refine ox rfl rfl rfl rfl (ex_move rfl rfl) ?_
 refine ox rfl rfl rfl rfl (ex_move rfl rfl) ?_
 refine ox rfl rfl rfl rfl (ex_eql rfl rfl rfl) ?_
 refine ops_nil (at_then ?_)
 refine run_cond (b := (x1 == x2)) rfl (fun hb5748 => ?_) (fun hb5748 => ?_)
 ·replace H := cond_t hb5748 H
  refine run_seq ?_
  refine run_region rfl ?_
  refine ox rfl rfl rfl rfl (ex_move rfl rfl) ?_
  refine ox rfl rfl rfl rfl (ex_assign rfl rfl) ?_
  refine ops_nil (at_then ?_)
  refine run_ret ?_
  refine at_then_ret ?_
  have hR := Option.some.inj H
  subst hR
  exact at_ret1 rfl rfl ⟨_, rfl, _, rfl, HM⟩
 ·replace H := cond_f hb5748 H
  refine run_skip ?_
  refine at_then ?_
  refine run_seq ?_
  refine run_region rfl ?_
  refine ox rfl rfl rfl rfl (ex_move rfl rfl) ?_
  refine ox rfl rfl rfl rfl (ex_len (d := kCoin) (xs := x0) rfl rfl Try.underlying24 (HM.own_rd 0 rfl)) ?_
  refine ox rfl rfl rfl rfl (ex_assign rfl rfl) ?_
  refine ops_nil (at_then (run_seq ?_))
  obtain ⟨e5749, H⟩ := chk_some H
  obtain ⟨e5750, H⟩ := chk_some H
  obtain ⟨e5751, H⟩ := chk_some H
  obtain ⟨e5752, H⟩ := chk_some H
  refine run_drawf (fun w_ => Mem w X w_ []) [(0, true), (1, true), (2, true), (3, true), (4, true), (5, true), (6, false), (7, true)] mixed rfl rfl (by kernel_rfl) ?_
  replace HM := HM.grow (fr_drew _)
  have hS := Mem.suf (M := [own kCoin 41 p0 x0]) HM
  refine dp rfl rfl rfl rfl (ex_move rfl rfl) hS ?_
  refine dp rfl rfl rfl rfl (ex_move rfl rfl) hS ?_
  refine dp rfl rfl rfl rfl (ex_cutvH rfl rfl rfl Try.underlying24 tsz41 (cut_lo e5749) ((HM.own_rd 0 rfl).cap.le (cut_hi e5749))) hS ?_
  refine dp rfl rfl rfl rfl (ex_move rfl rfl) hS ?_
  refine dp rfl rfl rfl rfl (ex_move rfl rfl) hS ?_
  refine dp rfl rfl rfl rfl (ex_cutvL rfl rfl rfl Try.underlying24 tsz41 (HM.own_rd 0 rfl) e5750) hS ?_
  refine drwp_one rfl (guard_none rfl) rfl rfl (does_delApp (i := (x1).toNat) (j := (x2).toNat) kCoin rfl rfl rfl Try.underlying24 tsz41 (lt_nat e5751 e5752) (cut_hi e5750) HM) ?_
  rintro v5753 w5756 ⟨hcap5755, HM⟩
  have hS := Mem.suf (M := [own kCoin 41 v5753 (x0.take (x1).toNat ++ x0.drop (x2).toNat)]) HM
  refine ⟨hS, ?_⟩
  refine dp rfl rfl rfl rfl (ex_assign rfl rfl) hS ?_
  refine drwp_done ?_
  refine at_then ?_
  refine run_seq ?_
  obtain ⟨e5757, H⟩ := chk_some H
  refine run_region rfl ?_
  refine ox rfl rfl rfl rfl (ex_move rfl rfl) ?_
  refine ox rfl rfl rfl rfl (ex_move rfl rfl) ?_
  refine ox rfl rfl rfl rfl (ex_len (d := kCoin) (xs := x0.take (x1).toNat ++ x0.drop (x2).toNat) rfl rfl Try.underlying24 (HM.own_rd 0 rfl)) ?_
  refine ox rfl rfl rfl rfl (ex_move rfl rfl) ?_
  refine ox rfl rfl rfl rfl (ex_cutvLH rfl rfl rfl rfl Try.underlying24 tsz41 (Int.natCast_nonneg _) (of_decide_eq_true e5757) hcap5755) ?_
  refine ops_doesN rfl (guard_none rfl) rfl (does_clear (n := x0.length) kCoin rfl rfl Try.underlying24 tsz41 tz41 rfl rfl (onesC rfl (onesC rfl (onesC rfl (onesC rfl (onesC rfl (onesC rfl (onesC rfl (onesC rfl onesN)))))))) (Int.ofNat_le.1 (of_decide_eq_true e5757)) hcap5755 HM) ?_
  rintro _ w5758 HM
  refine ops_nil (at_then (run_seq ?_))
  refine run_region rfl ?_
  refine ox rfl rfl rfl rfl (ex_move rfl rfl) ?_
  refine ox rfl rfl rfl rfl (ex_assign rfl rfl) ?_
  refine ops_nil (at_then ?_)
  refine run_ret ?_
  have hR := Option.some.inj H
  subst hR
  exact at_ret1 rfl rfl ⟨_, rfl, _, rfl, HM⟩

def impl_takeCoins.l0 (x1 : List Ref) : Nat → (List Coin) → Int → Option (((List Coin) × Int) ⊕ ((List Coin)))
 | 0, _, _ => none
 | k + 1, a5913, a5915 => (bif (decide (a5915 < (x1.length : Int))) then (chk (idxOk a5915 x1.length) ((impl_findCoin.f k a5913 (gt x1 a5915)).bind fun t5946 => (bif !t5946.2 then some (.inl (([] : List Coin), 4)) else ((slices_Delete_impl_Coin.f k a5913 t5946.1 (wrap64 (t5946.1 + 1))).bind fun t5952 => impl_takeCoins.l0 x1 k t5952 (wrap64 (a5915 + 1)))))) else some (.inr a5913))
theorem impl_takeCoins.l0_z (x1 : List Ref) (a5913 : List Coin) (a5915 : Int) : impl_takeCoins.l0 x1 0 a5913 a5915 = none := rfl
theorem impl_takeCoins.l0_s (x1 : List Ref) (k : Nat) (a5913 : List Coin) (a5915 : Int) : impl_takeCoins.l0 x1 (k + 1) a5913 a5915 = (bif (decide (a5915 < (x1.length : Int))) then (chk (idxOk a5915 x1.length) ((impl_findCoin.f k a5913 (gt x1 a5915)).bind fun t5946 => (bif !t5946.2 then some (.inl (([] : List Coin), 4)) else ((slices_Delete_impl_Coin.f k a5913 t5946.1 (wrap64 (t5946.1 + 1))).bind fun t5952 => impl_takeCoins.l0 x1 k t5952 (wrap64 (a5915 + 1)))))) else some (.inr a5913)) := rfl
def impl_takeCoins.f (k : Nat) (x0 : List Coin) (x1 : List Ref) : Option ((List Coin) × Int) := ((impl_ownCoins.f k x0).bind fun t5818 => ((impl_takeCoins.l0 x1 k t5818 0).bind fun o5890 => thn o5890 (fun r => some r) (fun a5888 => some (a5888, 0))))
theorem impl_takeCoins.calls {k : Nat} {x0 : List Coin} {x1 : List Ref} {p0 : Value} {p1 : Value} {w : World} (hp0 : RdS kCoin w p0 x0) (hp1 : RdS kRef w p1 x1) {r : (List Coin) × Int} (H : impl_takeCoins.f k x0 x1 = some r) :
  Calls Try.prog 31 ([p0, p1] : List Value).toArray w (fun e w_ => ∃ v, e = .returned v ∧ ∃ u0 : Value, v = (.tuple #[u0, .int .i64 r.2]) ∧ Mem w [] w_ [own kCoin 41 u0 r.1]) := by
 have HM := Mem.start w
 refine calls_run (N := 34) Try.func31 rfl rfl rfl rfl ?_
 unfold impl_takeCoins.f at H
 refine run_seq ?_
 refine run_region rfl ?_
 refine ox rfl rfl rfl rfl (ex_assign rfl rfl) ?_
 refine ox rfl rfl rfl rfl (ex_assign rfl rfl) ?_
 refine ops_nil (at_then (run_seq ?_))
 obtain ⟨t5818, h5819, H⟩ := bind_some H
 refine run_region rfl ?_
 refine ox rfl rfl rfl rfl (ex_move rfl rfl) ?_
 refine od rfl rfl rfl rfl (does_callk rfl callok30 rfl (impl_ownCoins.calls (x0 := x0) (HM.rd hp0) h5819)) ?_
 rintro u5820 w5822 ⟨_, rfl, hn⟩
 replace HM : Mem w [] w5822 [own kCoin 41 u5820 t5818] := HM.call hn
 refine ox rfl rfl rfl rfl (ex_assign rfl rfl) ?_
 refine ops_nil (at_then ?_)
 obtain ⟨o5890, ho5891, H⟩ := bind_some H
 refine run_mid (fun ρ_ w_ => ∃ v5887 : Value, ∃ a5888 : List Coin, Sum.inr a5888 = o5890 ∧ ρ_ = [(6, v5887)] ∧ Mem w [] w_ [own kCoin 41 v5887 a5888]) ?_ ?_
 ·skip
  refine run_seq ?_
  refine run_region rfl ?_
  refine ox rfl rfl rfl rfl (ex_move rfl rfl) ?_
  refine ox rfl rfl rfl rfl (ex_len (d := kRef) (xs := x1) rfl rfl Try.underlying31 hp1) ?_
  refine ox rfl rfl rfl rfl (ex_move rfl rfl) ?_
  refine ops_nil (at_then ?_)
  refine run_block ?_
  refine run_loop (fun k_ ρ_ w_ => ∃ v5912 : Value, ∃ a5913 : List Coin, ∃ a5915 : Int, impl_takeCoins.l0 x1 k_ a5913 a5915 = some o5890 ∧ ρ_ = [(6, v5912), (13, p1), (14, .int .i64 (x1.length : Int)), (15, .int .i64 a5915)] ∧ Mem w [] w_ [own kCoin 41 v5912 a5913]) k (ρ1 := [(6, u5820), (13, p1), (14, .int .i64 (x1.length : Int)), (15, .int .i64 0)]) ⟨_, _, _, ho5891, rfl, HM⟩ (Sub.cons rfl (Sub.cons rfl (Sub.cons rfl (Sub.cons rfl Sub.nil)))) ?_
  clear HM ho5891
  rintro k5936 _ w5937 ⟨v5912, a5913, a5915, ho5891, rfl, HM⟩
  obtain _ | k5936 := k5936
  ·exact nomatch ((impl_takeCoins.l0_z x1 a5913 a5915).symm.trans ho5891)
  replace ho5891 := (impl_takeCoins.l0_s x1 k5936 a5913 a5915).symm.trans ho5891
  refine run_seq ?_
  refine run_region rfl ?_
  refine ox rfl rfl rfl rfl (ex_lss rfl rfl rfl) ?_
  refine ops_nil (at_then (run_seq ?_))
  refine run_cond (b := (decide (a5915 < (x1.length : Int)))) rfl (fun hb5938 => ?_) (fun hb5938 => ?_)
  ·replace ho5891 := cond_t hb5938 ho5891
   refine run_skip ?_
   refine at_then ?_
   refine run_seq ?_
   refine run_block ?_
   refine run_seq ?_
   obtain ⟨e5939, ho5891⟩ := chk_some ho5891
   refine run_region rfl ?_
   have hc5940 : CellsAt _ (sb p1) (so p1 + (a5915).toNat * 2) [(.int .i64 ((gt x1 a5915).fTx)), (.int .i64 ((gt x1 a5915).fAt))] := rd_plain hp1 e5939
   refine ox rfl rfl rfl rfl (ex_indexAddr (d := kRef) rfl rfl rfl Try.underlying31 tsz38 hp1 (idx_lo e5939) (idx_hi e5939)) ?_
   refine ox rfl rfl rfl rfl (ex_loadN (cs := [(.int .i64 ((gt x1 a5915).fTx)), (.int .i64 ((gt x1 a5915).fAt))]) rfl rfl Try.underlying38 rfl tsz38 rfl ((HM.at_ hc5940).sub 0 2 rfl)) ?_
   refine od rfl rfl rfl rfl (does_alloc (cs := [.int .i64 0, .int .i64 0]) rfl tz38 rfl HM) ?_
   rintro _ w5944 ⟨b5941, rfl, HM⟩
   refine odS rfl rfl rfl (does_store (vs := [.int .i64 ((gt x1 a5915).fTx), .int .i64 ((gt x1 a5915).fAt)]) (cs' := [.int .i64 ((gt x1 a5915).fTx), .int .i64 ((gt x1 a5915).fAt)]) rfl rfl rfl rfl tsz38 (Ones.int (Ones.int Ones.nil)) rfl rfl HM) ?_
   rintro w5945 HM
   refine ops_nil (at_then (run_seq ?_))
   obtain ⟨t5946, h5947, ho5891⟩ := bind_some ho5891
   refine run_region rfl ?_
   refine ox rfl rfl rfl rfl (ex_move rfl rfl) ?_
   refine ox rfl rfl rfl rfl (ex_loadN (cs := [(.int .i64 ((gt x1 a5915).fTx)), (.int .i64 ((gt x1 a5915).fAt))]) rfl rfl Try.underlying38 rfl tsz38 rfl ((HM.box_at 0 rfl).sub 0 2 rfl)) ?_
   refine od rfl rfl rfl rfl (does_callk rfl callok29 rfl (impl_findCoin.calls (x0 := a5913) (x1 := (gt x1 a5915)) (HM.own_rd 1 rfl) h5947)) ?_
   rintro _ w5948 ⟨rfl, hn⟩
   replace HM : Mem w [] w5948 [box b5941 38 [.int .i64 ((gt x1 a5915).fTx), .int .i64 ((gt x1 a5915).fAt)], own kCoin 41 v5912 a5913] := HM.call hn
   refine ox rfl rfl rfl rfl (ex_move rfl rfl) ?_
   refine ox rfl rfl rfl rfl (ex_extract rfl rfl rfl) ?_
   refine ox rfl rfl rfl rfl (ex_extract rfl rfl rfl) ?_
   refine ox rfl rfl rfl rfl (ex_assign rfl rfl) ?_
   refine ox rfl rfl rfl rfl (ex_assign rfl rfl) ?_
   refine ops_nil (at_then (run_seq ?_))
   refine run_seq ?_
   refine run_region rfl ?_
   refine ox rfl rfl rfl rfl (ex_move rfl rfl) ?_
   refine ox rfl rfl rfl rfl (ex_not rfl rfl) ?_
   refine ops_nil (at_then ?_)
   refine run_cond (b := !t5946.2) rfl (fun hb5950 => ?_) (fun hb5950 => ?_)
   ·replace ho5891 := cond_t hb5950 ho5891
    refine run_seq ?_
    refine run_region rfl ?_
    refine ox rfl rfl rfl rfl (ex_assign rfl rfl) ?_
    refine ox rfl rfl rfl rfl (ex_assign rfl rfl) ?_
    refine ops_nil (at_then ?_)
    refine run_ret ?_
    refine at_then_ret ?_
    refine at_block_ret ?_
    refine at_then_ret ?_
    refine at_then_ret ?_
    refine at_block_ret ?_
    refine at_then_ret ?_
    replace HM := HM.empty kCoin 41 none
    replace HM := (HM.front 1 rfl rfl).drop
    replace HM := (HM.front 1 rfl rfl).drop
    have hR := Option.some.inj ho5891
    subst hR
    have hT := thn_inl H
    have hR := Option.some.inj hT
    subst hR
    exact at_ret2 rfl rfl rfl ⟨_, rfl, _, rfl, HM⟩
   ·replace ho5891 := cond_f hb5950 ho5891
    refine run_skip ?_
    refine at_then ?_
    obtain ⟨t5952, h5953, ho5891⟩ := bind_some ho5891
    refine run_region rfl ?_
    refine ox rfl rfl rfl rfl (ex_move rfl rfl) ?_
    refine ox rfl rfl rfl rfl (ex_move rfl rfl) ?_
    refine ox rfl rfl rfl rfl (ex_move rfl rfl) ?_
    refine ox rfl rfl rfl rfl (ex_add rfl rfl rfl) ?_
    replace HM := HM.front 1 rfl rfl
    obtain ⟨F5956, hF5957, hFn5958, hFl5959, HMh5960, hcl5961⟩ := HM.hide (Ms := [own kCoin 41 v5912 a5913])
    refine od rfl rfl rfl rfl (does_callk rfl callok57 rfl (slices_Delete_impl_Coin.calls (x0 := a5913) (x1 := t5946.1) (x2 := wrap64 (t5946.1 + 1)) (hide_olds _ _) hF5957 hFn5958 hFl5959 h5953)) ?_
    rintro u5954 w5962 ⟨_, rfl, hn⟩
    replace HM : Mem w [] w5962 [own kCoin 41 u5954 t5952, box b5941 38 [.int .i64 ((gt x1 a5915).fTx), .int .i64 ((gt x1 a5915).fAt)]] := hcl5961 _ _ hn
    refine ox rfl rfl rfl rfl (ex_assign rfl rfl) ?_
    refine ops_nil ?_
    refine at_block ?_
    refine at_then ?_
    refine run_region rfl ?_
    refine ox rfl rfl rfl rfl (ex_add rfl rfl rfl) ?_
    refine ox rfl rfl rfl rfl (ex_move rfl rfl) ?_
    refine ops_nil ?_
    replace HM := (HM.front 1 rfl rfl).drop
    exact at_again k5936 (ρ1 := [(6, u5954), (13, p1), (14, .int .i64 (x1.length : Int)), (15, .int .i64 (wrap64 (a5915 + 1)))]) (Nat.lt_succ_self _) ⟨_, _, _, ho5891, rfl, HM⟩ (Sub.cons rfl (Sub.cons rfl (Sub.cons rfl (Sub.cons rfl Sub.nil))))
  ·replace ho5891 := cond_f hb5938 ho5891
   refine run_exit ?_
   refine at_then_exit ?_
   refine at_then_exit ?_
   refine at_block_exit ?_
   exact at_mid (ρ' := [(6, v5912)]) ⟨_, _, (Option.some.inj ho5891), rfl, HM⟩ (Sub.cons rfl Sub.nil)
 ·rintro _ w5963 ⟨v5887, a5888, rfl, rfl, HM⟩
  replace H := (thn_inr H)
  refine run_seq ?_
  refine run_region rfl ?_
  refine ox rfl rfl rfl rfl (ex_move rfl rfl) ?_
  refine ox rfl rfl rfl rfl (ex_assign rfl rfl) ?_
  refine ox rfl rfl rfl rfl (ex_assign rfl rfl) ?_
  refine ops_nil (at_then ?_)
  refine run_ret ?_
  have hR := Option.some.inj H
  subst hR
  exact at_ret2 rfl rfl rfl ⟨_, rfl, _, rfl, HM⟩

def impl_TakeCoins.f (k : Nat) (x0 : List Coin) (x1 : List Ref) : Option CoinsResult := ((impl_CoinsFault.f k x0).bind fun t5975 => (bif (t5975 != 0) then some (⟨t5975, ([] : List Coin)⟩ : CoinsResult) else (bif (decide (4 < (x1.length : Int))) then some (⟨2, ([] : List Coin)⟩ : CoinsResult) else ((impl_takeCoins.f k x0 x1).bind fun t5985 => some (⟨t5985.2, t5985.1⟩ : CoinsResult)))))
theorem impl_TakeCoins.calls {k : Nat} {x0 : List Coin} {x1 : List Ref} {p0 : Value} {p1 : Value} {w : World} (hp0 : RdS kCoin w p0 x0) (hp1 : RdS kRef w p1 x1) {r : CoinsResult} (H : impl_TakeCoins.f k x0 x1 = some r) :
  Calls Try.prog 9 ([p0, p1] : List Value).toArray w (fun e w_ => ∃ v, e = .returned v ∧ ∃ u0 : Value, v = (.agg #[.int .i64 r.fCode, u0]) ∧ Mem w [] w_ [own kCoin 41 u0 r.fCoins]) := by
 have HM := Mem.start w
 refine calls_run (N := 27) Try.func9 rfl rfl rfl rfl ?_
 unfold impl_TakeCoins.f at H
 refine run_seq ?_
 refine run_region rfl ?_
 refine od rfl rfl rfl rfl (does_alloc (cs := [.int .i64 0, .slice none 0 0]) rfl tz29 rfl HM) ?_
 rintro _ w5971 ⟨b5968, rfl, HM⟩
 refine ops_nil (at_then (run_seq ?_))
 refine run_seq ?_
 obtain ⟨t5975, h5976, H⟩ := bind_some H
 refine run_region rfl ?_
 refine ox rfl rfl rfl rfl (ex_move rfl rfl) ?_
 refine od rfl rfl rfl rfl (does_callk rfl callok11 rfl (impl_CoinsFault.calls (x0 := x0) (HM.rd hp0) h5976)) ?_
 rintro _ w5977 ⟨rfl, hn⟩
 replace HM : Mem w [] w5977 [box b5968 29 [.int .i64 0, .slice none 0 0]] := HM.call hn
 refine ox rfl rfl rfl rfl (ex_assign rfl rfl) ?_
 refine ops_nil (at_then (run_seq ?_))
 refine run_region rfl ?_
 refine ox rfl rfl rfl rfl (ex_move rfl rfl) ?_
 refine ox rfl rfl rfl rfl (ex_neq rfl rfl rfl) ?_
 refine ops_nil (at_then ?_)
 refine run_cond (b := (t5975 != 0)) rfl (fun hb5978 => ?_) (fun hb5978 => ?_)
 ·replace H := cond_t hb5978 H
  refine run_seq ?_
  refine run_region rfl ?_
  refine ox rfl rfl rfl rfl (ex_move rfl rfl) ?_
  refine ox rfl rfl rfl rfl (ex_build (cells := #[(.int .i64 t5975), (.slice none 0 0)]) rfl rfl (by kernel_rfl)) ?_
  refine odS rfl rfl rfl (does_store (vs := [.int .i64 t5975, .slice none 0 0]) (cs' := [.int .i64 t5975, .slice none 0 0]) rfl rfl rfl rfl tsz29 (Ones.int (Ones.sl Ones.nil)) rfl rfl HM) ?_
  rintro w5979 HM
  refine ops_nil (at_then ?_)
  refine run_ret ?_
  refine at_then_ret ?_
  replace HM := HM.empty kCoin 41 none
  replace HM := HM.front 1 rfl rfl
  have hcb0 := HM.box_at 0 rfl
  replace HM := (HM.front 0 rfl rfl).drop
  have hR := Option.some.inj H
  subst hR
  exact at_retN rfl rfl Try.underlying29 rfl tsz29 rfl hcb0 ⟨_, rfl, _, rfl, HM⟩
 ·replace H := cond_f hb5978 H
  refine run_skip ?_
  refine at_then ?_
  refine run_seq ?_
  refine run_seq ?_
  refine run_region rfl ?_
  refine ox rfl rfl rfl rfl (ex_move rfl rfl) ?_
  refine ox rfl rfl rfl rfl (ex_len (d := kRef) (xs := x1) rfl rfl Try.underlying31 hp1) ?_
  refine ox rfl rfl rfl rfl (ex_gtr rfl rfl rfl) ?_
  refine ops_nil (at_then ?_)
  refine run_cond (b := (decide (4 < (x1.length : Int)))) rfl (fun hb5982 => ?_) (fun hb5982 => ?_)
  ·replace H := cond_t hb5982 H
   refine run_seq ?_
   refine run_region rfl ?_
   refine ox rfl rfl rfl rfl (ex_build (cells := #[(.int .i64 2), (.slice none 0 0)]) rfl rfl (by kernel_rfl)) ?_
   refine odS rfl rfl rfl (does_store (vs := [.int .i64 2, .slice none 0 0]) (cs' := [.int .i64 2, .slice none 0 0]) rfl rfl rfl rfl tsz29 (Ones.int (Ones.sl Ones.nil)) rfl rfl HM) ?_
   rintro w5983 HM
   refine ops_nil (at_then ?_)
   refine run_ret ?_
   refine at_then_ret ?_
   replace HM := HM.empty kCoin 41 none
   replace HM := HM.front 1 rfl rfl
   have hcb0 := HM.box_at 0 rfl
   replace HM := (HM.front 0 rfl rfl).drop
   have hR := Option.some.inj H
   subst hR
   exact at_retN rfl rfl Try.underlying29 rfl tsz29 rfl hcb0 ⟨_, rfl, _, rfl, HM⟩
  ·replace H := cond_f hb5982 H
   refine run_skip ?_
   refine at_then ?_
   refine run_seq ?_
   obtain ⟨t5985, h5986, H⟩ := bind_some H
   refine run_region rfl ?_
   refine ox rfl rfl rfl rfl (ex_move rfl rfl) ?_
   refine ox rfl rfl rfl rfl (ex_move rfl rfl) ?_
   refine od rfl rfl rfl rfl (does_callk rfl callok31 rfl (impl_takeCoins.calls (x0 := x0) (x1 := x1) (HM.rd hp0) (HM.rd hp1) h5986)) ?_
   rintro _ w5989 ⟨u5987, rfl, hn⟩
   replace HM : Mem w [] w5989 [own kCoin 41 u5987 t5985.1, box b5968 29 [.int .i64 0, .slice none 0 0]] := HM.call hn
   refine ox rfl rfl rfl rfl (ex_move rfl rfl) ?_
   refine ox rfl rfl rfl rfl (ex_extract rfl rfl rfl) ?_
   refine ox rfl rfl rfl rfl (ex_extract rfl rfl rfl) ?_
   refine ox rfl rfl rfl rfl (ex_assign rfl rfl) ?_
   refine ox rfl rfl rfl rfl (ex_assign rfl rfl) ?_
   refine ops_nil (at_then (run_seq ?_))
   refine run_region rfl ?_
   refine ox rfl rfl rfl rfl (ex_move rfl rfl) ?_
   refine ox rfl rfl rfl rfl (ex_move rfl rfl) ?_
   refine ox rfl rfl rfl rfl (ex_build1 (fun u5987 => [(0, .int .i64 t5985.2), (1, u5987)]) (fun u5987 => #[.int .i64 t5985.2, u5987]) rfl rfl (fun _ _ _ => by kernel_rfl) (HM.own_rd 0 rfl).isSl) ?_
   replace HM := HM.front 1 rfl rfl
   refine odS rfl rfl rfl (does_store (vs := [.int .i64 t5985.2, u5987]) (cs' := [.int .i64 t5985.2, u5987]) rfl rfl rfl rfl tsz29 (Ones.int (Ones.rd (HM.own_rd 1 rfl) Ones.nil)) rfl rfl HM) ?_
   rintro w5990 HM
   refine ops_nil (at_then ?_)
   refine run_ret ?_
   have hcb0 := HM.box_at 0 rfl
   replace HM := (HM.front 0 rfl rfl).drop
   have hR := Option.some.inj H
   subst hR
   exact at_retN rfl rfl Try.underlying29 rfl tsz29 rfl hcb0 ⟨_, rfl, _, rfl, HM⟩

def slices_Index_int64.l0 (x0 : List Int) (x1 : Int) : Nat → Int → Option (Int ⊕ Unit)
 | 0, _ => none
 | k + 1, a6052 => (bif (decide (a6052 < (x0.length : Int))) then (chk (idxOk a6052 x0.length) (bif (x1 == (gt x0 a6052)) then some (.inl a6052) else slices_Index_int64.l0 x0 x1 k (wrap64 (a6052 + 1)))) else some (.inr ()))
theorem slices_Index_int64.l0_z (x0 : List Int) (x1 : Int) (a6052 : Int) : slices_Index_int64.l0 x0 x1 0 a6052 = none := rfl
theorem slices_Index_int64.l0_s (x0 : List Int) (x1 : Int) (k : Nat) (a6052 : Int) : slices_Index_int64.l0 x0 x1 (k + 1) a6052 = (bif (decide (a6052 < (x0.length : Int))) then (chk (idxOk a6052 x0.length) (bif (x1 == (gt x0 a6052)) then some (.inl a6052) else slices_Index_int64.l0 x0 x1 k (wrap64 (a6052 + 1)))) else some (.inr ())) := rfl
def slices_Index_int64.f (k : Nat) (x0 : List Int) (x1 : Int) : Option Int := ((slices_Index_int64.l0 x0 x1 k 0).bind fun o6046 => thn o6046 (fun r => some r) (fun _ => some (-1)))
theorem slices_Index_int64.calls {k : Nat} {x0 : List Int} {x1 : Int} {p0 : Value} {w : World} (hp0 : RdS kInt w p0 x0) {r : Int} (H : slices_Index_int64.f k x0 x1 = some r) :
  Calls Try.prog 58 ([p0, .int .i64 x1] : List Value).toArray w (fun e w_ => ∃ v, e = .returned v ∧ v = (.int .i64 r) ∧ Mem w [] w_ []) := by
 have HM := Mem.start w
 refine calls_run (N := 19) Try.func58 rfl rfl rfl rfl ?_
 unfold slices_Index_int64.f at H
 refine run_seq ?_
 refine run_region rfl ?_
 refine ox rfl rfl rfl rfl (ex_assign rfl rfl) ?_
 refine ops_nil (at_then ?_)
 obtain ⟨o6046, ho6047, H⟩ := bind_some H
 refine run_mid (fun ρ_ w_ => Sum.inr () = o6046 ∧ ρ_ = [] ∧ Mem w [] w_ []) ?_ ?_
 ·skip
  refine run_seq ?_
  refine run_region rfl ?_
  refine ox rfl rfl rfl rfl (ex_move rfl rfl) ?_
  refine ox rfl rfl rfl rfl (ex_len (d := kInt) (xs := x0) rfl rfl Try.underlying32 hp0) ?_
  refine ox rfl rfl rfl rfl (ex_move rfl rfl) ?_
  refine ops_nil (at_then ?_)
  refine run_block ?_
  refine run_loop (fun k_ ρ_ w_ => ∃ a6052 : Int, slices_Index_int64.l0 x0 x1 k_ a6052 = some o6046 ∧ ρ_ = [(0, p0), (1, .int .i64 x1), (7, .int .i64 (x0.length : Int)), (8, .int .i64 a6052)] ∧ Mem w [] w_ []) k (ρ1 := [(0, p0), (1, .int .i64 x1), (7, .int .i64 (x0.length : Int)), (8, .int .i64 0)]) ⟨_, ho6047, rfl, HM⟩ (Sub.cons rfl (Sub.cons rfl (Sub.cons rfl (Sub.cons rfl Sub.nil)))) ?_
  clear HM ho6047
  rintro k6057 _ w6058 ⟨a6052, ho6047, rfl, HM⟩
  obtain _ | k6057 := k6057
  ·exact nomatch ((slices_Index_int64.l0_z x0 x1 a6052).symm.trans ho6047)
  replace ho6047 := (slices_Index_int64.l0_s x0 x1 k6057 a6052).symm.trans ho6047
  refine run_seq ?_
  refine run_region rfl ?_
  refine ox rfl rfl rfl rfl (ex_lss rfl rfl rfl) ?_
  refine ops_nil (at_then (run_seq ?_))
  refine run_cond (b := (decide (a6052 < (x0.length : Int)))) rfl (fun hb6059 => ?_) (fun hb6059 => ?_)
  ·replace ho6047 := cond_t hb6059 ho6047
   refine run_skip ?_
   refine at_then ?_
   refine run_seq ?_
   refine run_block ?_
   refine run_seq ?_
   refine run_region rfl ?_
   refine ox rfl rfl rfl rfl (ex_move rfl rfl) ?_
   refine ox rfl rfl rfl rfl (ex_assign rfl rfl) ?_
   refine ops_nil (at_then (run_seq ?_))
   obtain ⟨e6060, ho6047⟩ := chk_some ho6047
   refine run_region rfl ?_
   refine ox rfl rfl rfl rfl (ex_move rfl rfl) ?_
   refine ox rfl rfl rfl rfl (ex_move rfl rfl) ?_
   refine ox rfl rfl rfl rfl (ex_move rfl rfl) ?_
   have hc6061 : CellsAt _ (sb p0) (so p0 + (a6052).toNat * 1) [(.int .i64 (gt x0 a6052))] := rd_plain hp0 e6060
   refine ox rfl rfl rfl rfl (ex_indexAddr (d := kInt) rfl rfl rfl Try.underlying32 tsz2 hp0 (idx_lo e6060) (idx_hi e6060)) ?_
   refine ox rfl rfl rfl rfl (ex_load1 rfl rfl Try.underlying2 rfl ((HM.at_ hc6061) 0 _ rfl)) ?_
   refine ox rfl rfl rfl rfl (ex_eql rfl rfl rfl) ?_
   refine ops_nil (at_then ?_)
   refine run_cond (b := (x1 == (gt x0 a6052))) rfl (fun hb6062 => ?_) (fun hb6062 => ?_)
   ·replace ho6047 := cond_t hb6062 ho6047
    refine run_seq ?_
    refine run_region rfl ?_
    refine ox rfl rfl rfl rfl (ex_move rfl rfl) ?_
    refine ox rfl rfl rfl rfl (ex_assign rfl rfl) ?_
    refine ops_nil (at_then ?_)
    refine run_ret ?_
    refine at_block_ret ?_
    refine at_then_ret ?_
    refine at_then_ret ?_
    refine at_block_ret ?_
    refine at_then_ret ?_
    have hR := Option.some.inj ho6047
    subst hR
    have hT := thn_inl H
    have hR := Option.some.inj hT
    subst hR
    exact at_ret1 rfl rfl ⟨_, rfl, rfl, HM⟩
   ·replace ho6047 := cond_f hb6062 ho6047
    refine run_skip ?_
    refine at_block ?_
    refine at_then ?_
    refine run_region rfl ?_
    refine ox rfl rfl rfl rfl (ex_add rfl rfl rfl) ?_
    refine ox rfl rfl rfl rfl (ex_move rfl rfl) ?_
    refine ops_nil ?_
    exact at_again k6057 (ρ1 := [(0, p0), (1, .int .i64 x1), (7, .int .i64 (x0.length : Int)), (8, .int .i64 (wrap64 (a6052 + 1)))]) (Nat.lt_succ_self _) ⟨_, ho6047, rfl, HM⟩ (Sub.cons rfl (Sub.cons rfl (Sub.cons rfl (Sub.cons rfl Sub.nil))))
  ·replace ho6047 := cond_f hb6059 ho6047
   refine run_exit ?_
   refine at_then_exit ?_
   refine at_then_exit ?_
   refine at_block_exit ?_
   exact at_mid (ρ' := []) ⟨(Option.some.inj ho6047), rfl, HM⟩ Sub.nil
 ·rintro _ w6063 ⟨rfl, rfl, HM⟩
  replace H := (thn_inr H)
  refine run_seq ?_
  refine run_region rfl ?_
  refine ox rfl rfl rfl rfl (ex_assign rfl rfl) ?_
  refine ops_nil (at_then ?_)
  refine run_ret ?_
  have hR := Option.some.inj H
  subst hR
  exact at_ret1 rfl rfl ⟨_, rfl, rfl, HM⟩

def slices_Contains_int64.f (k : Nat) (x0 : List Int) (x1 : Int) : Option Bool := ((slices_Index_int64.f k x0 x1).bind fun t6066 => some (decide (0 ≤ t6066)))
theorem slices_Contains_int64.calls {k : Nat} {x0 : List Int} {x1 : Int} {p0 : Value} {w : World} (hp0 : RdS kInt w p0 x0) {r : Bool} (H : slices_Contains_int64.f k x0 x1 = some r) :
  Calls Try.prog 32 ([p0, .int .i64 x1] : List Value).toArray w (fun e w_ => ∃ v, e = .returned v ∧ v = (.bool r) ∧ Mem w [] w_ []) := by
 have HM := Mem.start w
 refine calls_run (N := 9) Try.func32 rfl rfl rfl rfl ?_
 unfold slices_Contains_int64.f at H
 refine run_seq ?_
 refine run_region rfl ?_
 refine ox rfl rfl rfl rfl (ex_assign rfl rfl) ?_
 refine ops_nil (at_then (run_seq ?_))
 obtain ⟨t6066, h6067, H⟩ := bind_some H
 refine run_region rfl ?_
 refine ox rfl rfl rfl rfl (ex_move rfl rfl) ?_
 refine ox rfl rfl rfl rfl (ex_move rfl rfl) ?_
 refine od rfl rfl rfl rfl (does_callk rfl callok58 rfl (slices_Index_int64.calls (x0 := x0) (x1 := x1) (HM.rd hp0) h6067)) ?_
 rintro _ w6068 ⟨rfl, hn⟩
 replace HM : Mem w [] w6068 [] := HM.call hn
 refine ox rfl rfl rfl rfl (ex_geq rfl rfl rfl) ?_
 refine ox rfl rfl rfl rfl (ex_assign rfl rfl) ?_
 refine ops_nil (at_then ?_)
 refine run_ret ?_
 have hR := Option.some.inj H
 subst hR
 exact at_ret1 rfl rfl ⟨_, rfl, rfl, HM⟩
end Go.Proofs.Ytecgbhfgkkpmhaa.Zk
