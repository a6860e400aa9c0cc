/- What functions of the program compute, each as a plain function, and that they do. Conditions: as each theorem states them. -/
import Derived.Test.YtecgbhfgkkpmhaaFnCoinsZkF6
namespace Go.Proofs.Ytecgbhfgkkpmhaa.Zk
open Go Go.RowKit Go.IntWalk Go.Proofs
set_option linter.unusedVariables false
set_option linter.unusedSimpArgs false
set_option maxRecDepth 100000
set_option maxHeartbeats 4000000
def impl_sumOf.l0 (x0 : List Coin) : Nat → Int → Int → Option Int
 | 0, _, _ => none
 | k + 1, a6187, a6188 => (bif (decide (a6188 < (x0.length : Int))) then (chk (idxOk a6188 x0.length) (impl_sumOf.l0 x0 k (wrap64 (a6187 + ((gt x0 a6188).fOut.fValue))) (wrap64 (a6188 + 1)))) else some a6187)
theorem impl_sumOf.l0_z (x0 : List Coin) (a6187 : Int) (a6188 : Int) : impl_sumOf.l0 x0 0 a6187 a6188 = none := rfl
theorem impl_sumOf.l0_s (x0 : List Coin) (k : Nat) (a6187 : Int) (a6188 : Int) : impl_sumOf.l0 x0 (k + 1) a6187 a6188 = (bif (decide (a6188 < (x0.length : Int))) then (chk (idxOk a6188 x0.length) (impl_sumOf.l0 x0 k (wrap64 (a6187 + ((gt x0 a6188).fOut.fValue))) (wrap64 (a6188 + 1)))) else some a6187) := rfl
def impl_sumOf.f (k : Nat) (x0 : List Coin) : Option Int := ((impl_sumOf.l0 x0 k 0 0).bind (fun a6176 => some a6176))
theorem impl_sumOf.calls {k : Nat} {x0 : List Coin} {p0 : Value} {w : World} (hp0 : RdS kCoin w p0 x0) {r : Int} (H : impl_sumOf.f k x0 = some r) :
  Calls Try.prog 33 ([p0] : List Value).toArray w (fun e w_ => ∃ v, e = .returned v ∧ v = (.int .i64 r) ∧ Mem w [] w_ []) := by
 have HM := Mem.start w
 refine calls_run (N := 19) Try.func33 rfl rfl rfl rfl ?_
 unfold impl_sumOf.f at H
 refine run_seq ?_
 refine run_region rfl ?_
 refine ox rfl rfl rfl rfl (ex_assign rfl rfl) ?_
 refine ops_nil (at_then (run_seq ?_))
 refine run_region rfl ?_
 refine ox rfl rfl rfl rfl (ex_assign rfl rfl) ?_
 refine ops_nil (at_then ?_)
 obtain ⟨o6177, ho6178, H⟩ := bind_some H
 refine run_mid (fun ρ_ w_ => ∃ a6176 : Int, a6176 = o6177 ∧ ρ_ = [(3, .int .i64 a6176)] ∧ Mem w [] w_ []) ?_ ?_
 ·clear H
  refine run_seq ?_
  refine run_region rfl ?_
  refine ox rfl rfl rfl rfl (ex_move rfl rfl) ?_
  refine ox rfl rfl rfl rfl (ex_len (d := kCoin) (xs := x0) rfl rfl Try.underlying24 hp0) ?_
  refine ox rfl rfl rfl rfl (ex_move rfl rfl) ?_
  refine ops_nil (at_then ?_)
  refine run_block ?_
  refine run_loop (fun k_ ρ_ w_ => ∃ a6187 : Int, ∃ a6188 : Int, impl_sumOf.l0 x0 k_ a6187 a6188 = some o6177 ∧ ρ_ = [(3, .int .i64 a6187), (6, p0), (7, .int .i64 (x0.length : Int)), (8, .int .i64 a6188)] ∧ Mem w [] w_ []) k (ρ1 := [(3, .int .i64 0), (6, p0), (7, .int .i64 (x0.length : Int)), (8, .int .i64 0)]) ⟨_, _, ho6178, rfl, HM⟩ (Sub.cons rfl (Sub.cons rfl (Sub.cons rfl (Sub.cons rfl Sub.nil)))) ?_
  clear HM ho6178
  rintro k6197 _ w6198 ⟨a6187, a6188, ho6178, rfl, HM⟩
  obtain _ | k6197 := k6197
  ·exact nomatch ((impl_sumOf.l0_z x0 a6187 a6188).symm.trans ho6178)
  replace ho6178 := (impl_sumOf.l0_s x0 k6197 a6187 a6188).symm.trans ho6178
  refine run_seq ?_
  refine run_region rfl ?_
  refine ox rfl rfl rfl rfl (ex_lss rfl rfl rfl) ?_
  refine ops_nil (at_then (run_seq ?_))
  refine run_cond (b := (decide (a6188 < (x0.length : Int)))) rfl (fun hb6199 => ?_) (fun hb6199 => ?_)
  ·replace ho6178 := cond_t hb6199 ho6178
   refine run_skip ?_
   refine at_then ?_
   refine run_seq ?_
   refine run_block ?_
   refine run_seq ?_
   obtain ⟨e6200, ho6178⟩ := chk_some ho6178
   refine run_region rfl ?_
   obtain ⟨kv6202, hc6201, hk6203⟩ : ∃ u, CellsAt _ (sb p0) (so p0 + (a6188).toNat * 8) [(.int .i64 ((gt x0 a6188).fRef.fTx)), (.int .i64 ((gt x0 a6188).fRef.fAt)), (.int .i64 ((gt x0 a6188).fOut.fValue)), u, (.int .i64 ((gt x0 a6188).fOut.fRule.fNeed)), (.int .i64 ((gt x0 a6188).fOut.fRule.fAfter)), (.int .i64 ((gt x0 a6188).fHeight)), (.bool ((gt x0 a6188).fMined))] ∧ RdS kInt _ u ((gt x0 a6188).fOut.fRule.fKeys) := rd_with1 hp0 e6200
   refine ox rfl rfl rfl rfl (ex_indexAddr (d := kCoin) rfl rfl rfl Try.underlying24 tsz41 hp0 (idx_lo e6200) (idx_hi e6200)) ?_
   refine ox rfl rfl rfl rfl (ex_loadN (cs := [(.int .i64 ((gt x0 a6188).fRef.fTx)), (.int .i64 ((gt x0 a6188).fRef.fAt)), (.int .i64 ((gt x0 a6188).fOut.fValue)), kv6202, (.int .i64 ((gt x0 a6188).fOut.fRule.fNeed)), (.int .i64 ((gt x0 a6188).fOut.fRule.fAfter)), (.int .i64 ((gt x0 a6188).fHeight)), (.bool ((gt x0 a6188).fMined))]) rfl rfl Try.underlying41 rfl tsz41 rfl ((HM.at_ hc6201).sub 0 8 rfl)) ?_
   refine od rfl rfl rfl rfl (does_alloc (cs := [.int .i64 0, .int .i64 0, .int .i64 0, .slice none 0 0, .int .i64 0, .int .i64 0, .int .i64 0, .bool false]) rfl tz41 rfl HM) ?_
   rintro _ w6207 ⟨b6204, rfl, HM⟩
   refine odS rfl rfl rfl (does_store (vs := [.int .i64 ((gt x0 a6188).fRef.fTx), .int .i64 ((gt x0 a6188).fRef.fAt), .int .i64 ((gt x0 a6188).fOut.fValue), kv6202, .int .i64 ((gt x0 a6188).fOut.fRule.fNeed), .int .i64 ((gt x0 a6188).fOut.fRule.fAfter), .int .i64 ((gt x0 a6188).fHeight), .bool ((gt x0 a6188).fMined)]) (cs' := [.int .i64 ((gt x0 a6188).fRef.fTx), .int .i64 ((gt x0 a6188).fRef.fAt), .int .i64 ((gt x0 a6188).fOut.fValue), kv6202, .int .i64 ((gt x0 a6188).fOut.fRule.fNeed), .int .i64 ((gt x0 a6188).fOut.fRule.fAfter), .int .i64 ((gt x0 a6188).fHeight), .bool ((gt x0 a6188).fMined)]) rfl rfl rfl rfl tsz41 (Ones.int (Ones.int (Ones.int (Ones.rd hk6203 (Ones.int (Ones.int (Ones.int (Ones.bool Ones.nil)))))))) rfl rfl HM) ?_
   rintro w6208 HM
   refine ops_nil (at_then ?_)
   refine run_region rfl ?_
   refine ox rfl rfl rfl rfl (ex_move rfl rfl) ?_
   refine ox rfl rfl rfl rfl (ex_fieldAddr (off' := 2) rfl rfl Try.underlying41 rfl tsz36 rfl) ?_
   refine ox rfl rfl rfl rfl (ex_fieldAddr (off' := 2) rfl rfl Try.underlying36 rfl tsz2 rfl) ?_
   refine ox rfl rfl rfl rfl (ex_load1 rfl rfl Try.underlying2 rfl ((HM.box_at 0 rfl) 2 _ rfl)) ?_
   refine ox rfl rfl rfl rfl (ex_add rfl rfl rfl) ?_
   refine ox rfl rfl rfl rfl (ex_assign rfl rfl) ?_
   refine ops_nil ?_
   refine at_block ?_
   refine at_then ?_
   refine run_region rfl ?_
   refine ox rfl rfl rfl rfl (ex_add rfl rfl rfl) ?_
   refine ox rfl rfl rfl rfl (ex_move rfl rfl) ?_
   refine ops_nil ?_
   replace HM := (HM.front 0 rfl rfl).drop
   exact at_again k6197 (ρ1 := [(3, .int .i64 (wrap64 (a6187 + ((gt x0 a6188).fOut.fValue)))), (6, p0), (7, .int .i64 (x0.length : Int)), (8, .int .i64 (wrap64 (a6188 + 1)))]) (Nat.lt_succ_self _) ⟨_, _, ho6178, rfl, HM⟩ (Sub.cons rfl (Sub.cons rfl (Sub.cons rfl (Sub.cons rfl Sub.nil))))
  ·replace ho6178 := cond_f hb6199 ho6178
   refine run_exit ?_
   refine at_then_exit ?_
   refine at_then_exit ?_
   refine at_block_exit ?_
   exact at_mid (ρ' := [(3, .int .i64 a6187)]) ⟨_, (Option.some.inj ho6178), rfl, HM⟩ (Sub.cons rfl Sub.nil)
 ·rintro _ w6209 ⟨a6176, rfl, rfl, HM⟩
  refine run_seq ?_
  refine run_region rfl ?_
  refine ox rfl rfl rfl rfl (ex_move rfl rfl) ?_
  refine ox rfl rfl rfl rfl (ex_assign rfl rfl) ?_
  refine ops_nil (at_then ?_)
  refine run_ret ?_
  have hR := Option.some.inj H
  subst hR
  exact at_ret1 rfl rfl ⟨_, rfl, rfl, HM⟩

def impl_OwnedBy.l0 (x0 : List Coin) (x1 : Int) : Nat → (List Coin) → Int → Option ((List Coin))
 | 0, _, _ => none
 | k + 1, a6306, a6308 => (bif (decide (a6308 < (x0.length : Int))) then (chk (idxOk a6308 x0.length) ((bif (((gt x0 a6308).fOut.fRule.fNeed) == 1) then slices_Contains_int64.f k ((gt x0 a6308).fOut.fRule.fKeys) x1 else some default).bind fun t6338 => (bif ((((gt x0 a6308).fOut.fRule.fNeed) == 1) && t6338) then (chk (leB ((a6306.length + ([(gt x0 a6308)] : List Coin).length) * 80) 140737488355328) (impl_OwnedBy.l0 x0 x1 k (a6306 ++ ([(gt x0 a6308)] : List Coin)) (wrap64 (a6308 + 1)))) else impl_OwnedBy.l0 x0 x1 k a6306 (wrap64 (a6308 + 1))))) else some a6306)
theorem impl_OwnedBy.l0_z (x0 : List Coin) (x1 : Int) (a6306 : List Coin) (a6308 : Int) : impl_OwnedBy.l0 x0 x1 0 a6306 a6308 = none := rfl
theorem impl_OwnedBy.l0_s (x0 : List Coin) (x1 : Int) (k : Nat) (a6306 : List Coin) (a6308 : Int) : impl_OwnedBy.l0 x0 x1 (k + 1) a6306 a6308 = (bif (decide (a6308 < (x0.length : Int))) then (chk (idxOk a6308 x0.length) ((bif (((gt x0 a6308).fOut.fRule.fNeed) == 1) then slices_Contains_int64.f k ((gt x0 a6308).fOut.fRule.fKeys) x1 else some default).bind fun t6338 => (bif ((((gt x0 a6308).fOut.fRule.fNeed) == 1) && t6338) then (chk (leB ((a6306.length + ([(gt x0 a6308)] : List Coin).length) * 80) 140737488355328) (impl_OwnedBy.l0 x0 x1 k (a6306 ++ ([(gt x0 a6308)] : List Coin)) (wrap64 (a6308 + 1)))) else impl_OwnedBy.l0 x0 x1 k a6306 (wrap64 (a6308 + 1))))) else some a6306) := rfl
def impl_OwnedBy.f (k : Nat) (x0 : List Coin) (x1 : Int) : Option IntResult := ((impl_CoinsFault.f k x0).bind fun t6219 => (bif (t6219 != 0) then some (⟨t6219, 0⟩ : IntResult) else ((impl_OwnedBy.l0 x0 x1 k ([] : List Coin) 0).bind (fun a6284 => ((impl_sumOf.f k a6284).bind fun t6354 => some (⟨0, t6354⟩ : IntResult))))))
theorem impl_OwnedBy.calls {k : Nat} {x0 : List Coin} {x1 : Int} {p0 : Value} {w : World} (hp0 : RdS kCoin w p0 x0) {r : IntResult} (H : impl_OwnedBy.f k x0 x1 = some r) :
  Calls Try.prog 10 ([p0, .int .i64 x1] : List Value).toArray w (fun e w_ => ∃ v, e = .returned v ∧ v = (.agg #[.int .i64 r.fCode, .int .i64 r.fValue]) ∧ Mem w [] w_ []) := by
 have HM := Mem.start w
 refine calls_run (N := 43) Try.func10 rfl rfl rfl rfl ?_
 unfold impl_OwnedBy.f at H
 refine run_seq ?_
 refine run_region rfl ?_
 refine od rfl rfl rfl rfl (does_alloc (cs := [.int .i64 0, .int .i64 0]) rfl tz44 rfl HM) ?_
 rintro _ w6215 ⟨b6212, rfl, HM⟩
 refine ops_nil (at_then (run_seq ?_))
 refine run_seq ?_
 obtain ⟨t6219, h6220, H⟩ := bind_some H
 refine run_region rfl ?_
 refine ox rfl rfl rfl rfl (ex_move rfl rfl) ?_
 refine od rfl rfl rfl rfl (does_callk rfl callok11 rfl (impl_CoinsFault.calls (x0 := x0) (HM.rd hp0) h6220)) ?_
 rintro _ w6221 ⟨rfl, hn⟩
 replace HM : Mem w [] w6221 [box b6212 44 [.int .i64 0, .int .i64 0]] := HM.call hn
 refine ox rfl rfl rfl rfl (ex_assign rfl rfl) ?_
 refine ops_nil (at_then (run_seq ?_))
 refine run_region rfl ?_
 refine ox rfl rfl rfl rfl (ex_move rfl rfl) ?_
 refine ox rfl rfl rfl rfl (ex_neq rfl rfl rfl) ?_
 refine ops_nil (at_then ?_)
 refine run_cond (b := (t6219 != 0)) rfl (fun hb6222 => ?_) (fun hb6222 => ?_)
 ·replace H := cond_t hb6222 H
  refine run_seq ?_
  refine run_region rfl ?_
  refine ox rfl rfl rfl rfl (ex_move rfl rfl) ?_
  refine ox rfl rfl rfl rfl (ex_build (cells := #[(.int .i64 t6219), (.int .i64 0)]) rfl rfl (by kernel_rfl)) ?_
  refine odS rfl rfl rfl (does_store (vs := [.int .i64 t6219, .int .i64 0]) (cs' := [.int .i64 t6219, .int .i64 0]) rfl rfl rfl rfl tsz44 (Ones.int (Ones.int Ones.nil)) rfl rfl HM) ?_
  rintro w6223 HM
  refine ops_nil (at_then ?_)
  refine run_ret ?_
  refine at_then_ret ?_
  have hcb0 := HM.box_at 0 rfl
  replace HM := (HM.front 0 rfl rfl).drop
  have hR := Option.some.inj H
  subst hR
  exact at_retN rfl rfl Try.underlying44 rfl tsz44 rfl hcb0 ⟨_, rfl, rfl, HM⟩
 ·replace H := cond_f hb6222 H
  refine run_skip ?_
  refine at_then ?_
  refine run_seq ?_
  refine run_region rfl ?_
  refine od rfl rfl rfl rfl (does_lit (e := 41) (cs := []) (xs := ([] : List Coin)) kCoin rfl rfl (fun _ => by kernel_rfl) rfl rfl (fun _ _ h => by have h' : _ = [] := h; subst h'; exact .nil) HM.emp) ?_
  rintro v6224 w6227 HM
  refine ox rfl rfl rfl rfl (ex_assign rfl rfl) ?_
  refine ops_nil (at_then ?_)
  obtain ⟨o6286, ho6287, H⟩ := bind_some H
  refine run_mid (fun ρ_ w_ => ∃ v6283 : Value, ∃ a6284 : List Coin, a6284 = o6286 ∧ ρ_ = [(4, .pointer (some ⟨b6212, 0, none⟩)), (6, v6283)] ∧ Mem w [] w_ [box b6212 44 [.int .i64 0, .int .i64 0], own (Kd.lent w kCoin with1_one) 41 v6283 a6284]) ?_ ?_
  ·clear H
   refine run_seq ?_
   refine run_region rfl ?_
   refine ox rfl rfl rfl rfl (ex_move rfl rfl) ?_
   refine ox rfl rfl rfl rfl (ex_len (d := kCoin) (xs := x0) rfl rfl Try.underlying24 hp0) ?_
   refine ox rfl rfl rfl rfl (ex_move rfl rfl) ?_
   refine ops_nil (at_then ?_)
   refine run_block ?_
   replace HM := Mem.relent (d := kCoin) (d' := (Kd.lent w kCoin with1_one)) rfl HM
   replace HM := HM.front 1 rfl rfl
   refine run_loop (fun k_ ρ_ w_ => ∃ v6305 : Value, ∃ a6306 : List Coin, ∃ a6308 : Int, impl_OwnedBy.l0 x0 x1 k_ a6306 a6308 = some o6286 ∧ ρ_ = [(1, .int .i64 x1), (4, .pointer (some ⟨b6212, 0, none⟩)), (6, v6305), (16, p0), (17, .int .i64 (x0.length : Int)), (18, .int .i64 a6308)] ∧ Mem w [] w_ [box b6212 44 [.int .i64 0, .int .i64 0], own (Kd.lent w kCoin with1_one) 41 v6305 a6306]) k (ρ1 := [(1, .int .i64 x1), (4, .pointer (some ⟨b6212, 0, none⟩)), (6, v6224), (16, p0), (17, .int .i64 (x0.length : Int)), (18, .int .i64 0)]) ⟨_, _, _, ho6287, rfl, HM⟩ (Sub.cons rfl (Sub.cons rfl (Sub.cons rfl (Sub.cons rfl (Sub.cons rfl (Sub.cons rfl Sub.nil)))))) ?_
   clear HM ho6287
   rintro k6326 _ w6327 ⟨v6305, a6306, a6308, ho6287, rfl, HM⟩
   obtain _ | k6326 := k6326
   ·exact nomatch ((impl_OwnedBy.l0_z x0 x1 a6306 a6308).symm.trans ho6287)
   replace ho6287 := (impl_OwnedBy.l0_s x0 x1 k6326 a6306 a6308).symm.trans ho6287
   refine run_seq ?_
   refine run_region rfl ?_
   refine ox rfl rfl rfl rfl (ex_lss rfl rfl rfl) ?_
   refine ops_nil (at_then (run_seq ?_))
   refine run_cond (b := (decide (a6308 < (x0.length : Int)))) rfl (fun hb6328 => ?_) (fun hb6328 => ?_)
   ·replace ho6287 := cond_t hb6328 ho6287
    refine run_skip ?_
    refine at_then ?_
    refine run_seq ?_
    refine run_block ?_
    refine run_seq ?_
    obtain ⟨e6329, ho6287⟩ := chk_some ho6287
    refine run_region rfl ?_
    obtain ⟨kv6331, hc6330, hk6332⟩ : ∃ u, CellsAt _ (sb p0) (so p0 + (a6308).toNat * 8) [(.int .i64 ((gt x0 a6308).fRef.fTx)), (.int .i64 ((gt x0 a6308).fRef.fAt)), (.int .i64 ((gt x0 a6308).fOut.fValue)), u, (.int .i64 ((gt x0 a6308).fOut.fRule.fNeed)), (.int .i64 ((gt x0 a6308).fOut.fRule.fAfter)), (.int .i64 ((gt x0 a6308).fHeight)), (.bool ((gt x0 a6308).fMined))] ∧ RdS kInt _ u ((gt x0 a6308).fOut.fRule.fKeys) := rd_with1 hp0 e6329
    refine ox rfl rfl rfl rfl (ex_indexAddr (d := kCoin) rfl rfl rfl Try.underlying24 tsz41 hp0 (idx_lo e6329) (idx_hi e6329)) ?_
    refine ox rfl rfl rfl rfl (ex_loadN (cs := [(.int .i64 ((gt x0 a6308).fRef.fTx)), (.int .i64 ((gt x0 a6308).fRef.fAt)), (.int .i64 ((gt x0 a6308).fOut.fValue)), kv6331, (.int .i64 ((gt x0 a6308).fOut.fRule.fNeed)), (.int .i64 ((gt x0 a6308).fOut.fRule.fAfter)), (.int .i64 ((gt x0 a6308).fHeight)), (.bool ((gt x0 a6308).fMined))]) rfl rfl Try.underlying41 rfl tsz41 rfl ((HM.at_ hc6330).sub 0 8 rfl)) ?_
    refine od rfl rfl rfl rfl (does_alloc (cs := [.int .i64 0, .int .i64 0, .int .i64 0, .slice none 0 0, .int .i64 0, .int .i64 0, .int .i64 0, .bool false]) rfl tz41 rfl HM) ?_
    rintro _ w6336 ⟨b6333, rfl, HM⟩
    refine odS rfl rfl rfl (does_store (vs := [.int .i64 ((gt x0 a6308).fRef.fTx), .int .i64 ((gt x0 a6308).fRef.fAt), .int .i64 ((gt x0 a6308).fOut.fValue), kv6331, .int .i64 ((gt x0 a6308).fOut.fRule.fNeed), .int .i64 ((gt x0 a6308).fOut.fRule.fAfter), .int .i64 ((gt x0 a6308).fHeight), .bool ((gt x0 a6308).fMined)]) (cs' := [.int .i64 ((gt x0 a6308).fRef.fTx), .int .i64 ((gt x0 a6308).fRef.fAt), .int .i64 ((gt x0 a6308).fOut.fValue), kv6331, .int .i64 ((gt x0 a6308).fOut.fRule.fNeed), .int .i64 ((gt x0 a6308).fOut.fRule.fAfter), .int .i64 ((gt x0 a6308).fHeight), .bool ((gt x0 a6308).fMined)]) rfl rfl rfl rfl tsz41 (Ones.int (Ones.int (Ones.int (Ones.rd hk6332 (Ones.int (Ones.int (Ones.int (Ones.bool Ones.nil)))))))) rfl rfl HM) ?_
    rintro w6337 HM
    refine ops_nil (at_then (run_seq ?_))
    obtain ⟨t6338, h6339, ho6287⟩ := bind_some ho6287
    refine run_meet (fun ρ_ w_ => ρ_ = [(1, .int .i64 x1), (4, .pointer (some ⟨b6212, 0, none⟩)), (6, v6305), (16, p0), (17, .int .i64 (x0.length : Int)), (18, .int .i64 a6308), (8, .pointer (some ⟨b6333, 0, none⟩)), (34, .bool ((((gt x0 a6308).fOut.fRule.fNeed) == 1) && t6338))] ∧ Mem w [] w_ [box b6212 44 [.int .i64 0, .int .i64 0], own (Kd.lent w kCoin with1_one) 41 v6305 a6306, box b6333 41 [.int .i64 ((gt x0 a6308).fRef.fTx), .int .i64 ((gt x0 a6308).fRef.fAt), .int .i64 ((gt x0 a6308).fOut.fValue), kv6331, .int .i64 ((gt x0 a6308).fOut.fRule.fNeed), .int .i64 ((gt x0 a6308).fOut.fRule.fAfter), .int .i64 ((gt x0 a6308).fHeight), .bool ((gt x0 a6308).fMined)]]) ?_ ?_
    ·skip
     refine run_region rfl ?_
     refine ox rfl rfl rfl rfl (ex_fieldAddr (off' := 2) rfl rfl Try.underlying41 rfl tsz36 rfl) ?_
     refine ox rfl rfl rfl rfl (ex_fieldAddr (off' := 3) rfl rfl Try.underlying36 rfl tsz34 rfl) ?_
     refine ox rfl rfl rfl rfl (ex_fieldAddr (off' := 4) rfl rfl Try.underlying34 rfl tsz2 rfl) ?_
     refine ox rfl rfl rfl rfl (ex_load1 rfl rfl Try.underlying2 rfl ((HM.box_at 0 rfl) 4 _ rfl)) ?_
     refine ox rfl rfl rfl rfl (ex_eql rfl rfl rfl) ?_
     refine ox rfl rfl rfl rfl (ex_move rfl rfl) ?_
     refine bool_cases (((gt x0 a6308).fOut.fRule.fNeed) == 1) (fun hg6340 => ?_) (fun hg6340 => ?_)
     ·skip
      refine ops_ex rfl (guard_on rfl rfl rfl hg6340) rfl rfl (ex_fieldAddr (off' := 2) rfl rfl Try.underlying41 rfl tsz36 rfl) ?_
      refine ops_ex rfl (guard_on rfl rfl rfl hg6340) rfl rfl (ex_fieldAddr (off' := 3) rfl rfl Try.underlying36 rfl tsz34 rfl) ?_
      refine ops_ex rfl (guard_on rfl rfl rfl hg6340) rfl rfl (ex_fieldAddr (off' := 3) rfl rfl Try.underlying34 rfl tsz32 rfl) ?_
      refine ops_ex rfl (guard_on rfl rfl rfl hg6340) rfl rfl (ex_load1 rfl rfl Try.underlying32 rfl ((HM.box_at 0 rfl) 3 _ rfl)) ?_
      refine ops_ex rfl (guard_on rfl rfl rfl hg6340) rfl rfl (ex_move rfl rfl) ?_
      refine ops_does rfl (guard_on rfl rfl rfl hg6340) rfl rfl (does_callk rfl callok32 rfl (slices_Contains_int64.calls (x0 := (gt x0 a6308).fOut.fRule.fKeys) (x1 := x1) (HM.rd hk6332) (cond_t hg6340 h6339))) ?_
      rintro _ w6341 ⟨rfl, hn⟩
      replace HM : Mem w [] w6341 [box b6333 41 [.int .i64 ((gt x0 a6308).fRef.fTx), .int .i64 ((gt x0 a6308).fRef.fAt), .int .i64 ((gt x0 a6308).fOut.fValue), kv6331, .int .i64 ((gt x0 a6308).fOut.fRule.fNeed), .int .i64 ((gt x0 a6308).fOut.fRule.fAfter), .int .i64 ((gt x0 a6308).fHeight), .bool ((gt x0 a6308).fMined)], box b6212 44 [.int .i64 0, .int .i64 0], own (Kd.lent w kCoin with1_one) 41 v6305 a6306] := HM.call hn
      refine ops_ex (v := .bool ((((gt x0 a6308).fOut.fRule.fNeed) == 1) && t6338)) rfl (guard_none rfl) rfl rfl (ex_pand_t rfl rfl hg6340 rfl) ?_
      refine ops_nil ?_
      replace HM := HM.front 2 rfl rfl
      replace HM := HM.front 2 rfl rfl
      exact at_meet [(1, .int .i64 x1), (4, .pointer (some ⟨b6212, 0, none⟩)), (6, v6305), (16, p0), (17, .int .i64 (x0.length : Int)), (18, .int .i64 a6308), (8, .pointer (some ⟨b6333, 0, none⟩)), (34, .bool ((((gt x0 a6308).fOut.fRule.fNeed) == 1) && t6338))] ⟨rfl, HM⟩ (Sub.cons rfl (Sub.cons rfl (Sub.cons rfl (Sub.cons rfl (Sub.cons rfl (Sub.cons rfl (Sub.cons rfl (Sub.cons rfl Sub.nil))))))))
     ·skip
      refine ops_off rfl (guard_off rfl rfl rfl hg6340) rfl rfl ?_
      refine ops_off rfl (guard_off rfl rfl rfl hg6340) rfl rfl ?_
      refine ops_off rfl (guard_off rfl rfl rfl hg6340) rfl rfl ?_
      refine ops_off rfl (guard_off rfl rfl rfl hg6340) rfl rfl ?_
      refine ops_off rfl (guard_off rfl rfl rfl hg6340) rfl rfl ?_
      refine ops_off rfl (guard_off rfl rfl rfl hg6340) rfl rfl ?_
      have hg6342 : ((((gt x0 a6308).fOut.fRule.fNeed) == 1) && t6338) = false := by simp only [hg6340, Bool.and_true, Bool.true_and, Bool.and_false, Bool.false_and, Bool.or_true, Bool.true_or, Bool.or_false, Bool.false_or, Bool.not_true, Bool.not_false, Bool.not_not]
      refine ops_ex (v := .bool ((((gt x0 a6308).fOut.fRule.fNeed) == 1) && t6338)) rfl (guard_none rfl) rfl rfl (ex_pand_f rfl rfl hg6340) ?_
      refine ops_nil ?_
      replace HM := HM.front 2 rfl rfl
      replace HM := HM.front 2 rfl rfl
      exact at_meet [(1, .int .i64 x1), (4, .pointer (some ⟨b6212, 0, none⟩)), (6, v6305), (16, p0), (17, .int .i64 (x0.length : Int)), (18, .int .i64 a6308), (8, .pointer (some ⟨b6333, 0, none⟩)), (34, .bool ((((gt x0 a6308).fOut.fRule.fNeed) == 1) && t6338))] ⟨rfl, HM⟩ (Sub.cons rfl (Sub.cons rfl (Sub.cons rfl (Sub.cons rfl (Sub.cons rfl (Sub.cons rfl (Sub.cons rfl (Sub.cons rfl Sub.nil))))))))
    ·rintro _ w6343 ⟨rfl, HM⟩
     refine at_then ?_
     refine run_cond (b := ((((gt x0 a6308).fOut.fRule.fNeed) == 1) && t6338)) rfl (fun hb6344 => ?_) (fun hb6344 => ?_)
     ·replace ho6287 := cond_t hb6344 ho6287
      obtain ⟨e6348, ho6287⟩ := chk_some ho6287
      refine run_region rfl ?_
      refine ox rfl rfl rfl rfl (ex_move rfl rfl) ?_
      refine ox rfl rfl rfl rfl (ex_loadN (cs := [(.int .i64 ((gt x0 a6308).fRef.fTx)), (.int .i64 ((gt x0 a6308).fRef.fAt)), (.int .i64 ((gt x0 a6308).fOut.fValue)), kv6331, (.int .i64 ((gt x0 a6308).fOut.fRule.fNeed)), (.int .i64 ((gt x0 a6308).fOut.fRule.fAfter)), (.int .i64 ((gt x0 a6308).fHeight)), (.bool ((gt x0 a6308).fMined))]) rfl rfl Try.underlying41 rfl tsz41 rfl ((HM.box_at 2 rfl).sub 0 8 rfl)) ?_
      refine od rfl rfl rfl rfl (does_lit (e := 41) (cs := [.int .i64 ((gt x0 a6308).fRef.fTx), .int .i64 ((gt x0 a6308).fRef.fAt), .int .i64 ((gt x0 a6308).fOut.fValue), kv6331, .int .i64 ((gt x0 a6308).fOut.fRule.fNeed), .int .i64 ((gt x0 a6308).fOut.fRule.fAfter), .int .i64 ((gt x0 a6308).fHeight), .bool ((gt x0 a6308).fMined)]) (xs := ([(gt x0 a6308)] : List Coin)) (Kd.lent w kCoin with1_one) rfl rfl (fun _ => by kernel_rfl) rfl rfl (fun _ _ h => by have h' : _ = [] := h; subst h'; exact (Elems.cons (d := (Kd.lent w kCoin with1_one)) (f := []) ⟨⟨_, rfl, hk6332⟩, rfl⟩ .nil)) HM.emp) ?_
      rintro v6345 w6351 HM
      replace HM := HM.front 2 rfl rfl
      refine od rfl rfl rfl rfl (does_append (Kd.lent w kCoin with1_one) rfl rfl rfl Try.underlying24 tsz41 rfl tby41 tz41 rfl rfl (leB_le e6348) HM) ?_
      rintro v6349 w6352 HM
      refine ox rfl rfl rfl rfl (ex_assign rfl rfl) ?_
      refine ops_nil ?_
      refine at_block ?_
      refine at_then ?_
      refine run_region rfl ?_
      refine ox rfl rfl rfl rfl (ex_add rfl rfl rfl) ?_
      refine ox rfl rfl rfl rfl (ex_move rfl rfl) ?_
      refine ops_nil ?_
      replace HM := (HM.front 2 rfl rfl).drop
      replace HM := HM.front 1 rfl rfl
      exact at_again k6326 (ρ1 := [(1, .int .i64 x1), (4, .pointer (some ⟨b6212, 0, none⟩)), (6, v6349), (16, p0), (17, .int .i64 (x0.length : Int)), (18, .int .i64 (wrap64 (a6308 + 1)))]) (Nat.lt_succ_self _) ⟨_, _, _, ho6287, rfl, HM⟩ (Sub.cons rfl (Sub.cons rfl (Sub.cons rfl (Sub.cons rfl (Sub.cons rfl (Sub.cons rfl Sub.nil))))))
     ·replace ho6287 := cond_f hb6344 ho6287
      refine run_skip ?_
      refine at_block ?_
      refine at_then ?_
      refine run_region rfl ?_
      refine ox rfl rfl rfl rfl (ex_add rfl rfl rfl) ?_
      refine ox rfl rfl rfl rfl (ex_move rfl rfl) ?_
      refine ops_nil ?_
      replace HM := (HM.front 2 rfl rfl).drop
      exact at_again k6326 (ρ1 := [(1, .int .i64 x1), (4, .pointer (some ⟨b6212, 0, none⟩)), (6, v6305), (16, p0), (17, .int .i64 (x0.length : Int)), (18, .int .i64 (wrap64 (a6308 + 1)))]) (Nat.lt_succ_self _) ⟨_, _, _, ho6287, rfl, HM⟩ (Sub.cons rfl (Sub.cons rfl (Sub.cons rfl (Sub.cons rfl (Sub.cons rfl (Sub.cons rfl Sub.nil))))))
   ·replace ho6287 := cond_f hb6328 ho6287
    refine run_exit ?_
    refine at_then_exit ?_
    refine at_then_exit ?_
    refine at_block_exit ?_
    exact at_mid (ρ' := [(4, .pointer (some ⟨b6212, 0, none⟩)), (6, v6305)]) ⟨_, _, (Option.some.inj ho6287), rfl, HM⟩ (Sub.cons rfl (Sub.cons rfl Sub.nil))
  ·rintro _ w6353 ⟨v6283, a6284, rfl, rfl, HM⟩
   refine run_seq ?_
   obtain ⟨t6354, h6355, H⟩ := bind_some H
   refine run_region rfl ?_
   refine ox rfl rfl rfl rfl (ex_move rfl rfl) ?_
   refine od rfl rfl rfl rfl (does_callk rfl callok33 rfl (impl_sumOf.calls (x0 := a6284) ((HM.own_rd 1 rfl).unlent (HM.old)) h6355)) ?_
   rintro _ w6356 ⟨rfl, hn⟩
   replace HM : Mem w [] w6356 [box b6212 44 [.int .i64 0, .int .i64 0], own (Kd.lent w kCoin with1_one) 41 v6283 a6284] := HM.call hn
   refine ox rfl rfl rfl rfl (ex_build (cells := #[(.int .i64 0), (.int .i64 t6354)]) rfl rfl (by kernel_rfl)) ?_
   refine odS rfl rfl rfl (does_store (vs := [.int .i64 0, .int .i64 t6354]) (cs' := [.int .i64 0, .int .i64 t6354]) rfl rfl rfl rfl tsz44 (Ones.int (Ones.int Ones.nil)) rfl rfl HM) ?_
   rintro w6357 HM
   refine ops_nil (at_then ?_)
   refine run_ret ?_
   replace HM := (HM.front 1 rfl rfl).drop
   have hcb0 := HM.box_at 0 rfl
   replace HM := (HM.front 0 rfl rfl).drop
   have hR := Option.some.inj H
   subst hR
   exact at_retN rfl rfl Try.underlying44 rfl tsz44 rfl hcb0 ⟨_, rfl, rfl, HM⟩

def impl_CoinSum.f (k : Nat) (x0 : List Coin) : Option IntResult := ((impl_CoinsFault.f k x0).bind fun t6377 => (bif (t6377 != 0) then some (⟨t6377, 0⟩ : IntResult) else ((impl_sumOf.f k x0).bind fun t6382 => some (⟨0, t6382⟩ : IntResult))))
theorem impl_CoinSum.calls {k : Nat} {x0 : List Coin} {p0 : Value} {w : World} (hp0 : RdS kCoin w p0 x0) {r : IntResult} (H : impl_CoinSum.f k x0 = some r) :
  Calls Try.prog 12 ([p0] : List Value).toArray w (fun e w_ => ∃ v, e = .returned v ∧ v = (.agg #[.int .i64 r.fCode, .int .i64 r.fValue]) ∧ Mem w [] w_ []) := by
 have HM := Mem.start w
 refine calls_run (N := 13) Try.func12 rfl rfl rfl rfl ?_
 unfold impl_CoinSum.f at H
 refine run_seq ?_
 refine run_region rfl ?_
 refine od rfl rfl rfl rfl (does_alloc (cs := [.int .i64 0, .int .i64 0]) rfl tz44 rfl HM) ?_
 rintro _ w6376 ⟨b6373, rfl, HM⟩
 refine ops_nil (at_then (run_seq ?_))
 refine run_seq ?_
 obtain ⟨t6377, h6378, H⟩ := bind_some H
 refine run_region rfl ?_
 refine ox rfl rfl rfl rfl (ex_move rfl rfl) ?_
 refine od rfl rfl rfl rfl (does_callk rfl callok11 rfl (impl_CoinsFault.calls (x0 := x0) (HM.rd hp0) h6378)) ?_
 rintro _ w6379 ⟨rfl, hn⟩
 replace HM : Mem w [] w6379 [box b6373 44 [.int .i64 0, .int .i64 0]] := HM.call hn
 refine ox rfl rfl rfl rfl (ex_assign rfl rfl) ?_
 refine ops_nil (at_then (run_seq ?_))
 refine run_region rfl ?_
 refine ox rfl rfl rfl rfl (ex_move rfl rfl) ?_
 refine ox rfl rfl rfl rfl (ex_neq rfl rfl rfl) ?_
 refine ops_nil (at_then ?_)
 refine run_cond (b := (t6377 != 0)) rfl (fun hb6380 => ?_) (fun hb6380 => ?_)
 ·replace H := cond_t hb6380 H
  refine run_seq ?_
  refine run_region rfl ?_
  refine ox rfl rfl rfl rfl (ex_move rfl rfl) ?_
  refine ox rfl rfl rfl rfl (ex_build (cells := #[(.int .i64 t6377), (.int .i64 0)]) rfl rfl (by kernel_rfl)) ?_
  refine odS rfl rfl rfl (does_store (vs := [.int .i64 t6377, .int .i64 0]) (cs' := [.int .i64 t6377, .int .i64 0]) rfl rfl rfl rfl tsz44 (Ones.int (Ones.int Ones.nil)) rfl rfl HM) ?_
  rintro w6381 HM
  refine ops_nil (at_then ?_)
  refine run_ret ?_
  refine at_then_ret ?_
  have hcb0 := HM.box_at 0 rfl
  replace HM := (HM.front 0 rfl rfl).drop
  have hR := Option.some.inj H
  subst hR
  exact at_retN rfl rfl Try.underlying44 rfl tsz44 rfl hcb0 ⟨_, rfl, rfl, HM⟩
 ·replace H := cond_f hb6380 H
  refine run_skip ?_
  refine at_then ?_
  refine run_seq ?_
  obtain ⟨t6382, h6383, H⟩ := bind_some H
  refine run_region rfl ?_
  refine ox rfl rfl rfl rfl (ex_move rfl rfl) ?_
  refine od rfl rfl rfl rfl (does_callk rfl callok33 rfl (impl_sumOf.calls (x0 := x0) (HM.rd hp0) h6383)) ?_
  rintro _ w6384 ⟨rfl, hn⟩
  replace HM : Mem w [] w6384 [box b6373 44 [.int .i64 0, .int .i64 0]] := HM.call hn
  refine ox rfl rfl rfl rfl (ex_build (cells := #[(.int .i64 0), (.int .i64 t6382)]) rfl rfl (by kernel_rfl)) ?_
  refine odS rfl rfl rfl (does_store (vs := [.int .i64 0, .int .i64 t6382]) (cs' := [.int .i64 0, .int .i64 t6382]) rfl rfl rfl rfl tsz44 (Ones.int (Ones.int Ones.nil)) rfl rfl HM) ?_
  rintro w6385 HM
  refine ops_nil (at_then ?_)
  refine run_ret ?_
  have hcb0 := HM.box_at 0 rfl
  replace HM := (HM.front 0 rfl rfl).drop
  have hR := Option.some.inj H
  subst hR
  exact at_retN rfl rfl Try.underlying44 rfl tsz44 rfl hcb0 ⟨_, rfl, rfl, HM⟩

def slices_Equal_int64.l0 (x0 : List Int) (x1 : List Int) : Nat → Int → Option (Bool ⊕ Unit)
 | 0, _ => none
 | k + 1, a6477 => (bif (decide (a6477 < (x0.length : Int))) then (chk (idxOk a6477 x0.length) (chk (idxOk a6477 x1.length) (bif ((gt x0 a6477) != (gt x1 a6477)) then some (.inl false) else slices_Equal_int64.l0 x0 x1 k (wrap64 (a6477 + 1))))) else some (.inr ()))
theorem slices_Equal_int64.l0_z (x0 : List Int) (x1 : List Int) (a6477 : Int) : slices_Equal_int64.l0 x0 x1 0 a6477 = none := rfl
theorem slices_Equal_int64.l0_s (x0 : List Int) (x1 : List Int) (k : Nat) (a6477 : Int) : slices_Equal_int64.l0 x0 x1 (k + 1) a6477 = (bif (decide (a6477 < (x0.length : Int))) then (chk (idxOk a6477 x0.length) (chk (idxOk a6477 x1.length) (bif ((gt x0 a6477) != (gt x1 a6477)) then some (.inl false) else slices_Equal_int64.l0 x0 x1 k (wrap64 (a6477 + 1))))) else some (.inr ())) := rfl
def slices_Equal_int64.f (k : Nat) (x0 : List Int) (x1 : List Int) : Option Bool := (bif ((x0.length : Int) != (x1.length : Int)) then some false else ((slices_Equal_int64.l0 x0 x1 k 0).bind fun o6469 => thn o6469 (fun r => some r) (fun _ => some true)))
theorem slices_Equal_int64.calls {k : Nat} {x0 : List Int} {x1 : List Int} {p0 : Value} {p1 : Value} {w : World} (hp0 : RdS kInt w p0 x0) (hp1 : RdS kInt w p1 x1) {r : Bool} (H : slices_Equal_int64.f k x0 x1 = some r) :
  Calls Try.prog 80 ([p0, p1] : List Value).toArray w (fun e w_ => ∃ v, e = .returned v ∧ v = (.bool r) ∧ Mem w [] w_ []) := by
 have HM := Mem.start w
 refine calls_run (N := 26) Try.func80 rfl rfl rfl rfl ?_
 unfold slices_Equal_int64.f at H
 refine run_seq ?_
 refine run_region rfl ?_
 refine ox rfl rfl rfl rfl (ex_assign rfl rfl) ?_
 refine ops_nil (at_then (run_seq ?_))
 refine run_seq ?_
 refine run_region rfl ?_
 refine ox rfl rfl rfl rfl (ex_move rfl rfl) ?_
 refine ox rfl rfl rfl rfl (ex_len (d := kInt) (xs := x0) rfl rfl Try.underlying32 hp0) ?_
 refine ox rfl rfl rfl rfl (ex_move rfl rfl) ?_
 refine ox rfl rfl rfl rfl (ex_len (d := kInt) (xs := x1) rfl rfl Try.underlying32 hp1) ?_
 refine ox rfl rfl rfl rfl (ex_neq rfl rfl rfl) ?_
 refine ops_nil (at_then ?_)
 refine run_cond (b := ((x0.length : Int) != (x1.length : Int))) rfl (fun hb6449 => ?_) (fun hb6449 => ?_)
 ·replace H := cond_t hb6449 H
  refine run_seq ?_
  refine run_region rfl ?_
  refine ox rfl rfl rfl rfl (ex_assign rfl rfl) ?_
  refine ops_nil (at_then ?_)
  refine run_ret ?_
  refine at_then_ret ?_
  have hR := Option.some.inj H
  subst hR
  exact at_ret1 rfl rfl ⟨_, rfl, rfl, HM⟩
 ·replace H := cond_f hb6449 H
  refine run_skip ?_
  refine at_then ?_
  obtain ⟨o6469, ho6470, H⟩ := bind_some H
  refine run_mid (fun ρ_ w_ => Sum.inr () = o6469 ∧ ρ_ = [] ∧ Mem w [] w_ []) ?_ ?_
  ·skip
   refine run_seq ?_
   refine run_region rfl ?_
   refine ox rfl rfl rfl rfl (ex_move rfl rfl) ?_
   refine ox rfl rfl rfl rfl (ex_len (d := kInt) (xs := x0) rfl rfl Try.underlying32 hp0) ?_
   refine ox rfl rfl rfl rfl (ex_move rfl rfl) ?_
   refine ops_nil (at_then ?_)
   refine run_block ?_
   refine run_loop (fun k_ ρ_ w_ => ∃ a6477 : Int, slices_Equal_int64.l0 x0 x1 k_ a6477 = some o6469 ∧ ρ_ = [(0, p0), (1, p1), (12, .int .i64 (x0.length : Int)), (13, .int .i64 a6477)] ∧ Mem w [] w_ []) k (ρ1 := [(0, p0), (1, p1), (12, .int .i64 (x0.length : Int)), (13, .int .i64 0)]) ⟨_, ho6470, rfl, HM⟩ (Sub.cons rfl (Sub.cons rfl (Sub.cons rfl (Sub.cons rfl Sub.nil)))) ?_
   clear HM ho6470
   rintro k6484 _ w6485 ⟨a6477, ho6470, rfl, HM⟩
   obtain _ | k6484 := k6484
   ·exact nomatch ((slices_Equal_int64.l0_z x0 x1 a6477).symm.trans ho6470)
   replace ho6470 := (slices_Equal_int64.l0_s x0 x1 k6484 a6477).symm.trans ho6470
   refine run_seq ?_
   refine run_region rfl ?_
   refine ox rfl rfl rfl rfl (ex_lss rfl rfl rfl) ?_
   refine ops_nil (at_then (run_seq ?_))
   refine run_cond (b := (decide (a6477 < (x0.length : Int)))) rfl (fun hb6486 => ?_) (fun hb6486 => ?_)
   ·replace ho6470 := cond_t hb6486 ho6470
    refine run_skip ?_
    refine at_then ?_
    refine run_seq ?_
    refine run_block ?_
    refine run_seq ?_
    refine run_region rfl ?_
    refine ox rfl rfl rfl rfl (ex_move rfl rfl) ?_
    refine ox rfl rfl rfl rfl (ex_assign rfl rfl) ?_
    refine ops_nil (at_then (run_seq ?_))
    obtain ⟨e6487, ho6470⟩ := chk_some ho6470
    obtain ⟨e6489, ho6470⟩ := chk_some ho6470
    refine run_drawf (fun w_ => Mem w [] w_ []) [(0, true), (1, true), (2, true), (3, true), (4, true), (5, true), (6, true), (7, true), (8, true)] mixed rfl rfl (by kernel_rfl) ?_
    replace HM := HM.grow (fr_drew _)
    have hS := Mem.suf (M := []) HM
    refine dp rfl rfl rfl rfl (ex_move rfl rfl) hS ?_
    refine dp rfl rfl rfl rfl (ex_move rfl rfl) hS ?_
    have hc6488 : CellsAt _ (sb p0) (so p0 + (a6477).toNat * 1) [(.int .i64 (gt x0 a6477))] := rd_plain hp0 e6487
    refine dp rfl rfl rfl rfl (ex_indexAddr (d := kInt) rfl rfl rfl Try.underlying32 tsz2 hp0 (idx_lo e6487) (idx_hi e6487)) hS ?_
    refine drwp_take rfl (guard_none rfl) rfl rfl (fun w_ hS_ => (ex_load1 rfl rfl Try.underlying2 rfl ((hS_.at_ hc6488) 0 _ rfl))) hS ?_
    refine dp rfl rfl rfl rfl (ex_move rfl rfl) hS ?_
    refine dp rfl rfl rfl rfl (ex_move rfl rfl) hS ?_
    have hc6490 : CellsAt _ (sb p1) (so p1 + (a6477).toNat * 1) [(.int .i64 (gt x1 a6477))] := rd_plain hp1 e6489
    refine dp rfl rfl rfl rfl (ex_indexAddr (d := kInt) rfl rfl rfl Try.underlying32 tsz2 hp1 (idx_lo e6489) (idx_hi e6489)) hS ?_
    refine drwp_take rfl (guard_none rfl) rfl rfl (fun w_ hS_ => (ex_load1 rfl rfl Try.underlying2 rfl ((hS_.at_ hc6490) 0 _ rfl))) hS ?_
    refine dp rfl rfl rfl rfl (ex_neq rfl rfl rfl) hS ?_
    refine drwp_done ?_
    refine at_then ?_
    refine run_cond (b := ((gt x0 a6477) != (gt x1 a6477))) rfl (fun hb6491 => ?_) (fun hb6491 => ?_)
    ·replace ho6470 := cond_t hb6491 ho6470
     refine run_seq ?_
     refine run_region rfl ?_
     refine ox rfl rfl rfl rfl (ex_assign rfl rfl) ?_
     refine ops_nil (at_then ?_)
     refine run_ret ?_
     refine at_block_ret ?_
     refine at_then_ret ?_
     refine at_then_ret ?_
     refine at_block_ret ?_
     refine at_then_ret ?_
     have hR := Option.some.inj ho6470
     subst hR
     have hT := thn_inl H
     have hR := Option.some.inj hT
     subst hR
     exact at_ret1 rfl rfl ⟨_, rfl, rfl, HM⟩
    ·replace ho6470 := cond_f hb6491 ho6470
     refine run_skip ?_
     refine at_block ?_
     refine at_then ?_
     refine run_region rfl ?_
     refine ox rfl rfl rfl rfl (ex_add rfl rfl rfl) ?_
     refine ox rfl rfl rfl rfl (ex_move rfl rfl) ?_
     refine ops_nil ?_
     exact at_again k6484 (ρ1 := [(0, p0), (1, p1), (12, .int .i64 (x0.length : Int)), (13, .int .i64 (wrap64 (a6477 + 1)))]) (Nat.lt_succ_self _) ⟨_, ho6470, rfl, HM⟩ (Sub.cons rfl (Sub.cons rfl (Sub.cons rfl (Sub.cons rfl Sub.nil))))
   ·replace ho6470 := cond_f hb6486 ho6470
    refine run_exit ?_
    refine at_then_exit ?_
    refine at_then_exit ?_
    refine at_block_exit ?_
    exact at_mid (ρ' := []) ⟨(Option.some.inj ho6470), rfl, HM⟩ Sub.nil
  ·rintro _ w6492 ⟨rfl, rfl, HM⟩
   replace H := (thn_inr H)
   refine run_seq ?_
   refine run_region rfl ?_
   refine ox rfl rfl rfl rfl (ex_assign rfl rfl) ?_
   refine ops_nil (at_then ?_)
   refine run_ret ?_
   have hR := Option.some.inj H
   subst hR
   exact at_ret1 rfl rfl ⟨_, rfl, rfl, HM⟩

def impl_SameRules.f (k : Nat) (x0 : Rule) (x1 : Rule) : Option Bool := ((slices_Equal_int64.f k x0.fKeys x1.fKeys).bind fun t6503 => some ((t6503 && (x0.fNeed == x1.fNeed)) && (x0.fAfter == x1.fAfter)))
theorem impl_SameRules.calls {k : Nat} {x0 : Rule} {x1 : Rule} {p0_0 : Value} {p1_0 : Value} {w : World} (hp0_0 : RdS kInt w p0_0 x0.fKeys) (hp1_0 : RdS kInt w p1_0 x1.fKeys) {r : Bool} (H : impl_SameRules.f k x0 x1 = some r) :
  Calls Try.prog 74 ([.agg #[p0_0, (.int .i64 x0.fNeed), (.int .i64 x0.fAfter)], .agg #[p1_0, (.int .i64 x1.fNeed), (.int .i64 x1.fAfter)]] : List Value).toArray w (fun e w_ => ∃ v, e = .returned v ∧ v = (.bool r) ∧ Mem w [] w_ []) := by
 have HM := Mem.start w
 refine calls_run (N := 24) Try.func74 rfl rfl rfl rfl ?_
 unfold impl_SameRules.f at H
 refine run_seq ?_
 refine run_region rfl ?_
 refine od rfl rfl rfl rfl (does_box (cs := [p0_0, .int .i64 x0.fNeed, .int .i64 x0.fAfter]) rfl rfl rfl HM) ?_
 rintro _ w6501 ⟨b6495, rfl, HM⟩
 refine od rfl rfl rfl rfl (does_box (cs := [p1_0, .int .i64 x1.fNeed, .int .i64 x1.fAfter]) rfl rfl rfl HM) ?_
 rintro _ w6502 ⟨b6498, rfl, HM⟩
 refine ox rfl rfl rfl rfl (ex_assign rfl rfl) ?_
 refine ops_nil (at_then (run_seq ?_))
 obtain ⟨t6503, h6504, H⟩ := bind_some H
 refine run_meet (fun ρ_ w_ => ρ_ = [(4, .bool ((t6503 && (x0.fNeed == x1.fNeed)) && (x0.fAfter == x1.fAfter)))] ∧ Mem w [] w_ []) ?_ ?_
 ·skip
  refine run_region rfl ?_
  refine ox rfl rfl rfl rfl (ex_fieldAddr (off' := 0) rfl rfl Try.underlying34 rfl tsz32 rfl) ?_
  refine ox rfl rfl rfl rfl (ex_load1 rfl rfl Try.underlying32 rfl ((HM.box_at 1 rfl) 0 _ rfl)) ?_
  refine ox rfl rfl rfl rfl (ex_fieldAddr (off' := 0) rfl rfl Try.underlying34 rfl tsz32 rfl) ?_
  refine ox rfl rfl rfl rfl (ex_load1 rfl rfl Try.underlying32 rfl ((HM.box_at 0 rfl) 0 _ rfl)) ?_
  refine od rfl rfl rfl rfl (does_callk rfl callok80 rfl (slices_Equal_int64.calls (x0 := x0.fKeys) (x1 := x1.fKeys) (HM.rd hp0_0) (HM.rd hp1_0) h6504)) ?_
  rintro _ w6505 ⟨rfl, hn⟩
  replace HM : Mem w [] w6505 [box b6498 34 [p1_0, .int .i64 x1.fNeed, .int .i64 x1.fAfter], box b6495 34 [p0_0, .int .i64 x0.fNeed, .int .i64 x0.fAfter]] := HM.call hn
  refine ox rfl rfl rfl rfl (ex_move rfl rfl) ?_
  refine bool_cases t6503 (fun hg6506 => ?_) (fun hg6506 => ?_)
  ·skip
   refine ops_ex rfl (guard_on rfl rfl rfl hg6506) rfl rfl (ex_fieldAddr (off' := 1) rfl rfl Try.underlying34 rfl tsz2 rfl) ?_
   refine ops_ex rfl (guard_on rfl rfl rfl hg6506) rfl rfl (ex_load1 rfl rfl Try.underlying2 rfl ((HM.box_at 1 rfl) 1 _ rfl)) ?_
   refine ops_ex rfl (guard_on rfl rfl rfl hg6506) rfl rfl (ex_fieldAddr (off' := 1) rfl rfl Try.underlying34 rfl tsz2 rfl) ?_
   refine ops_ex rfl (guard_on rfl rfl rfl hg6506) rfl rfl (ex_load1 rfl rfl Try.underlying2 rfl ((HM.box_at 0 rfl) 1 _ rfl)) ?_
   refine ops_ex rfl (guard_on rfl rfl rfl hg6506) rfl rfl (ex_eql rfl rfl rfl) ?_
   refine ops_ex (v := .bool (t6503 && (x0.fNeed == x1.fNeed))) rfl (guard_none rfl) rfl rfl (ex_pand_t rfl rfl hg6506 rfl) ?_
   refine ox rfl rfl rfl rfl (ex_move rfl rfl) ?_
   refine bool_cases (t6503 && (x0.fNeed == x1.fNeed)) (fun hg6507 => ?_) (fun hg6507 => ?_)
   ·skip
    refine ops_ex rfl (guard_on rfl rfl rfl hg6507) rfl rfl (ex_fieldAddr (off' := 2) rfl rfl Try.underlying34 rfl tsz2 rfl) ?_
    refine ops_ex rfl (guard_on rfl rfl rfl hg6507) rfl rfl (ex_load1 rfl rfl Try.underlying2 rfl ((HM.box_at 1 rfl) 2 _ rfl)) ?_
    refine ops_ex rfl (guard_on rfl rfl rfl hg6507) rfl rfl (ex_fieldAddr (off' := 2) rfl rfl Try.underlying34 rfl tsz2 rfl) ?_
    refine ops_ex rfl (guard_on rfl rfl rfl hg6507) rfl rfl (ex_load1 rfl rfl Try.underlying2 rfl ((HM.box_at 0 rfl) 2 _ rfl)) ?_
    refine ops_ex rfl (guard_on rfl rfl rfl hg6507) rfl rfl (ex_eql rfl rfl rfl) ?_
    refine ops_ex (v := .bool ((t6503 && (x0.fNeed == x1.fNeed)) && (x0.fAfter == x1.fAfter))) rfl (guard_none rfl) rfl rfl (ex_pand_t rfl rfl hg6507 rfl) ?_
    refine ox rfl rfl rfl rfl (ex_assign rfl rfl) ?_
    refine ops_nil ?_
    replace HM := (HM.front 0 rfl rfl).drop
    replace HM := (HM.front 0 rfl rfl).drop
    exact at_meet [(4, .bool ((t6503 && (x0.fNeed == x1.fNeed)) && (x0.fAfter == x1.fAfter)))] ⟨rfl, HM⟩ (Sub.cons rfl Sub.nil)
   ·skip
    refine ops_off rfl (guard_off rfl rfl rfl hg6507) rfl rfl ?_
    refine ops_off rfl (guard_off rfl rfl rfl hg6507) rfl rfl ?_
    refine ops_off rfl (guard_off rfl rfl rfl hg6507) rfl rfl ?_
    refine ops_off rfl (guard_off rfl rfl rfl hg6507) rfl rfl ?_
    refine ops_off rfl (guard_off rfl rfl rfl hg6507) rfl rfl ?_
    have hg6508 : ((t6503 && (x0.fNeed == x1.fNeed)) && (x0.fAfter == x1.fAfter)) = false := by simp only [hg6507, Bool.and_true, Bool.true_and, Bool.and_false, Bool.false_and, Bool.or_true, Bool.true_or, Bool.or_false, Bool.false_or, Bool.not_true, Bool.not_false, Bool.not_not]
    refine ops_ex (v := .bool ((t6503 && (x0.fNeed == x1.fNeed)) && (x0.fAfter == x1.fAfter))) rfl (guard_none rfl) rfl rfl (ex_pand_f rfl rfl hg6507) ?_
    refine ox rfl rfl rfl rfl (ex_assign rfl rfl) ?_
    refine ops_nil ?_
    replace HM := (HM.front 0 rfl rfl).drop
    replace HM := (HM.front 0 rfl rfl).drop
    exact at_meet [(4, .bool ((t6503 && (x0.fNeed == x1.fNeed)) && (x0.fAfter == x1.fAfter)))] ⟨rfl, HM⟩ (Sub.cons rfl Sub.nil)
  ·skip
   refine ops_off rfl (guard_off rfl rfl rfl hg6506) rfl rfl ?_
   refine ops_off rfl (guard_off rfl rfl rfl hg6506) rfl rfl ?_
   refine ops_off rfl (guard_off rfl rfl rfl hg6506) rfl rfl ?_
   refine ops_off rfl (guard_off rfl rfl rfl hg6506) rfl rfl ?_
   refine ops_off rfl (guard_off rfl rfl rfl hg6506) rfl rfl ?_
   have hg6509 : (t6503 && (x0.fNeed == x1.fNeed)) = false := by simp only [hg6506, Bool.and_true, Bool.true_and, Bool.and_false, Bool.false_and, Bool.or_true, Bool.true_or, Bool.or_false, Bool.false_or, Bool.not_true, Bool.not_false, Bool.not_not]
   refine ops_ex (v := .bool (t6503 && (x0.fNeed == x1.fNeed))) rfl (guard_none rfl) rfl rfl (ex_pand_f rfl rfl hg6506) ?_
   refine ox rfl rfl rfl rfl (ex_move rfl rfl) ?_
   refine ops_off rfl (guard_off rfl rfl rfl hg6509) rfl rfl ?_
   refine ops_off rfl (guard_off rfl rfl rfl hg6509) rfl rfl ?_
   refine ops_off rfl (guard_off rfl rfl rfl hg6509) rfl rfl ?_
   refine ops_off rfl (guard_off rfl rfl rfl hg6509) rfl rfl ?_
   refine ops_off rfl (guard_off rfl rfl rfl hg6509) rfl rfl ?_
   have hg6510 : ((t6503 && (x0.fNeed == x1.fNeed)) && (x0.fAfter == x1.fAfter)) = false := by simp only [hg6509, Bool.and_true, Bool.true_and, Bool.and_false, Bool.false_and, Bool.or_true, Bool.true_or, Bool.or_false, Bool.false_or, Bool.not_true, Bool.not_false, Bool.not_not]
   refine ops_ex (v := .bool ((t6503 && (x0.fNeed == x1.fNeed)) && (x0.fAfter == x1.fAfter))) rfl (guard_none rfl) rfl rfl (ex_pand_f rfl rfl hg6509) ?_
   refine ox rfl rfl rfl rfl (ex_assign rfl rfl) ?_
   refine ops_nil ?_
   replace HM := (HM.front 0 rfl rfl).drop
   replace HM := (HM.front 0 rfl rfl).drop
   exact at_meet [(4, .bool ((t6503 && (x0.fNeed == x1.fNeed)) && (x0.fAfter == x1.fAfter)))] ⟨rfl, HM⟩ (Sub.cons rfl Sub.nil)
 ·rintro _ w6511 ⟨rfl, HM⟩
  refine at_then ?_
  refine run_ret ?_
  have hR := Option.some.inj H
  subst hR
  exact at_ret1 rfl rfl ⟨_, rfl, rfl, HM⟩

def impl_sameOuts.f (k : Nat) (x0 : Out) (x1 : Out) : Option Bool := ((bif (x0.fValue == x1.fValue) then impl_SameRules.f k x0.fRule x1.fRule else some default).bind fun t6522 => some ((x0.fValue == x1.fValue) && t6522))
theorem impl_sameOuts.calls {k : Nat} {x0 : Out} {x1 : Out} {p0_0 : Value} {p1_0 : Value} {w : World} (hp0_0 : RdS kInt w p0_0 x0.fRule.fKeys) (hp1_0 : RdS kInt w p1_0 x1.fRule.fKeys) {r : Bool} (H : impl_sameOuts.f k x0 x1 = some r) :
  Calls Try.prog 63 ([.agg #[(.int .i64 x0.fValue), p0_0, (.int .i64 x0.fRule.fNeed), (.int .i64 x0.fRule.fAfter)], .agg #[(.int .i64 x1.fValue), p1_0, (.int .i64 x1.fRule.fNeed), (.int .i64 x1.fRule.fAfter)]] : List Value).toArray w (fun e w_ => ∃ v, e = .returned v ∧ v = (.bool r) ∧ Mem w [] w_ []) := by
 have HM := Mem.start w
 refine calls_run (N := 17) Try.func63 rfl rfl rfl rfl ?_
 unfold impl_sameOuts.f at H
 refine run_seq ?_
 refine run_region rfl ?_
 refine od rfl rfl rfl rfl (does_box (cs := [.int .i64 x0.fValue, p0_0, .int .i64 x0.fRule.fNeed, .int .i64 x0.fRule.fAfter]) rfl rfl rfl HM) ?_
 rintro _ w6520 ⟨b6514, rfl, HM⟩
 refine od rfl rfl rfl rfl (does_box (cs := [.int .i64 x1.fValue, p1_0, .int .i64 x1.fRule.fNeed, .int .i64 x1.fRule.fAfter]) rfl rfl rfl HM) ?_
 rintro _ w6521 ⟨b6517, rfl, HM⟩
 refine ox rfl rfl rfl rfl (ex_assign rfl rfl) ?_
 refine ops_nil (at_then (run_seq ?_))
 obtain ⟨t6522, h6523, H⟩ := bind_some H
 refine run_meet (fun ρ_ w_ => ρ_ = [(4, .bool ((x0.fValue == x1.fValue) && t6522))] ∧ Mem w [] w_ []) ?_ ?_
 ·skip
  refine run_region rfl ?_
  refine ox rfl rfl rfl rfl (ex_fieldAddr (off' := 0) rfl rfl Try.underlying36 rfl tsz2 rfl) ?_
  refine ox rfl rfl rfl rfl (ex_load1 rfl rfl Try.underlying2 rfl ((HM.box_at 1 rfl) 0 _ rfl)) ?_
  refine ox rfl rfl rfl rfl (ex_fieldAddr (off' := 0) rfl rfl Try.underlying36 rfl tsz2 rfl) ?_
  refine ox rfl rfl rfl rfl (ex_load1 rfl rfl Try.underlying2 rfl ((HM.box_at 0 rfl) 0 _ rfl)) ?_
  refine ox rfl rfl rfl rfl (ex_eql rfl rfl rfl) ?_
  refine ox rfl rfl rfl rfl (ex_move rfl rfl) ?_
  refine bool_cases (x0.fValue == x1.fValue) (fun hg6524 => ?_) (fun hg6524 => ?_)
  ·skip
   refine ops_ex rfl (guard_on rfl rfl rfl hg6524) rfl rfl (ex_fieldAddr (off' := 1) rfl rfl Try.underlying36 rfl tsz34 rfl) ?_
   refine ops_ex rfl (guard_on rfl rfl rfl hg6524) rfl rfl (ex_loadN (cs := [p0_0, (.int .i64 x0.fRule.fNeed), (.int .i64 x0.fRule.fAfter)]) rfl rfl Try.underlying34 rfl tsz34 rfl ((HM.box_at 1 rfl).sub 1 3 rfl)) ?_
   refine ops_ex rfl (guard_on rfl rfl rfl hg6524) rfl rfl (ex_fieldAddr (off' := 1) rfl rfl Try.underlying36 rfl tsz34 rfl) ?_
   refine ops_ex rfl (guard_on rfl rfl rfl hg6524) rfl rfl (ex_loadN (cs := [p1_0, (.int .i64 x1.fRule.fNeed), (.int .i64 x1.fRule.fAfter)]) rfl rfl Try.underlying34 rfl tsz34 rfl ((HM.box_at 0 rfl).sub 1 3 rfl)) ?_
   refine ops_does rfl (guard_on rfl rfl rfl hg6524) rfl rfl (does_callk rfl callok74 rfl (impl_SameRules.calls (x0 := x0.fRule) (x1 := x1.fRule) (HM.rd hp0_0) (HM.rd hp1_0) (cond_t hg6524 h6523))) ?_
   rintro _ w6525 ⟨rfl, hn⟩
   replace HM : Mem w [] w6525 [box b6517 36 [.int .i64 x1.fValue, p1_0, .int .i64 x1.fRule.fNeed, .int .i64 x1.fRule.fAfter], box b6514 36 [.int .i64 x0.fValue, p0_0, .int .i64 x0.fRule.fNeed, .int .i64 x0.fRule.fAfter]] := HM.call hn
   refine ops_ex (v := .bool ((x0.fValue == x1.fValue) && t6522)) rfl (guard_none rfl) rfl rfl (ex_pand_t rfl rfl hg6524 rfl) ?_
   refine ox rfl rfl rfl rfl (ex_assign rfl rfl) ?_
   refine ops_nil ?_
   replace HM := (HM.front 0 rfl rfl).drop
   replace HM := (HM.front 0 rfl rfl).drop
   exact at_meet [(4, .bool ((x0.fValue == x1.fValue) && t6522))] ⟨rfl, HM⟩ (Sub.cons rfl Sub.nil)
  ·skip
   refine ops_off rfl (guard_off rfl rfl rfl hg6524) rfl rfl ?_
   refine ops_off rfl (guard_off rfl rfl rfl hg6524) rfl rfl ?_
   refine ops_off rfl (guard_off rfl rfl rfl hg6524) rfl rfl ?_
   refine ops_off rfl (guard_off rfl rfl rfl hg6524) rfl rfl ?_
   refine ops_off rfl (guard_off rfl rfl rfl hg6524) rfl rfl ?_
   have hg6526 : ((x0.fValue == x1.fValue) && t6522) = false := by simp only [hg6524, Bool.and_true, Bool.true_and, Bool.and_false, Bool.false_and, Bool.or_true, Bool.true_or, Bool.or_false, Bool.false_or, Bool.not_true, Bool.not_false, Bool.not_not]
   refine ops_ex (v := .bool ((x0.fValue == x1.fValue) && t6522)) rfl (guard_none rfl) rfl rfl (ex_pand_f rfl rfl hg6524) ?_
   refine ox rfl rfl rfl rfl (ex_assign rfl rfl) ?_
   refine ops_nil ?_
   replace HM := (HM.front 0 rfl rfl).drop
   replace HM := (HM.front 0 rfl rfl).drop
   exact at_meet [(4, .bool ((x0.fValue == x1.fValue) && t6522))] ⟨rfl, HM⟩ (Sub.cons rfl Sub.nil)
 ·rintro _ w6527 ⟨rfl, HM⟩
  refine at_then ?_
  refine run_ret ?_
  have hR := Option.some.inj H
  subst hR
  exact at_ret1 rfl rfl ⟨_, rfl, rfl, HM⟩

def impl_sameCoin.f (k : Nat) (x0 : Coin) (x1 : Coin) : Option Bool := ((bif ((x0.fRef.fTx == x1.fRef.fTx) && (x0.fRef.fAt == x1.fRef.fAt)) then impl_sameOuts.f k x0.fOut x1.fOut else some default).bind fun t6538 => some (((((x0.fRef.fTx == x1.fRef.fTx) && (x0.fRef.fAt == x1.fRef.fAt)) && t6538) && (x0.fHeight == x1.fHeight)) && (x0.fMined == x1.fMined)))
theorem impl_sameCoin.calls {k : Nat} {x0 : Coin} {x1 : Coin} {p0_0 : Value} {p1_0 : Value} {w : World} (hp0_0 : RdS kInt w p0_0 x0.fOut.fRule.fKeys) (hp1_0 : RdS kInt w p1_0 x1.fOut.fRule.fKeys) {r : Bool} (H : impl_sameCoin.f k x0 x1 = some r) :
  Calls Try.prog 40 ([.agg #[(.int .i64 x0.fRef.fTx), (.int .i64 x0.fRef.fAt), (.int .i64 x0.fOut.fValue), p0_0, (.int .i64 x0.fOut.fRule.fNeed), (.int .i64 x0.fOut.fRule.fAfter), (.int .i64 x0.fHeight), (.bool x0.fMined)], .agg #[(.int .i64 x1.fRef.fTx), (.int .i64 x1.fRef.fAt), (.int .i64 x1.fOut.fValue), p1_0, (.int .i64 x1.fOut.fRule.fNeed), (.int .i64 x1.fOut.fRule.fAfter), (.int .i64 x1.fHeight), (.bool x1.fMined)]] : List Value).toArray w (fun e w_ => ∃ v, e = .returned v ∧ v = (.bool r) ∧ Mem w [] w_ []) := by
 have HM := Mem.start w
 refine calls_run (N := 31) Try.func40 rfl rfl rfl rfl ?_
 unfold impl_sameCoin.f at H
 refine run_seq ?_
 refine run_region rfl ?_
 refine od rfl rfl rfl rfl (does_box (cs := [.int .i64 x0.fRef.fTx, .int .i64 x0.fRef.fAt, .int .i64 x0.fOut.fValue, p0_0, .int .i64 x0.fOut.fRule.fNeed, .int .i64 x0.fOut.fRule.fAfter, .int .i64 x0.fHeight, .bool x0.fMined]) rfl rfl rfl HM) ?_
 rintro _ w6536 ⟨b6530, rfl, HM⟩
 refine od rfl rfl rfl rfl (does_box (cs := [.int .i64 x1.fRef.fTx, .int .i64 x1.fRef.fAt, .int .i64 x1.fOut.fValue, p1_0, .int .i64 x1.fOut.fRule.fNeed, .int .i64 x1.fOut.fRule.fAfter, .int .i64 x1.fHeight, .bool x1.fMined]) rfl rfl rfl HM) ?_
 rintro _ w6537 ⟨b6533, rfl, HM⟩
 refine ox rfl rfl rfl rfl (ex_assign rfl rfl) ?_
 refine ops_nil (at_then (run_seq ?_))
 obtain ⟨t6538, h6539, H⟩ := bind_some H
 refine run_meet (fun ρ_ w_ => ρ_ = [(4, .bool (((((x0.fRef.fTx == x1.fRef.fTx) && (x0.fRef.fAt == x1.fRef.fAt)) && t6538) && (x0.fHeight == x1.fHeight)) && (x0.fMined == x1.fMined)))] ∧ Mem w [] w_ []) ?_ ?_
 ·skip
  refine run_region rfl ?_
  refine ox rfl rfl rfl rfl (ex_fieldAddr (off' := 0) rfl rfl Try.underlying41 rfl tsz38 rfl) ?_
  refine ox rfl rfl rfl rfl (ex_loadN (cs := [(.int .i64 x0.fRef.fTx), (.int .i64 x0.fRef.fAt)]) rfl rfl Try.underlying38 rfl tsz38 rfl ((HM.box_at 1 rfl).sub 0 2 rfl)) ?_
  refine ox rfl rfl rfl rfl (ex_fieldAddr (off' := 0) rfl rfl Try.underlying41 rfl tsz38 rfl) ?_
  refine ox rfl rfl rfl rfl (ex_loadN (cs := [(.int .i64 x1.fRef.fTx), (.int .i64 x1.fRef.fAt)]) rfl rfl Try.underlying38 rfl tsz38 rfl ((HM.box_at 0 rfl).sub 0 2 rfl)) ?_
  refine ox rfl rfl rfl rfl (ex_aeql rfl rfl rfl (by kernel_rfl) (eqs38 _ _ _ _ _)) ?_
  refine ox rfl rfl rfl rfl (ex_move rfl rfl) ?_
  refine bool_cases ((x0.fRef.fTx == x1.fRef.fTx) && (x0.fRef.fAt == x1.fRef.fAt)) (fun hg6540 => ?_) (fun hg6540 => ?_)
  ·skip
   refine ops_ex rfl (guard_on rfl rfl rfl hg6540) rfl rfl (ex_fieldAddr (off' := 2) rfl rfl Try.underlying41 rfl tsz36 rfl) ?_
   refine ops_ex rfl (guard_on rfl rfl rfl hg6540) rfl rfl (ex_loadN (cs := [(.int .i64 x0.fOut.fValue), p0_0, (.int .i64 x0.fOut.fRule.fNeed), (.int .i64 x0.fOut.fRule.fAfter)]) rfl rfl Try.underlying36 rfl tsz36 rfl ((HM.box_at 1 rfl).sub 2 4 rfl)) ?_
   refine ops_ex rfl (guard_on rfl rfl rfl hg6540) rfl rfl (ex_fieldAddr (off' := 2) rfl rfl Try.underlying41 rfl tsz36 rfl) ?_
   refine ops_ex rfl (guard_on rfl rfl rfl hg6540) rfl rfl (ex_loadN (cs := [(.int .i64 x1.fOut.fValue), p1_0, (.int .i64 x1.fOut.fRule.fNeed), (.int .i64 x1.fOut.fRule.fAfter)]) rfl rfl Try.underlying36 rfl tsz36 rfl ((HM.box_at 0 rfl).sub 2 4 rfl)) ?_
   refine ops_does rfl (guard_on rfl rfl rfl hg6540) rfl rfl (does_callk rfl callok63 rfl (impl_sameOuts.calls (x0 := x0.fOut) (x1 := x1.fOut) (HM.rd hp0_0) (HM.rd hp1_0) (cond_t hg6540 h6539))) ?_
   rintro _ w6541 ⟨rfl, hn⟩
   replace HM : Mem w [] w6541 [box b6533 41 [.int .i64 x1.fRef.fTx, .int .i64 x1.fRef.fAt, .int .i64 x1.fOut.fValue, p1_0, .int .i64 x1.fOut.fRule.fNeed, .int .i64 x1.fOut.fRule.fAfter, .int .i64 x1.fHeight, .bool x1.fMined], box b6530 41 [.int .i64 x0.fRef.fTx, .int .i64 x0.fRef.fAt, .int .i64 x0.fOut.fValue, p0_0, .int .i64 x0.fOut.fRule.fNeed, .int .i64 x0.fOut.fRule.fAfter, .int .i64 x0.fHeight, .bool x0.fMined]] := HM.call hn
   refine ops_ex (v := .bool (((x0.fRef.fTx == x1.fRef.fTx) && (x0.fRef.fAt == x1.fRef.fAt)) && t6538)) rfl (guard_none rfl) rfl rfl (ex_pand_t rfl rfl hg6540 rfl) ?_
   refine ox rfl rfl rfl rfl (ex_move rfl rfl) ?_
   refine bool_cases (((x0.fRef.fTx == x1.fRef.fTx) && (x0.fRef.fAt == x1.fRef.fAt)) && t6538) (fun hg6542 => ?_) (fun hg6542 => ?_)
   ·skip
    refine ops_ex rfl (guard_on rfl rfl rfl hg6542) rfl rfl (ex_fieldAddr (off' := 6) rfl rfl Try.underlying41 rfl tsz2 rfl) ?_
    refine ops_ex rfl (guard_on rfl rfl rfl hg6542) rfl rfl (ex_load1 rfl rfl Try.underlying2 rfl ((HM.box_at 1 rfl) 6 _ rfl)) ?_
    refine ops_ex rfl (guard_on rfl rfl rfl hg6542) rfl rfl (ex_fieldAddr (off' := 6) rfl rfl Try.underlying41 rfl tsz2 rfl) ?_
    refine ops_ex rfl (guard_on rfl rfl rfl hg6542) rfl rfl (ex_load1 rfl rfl Try.underlying2 rfl ((HM.box_at 0 rfl) 6 _ rfl)) ?_
    refine ops_ex rfl (guard_on rfl rfl rfl hg6542) rfl rfl (ex_eql rfl rfl rfl) ?_
    refine ops_ex (v := .bool ((((x0.fRef.fTx == x1.fRef.fTx) && (x0.fRef.fAt == x1.fRef.fAt)) && t6538) && (x0.fHeight == x1.fHeight))) rfl (guard_none rfl) rfl rfl (ex_pand_t rfl rfl hg6542 rfl) ?_
    refine ox rfl rfl rfl rfl (ex_move rfl rfl) ?_
    refine bool_cases ((((x0.fRef.fTx == x1.fRef.fTx) && (x0.fRef.fAt == x1.fRef.fAt)) && t6538) && (x0.fHeight == x1.fHeight)) (fun hg6543 => ?_) (fun hg6543 => ?_)
    ·skip
     refine ops_ex rfl (guard_on rfl rfl rfl hg6543) rfl rfl (ex_fieldAddr (off' := 7) rfl rfl Try.underlying41 rfl tsz4 rfl) ?_
     refine ops_ex rfl (guard_on rfl rfl rfl hg6543) rfl rfl (ex_load1 rfl rfl Try.underlying4 rfl ((HM.box_at 1 rfl) 7 _ rfl)) ?_
     refine ops_ex rfl (guard_on rfl rfl rfl hg6543) rfl rfl (ex_fieldAddr (off' := 7) rfl rfl Try.underlying41 rfl tsz4 rfl) ?_
     refine ops_ex rfl (guard_on rfl rfl rfl hg6543) rfl rfl (ex_load1 rfl rfl Try.underlying4 rfl ((HM.box_at 0 rfl) 7 _ rfl)) ?_
     refine ops_ex rfl (guard_on rfl rfl rfl hg6543) rfl rfl (ex_beql rfl rfl rfl Try.underlying4) ?_
     refine ops_ex (v := .bool (((((x0.fRef.fTx == x1.fRef.fTx) && (x0.fRef.fAt == x1.fRef.fAt)) && t6538) && (x0.fHeight == x1.fHeight)) && (x0.fMined == x1.fMined))) rfl (guard_none rfl) rfl rfl (ex_pand_t rfl rfl hg6543 rfl) ?_
     refine ox rfl rfl rfl rfl (ex_assign rfl rfl) ?_
     refine ops_nil ?_
     replace HM := (HM.front 0 rfl rfl).drop
     replace HM := (HM.front 0 rfl rfl).drop
     exact at_meet [(4, .bool (((((x0.fRef.fTx == x1.fRef.fTx) && (x0.fRef.fAt == x1.fRef.fAt)) && t6538) && (x0.fHeight == x1.fHeight)) && (x0.fMined == x1.fMined)))] ⟨rfl, HM⟩ (Sub.cons rfl Sub.nil)
    ·skip
     refine ops_off rfl (guard_off rfl rfl rfl hg6543) rfl rfl ?_
     refine ops_off rfl (guard_off rfl rfl rfl hg6543) rfl rfl ?_
     refine ops_off rfl (guard_off rfl rfl rfl hg6543) rfl rfl ?_
     refine ops_off rfl (guard_off rfl rfl rfl hg6543) rfl rfl ?_
     refine ops_off rfl (guard_off rfl rfl rfl hg6543) rfl rfl ?_
     have hg6544 : (((((x0.fRef.fTx == x1.fRef.fTx) && (x0.fRef.fAt == x1.fRef.fAt)) && t6538) && (x0.fHeight == x1.fHeight)) && (x0.fMined == x1.fMined)) = false := by simp only [hg6543, Bool.and_true, Bool.true_and, Bool.and_false, Bool.false_and, Bool.or_true, Bool.true_or, Bool.or_false, Bool.false_or, Bool.not_true, Bool.not_false, Bool.not_not]
     refine ops_ex (v := .bool (((((x0.fRef.fTx == x1.fRef.fTx) && (x0.fRef.fAt == x1.fRef.fAt)) && t6538) && (x0.fHeight == x1.fHeight)) && (x0.fMined == x1.fMined))) rfl (guard_none rfl) rfl rfl (ex_pand_f rfl rfl hg6543) ?_
     refine ox rfl rfl rfl rfl (ex_assign rfl rfl) ?_
     refine ops_nil ?_
     replace HM := (HM.front 0 rfl rfl).drop
     replace HM := (HM.front 0 rfl rfl).drop
     exact at_meet [(4, .bool (((((x0.fRef.fTx == x1.fRef.fTx) && (x0.fRef.fAt == x1.fRef.fAt)) && t6538) && (x0.fHeight == x1.fHeight)) && (x0.fMined == x1.fMined)))] ⟨rfl, HM⟩ (Sub.cons rfl Sub.nil)
   ·skip
    refine ops_off rfl (guard_off rfl rfl rfl hg6542) rfl rfl ?_
    refine ops_off rfl (guard_off rfl rfl rfl hg6542) rfl rfl ?_
    refine ops_off rfl (guard_off rfl rfl rfl hg6542) rfl rfl ?_
    refine ops_off rfl (guard_off rfl rfl rfl hg6542) rfl rfl ?_
    refine ops_off rfl (guard_off rfl rfl rfl hg6542) rfl rfl ?_
    have hg6545 : ((((x0.fRef.fTx == x1.fRef.fTx) && (x0.fRef.fAt == x1.fRef.fAt)) && t6538) && (x0.fHeight == x1.fHeight)) = false := by simp only [hg6542, Bool.and_true, Bool.true_and, Bool.and_false, Bool.false_and, Bool.or_true, Bool.true_or, Bool.or_false, Bool.false_or, Bool.not_true, Bool.not_false, Bool.not_not]
    refine ops_ex (v := .bool ((((x0.fRef.fTx == x1.fRef.fTx) && (x0.fRef.fAt == x1.fRef.fAt)) && t6538) && (x0.fHeight == x1.fHeight))) rfl (guard_none rfl) rfl rfl (ex_pand_f rfl rfl hg6542) ?_
    refine ox rfl rfl rfl rfl (ex_move rfl rfl) ?_
    refine ops_off rfl (guard_off rfl rfl rfl hg6545) rfl rfl ?_
    refine ops_off rfl (guard_off rfl rfl rfl hg6545) rfl rfl ?_
    refine ops_off rfl (guard_off rfl rfl rfl hg6545) rfl rfl ?_
    refine ops_off rfl (guard_off rfl rfl rfl hg6545) rfl rfl ?_
    refine ops_off rfl (guard_off rfl rfl rfl hg6545) rfl rfl ?_
    have hg6546 : (((((x0.fRef.fTx == x1.fRef.fTx) && (x0.fRef.fAt == x1.fRef.fAt)) && t6538) && (x0.fHeight == x1.fHeight)) && (x0.fMined == x1.fMined)) = false := by simp only [hg6545, Bool.and_true, Bool.true_and, Bool.and_false, Bool.false_and, Bool.or_true, Bool.true_or, Bool.or_false, Bool.false_or, Bool.not_true, Bool.not_false, Bool.not_not]
    refine ops_ex (v := .bool (((((x0.fRef.fTx == x1.fRef.fTx) && (x0.fRef.fAt == x1.fRef.fAt)) && t6538) && (x0.fHeight == x1.fHeight)) && (x0.fMined == x1.fMined))) rfl (guard_none rfl) rfl rfl (ex_pand_f rfl rfl hg6545) ?_
    refine ox rfl rfl rfl rfl (ex_assign rfl rfl) ?_
    refine ops_nil ?_
    replace HM := (HM.front 0 rfl rfl).drop
    replace HM := (HM.front 0 rfl rfl).drop
    exact at_meet [(4, .bool (((((x0.fRef.fTx == x1.fRef.fTx) && (x0.fRef.fAt == x1.fRef.fAt)) && t6538) && (x0.fHeight == x1.fHeight)) && (x0.fMined == x1.fMined)))] ⟨rfl, HM⟩ (Sub.cons rfl Sub.nil)
  ·skip
   refine ops_off rfl (guard_off rfl rfl rfl hg6540) rfl rfl ?_
   refine ops_off rfl (guard_off rfl rfl rfl hg6540) rfl rfl ?_
   refine ops_off rfl (guard_off rfl rfl rfl hg6540) rfl rfl ?_
   refine ops_off rfl (guard_off rfl rfl rfl hg6540) rfl rfl ?_
   refine ops_off rfl (guard_off rfl rfl rfl hg6540) rfl rfl ?_
   have hg6547 : (((x0.fRef.fTx == x1.fRef.fTx) && (x0.fRef.fAt == x1.fRef.fAt)) && t6538) = false := by simp only [hg6540, Bool.and_true, Bool.true_and, Bool.and_false, Bool.false_and, Bool.or_true, Bool.true_or, Bool.or_false, Bool.false_or, Bool.not_true, Bool.not_false, Bool.not_not]
   refine ops_ex (v := .bool (((x0.fRef.fTx == x1.fRef.fTx) && (x0.fRef.fAt == x1.fRef.fAt)) && t6538)) rfl (guard_none rfl) rfl rfl (ex_pand_f rfl rfl hg6540) ?_
   refine ox rfl rfl rfl rfl (ex_move rfl rfl) ?_
   refine ops_off rfl (guard_off rfl rfl rfl hg6547) rfl rfl ?_
   refine ops_off rfl (guard_off rfl rfl rfl hg6547) rfl rfl ?_
   refine ops_off rfl (guard_off rfl rfl rfl hg6547) rfl rfl ?_
   refine ops_off rfl (guard_off rfl rfl rfl hg6547) rfl rfl ?_
   refine ops_off rfl (guard_off rfl rfl rfl hg6547) rfl rfl ?_
   have hg6548 : ((((x0.fRef.fTx == x1.fRef.fTx) && (x0.fRef.fAt == x1.fRef.fAt)) && t6538) && (x0.fHeight == x1.fHeight)) = false := by simp only [hg6547, Bool.and_true, Bool.true_and, Bool.and_false, Bool.false_and, Bool.or_true, Bool.true_or, Bool.or_false, Bool.false_or, Bool.not_true, Bool.not_false, Bool.not_not]
   refine ops_ex (v := .bool ((((x0.fRef.fTx == x1.fRef.fTx) && (x0.fRef.fAt == x1.fRef.fAt)) && t6538) && (x0.fHeight == x1.fHeight))) rfl (guard_none rfl) rfl rfl (ex_pand_f rfl rfl hg6547) ?_
   refine ox rfl rfl rfl rfl (ex_move rfl rfl) ?_
   refine ops_off rfl (guard_off rfl rfl rfl hg6548) rfl rfl ?_
   refine ops_off rfl (guard_off rfl rfl rfl hg6548) rfl rfl ?_
   refine ops_off rfl (guard_off rfl rfl rfl hg6548) rfl rfl ?_
   refine ops_off rfl (guard_off rfl rfl rfl hg6548) rfl rfl ?_
   refine ops_off rfl (guard_off rfl rfl rfl hg6548) rfl rfl ?_
   have hg6549 : (((((x0.fRef.fTx == x1.fRef.fTx) && (x0.fRef.fAt == x1.fRef.fAt)) && t6538) && (x0.fHeight == x1.fHeight)) && (x0.fMined == x1.fMined)) = false := by simp only [hg6548, Bool.and_true, Bool.true_and, Bool.and_false, Bool.false_and, Bool.or_true, Bool.true_or, Bool.or_false, Bool.false_or, Bool.not_true, Bool.not_false, Bool.not_not]
   refine ops_ex (v := .bool (((((x0.fRef.fTx == x1.fRef.fTx) && (x0.fRef.fAt == x1.fRef.fAt)) && t6538) && (x0.fHeight == x1.fHeight)) && (x0.fMined == x1.fMined))) rfl (guard_none rfl) rfl rfl (ex_pand_f rfl rfl hg6548) ?_
   refine ox rfl rfl rfl rfl (ex_assign rfl rfl) ?_
   refine ops_nil ?_
   replace HM := (HM.front 0 rfl rfl).drop
   replace HM := (HM.front 0 rfl rfl).drop
   exact at_meet [(4, .bool (((((x0.fRef.fTx == x1.fRef.fTx) && (x0.fRef.fAt == x1.fRef.fAt)) && t6538) && (x0.fHeight == x1.fHeight)) && (x0.fMined == x1.fMined)))] ⟨rfl, HM⟩ (Sub.cons rfl Sub.nil)
 ·rintro _ w6550 ⟨rfl, HM⟩
  refine at_then ?_
  refine run_ret ?_
  have hR := Option.some.inj H
  subst hR
  exact at_ret1 rfl rfl ⟨_, rfl, rfl, HM⟩
end Go.Proofs.Ytecgbhfgkkpmhaa.Zk
