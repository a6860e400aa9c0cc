/- What functions of the program compute, each as a plain function, and that they do. Conditions: as each theorem states them. -/
import Derived.Test.YtpfaihnmonfkhaaGreatDoorCheckTxZkF10
namespace Go.Proofs.YtpfaihnmonfkhaaGreatDoor.Zk
open Go Go.RowKit Go.IntWalk Go.Proofs
set_option linter.unusedVariables false
set_option linter.unusedSimpArgs false
set_option maxRecDepth 100000
set_option maxHeartbeats 4000000
def impl_sumOf.l0 (x0 : List Coin) : Nat → Int → Int → Option Int
 | 0, _, _ => none
 | k + 1, a8276, a8277 => (bif (decide (a8277 < (x0.length : Int))) then (chk (idxOk a8277 x0.length) (impl_sumOf.l0 x0 k (wrap64 (a8276 + ((gt x0 a8277).fOut.fValue))) (wrap64 (a8277 + 1)))) else some a8276)
theorem impl_sumOf.l0_z (x0 : List Coin) (a8276 : Int) (a8277 : Int) : impl_sumOf.l0 x0 0 a8276 a8277 = none := rfl
theorem impl_sumOf.l0_s (x0 : List Coin) (k : Nat) (a8276 : Int) (a8277 : Int) : impl_sumOf.l0 x0 (k + 1) a8276 a8277 = (bif (decide (a8277 < (x0.length : Int))) then (chk (idxOk a8277 x0.length) (impl_sumOf.l0 x0 k (wrap64 (a8276 + ((gt x0 a8277).fOut.fValue))) (wrap64 (a8277 + 1)))) else some a8276) := rfl
def impl_sumOf.f (k : Nat) (x0 : List Coin) : Option Int := ((impl_sumOf.l0 x0 k 0 0).bind (fun a8265 => some a8265))
theorem impl_sumOf.calls {k : Nat} {x0 : List Coin} {p0 : Value} {w : World} (hp0 : RdS kCoin w p0 x0) {r : Int} (H : impl_sumOf.f k x0 = some r) :
  Calls Tryz.prog 78 ([p0] : List Value).toArray w (fun e w_ => ∃ v, e = .returned v ∧ v = (.int .i64 r) ∧ Mem w [] w_ []) := by
 have HM := Mem.start w
 refine calls_run (N := 19) Tryz.func78 rfl rfl rfl rfl ?_
 unfold impl_sumOf.f at H
 refine run_seq ?_
 refine run_region rfl ?_
 refine ox rfl rfl rfl rfl (ex_assign rfl rfl) ?_
 refine ops_nil (at_then (run_seq ?_))
 refine run_region rfl ?_
 refine ox rfl rfl rfl rfl (ex_assign rfl rfl) ?_
 refine ops_nil (at_then ?_)
 obtain ⟨o8266, ho8267, H⟩ := bind_some H
 refine run_mid (fun ρ_ w_ => ∃ a8265 : Int, a8265 = o8266 ∧ ρ_ = [(3, .int .i64 a8265)] ∧ Mem w [] w_ []) ?_ ?_
 ·clear H
  refine run_seq ?_
  refine run_region rfl ?_
  refine ox rfl rfl rfl rfl (ex_move rfl rfl) ?_
  refine ox rfl rfl rfl rfl (ex_len (d := kCoin) (xs := x0) rfl rfl Tryz.underlying41 hp0) ?_
  refine ox rfl rfl rfl rfl (ex_move rfl rfl) ?_
  refine ops_nil (at_then ?_)
  refine run_block ?_
  refine run_loop (fun k_ ρ_ w_ => ∃ a8276 : Int, ∃ a8277 : Int, impl_sumOf.l0 x0 k_ a8276 a8277 = some o8266 ∧ ρ_ = [(3, .int .i64 a8276), (6, p0), (7, .int .i64 (x0.length : Int)), (8, .int .i64 a8277)] ∧ Mem w [] w_ []) k (ρ1 := [(3, .int .i64 0), (6, p0), (7, .int .i64 (x0.length : Int)), (8, .int .i64 0)]) ⟨_, _, ho8267, rfl, HM⟩ (Sub.cons rfl (Sub.cons rfl (Sub.cons rfl (Sub.cons rfl Sub.nil)))) ?_
  clear HM ho8267
  rintro k8286 _ w8287 ⟨a8276, a8277, ho8267, rfl, HM⟩
  obtain _ | k8286 := k8286
  ·exact nomatch ((impl_sumOf.l0_z x0 a8276 a8277).symm.trans ho8267)
  replace ho8267 := (impl_sumOf.l0_s x0 k8286 a8276 a8277).symm.trans ho8267
  refine run_seq ?_
  refine run_region rfl ?_
  refine ox rfl rfl rfl rfl (ex_lss rfl rfl rfl) ?_
  refine ops_nil (at_then (run_seq ?_))
  refine run_cond (b := (decide (a8277 < (x0.length : Int)))) rfl (fun hb8288 => ?_) (fun hb8288 => ?_)
  ·replace ho8267 := cond_t hb8288 ho8267
   refine run_skip ?_
   refine at_then ?_
   refine run_seq ?_
   refine run_block ?_
   refine run_seq ?_
   obtain ⟨e8289, ho8267⟩ := chk_some ho8267
   refine run_region rfl ?_
   obtain ⟨kv8291, hc8290, hk8292⟩ : ∃ u, CellsAt _ (sb p0) (so p0 + (a8277).toNat * 8) [(.int .i64 ((gt x0 a8277).fRef.fTx)), (.int .i64 ((gt x0 a8277).fRef.fAt)), (.int .i64 ((gt x0 a8277).fOut.fValue)), u, (.int .i64 ((gt x0 a8277).fOut.fRule.fNeed)), (.int .i64 ((gt x0 a8277).fOut.fRule.fAfter)), (.int .i64 ((gt x0 a8277).fHeight)), (.bool ((gt x0 a8277).fMined))] ∧ RdS kInt _ u ((gt x0 a8277).fOut.fRule.fKeys) := rd_with1 hp0 e8289
   refine ox rfl rfl rfl rfl (ex_indexAddr (d := kCoin) rfl rfl rfl Tryz.underlying41 tsz86 hp0 (idx_lo e8289) (idx_hi e8289)) ?_
   refine ox rfl rfl rfl rfl (ex_loadN (cs := [(.int .i64 ((gt x0 a8277).fRef.fTx)), (.int .i64 ((gt x0 a8277).fRef.fAt)), (.int .i64 ((gt x0 a8277).fOut.fValue)), kv8291, (.int .i64 ((gt x0 a8277).fOut.fRule.fNeed)), (.int .i64 ((gt x0 a8277).fOut.fRule.fAfter)), (.int .i64 ((gt x0 a8277).fHeight)), (.bool ((gt x0 a8277).fMined))]) rfl rfl Tryz.underlying86 rfl tsz86 rfl ((HM.at_ hc8290).sub 0 8 rfl)) ?_
   refine od rfl rfl rfl rfl (does_alloc (cs := [.int .i64 0, .int .i64 0, .int .i64 0, .slice none 0 0, .int .i64 0, .int .i64 0, .int .i64 0, .bool false]) rfl tz86 rfl HM) ?_
   rintro _ w8296 ⟨b8293, rfl, HM⟩
   refine odS rfl rfl rfl (does_store (vs := [.int .i64 ((gt x0 a8277).fRef.fTx), .int .i64 ((gt x0 a8277).fRef.fAt), .int .i64 ((gt x0 a8277).fOut.fValue), kv8291, .int .i64 ((gt x0 a8277).fOut.fRule.fNeed), .int .i64 ((gt x0 a8277).fOut.fRule.fAfter), .int .i64 ((gt x0 a8277).fHeight), .bool ((gt x0 a8277).fMined)]) (cs' := [.int .i64 ((gt x0 a8277).fRef.fTx), .int .i64 ((gt x0 a8277).fRef.fAt), .int .i64 ((gt x0 a8277).fOut.fValue), kv8291, .int .i64 ((gt x0 a8277).fOut.fRule.fNeed), .int .i64 ((gt x0 a8277).fOut.fRule.fAfter), .int .i64 ((gt x0 a8277).fHeight), .bool ((gt x0 a8277).fMined)]) rfl rfl rfl rfl tsz86 (Ones.int (Ones.int (Ones.int (Ones.rd hk8292 (Ones.int (Ones.int (Ones.int (Ones.bool Ones.nil)))))))) rfl rfl HM) ?_
   rintro w8297 HM
   refine ops_nil (at_then ?_)
   refine run_region rfl ?_
   refine ox rfl rfl rfl rfl (ex_move rfl rfl) ?_
   refine ox rfl rfl rfl rfl (ex_fieldAddr (off' := 2) rfl rfl Tryz.underlying86 rfl tsz84 rfl) ?_
   refine ox rfl rfl rfl rfl (ex_fieldAddr (off' := 2) rfl rfl Tryz.underlying84 rfl tsz2 rfl) ?_
   refine ox rfl rfl rfl rfl (ex_load1 rfl rfl Tryz.underlying2 rfl ((HM.box_at 0 rfl) 2 _ rfl)) ?_
   refine ox rfl rfl rfl rfl (ex_add rfl rfl rfl) ?_
   refine ox rfl rfl rfl rfl (ex_assign rfl rfl) ?_
   refine ops_nil ?_
   refine at_block ?_
   refine at_then ?_
   refine run_region rfl ?_
   refine ox rfl rfl rfl rfl (ex_add rfl rfl rfl) ?_
   refine ox rfl rfl rfl rfl (ex_move rfl rfl) ?_
   refine ops_nil ?_
   replace HM := (HM.front 0 rfl rfl).drop
   exact at_again k8286 (ρ1 := [(3, .int .i64 (wrap64 (a8276 + ((gt x0 a8277).fOut.fValue)))), (6, p0), (7, .int .i64 (x0.length : Int)), (8, .int .i64 (wrap64 (a8277 + 1)))]) (Nat.lt_succ_self _) ⟨_, _, ho8267, rfl, HM⟩ (Sub.cons rfl (Sub.cons rfl (Sub.cons rfl (Sub.cons rfl Sub.nil))))
  ·replace ho8267 := cond_f hb8288 ho8267
   refine run_exit ?_
   refine at_then_exit ?_
   refine at_then_exit ?_
   refine at_block_exit ?_
   exact at_mid (ρ' := [(3, .int .i64 a8276)]) ⟨_, (Option.some.inj ho8267), rfl, HM⟩ (Sub.cons rfl Sub.nil)
 ·rintro _ w8298 ⟨a8265, rfl, rfl, HM⟩
  refine run_seq ?_
  refine run_region rfl ?_
  refine ox rfl rfl rfl rfl (ex_move rfl rfl) ?_
  refine ox rfl rfl rfl rfl (ex_assign rfl rfl) ?_
  refine ops_nil (at_then ?_)
  refine run_ret ?_
  have hR := Option.some.inj H
  subst hR
  exact at_ret1 rfl rfl ⟨_, rfl, rfl, HM⟩

def impl_outSum.l0 (x0 : Tx) : Nat → Int → Int → Option Int
 | 0, _, _ => none
 | k + 1, a8374, a8375 => (bif (decide (a8375 < (x0.fOuts.length : Int))) then (chk (idxOk a8375 x0.fOuts.length) (impl_outSum.l0 x0 k (wrap64 (a8374 + ((gt x0.fOuts a8375).fValue))) (wrap64 (a8375 + 1)))) else some a8374)
theorem impl_outSum.l0_z (x0 : Tx) (a8374 : Int) (a8375 : Int) : impl_outSum.l0 x0 0 a8374 a8375 = none := rfl
theorem impl_outSum.l0_s (x0 : Tx) (k : Nat) (a8374 : Int) (a8375 : Int) : impl_outSum.l0 x0 (k + 1) a8374 a8375 = (bif (decide (a8375 < (x0.fOuts.length : Int))) then (chk (idxOk a8375 x0.fOuts.length) (impl_outSum.l0 x0 k (wrap64 (a8374 + ((gt x0.fOuts a8375).fValue))) (wrap64 (a8375 + 1)))) else some a8374) := rfl
def impl_outSum.f (k : Nat) (x0 : Tx) : Option Int := ((impl_outSum.l0 x0 k 0 0).bind (fun a8363 => some a8363))
theorem impl_outSum.calls {k : Nat} {x0 : Tx} {p0_0 : Value} {p0_1 : Value} {w : World} (hp0_0 : RdS kRef w p0_0 x0.fIns) (hp0_1 : RdS kOut w p0_1 x0.fOuts) {r : Int} (H : impl_outSum.f k x0 = some r) :
  Calls Tryz.prog 79 ([.agg #[(.int .i64 x0.fKind), (.int .i64 x0.fMember), p0_0, p0_1]] : List Value).toArray w (fun e w_ => ∃ v, e = .returned v ∧ v = (.int .i64 r) ∧ Mem w [] w_ []) := by
 have HM := Mem.start w
 refine calls_run (N := 19) Tryz.func79 rfl rfl rfl rfl ?_
 unfold impl_outSum.f at H
 refine run_seq ?_
 refine run_region rfl ?_
 refine od rfl rfl rfl rfl (does_box (cs := [.int .i64 x0.fKind, .int .i64 x0.fMember, p0_0, p0_1]) rfl rfl rfl HM) ?_
 rintro _ w8336 ⟨b8333, rfl, HM⟩
 refine ox rfl rfl rfl rfl (ex_assign rfl rfl) ?_
 refine ops_nil (at_then (run_seq ?_))
 refine run_region rfl ?_
 refine ox rfl rfl rfl rfl (ex_assign rfl rfl) ?_
 refine ops_nil (at_then ?_)
 obtain ⟨o8364, ho8365, H⟩ := bind_some H
 refine run_mid (fun ρ_ w_ => ∃ a8363 : Int, a8363 = o8364 ∧ ρ_ = [(3, .int .i64 a8363)] ∧ Mem w [] w_ []) ?_ ?_
 ·clear H
  refine run_seq ?_
  refine run_region rfl ?_
  refine ox rfl rfl rfl rfl (ex_fieldAddr (off' := 3) rfl rfl Tryz.underlying46 rfl tsz44 rfl) ?_
  refine ox rfl rfl rfl rfl (ex_load1 rfl rfl Tryz.underlying44 rfl ((HM.box_at 0 rfl) 3 _ rfl)) ?_
  refine ox rfl rfl rfl rfl (ex_len (d := kOut) (xs := x0.fOuts) rfl rfl Tryz.underlying44 hp0_1) ?_
  refine ox rfl rfl rfl rfl (ex_move rfl rfl) ?_
  refine ops_nil (at_then ?_)
  refine run_block ?_
  replace HM := (HM.front 0 rfl rfl).drop
  refine run_loop (fun k_ ρ_ w_ => ∃ a8374 : Int, ∃ a8375 : Int, impl_outSum.l0 x0 k_ a8374 a8375 = some o8364 ∧ ρ_ = [(3, .int .i64 a8374), (7, p0_1), (8, .int .i64 (x0.fOuts.length : Int)), (9, .int .i64 a8375)] ∧ Mem w [] w_ []) k (ρ1 := [(3, .int .i64 0), (7, p0_1), (8, .int .i64 (x0.fOuts.length : Int)), (9, .int .i64 0)]) ⟨_, _, ho8365, rfl, HM⟩ (Sub.cons rfl (Sub.cons rfl (Sub.cons rfl (Sub.cons rfl Sub.nil)))) ?_
  clear HM ho8365
  rintro k8384 _ w8385 ⟨a8374, a8375, ho8365, rfl, HM⟩
  obtain _ | k8384 := k8384
  ·exact nomatch ((impl_outSum.l0_z x0 a8374 a8375).symm.trans ho8365)
  replace ho8365 := (impl_outSum.l0_s x0 k8384 a8374 a8375).symm.trans ho8365
  refine run_seq ?_
  refine run_region rfl ?_
  refine ox rfl rfl rfl rfl (ex_lss rfl rfl rfl) ?_
  refine ops_nil (at_then (run_seq ?_))
  refine run_cond (b := (decide (a8375 < (x0.fOuts.length : Int)))) rfl (fun hb8386 => ?_) (fun hb8386 => ?_)
  ·replace ho8365 := cond_t hb8386 ho8365
   refine run_skip ?_
   refine at_then ?_
   refine run_seq ?_
   refine run_block ?_
   refine run_seq ?_
   obtain ⟨e8387, ho8365⟩ := chk_some ho8365
   refine run_region rfl ?_
   obtain ⟨kv8389, hc8388, hk8390⟩ : ∃ u, CellsAt _ (sb p0_1) (so p0_1 + (a8375).toNat * 4) [(.int .i64 ((gt x0.fOuts a8375).fValue)), u, (.int .i64 ((gt x0.fOuts a8375).fRule.fNeed)), (.int .i64 ((gt x0.fOuts a8375).fRule.fAfter))] ∧ RdS kInt _ u ((gt x0.fOuts a8375).fRule.fKeys) := rd_with1 hp0_1 e8387
   refine ox rfl rfl rfl rfl (ex_indexAddr (d := kOut) rfl rfl rfl Tryz.underlying44 tsz84 hp0_1 (idx_lo e8387) (idx_hi e8387)) ?_
   refine ox rfl rfl rfl rfl (ex_loadN (cs := [(.int .i64 ((gt x0.fOuts a8375).fValue)), kv8389, (.int .i64 ((gt x0.fOuts a8375).fRule.fNeed)), (.int .i64 ((gt x0.fOuts a8375).fRule.fAfter))]) rfl rfl Tryz.underlying84 rfl tsz84 rfl ((HM.at_ hc8388).sub 0 4 rfl)) ?_
   refine od rfl rfl rfl rfl (does_alloc (cs := [.int .i64 0, .slice none 0 0, .int .i64 0, .int .i64 0]) rfl tz84 rfl HM) ?_
   rintro _ w8394 ⟨b8391, rfl, HM⟩
   refine odS rfl rfl rfl (does_store (vs := [.int .i64 ((gt x0.fOuts a8375).fValue), kv8389, .int .i64 ((gt x0.fOuts a8375).fRule.fNeed), .int .i64 ((gt x0.fOuts a8375).fRule.fAfter)]) (cs' := [.int .i64 ((gt x0.fOuts a8375).fValue), kv8389, .int .i64 ((gt x0.fOuts a8375).fRule.fNeed), .int .i64 ((gt x0.fOuts a8375).fRule.fAfter)]) rfl rfl rfl rfl tsz84 (Ones.int (Ones.rd hk8390 (Ones.int (Ones.int Ones.nil)))) rfl rfl HM) ?_
   rintro w8395 HM
   refine ops_nil (at_then ?_)
   refine run_region rfl ?_
   refine ox rfl rfl rfl rfl (ex_move rfl rfl) ?_
   refine ox rfl rfl rfl rfl (ex_fieldAddr (off' := 0) rfl rfl Tryz.underlying84 rfl tsz2 rfl) ?_
   refine ox rfl rfl rfl rfl (ex_load1 rfl rfl Tryz.underlying2 rfl ((HM.box_at 0 rfl) 0 _ rfl)) ?_
   refine ox rfl rfl rfl rfl (ex_add rfl rfl rfl) ?_
   refine ox rfl rfl rfl rfl (ex_assign rfl rfl) ?_
   refine ops_nil ?_
   refine at_block ?_
   refine at_then ?_
   refine run_region rfl ?_
   refine ox rfl rfl rfl rfl (ex_add rfl rfl rfl) ?_
   refine ox rfl rfl rfl rfl (ex_move rfl rfl) ?_
   refine ops_nil ?_
   replace HM := (HM.front 0 rfl rfl).drop
   exact at_again k8384 (ρ1 := [(3, .int .i64 (wrap64 (a8374 + ((gt x0.fOuts a8375).fValue)))), (7, p0_1), (8, .int .i64 (x0.fOuts.length : Int)), (9, .int .i64 (wrap64 (a8375 + 1)))]) (Nat.lt_succ_self _) ⟨_, _, ho8365, rfl, HM⟩ (Sub.cons rfl (Sub.cons rfl (Sub.cons rfl (Sub.cons rfl Sub.nil))))
  ·replace ho8365 := cond_f hb8386 ho8365
   refine run_exit ?_
   refine at_then_exit ?_
   refine at_then_exit ?_
   refine at_block_exit ?_
   exact at_mid (ρ' := [(3, .int .i64 a8374)]) ⟨_, (Option.some.inj ho8365), rfl, HM⟩ (Sub.cons rfl Sub.nil)
 ·rintro _ w8396 ⟨a8363, rfl, rfl, HM⟩
  refine run_seq ?_
  refine run_region rfl ?_
  refine ox rfl rfl rfl rfl (ex_move rfl rfl) ?_
  refine ox rfl rfl rfl rfl (ex_assign rfl rfl) ?_
  refine ops_nil (at_then ?_)
  refine run_ret ?_
  have hR := Option.some.inj H
  subst hR
  exact at_ret1 rfl rfl ⟨_, rfl, rfl, HM⟩

def impl_Ledger_checkTx.l0 (x0 : Ledger) (x3 : Int) (t8416 : Int) (t8421 : (List Coin) × Int) : Nat → Int → Option ((Int × Int) ⊕ Unit)
 | 0, _ => none
 | k + 1, a8507 => (bif (decide (a8507 < (t8421.1.length : Int))) then (chk (idxOk a8507 t8421.1.length) ((impl_IsRipe.f k (gt t8421.1 a8507) x3).bind fun t8540 => (bif !t8540 then some (.inl (0, 9)) else ((impl_Ledger_ruleMet.f k x0 ((gt t8421.1 a8507).fOut.fRule) t8416 x3).bind fun t8544 => (bif (t8544 != 0) then some (.inl (0, t8544)) else impl_Ledger_checkTx.l0 x0 x3 t8416 t8421 k (wrap64 (a8507 + 1))))))) else some (.inr ()))
theorem impl_Ledger_checkTx.l0_z (x0 : Ledger) (x3 : Int) (t8416 : Int) (t8421 : (List Coin) × Int) (a8507 : Int) : impl_Ledger_checkTx.l0 x0 x3 t8416 t8421 0 a8507 = none := rfl
theorem impl_Ledger_checkTx.l0_s (x0 : Ledger) (x3 : Int) (t8416 : Int) (t8421 : (List Coin) × Int) (k : Nat) (a8507 : Int) : impl_Ledger_checkTx.l0 x0 x3 t8416 t8421 (k + 1) a8507 = (bif (decide (a8507 < (t8421.1.length : Int))) then (chk (idxOk a8507 t8421.1.length) ((impl_IsRipe.f k (gt t8421.1 a8507) x3).bind fun t8540 => (bif !t8540 then some (.inl (0, 9)) else ((impl_Ledger_ruleMet.f k x0 ((gt t8421.1 a8507).fOut.fRule) t8416 x3).bind fun t8544 => (bif (t8544 != 0) then some (.inl (0, t8544)) else impl_Ledger_checkTx.l0 x0 x3 t8416 t8421 k (wrap64 (a8507 + 1))))))) else some (.inr ())) := rfl
def impl_Ledger_checkTx.f (k : Nat) (x0 : Ledger) (x1 : List Coin) (x2 : Tx) (x3 : Int) : Option (Int × Int) := ((impl_txText.f k x2).bind fun t8411 => (bif (t8411.2 != 0) then some (0, t8411.2) else ((impl_Ledger_idOf.f k x0 t8411.1).bind fun t8416 => (bif (t8416 == 0) then some (0, 4) else ((impl_spentBy.f k x1 x2).bind fun t8421 => (bif (t8421.2 != 0) then some (0, t8421.2) else ((impl_Ledger_checkTx.l0 x0 x3 t8416 t8421 k 0).bind fun o8488 => thn o8488 (fun r => some r) (fun _ => ((impl_sumOf.f k t8421.1).bind fun t8549 => ((impl_outSum.f k x2).bind fun t8551 => ((bif (x2.fKind == 2) then impl_Ledger_hasSign.f k x0 x2.fMember t8416 else some default).bind fun t8555 => (bif ((x2.fKind == 2) && (!t8555)) then some (0, 6) else (bif (decide ((wrap64 (t8549 - t8551)) < 0)) then some (0, 8) else some (wrap64 (t8549 - t8551), 0))))))))))))))
theorem impl_Ledger_checkTx.calls {k : Nat} {x0 : Ledger} {x1 : List Coin} {x2 : Tx} {x3 : Int} {p0_0 : Value} {p0_1 : Value} {p1 : Value} {p2_0 : Value} {p2_1 : Value} {w : World} (htab : Tab w) (hp0_0 : RdS kStr w p0_0 x0.fTexts) (hp0_1 : RdS kSign w p0_1 x0.fSigns) (hp1 : RdS kCoin w p1 x1) (hp2_0 : RdS kRef w p2_0 x2.fIns) (hp2_1 : RdS kOut w p2_1 x2.fOuts) {r : Int × Int} (H : impl_Ledger_checkTx.f k x0 x1 x2 x3 = some r) :
  Calls Tryz.prog 37 ([.agg #[p0_0, p0_1], p1, .agg #[(.int .i64 x2.fKind), (.int .i64 x2.fMember), p2_0, p2_1], .int .i64 x3] : List Value).toArray w (fun e w_ => ∃ v, e = .returned v ∧ v = (.tuple #[.int .i64 r.1, .int .i64 r.2]) ∧ Mem w [] w_ []) := by
 have HM := Mem.start w
 refine calls_run (N := 82) Tryz.func37 rfl rfl rfl rfl ?_
 unfold impl_Ledger_checkTx.f at H
 refine run_seq ?_
 refine run_region rfl ?_
 refine od rfl rfl rfl rfl (does_box (cs := [p0_0, p0_1]) rfl rfl rfl HM) ?_
 rintro _ w8409 ⟨b8403, rfl, HM⟩
 refine od rfl rfl rfl rfl (does_box (cs := [.int .i64 x2.fKind, .int .i64 x2.fMember, p2_0, p2_1]) rfl rfl rfl HM) ?_
 rintro _ w8410 ⟨b8406, rfl, HM⟩
 refine ox rfl rfl rfl rfl (ex_assign rfl rfl) ?_
 refine ox rfl rfl rfl rfl (ex_assign rfl rfl) ?_
 refine ops_nil (at_then (run_seq ?_))
 obtain ⟨t8411, h8412, H⟩ := bind_some H
 refine run_region rfl ?_
 refine ox rfl rfl rfl rfl (ex_loadN (cs := [(.int .i64 x2.fKind), (.int .i64 x2.fMember), p2_0, p2_1]) rfl rfl Tryz.underlying46 rfl tsz46 rfl ((HM.box_at 0 rfl).sub 0 4 rfl)) ?_
 refine od rfl rfl rfl rfl (does_callk rfl callok73 rfl (impl_txText.calls (x0 := x2) (HM.tab htab) (HM.rd hp2_0) (HM.rd hp2_1) h8412)) ?_
 rintro _ w8413 ⟨rfl, hn⟩
 replace HM : Mem w [] w8413 [box b8406 46 [.int .i64 x2.fKind, .int .i64 x2.fMember, p2_0, p2_1], box b8403 39 [p0_0, p0_1]] := HM.call hn
 refine ox rfl rfl rfl rfl (ex_move rfl rfl) ?_
 refine ox rfl rfl rfl rfl (ex_extract rfl rfl rfl) ?_
 refine ox rfl rfl rfl rfl (ex_extract rfl rfl rfl) ?_
 refine ox rfl rfl rfl rfl (ex_assign rfl rfl) ?_
 refine ox rfl rfl rfl rfl (ex_assign rfl rfl) ?_
 refine ops_nil (at_then (run_seq ?_))
 refine run_seq ?_
 refine run_region rfl ?_
 refine ox rfl rfl rfl rfl (ex_move rfl rfl) ?_
 refine ox rfl rfl rfl rfl (ex_neq rfl rfl rfl) ?_
 refine ops_nil (at_then ?_)
 refine run_cond (b := (t8411.2 != 0)) rfl (fun hb8415 => ?_) (fun hb8415 => ?_)
 ·replace H := cond_t hb8415 H
  refine run_seq ?_
  refine run_region rfl ?_
  refine ox rfl rfl rfl rfl (ex_move rfl rfl) ?_
  refine ox rfl rfl rfl rfl (ex_assign rfl rfl) ?_
  refine ox rfl rfl rfl rfl (ex_assign rfl rfl) ?_
  refine ops_nil (at_then ?_)
  refine run_ret ?_
  refine at_then_ret ?_
  replace HM := (HM.front 0 rfl rfl).drop
  replace HM := (HM.front 0 rfl rfl).drop
  have hR := Option.some.inj H
  subst hR
  exact at_ret2 rfl rfl rfl ⟨_, rfl, rfl, HM⟩
 ·replace H := cond_f hb8415 H
  refine run_skip ?_
  refine at_then ?_
  refine run_seq ?_
  obtain ⟨t8416, h8417, H⟩ := bind_some H
  refine run_region rfl ?_
  refine ox rfl rfl rfl rfl (ex_loadN (cs := [p0_0, p0_1]) rfl rfl Tryz.underlying39 rfl tsz39 rfl ((HM.box_at 1 rfl).sub 0 2 rfl)) ?_
  refine ox rfl rfl rfl rfl (ex_move rfl rfl) ?_
  refine od rfl rfl rfl rfl (does_callk rfl callok74 rfl (impl_Ledger_idOf.calls (x0 := x0) (x1 := t8411.1) (HM.rd hp0_0) (HM.rd hp0_1) h8417)) ?_
  rintro _ w8418 ⟨rfl, hn⟩
  replace HM : Mem w [] w8418 [box b8406 46 [.int .i64 x2.fKind, .int .i64 x2.fMember, p2_0, p2_1], box b8403 39 [p0_0, p0_1]] := HM.call hn
  refine ox rfl rfl rfl rfl (ex_assign rfl rfl) ?_
  refine ops_nil (at_then (run_seq ?_))
  refine run_seq ?_
  refine run_region rfl ?_
  refine ox rfl rfl rfl rfl (ex_move rfl rfl) ?_
  refine ox rfl rfl rfl rfl (ex_eql rfl rfl rfl) ?_
  refine ops_nil (at_then ?_)
  refine run_cond (b := (t8416 == 0)) rfl (fun hb8420 => ?_) (fun hb8420 => ?_)
  ·replace H := cond_t hb8420 H
   refine run_seq ?_
   refine run_region rfl ?_
   refine ox rfl rfl rfl rfl (ex_assign rfl rfl) ?_
   refine ox rfl rfl rfl rfl (ex_assign rfl rfl) ?_
   refine ops_nil (at_then ?_)
   refine run_ret ?_
   refine at_then_ret ?_
   replace HM := (HM.front 0 rfl rfl).drop
   replace HM := (HM.front 0 rfl rfl).drop
   have hR := Option.some.inj H
   subst hR
   exact at_ret2 rfl rfl rfl ⟨_, rfl, rfl, HM⟩
  ·replace H := cond_f hb8420 H
   refine run_skip ?_
   refine at_then ?_
   refine run_seq ?_
   obtain ⟨t8421, h8422, H⟩ := bind_some H
   refine run_region rfl ?_
   refine ox rfl rfl rfl rfl (ex_move rfl rfl) ?_
   refine ox rfl rfl rfl rfl (ex_loadN (cs := [(.int .i64 x2.fKind), (.int .i64 x2.fMember), p2_0, p2_1]) rfl rfl Tryz.underlying46 rfl tsz46 rfl ((HM.box_at 0 rfl).sub 0 4 rfl)) ?_
   refine od rfl rfl rfl rfl (does_callk rfl callok75 rfl (impl_spentBy.calls (x0 := x1) (x1 := x2) (HM.rd hp1) (HM.rd hp2_0) (HM.rd hp2_1) h8422)) ?_
   rintro _ w8425 ⟨u8423, rfl, hn⟩
   replace HM : Mem w [] w8425 [own kCoin 86 u8423 t8421.1, box b8406 46 [.int .i64 x2.fKind, .int .i64 x2.fMember, p2_0, p2_1], box b8403 39 [p0_0, p0_1]] := HM.call hn
   refine ox rfl rfl rfl rfl (ex_move rfl rfl) ?_
   refine ox rfl rfl rfl rfl (ex_extract rfl rfl rfl) ?_
   refine ox rfl rfl rfl rfl (ex_extract rfl rfl rfl) ?_
   refine ox rfl rfl rfl rfl (ex_assign rfl rfl) ?_
   refine ox rfl rfl rfl rfl (ex_assign rfl rfl) ?_
   refine ops_nil ?_
   replace HM := HM.front 2 rfl rfl
   replace HM := HM.front 2 rfl rfl
   obtain ⟨F8426, hF8427, hFn8428, hFl8429, HMh8430, hcl8431⟩ := HM.hide (Ms := [box b8406 46 [.int .i64 x2.fKind, .int .i64 x2.fMember, p2_0, p2_1], box b8403 39 [p0_0, p0_1]])
   replace hp0_0 := (HMh8430.rd hp0_0)
   replace hp0_1 := (HMh8430.rd hp0_1)
   replace hp1 := (HMh8430.rd hp1)
   replace hp2_0 := (HMh8430.rd hp2_0)
   replace hp2_1 := (HMh8430.rd hp2_1)
   have hz34 := (HMh8430.own_rd 0 rfl)
   replace htab := HMh8430.tab htab
   have hwo := hide_olds w8425 F8426
   generalize hideB w8425 F8426 = wz8432 at *
   have HM := Mem.startX hF8427 hFn8428 hFl8429
   refine at_then ?_
   refine run_seq ?_
   refine run_seq ?_
   refine run_region rfl ?_
   refine ox rfl rfl rfl rfl (ex_move rfl rfl) ?_
   refine ox rfl rfl rfl rfl (ex_neq rfl rfl rfl) ?_
   refine ops_nil (at_then ?_)
   refine run_cond (b := (t8421.2 != 0)) rfl (fun hb8435 => ?_) (fun hb8435 => ?_)
   ·replace H := cond_t hb8435 H
    refine run_seq ?_
    refine run_region rfl ?_
    refine ox rfl rfl rfl rfl (ex_move rfl rfl) ?_
    refine ox rfl rfl rfl rfl (ex_assign rfl rfl) ?_
    refine ox rfl rfl rfl rfl (ex_assign rfl rfl) ?_
    refine ops_nil (at_then ?_)
    refine run_ret ?_
    refine at_then_ret ?_
    replace HM := hcl8431 _ _ HM
    replace HM := (HM.front 0 rfl rfl).drop
    replace HM := (HM.front 0 rfl rfl).drop
    replace HM := (HM.front 0 rfl rfl).drop
    have hR := Option.some.inj H
    subst hR
    exact at_ret2 rfl rfl rfl ⟨_, rfl, rfl, HM⟩
   ·replace H := cond_f hb8435 H
    refine run_skip ?_
    refine at_then ?_
    obtain ⟨o8488, ho8489, H⟩ := bind_some H
    refine run_mid (fun ρ_ w_ => Sum.inr () = o8488 ∧ ρ_ = [(4, .pointer (some ⟨b8403, 0, none⟩)), (6, .pointer (some ⟨b8406, 0, none⟩)), (12, .int .i64 t8416), (13, u8423)] ∧ Mem w8425 F8426 w_ [box b8403 39 [p0_0, p0_1], box b8406 46 [.int .i64 x2.fKind, .int .i64 x2.fMember, p2_0, p2_1]]) ?_ ?_
    ·skip
     refine run_seq ?_
     refine run_region rfl ?_
     refine ox rfl rfl rfl rfl (ex_move rfl rfl) ?_
     refine ox rfl rfl rfl rfl (ex_len (d := kCoin) (xs := t8421.1) rfl rfl Tryz.underlying41 hz34) ?_
     refine ox rfl rfl rfl rfl (ex_move rfl rfl) ?_
     refine ops_nil (at_then ?_)
     refine run_block ?_
     replace HM := HM.front 1 rfl rfl
     refine run_loop (fun k_ ρ_ w_ => ∃ a8507 : Int, impl_Ledger_checkTx.l0 x0 x3 t8416 t8421 k_ a8507 = some o8488 ∧ ρ_ = [(3, .int .i64 x3), (4, .pointer (some ⟨b8403, 0, none⟩)), (6, .pointer (some ⟨b8406, 0, none⟩)), (12, .int .i64 t8416), (13, u8423), (40, u8423), (41, .int .i64 (t8421.1.length : Int)), (42, .int .i64 a8507)] ∧ Mem w8425 F8426 w_ [box b8403 39 [p0_0, p0_1], box b8406 46 [.int .i64 x2.fKind, .int .i64 x2.fMember, p2_0, p2_1]]) k (ρ1 := [(3, .int .i64 x3), (4, .pointer (some ⟨b8403, 0, none⟩)), (6, .pointer (some ⟨b8406, 0, none⟩)), (12, .int .i64 t8416), (13, u8423), (40, u8423), (41, .int .i64 (t8421.1.length : Int)), (42, .int .i64 0)]) ⟨_, ho8489, rfl, HM⟩ (Sub.cons rfl (Sub.cons rfl (Sub.cons rfl (Sub.cons rfl (Sub.cons rfl (Sub.cons rfl (Sub.cons rfl (Sub.cons rfl Sub.nil)))))))) ?_
     clear HM ho8489
     rintro k8525 _ w8526 ⟨a8507, ho8489, rfl, HM⟩
     obtain _ | k8525 := k8525
     ·exact nomatch ((impl_Ledger_checkTx.l0_z x0 x3 t8416 t8421 a8507).symm.trans ho8489)
     replace ho8489 := (impl_Ledger_checkTx.l0_s x0 x3 t8416 t8421 k8525 a8507).symm.trans ho8489
     refine run_seq ?_
     refine run_region rfl ?_
     refine ox rfl rfl rfl rfl (ex_lss rfl rfl rfl) ?_
     refine ops_nil (at_then (run_seq ?_))
     refine run_cond (b := (decide (a8507 < (t8421.1.length : Int)))) rfl (fun hb8527 => ?_) (fun hb8527 => ?_)
     ·replace ho8489 := cond_t hb8527 ho8489
      refine run_skip ?_
      refine at_then ?_
      refine run_seq ?_
      refine run_block ?_
      refine run_seq ?_
      obtain ⟨e8528, ho8489⟩ := chk_some ho8489
      refine run_region rfl ?_
      obtain ⟨kv8530, hc8529, hk8531⟩ : ∃ u, CellsAt _ (sb u8423) (so u8423 + (a8507).toNat * 8) [(.int .i64 ((gt t8421.1 a8507).fRef.fTx)), (.int .i64 ((gt t8421.1 a8507).fRef.fAt)), (.int .i64 ((gt t8421.1 a8507).fOut.fValue)), u, (.int .i64 ((gt t8421.1 a8507).fOut.fRule.fNeed)), (.int .i64 ((gt t8421.1 a8507).fOut.fRule.fAfter)), (.int .i64 ((gt t8421.1 a8507).fHeight)), (.bool ((gt t8421.1 a8507).fMined))] ∧ RdS kInt _ u ((gt t8421.1 a8507).fOut.fRule.fKeys) := rd_with1 hz34 e8528
      refine ox rfl rfl rfl rfl (ex_indexAddr (d := kCoin) rfl rfl rfl Tryz.underlying41 tsz86 hz34 (idx_lo e8528) (idx_hi e8528)) ?_
      refine ox rfl rfl rfl rfl (ex_loadN (cs := [(.int .i64 ((gt t8421.1 a8507).fRef.fTx)), (.int .i64 ((gt t8421.1 a8507).fRef.fAt)), (.int .i64 ((gt t8421.1 a8507).fOut.fValue)), kv8530, (.int .i64 ((gt t8421.1 a8507).fOut.fRule.fNeed)), (.int .i64 ((gt t8421.1 a8507).fOut.fRule.fAfter)), (.int .i64 ((gt t8421.1 a8507).fHeight)), (.bool ((gt t8421.1 a8507).fMined))]) rfl rfl Tryz.underlying86 rfl tsz86 rfl ((HM.ato hwo hc8529).sub 0 8 rfl)) ?_
      refine od rfl rfl rfl rfl (does_alloc (cs := [.int .i64 0, .int .i64 0, .int .i64 0, .slice none 0 0, .int .i64 0, .int .i64 0, .int .i64 0, .bool false]) rfl tz86 rfl HM) ?_
      rintro _ w8535 ⟨b8532, rfl, HM⟩
      refine odS rfl rfl rfl (does_store (vs := [.int .i64 ((gt t8421.1 a8507).fRef.fTx), .int .i64 ((gt t8421.1 a8507).fRef.fAt), .int .i64 ((gt t8421.1 a8507).fOut.fValue), kv8530, .int .i64 ((gt t8421.1 a8507).fOut.fRule.fNeed), .int .i64 ((gt t8421.1 a8507).fOut.fRule.fAfter), .int .i64 ((gt t8421.1 a8507).fHeight), .bool ((gt t8421.1 a8507).fMined)]) (cs' := [.int .i64 ((gt t8421.1 a8507).fRef.fTx), .int .i64 ((gt t8421.1 a8507).fRef.fAt), .int .i64 ((gt t8421.1 a8507).fOut.fValue), kv8530, .int .i64 ((gt t8421.1 a8507).fOut.fRule.fNeed), .int .i64 ((gt t8421.1 a8507).fOut.fRule.fAfter), .int .i64 ((gt t8421.1 a8507).fHeight), .bool ((gt t8421.1 a8507).fMined)]) rfl rfl rfl rfl tsz86 (Ones.int (Ones.int (Ones.int (Ones.rd hk8531 (Ones.int (Ones.int (Ones.int (Ones.bool Ones.nil)))))))) rfl rfl HM) ?_
      rintro w8536 HM
      refine ops_nil (at_then (run_seq ?_))
      refine run_seq ?_
      obtain ⟨t8540, h8541, ho8489⟩ := bind_some ho8489
      refine run_region rfl ?_
      refine ox rfl rfl rfl rfl (ex_loadN (cs := [(.int .i64 ((gt t8421.1 a8507).fRef.fTx)), (.int .i64 ((gt t8421.1 a8507).fRef.fAt)), (.int .i64 ((gt t8421.1 a8507).fOut.fValue)), kv8530, (.int .i64 ((gt t8421.1 a8507).fOut.fRule.fNeed)), (.int .i64 ((gt t8421.1 a8507).fOut.fRule.fAfter)), (.int .i64 ((gt t8421.1 a8507).fHeight)), (.bool ((gt t8421.1 a8507).fMined))]) rfl rfl Tryz.underlying86 rfl tsz86 rfl ((HM.box_at 0 rfl).sub 0 8 rfl)) ?_
      refine ox rfl rfl rfl rfl (ex_move rfl rfl) ?_
      refine od rfl rfl rfl rfl (does_callk rfl callok76 rfl (impl_IsRipe.calls (x0 := (gt t8421.1 a8507)) (x1 := x3) (HM.rdo hwo hk8531) h8541)) ?_
      rintro _ w8542 ⟨rfl, hn⟩
      replace HM : Mem w8425 F8426 w8542 [box b8532 86 [.int .i64 ((gt t8421.1 a8507).fRef.fTx), .int .i64 ((gt t8421.1 a8507).fRef.fAt), .int .i64 ((gt t8421.1 a8507).fOut.fValue), kv8530, .int .i64 ((gt t8421.1 a8507).fOut.fRule.fNeed), .int .i64 ((gt t8421.1 a8507).fOut.fRule.fAfter), .int .i64 ((gt t8421.1 a8507).fHeight), .bool ((gt t8421.1 a8507).fMined)], box b8403 39 [p0_0, p0_1], box b8406 46 [.int .i64 x2.fKind, .int .i64 x2.fMember, p2_0, p2_1]] := HM.call hn
      refine ox rfl rfl rfl rfl (ex_not rfl rfl) ?_
      refine ops_nil (at_then ?_)
      refine run_cond (b := !t8540) rfl (fun hb8543 => ?_) (fun hb8543 => ?_)
      ·replace ho8489 := cond_t hb8543 ho8489
       refine run_seq ?_
       refine run_region rfl ?_
       refine ox rfl rfl rfl rfl (ex_assign rfl rfl) ?_
       refine ox rfl rfl rfl rfl (ex_assign rfl rfl) ?_
       refine ops_nil (at_then ?_)
       refine run_ret ?_
       refine at_then_ret ?_
       refine at_block_ret ?_
       refine at_then_ret ?_
       refine at_then_ret ?_
       refine at_block_ret ?_
       refine at_then_ret ?_
       replace HM := hcl8431 _ _ HM
       replace HM := (HM.front 0 rfl rfl).drop
       replace HM := (HM.front 0 rfl rfl).drop
       replace HM := (HM.front 0 rfl rfl).drop
       replace HM := (HM.front 0 rfl rfl).drop
       have hR := Option.some.inj ho8489
       subst hR
       have hT := thn_inl H
       have hR := Option.some.inj hT
       subst hR
       exact at_ret2 rfl rfl rfl ⟨_, rfl, rfl, HM⟩
      ·replace ho8489 := cond_f hb8543 ho8489
       refine run_skip ?_
       refine at_then ?_
       refine run_seq ?_
       obtain ⟨t8544, h8545, ho8489⟩ := bind_some ho8489
       refine run_region rfl ?_
       refine ox rfl rfl rfl rfl (ex_loadN (cs := [p0_0, p0_1]) rfl rfl Tryz.underlying39 rfl tsz39 rfl ((HM.box_at 1 rfl).sub 0 2 rfl)) ?_
       refine ox rfl rfl rfl rfl (ex_fieldAddr (off' := 2) rfl rfl Tryz.underlying86 rfl tsz84 rfl) ?_
       refine ox rfl rfl rfl rfl (ex_fieldAddr (off' := 3) rfl rfl Tryz.underlying84 rfl tsz82 rfl) ?_
       refine ox rfl rfl rfl rfl (ex_loadN (cs := [kv8530, (.int .i64 ((gt t8421.1 a8507).fOut.fRule.fNeed)), (.int .i64 ((gt t8421.1 a8507).fOut.fRule.fAfter))]) rfl rfl Tryz.underlying82 rfl tsz82 rfl ((HM.box_at 0 rfl).sub 3 3 rfl)) ?_
       refine ox rfl rfl rfl rfl (ex_move rfl rfl) ?_
       refine ox rfl rfl rfl rfl (ex_move rfl rfl) ?_
       refine od rfl rfl rfl rfl (does_callk rfl callok77 rfl (impl_Ledger_ruleMet.calls (x0 := x0) (x1 := (gt t8421.1 a8507).fOut.fRule) (x2 := t8416) (x3 := x3) (HM.rdo hwo hp0_0) (HM.rdo hwo hp0_1) (HM.rdo hwo hk8531) h8545)) ?_
       rintro _ w8546 ⟨rfl, hn⟩
       replace HM : Mem w8425 F8426 w8546 [box b8532 86 [.int .i64 ((gt t8421.1 a8507).fRef.fTx), .int .i64 ((gt t8421.1 a8507).fRef.fAt), .int .i64 ((gt t8421.1 a8507).fOut.fValue), kv8530, .int .i64 ((gt t8421.1 a8507).fOut.fRule.fNeed), .int .i64 ((gt t8421.1 a8507).fOut.fRule.fAfter), .int .i64 ((gt t8421.1 a8507).fHeight), .bool ((gt t8421.1 a8507).fMined)], box b8403 39 [p0_0, p0_1], box b8406 46 [.int .i64 x2.fKind, .int .i64 x2.fMember, p2_0, p2_1]] := HM.call hn
       refine ox rfl rfl rfl rfl (ex_assign rfl rfl) ?_
       refine ops_nil (at_then (run_seq ?_))
       refine run_region rfl ?_
       refine ox rfl rfl rfl rfl (ex_move rfl rfl) ?_
       refine ox rfl rfl rfl rfl (ex_neq rfl rfl rfl) ?_
       refine ops_nil (at_then ?_)
       refine run_cond (b := (t8544 != 0)) rfl (fun hb8547 => ?_) (fun hb8547 => ?_)
       ·replace ho8489 := cond_t hb8547 ho8489
        refine run_seq ?_
        refine run_region rfl ?_
        refine ox rfl rfl rfl rfl (ex_move rfl rfl) ?_
        refine ox rfl rfl rfl rfl (ex_assign rfl rfl) ?_
        refine ox rfl rfl rfl rfl (ex_assign rfl rfl) ?_
        refine ops_nil (at_then ?_)
        refine run_ret ?_
        refine at_block_ret ?_
        refine at_then_ret ?_
        refine at_then_ret ?_
        refine at_block_ret ?_
        refine at_then_ret ?_
        replace HM := hcl8431 _ _ HM
        replace HM := (HM.front 0 rfl rfl).drop
        replace HM := (HM.front 0 rfl rfl).drop
        replace HM := (HM.front 0 rfl rfl).drop
        replace HM := (HM.front 0 rfl rfl).drop
        have hR := Option.some.inj ho8489
        subst hR
        have hT := thn_inl H
        have hR := Option.some.inj hT
        subst hR
        exact at_ret2 rfl rfl rfl ⟨_, rfl, rfl, HM⟩
       ·replace ho8489 := cond_f hb8547 ho8489
        refine run_skip ?_
        refine at_block ?_
        refine at_then ?_
        refine run_region rfl ?_
        refine ox rfl rfl rfl rfl (ex_add rfl rfl rfl) ?_
        refine ox rfl rfl rfl rfl (ex_move rfl rfl) ?_
        refine ops_nil ?_
        replace HM := (HM.front 0 rfl rfl).drop
        exact at_again k8525 (ρ1 := [(3, .int .i64 x3), (4, .pointer (some ⟨b8403, 0, none⟩)), (6, .pointer (some ⟨b8406, 0, none⟩)), (12, .int .i64 t8416), (13, u8423), (40, u8423), (41, .int .i64 (t8421.1.length : Int)), (42, .int .i64 (wrap64 (a8507 + 1)))]) (Nat.lt_succ_self _) ⟨_, ho8489, rfl, HM⟩ (Sub.cons rfl (Sub.cons rfl (Sub.cons rfl (Sub.cons rfl (Sub.cons rfl (Sub.cons rfl (Sub.cons rfl (Sub.cons rfl Sub.nil))))))))
     ·replace ho8489 := cond_f hb8527 ho8489
      refine run_exit ?_
      refine at_then_exit ?_
      refine at_then_exit ?_
      refine at_block_exit ?_
      exact at_mid (ρ' := [(4, .pointer (some ⟨b8403, 0, none⟩)), (6, .pointer (some ⟨b8406, 0, none⟩)), (12, .int .i64 t8416), (13, u8423)]) ⟨(Option.some.inj ho8489), rfl, HM⟩ (Sub.cons rfl (Sub.cons rfl (Sub.cons rfl (Sub.cons rfl Sub.nil))))
    ·rintro _ w8548 ⟨rfl, rfl, HM⟩
     replace H := (thn_inr H)
     refine run_seq ?_
     obtain ⟨t8549, h8550, H⟩ := bind_some H
     obtain ⟨t8551, h8552, H⟩ := bind_some H
     refine run_drawf (fun w_ => Mem w8425 F8426 w_ [box b8403 39 [p0_0, p0_1], box b8406 46 [.int .i64 x2.fKind, .int .i64 x2.fMember, p2_0, p2_1]]) [(0, true), (2, true), (1, false), (3, false), (4, true), (5, true)] mixed rfl rfl (by kernel_rfl) ?_
     replace HM := HM.grow (fr_drew _)
     have hS := Mem.suf (M := []) HM
     refine dp rfl rfl rfl rfl (ex_move rfl rfl) hS ?_
     refine drwp_take rfl (guard_none rfl) rfl rfl (fun w_ hS_ => (ex_loadN (cs := [(.int .i64 x2.fKind), (.int .i64 x2.fMember), p2_0, p2_1]) rfl rfl Tryz.underlying46 rfl tsz46 rfl ((hS_.box_at 1 rfl).sub 0 4 rfl))) hS ?_
     refine drwp_one rfl (guard_none rfl) rfl rfl (does_callk rfl callok78 rfl (impl_sumOf.calls (x0 := t8421.1) (HM.rdo hwo hz34) h8550)) ?_
     rintro _ w8553 ⟨rfl, hn⟩
     replace HM : Mem w8425 F8426 w8553 [box b8403 39 [p0_0, p0_1], box b8406 46 [.int .i64 x2.fKind, .int .i64 x2.fMember, p2_0, p2_1]] := HM.call hn
     have hS := Mem.suf (M := []) HM
     refine ⟨hS, ?_⟩
     refine drwp_one rfl (guard_none rfl) rfl rfl (does_callk rfl callok79 rfl (impl_outSum.calls (x0 := x2) (HM.rdo hwo hp2_0) (HM.rdo hwo hp2_1) h8552)) ?_
     rintro _ w8554 ⟨rfl, hn⟩
     replace HM : Mem w8425 F8426 w8554 [box b8403 39 [p0_0, p0_1], box b8406 46 [.int .i64 x2.fKind, .int .i64 x2.fMember, p2_0, p2_1]] := HM.call hn
     have hS := Mem.suf (M := []) HM
     refine ⟨hS, ?_⟩
     refine dp rfl rfl rfl rfl (ex_sub rfl rfl rfl) hS ?_
     refine dp rfl rfl rfl rfl (ex_assign rfl rfl) hS ?_
     refine drwp_done ?_
     refine at_then ?_
     refine run_seq ?_
     refine run_block ?_
     refine run_seq ?_
     obtain ⟨t8555, h8556, H⟩ := bind_some H
     refine run_meet (fun ρ_ w_ => ρ_ = [(17, .int .i64 (wrap64 (t8549 - t8551))), (66, .bool ((x2.fKind == 2) && (!t8555)))] ∧ Mem w8425 F8426 w_ []) ?_ ?_
     ·skip
      refine run_region rfl ?_
      refine ox rfl rfl rfl rfl (ex_fieldAddr (off' := 0) rfl rfl Tryz.underlying46 rfl tsz2 rfl) ?_
      refine ox rfl rfl rfl rfl (ex_load1 rfl rfl Tryz.underlying2 rfl ((HM.box_at 1 rfl) 0 _ rfl)) ?_
      refine ox rfl rfl rfl rfl (ex_eql rfl rfl rfl) ?_
      refine ox rfl rfl rfl rfl (ex_move rfl rfl) ?_
      refine bool_cases (x2.fKind == 2) (fun hg8557 => ?_) (fun hg8557 => ?_)
      ·skip
       refine ops_ex rfl (guard_on rfl rfl rfl hg8557) rfl rfl (ex_loadN (cs := [p0_0, p0_1]) rfl rfl Tryz.underlying39 rfl tsz39 rfl ((HM.box_at 0 rfl).sub 0 2 rfl)) ?_
       refine ops_ex rfl (guard_on rfl rfl rfl hg8557) rfl rfl (ex_fieldAddr (off' := 1) rfl rfl Tryz.underlying46 rfl tsz2 rfl) ?_
       refine ops_ex rfl (guard_on rfl rfl rfl hg8557) rfl rfl (ex_load1 rfl rfl Tryz.underlying2 rfl ((HM.box_at 1 rfl) 1 _ rfl)) ?_
       refine ops_ex rfl (guard_on rfl rfl rfl hg8557) rfl rfl (ex_move rfl rfl) ?_
       refine ops_does rfl (guard_on rfl rfl rfl hg8557) rfl rfl (does_callk rfl callok80 rfl (impl_Ledger_hasSign.calls (x0 := x0) (x1 := x2.fMember) (x2 := t8416) (HM.rdo hwo hp0_0) (HM.rdo hwo hp0_1) (cond_t hg8557 h8556))) ?_
       rintro _ w8558 ⟨rfl, hn⟩
       replace HM : Mem w8425 F8426 w8558 [box b8403 39 [p0_0, p0_1], box b8406 46 [.int .i64 x2.fKind, .int .i64 x2.fMember, p2_0, p2_1]] := HM.call hn
       refine ops_ex rfl (guard_on rfl rfl rfl hg8557) rfl rfl (ex_not rfl rfl) ?_
       refine ops_ex (v := .bool ((x2.fKind == 2) && (!t8555))) rfl (guard_none rfl) rfl rfl (ex_pand_t rfl rfl hg8557 rfl) ?_
       refine ox rfl rfl rfl rfl (ex_assign rfl rfl) ?_
       refine ops_nil ?_
       replace HM := (HM.front 0 rfl rfl).drop
       replace HM := (HM.front 0 rfl rfl).drop
       exact at_meet [(17, .int .i64 (wrap64 (t8549 - t8551))), (66, .bool ((x2.fKind == 2) && (!t8555)))] ⟨rfl, HM⟩ (Sub.cons rfl (Sub.cons rfl Sub.nil))
      ·skip
       refine ops_off rfl (guard_off rfl rfl rfl hg8557) rfl rfl ?_
       refine ops_off rfl (guard_off rfl rfl rfl hg8557) rfl rfl ?_
       refine ops_off rfl (guard_off rfl rfl rfl hg8557) rfl rfl ?_
       refine ops_off rfl (guard_off rfl rfl rfl hg8557) rfl rfl ?_
       refine ops_off rfl (guard_off rfl rfl rfl hg8557) rfl rfl ?_
       refine ops_off rfl (guard_off rfl rfl rfl hg8557) rfl rfl ?_
       have hg8559 : ((x2.fKind == 2) && (!t8555)) = false := by simp only [hg8557, Bool.and_true, Bool.true_and, Bool.and_false, Bool.false_and, Bool.or_true, Bool.true_or, Bool.or_false, Bool.false_or, Bool.not_true, Bool.not_false, Bool.not_not]
       refine ops_ex (v := .bool ((x2.fKind == 2) && (!t8555))) rfl (guard_none rfl) rfl rfl (ex_pand_f rfl rfl hg8557) ?_
       refine ox rfl rfl rfl rfl (ex_assign rfl rfl) ?_
       refine ops_nil ?_
       replace HM := (HM.front 0 rfl rfl).drop
       replace HM := (HM.front 0 rfl rfl).drop
       exact at_meet [(17, .int .i64 (wrap64 (t8549 - t8551))), (66, .bool ((x2.fKind == 2) && (!t8555)))] ⟨rfl, HM⟩ (Sub.cons rfl (Sub.cons rfl Sub.nil))
     ·rintro _ w8560 ⟨rfl, HM⟩
      refine at_then ?_
      refine run_cond (b := ((x2.fKind == 2) && (!t8555))) rfl (fun hb8561 => ?_) (fun hb8561 => ?_)
      ·replace H := cond_t hb8561 H
       refine run_seq ?_
       refine run_region rfl ?_
       refine ox rfl rfl rfl rfl (ex_assign rfl rfl) ?_
       refine ox rfl rfl rfl rfl (ex_assign rfl rfl) ?_
       refine ops_nil (at_then ?_)
       refine run_ret ?_
       refine at_block_ret ?_
       refine at_then_ret ?_
       replace HM := hcl8431 _ _ HM
       replace HM := (HM.front 0 rfl rfl).drop
       have hR := Option.some.inj H
       subst hR
       exact at_ret2 rfl rfl rfl ⟨_, rfl, rfl, HM⟩
      ·replace H := cond_f hb8561 H
       refine run_seq ?_
       refine run_region rfl ?_
       refine ox rfl rfl rfl rfl (ex_move rfl rfl) ?_
       refine ox rfl rfl rfl rfl (ex_lss rfl rfl rfl) ?_
       refine ox rfl rfl rfl rfl (ex_assign rfl rfl) ?_
       refine ops_nil (at_then ?_)
       refine run_cond (b := (decide ((wrap64 (t8549 - t8551)) < 0))) rfl (fun hb8562 => ?_) (fun hb8562 => ?_)
       ·replace H := cond_t hb8562 H
        refine run_seq ?_
        refine run_region rfl ?_
        refine ox rfl rfl rfl rfl (ex_assign rfl rfl) ?_
        refine ox rfl rfl rfl rfl (ex_assign rfl rfl) ?_
        refine ops_nil (at_then ?_)
        refine run_ret ?_
        refine at_block_ret ?_
        refine at_then_ret ?_
        replace HM := hcl8431 _ _ HM
        replace HM := (HM.front 0 rfl rfl).drop
        have hR := Option.some.inj H
        subst hR
        exact at_ret2 rfl rfl rfl ⟨_, rfl, rfl, HM⟩
       ·replace H := cond_f hb8562 H
        refine run_skip ?_
        refine at_block ?_
        refine at_then ?_
        refine run_seq ?_
        refine run_region rfl ?_
        refine ox rfl rfl rfl rfl (ex_move rfl rfl) ?_
        refine ox rfl rfl rfl rfl (ex_assign rfl rfl) ?_
        refine ox rfl rfl rfl rfl (ex_assign rfl rfl) ?_
        refine ops_nil (at_then ?_)
        refine run_ret ?_
        replace HM := hcl8431 _ _ HM
        replace HM := (HM.front 0 rfl rfl).drop
        have hR := Option.some.inj H
        subst hR
        exact at_ret2 rfl rfl rfl ⟨_, rfl, rfl, HM⟩

def impl_CheckTx.l0 (t8598 : Int) (t8600 : Int) (t8602 : Int) : Nat → Int → Option (IntResult ⊕ Unit)
 | 0, _ => none
 | k + 1, a8614 => (bif (decide (a8614 < (([t8598, t8600, t8602] : List Int).length : Int))) then (chk (idxOk a8614 ([t8598, t8600, t8602] : List Int).length) (bif ((gt ([t8598, t8600, t8602] : List Int) a8614) != 0) then some (.inl (⟨(gt ([t8598, t8600, t8602] : List Int) a8614), 0⟩ : IntResult)) else impl_CheckTx.l0 t8598 t8600 t8602 k (wrap64 (a8614 + 1)))) else some (.inr ()))
theorem impl_CheckTx.l0_z (t8598 : Int) (t8600 : Int) (t8602 : Int) (a8614 : Int) : impl_CheckTx.l0 t8598 t8600 t8602 0 a8614 = none := rfl
theorem impl_CheckTx.l0_s (t8598 : Int) (t8600 : Int) (t8602 : Int) (k : Nat) (a8614 : Int) : impl_CheckTx.l0 t8598 t8600 t8602 (k + 1) a8614 = (bif (decide (a8614 < (([t8598, t8600, t8602] : List Int).length : Int))) then (chk (idxOk a8614 ([t8598, t8600, t8602] : List Int).length) (bif ((gt ([t8598, t8600, t8602] : List Int) a8614) != 0) then some (.inl (⟨(gt ([t8598, t8600, t8602] : List Int) a8614), 0⟩ : IntResult)) else impl_CheckTx.l0 t8598 t8600 t8602 k (wrap64 (a8614 + 1)))) else some (.inr ())) := rfl
def impl_CheckTx.f (k : Nat) (x0 : Ledger) (x1 : List Coin) (x2 : Tx) (x3 : Int) : Option IntResult := (((impl_LedgerFault.f k x0).bind fun t8598 => ((impl_CoinsFault.f k x1).bind fun t8600 => ((impl_TxFault.f k x2).bind fun t8602 => impl_CheckTx.l0 t8598 t8600 t8602 k 0))).bind fun o8596 => thn o8596 (fun r => some r) (fun _ => ((impl_isHeight.f k x3).bind fun t8628 => (bif !t8628 then some (⟨3, 0⟩ : IntResult) else ((impl_Ledger_checkTx.f k x0 x1 x2 x3).bind fun t8633 => some (⟨t8633.2, t8633.1⟩ : IntResult))))))
theorem impl_CheckTx.calls {k : Nat} {x0 : Ledger} {x1 : List Coin} {x2 : Tx} {x3 : Int} {p0_0 : Value} {p0_1 : Value} {p1 : Value} {p2_0 : Value} {p2_1 : Value} {w : World} (htab : Tab w) (hp0_0 : RdS kStr w p0_0 x0.fTexts) (hp0_1 : RdS kSign w p0_1 x0.fSigns) (hp1 : RdS kCoin w p1 x1) (hp2_0 : RdS kRef w p2_0 x2.fIns) (hp2_1 : RdS kOut w p2_1 x2.fOuts) {r : IntResult} (H : impl_CheckTx.f k x0 x1 x2 x3 = some r) :
  Calls Tryz.prog 11 ([.agg #[p0_0, p0_1], p1, .agg #[(.int .i64 x2.fKind), (.int .i64 x2.fMember), p2_0, p2_1], .int .i64 x3] : List Value).toArray w (fun e w_ => ∃ v, e = .returned v ∧ v = (.agg #[.int .i64 r.fCode, .int .i64 r.fValue]) ∧ Mem w [] w_ []) := by
 have HM := Mem.start w
 refine calls_run (N := 45) Tryz.func11 rfl rfl rfl rfl ?_
 unfold impl_CheckTx.f at H
 refine run_seq ?_
 refine run_region rfl ?_
 refine od rfl rfl rfl rfl (does_box (cs := [p0_0, p0_1]) rfl rfl rfl HM) ?_
 rintro _ w8574 ⟨b8565, rfl, HM⟩
 refine od rfl rfl rfl rfl (does_box (cs := [.int .i64 x2.fKind, .int .i64 x2.fMember, p2_0, p2_1]) rfl rfl rfl HM) ?_
 rintro _ w8575 ⟨b8568, rfl, HM⟩
 refine od rfl rfl rfl rfl (does_alloc (cs := [.int .i64 0, .int .i64 0]) rfl tz35 rfl HM) ?_
 rintro _ w8576 ⟨b8571, rfl, HM⟩
 refine ops_nil (at_then ?_)
 obtain ⟨o8596, ho8597, H⟩ := bind_some H
 refine run_mid (fun ρ_ w_ => Sum.inr () = o8596 ∧ ρ_ = [(1, p1), (3, .int .i64 x3), (4, .pointer (some ⟨b8565, 0, none⟩)), (6, .pointer (some ⟨b8568, 0, none⟩)), (8, .pointer (some ⟨b8571, 0, none⟩))] ∧ Mem w [] w_ [box b8565 39 [p0_0, p0_1], box b8568 46 [.int .i64 x2.fKind, .int .i64 x2.fMember, p2_0, p2_1], box b8571 35 [.int .i64 0, .int .i64 0]]) ?_ ?_
 ·skip
  refine run_seq ?_
  obtain ⟨t8598, h8599, ho8597⟩ := bind_some ho8597
  obtain ⟨t8600, h8601, ho8597⟩ := bind_some ho8597
  obtain ⟨t8602, h8603, ho8597⟩ := bind_some ho8597
  refine run_drawf (fun w_ => Mem w [] w_ [box b8571 35 [.int .i64 0, .int .i64 0], box b8568 46 [.int .i64 x2.fKind, .int .i64 x2.fMember, p2_0, p2_1], box b8565 39 [p0_0, p0_1]]) [(0, true), (2, true), (4, true), (8, true), (1, false), (3, false), (5, false), (6, false), (7, true)] mixed rfl rfl (by kernel_rfl) ?_
  replace HM := HM.grow (fr_drew _)
  have hS := Mem.suf (M := []) HM
  refine drwp_take rfl (guard_none rfl) rfl rfl (fun w_ hS_ => (ex_loadN (cs := [p0_0, p0_1]) rfl rfl Tryz.underlying39 rfl tsz39 rfl ((hS_.box_at 2 rfl).sub 0 2 rfl))) hS ?_
  refine dp rfl rfl rfl rfl (ex_move rfl rfl) hS ?_
  refine drwp_take rfl (guard_none rfl) rfl rfl (fun w_ hS_ => (ex_loadN (cs := [(.int .i64 x2.fKind), (.int .i64 x2.fMember), p2_0, p2_1]) rfl rfl Tryz.underlying46 rfl tsz46 rfl ((hS_.box_at 1 rfl).sub 0 4 rfl))) hS ?_
  refine dp rfl rfl rfl rfl (ex_move rfl rfl) hS ?_
  refine drwp_one rfl (guard_none rfl) rfl rfl (does_callk rfl callok33 rfl (impl_LedgerFault.calls (x0 := x0) (HM.rd hp0_0) (HM.rd hp0_1) h8599)) ?_
  rintro _ w8607 ⟨rfl, hn⟩
  replace HM : Mem w [] w8607 [box b8571 35 [.int .i64 0, .int .i64 0], box b8568 46 [.int .i64 x2.fKind, .int .i64 x2.fMember, p2_0, p2_1], box b8565 39 [p0_0, p0_1]] := HM.call hn
  have hS := Mem.suf (M := []) HM
  refine ⟨hS, ?_⟩
  refine drwp_one rfl (guard_none rfl) rfl rfl (does_callk rfl callok34 rfl (impl_CoinsFault.calls (x0 := x1) (HM.rd hp1) h8601)) ?_
  rintro _ w8608 ⟨rfl, hn⟩
  replace HM : Mem w [] w8608 [box b8571 35 [.int .i64 0, .int .i64 0], box b8568 46 [.int .i64 x2.fKind, .int .i64 x2.fMember, p2_0, p2_1], box b8565 39 [p0_0, p0_1]] := HM.call hn
  have hS := Mem.suf (M := []) HM
  refine ⟨hS, ?_⟩
  refine drwp_one rfl (guard_none rfl) rfl rfl (does_callk rfl callok35 rfl (impl_TxFault.calls (x0 := x2) (HM.rd hp2_0) (HM.rd hp2_1) h8603)) ?_
  rintro _ w8609 ⟨rfl, hn⟩
  replace HM : Mem w [] w8609 [box b8571 35 [.int .i64 0, .int .i64 0], box b8568 46 [.int .i64 x2.fKind, .int .i64 x2.fMember, p2_0, p2_1], box b8565 39 [p0_0, p0_1]] := HM.call hn
  have hS := Mem.suf (M := []) HM
  refine ⟨hS, ?_⟩
  refine drwp_one rfl (guard_none rfl) rfl rfl (does_lit (e := 2) (cs := [.int .i64 t8598, .int .i64 t8600, .int .i64 t8602]) (xs := ([t8598, t8600, t8602] : List Int)) kInt rfl rfl (fun _ => by kernel_rfl) rfl rfl (fun _ _ h => by have h' : _ = [] := h; subst h'; exact (Elems.cons (d := kInt) (x := t8598) (f := []) ⟨rfl, rfl⟩ (Elems.cons (d := kInt) (x := t8600) (f := []) ⟨rfl, rfl⟩ (Elems.cons (d := kInt) (x := t8602) (f := []) ⟨rfl, rfl⟩ .nil)))) HM.emp) ?_
  rintro v8604 w8610 HM
  have hS := Mem.suf (M := [own kInt 2 v8604 ([t8598, t8600, t8602] : List Int)]) HM
  refine ⟨hS, ?_⟩
  refine dp rfl rfl rfl rfl (ex_len (d := kInt) (xs := ([t8598, t8600, t8602] : List Int)) rfl rfl Tryz.underlying58 (HM.own_rd 0 rfl)) hS ?_
  refine drwp_done ?_
  refine at_then ?_
  refine run_block ?_
  replace HM := HM.front 1 rfl rfl
  replace HM := HM.front 2 rfl rfl
  replace HM := HM.front 3 rfl rfl
  refine run_loop (fun k_ ρ_ w_ => ∃ a8614 : Int, impl_CheckTx.l0 t8598 t8600 t8602 k_ a8614 = some o8596 ∧ ρ_ = [(1, p1), (3, .int .i64 x3), (4, .pointer (some ⟨b8565, 0, none⟩)), (6, .pointer (some ⟨b8568, 0, none⟩)), (8, .pointer (some ⟨b8571, 0, none⟩)), (21, .int .i64 a8614), (19, v8604), (20, .int .i64 (([t8598, t8600, t8602] : List Int).length : Int))] ∧ Mem w [] w_ [box b8565 39 [p0_0, p0_1], box b8568 46 [.int .i64 x2.fKind, .int .i64 x2.fMember, p2_0, p2_1], box b8571 35 [.int .i64 0, .int .i64 0], own kInt 2 v8604 ([t8598, t8600, t8602] : List Int)]) k (ρ1 := [(1, p1), (3, .int .i64 x3), (4, .pointer (some ⟨b8565, 0, none⟩)), (6, .pointer (some ⟨b8568, 0, none⟩)), (8, .pointer (some ⟨b8571, 0, none⟩)), (21, .int .i64 0), (19, v8604), (20, .int .i64 (([t8598, t8600, t8602] : List Int).length : Int))]) ⟨_, ho8597, rfl, HM⟩ (Sub.cons rfl (Sub.cons rfl (Sub.cons rfl (Sub.cons rfl (Sub.cons rfl (Sub.cons rfl (Sub.cons rfl (Sub.cons rfl Sub.nil)))))))) ?_
  clear HM ho8597
  rintro k8618 _ w8619 ⟨a8614, ho8597, rfl, HM⟩
  obtain _ | k8618 := k8618
  ·exact nomatch ((impl_CheckTx.l0_z t8598 t8600 t8602 a8614).symm.trans ho8597)
  replace ho8597 := (impl_CheckTx.l0_s t8598 t8600 t8602 k8618 a8614).symm.trans ho8597
  refine run_seq ?_
  refine run_region rfl ?_
  refine ox rfl rfl rfl rfl (ex_lss rfl rfl rfl) ?_
  refine ops_nil (at_then (run_seq ?_))
  refine run_cond (b := (decide (a8614 < (([t8598, t8600, t8602] : List Int).length : Int)))) rfl (fun hb8620 => ?_) (fun hb8620 => ?_)
  ·replace ho8597 := cond_t hb8620 ho8597
   refine run_skip ?_
   refine at_then ?_
   refine run_seq ?_
   refine run_block ?_
   refine run_seq ?_
   obtain ⟨e8621, ho8597⟩ := chk_some ho8597
   refine run_region rfl ?_
   refine ox rfl rfl rfl rfl (ex_indexAddr (d := kInt) rfl rfl rfl Tryz.underlying58 tsz2 (HM.own_rd 3 rfl) (idx_lo e8621) (idx_hi e8621)) ?_
   refine ox rfl rfl rfl rfl (ex_load1 rfl rfl Tryz.underlying2 rfl ((rd_plain (HM.own_rd 3 rfl) e8621) 0 _ rfl)) ?_
   refine ox rfl rfl rfl rfl (ex_assign rfl rfl) ?_
   refine ops_nil (at_then (run_seq ?_))
   refine run_region rfl ?_
   refine ox rfl rfl rfl rfl (ex_move rfl rfl) ?_
   refine ox rfl rfl rfl rfl (ex_neq rfl rfl rfl) ?_
   refine ops_nil (at_then ?_)
   refine run_cond (b := ((gt ([t8598, t8600, t8602] : List Int) a8614) != 0)) rfl (fun hb8622 => ?_) (fun hb8622 => ?_)
   ·replace ho8597 := cond_t hb8622 ho8597
    refine run_seq ?_
    refine run_region rfl ?_
    refine ox rfl rfl rfl rfl (ex_move rfl rfl) ?_
    refine ox rfl rfl rfl rfl (ex_build (cells := #[(.int .i64 (gt ([t8598, t8600, t8602] : List Int) a8614)), (.int .i64 0)]) rfl rfl (by kernel_rfl)) ?_
    replace HM := HM.front 2 rfl rfl
    refine odS rfl rfl rfl (does_store (vs := [.int .i64 (gt ([t8598, t8600, t8602] : List Int) a8614), .int .i64 0]) (cs' := [.int .i64 (gt ([t8598, t8600, t8602] : List Int) a8614), .int .i64 0]) rfl rfl rfl rfl tsz35 (Ones.int (Ones.int Ones.nil)) rfl rfl HM) ?_
    rintro w8623 HM
    refine ops_nil (at_then ?_)
    refine run_ret ?_
    refine at_block_ret ?_
    refine at_then_ret ?_
    refine at_then_ret ?_
    refine at_block_ret ?_
    refine at_then_ret ?_
    replace HM := (HM.front 1 rfl rfl).drop
    replace HM := (HM.front 1 rfl rfl).drop
    replace HM := (HM.front 1 rfl rfl).drop
    have hcb0 := HM.box_at 0 rfl
    replace HM := (HM.front 0 rfl rfl).drop
    have hR := Option.some.inj ho8597
    subst hR
    have hT := thn_inl H
    have hR := Option.some.inj hT
    subst hR
    exact at_retN rfl rfl Tryz.underlying35 rfl tsz35 rfl hcb0 ⟨_, rfl, rfl, HM⟩
   ·replace ho8597 := cond_f hb8622 ho8597
    refine run_skip ?_
    refine at_block ?_
    refine at_then ?_
    refine run_region rfl ?_
    refine ox rfl rfl rfl rfl (ex_add rfl rfl rfl) ?_
    refine ox rfl rfl rfl rfl (ex_move rfl rfl) ?_
    refine ops_nil ?_
    exact at_again k8618 (ρ1 := [(1, p1), (3, .int .i64 x3), (4, .pointer (some ⟨b8565, 0, none⟩)), (6, .pointer (some ⟨b8568, 0, none⟩)), (8, .pointer (some ⟨b8571, 0, none⟩)), (21, .int .i64 (wrap64 (a8614 + 1))), (19, v8604), (20, .int .i64 (([t8598, t8600, t8602] : List Int).length : Int))]) (Nat.lt_succ_self _) ⟨_, ho8597, rfl, HM⟩ (Sub.cons rfl (Sub.cons rfl (Sub.cons rfl (Sub.cons rfl (Sub.cons rfl (Sub.cons rfl (Sub.cons rfl (Sub.cons rfl Sub.nil))))))))
  ·replace ho8597 := cond_f hb8620 ho8597
   refine run_exit ?_
   refine at_then_exit ?_
   refine at_then_exit ?_
   refine at_block_exit ?_
   replace HM := (HM.front 3 rfl rfl).drop
   exact at_mid (ρ' := [(1, p1), (3, .int .i64 x3), (4, .pointer (some ⟨b8565, 0, none⟩)), (6, .pointer (some ⟨b8568, 0, none⟩)), (8, .pointer (some ⟨b8571, 0, none⟩))]) ⟨(Option.some.inj ho8597), rfl, HM⟩ (Sub.cons rfl (Sub.cons rfl (Sub.cons rfl (Sub.cons rfl (Sub.cons rfl Sub.nil)))))
 ·rintro _ w8624 ⟨rfl, rfl, HM⟩
  replace H := (thn_inr H)
  refine run_seq ?_
  refine run_seq ?_
  obtain ⟨t8628, h8629, H⟩ := bind_some H
  refine run_region rfl ?_
  refine ox rfl rfl rfl rfl (ex_move rfl rfl) ?_
  refine od rfl rfl rfl rfl (does_callk rfl callok36 rfl (impl_isHeight.calls (x0 := x3) h8629)) ?_
  rintro _ w8630 ⟨rfl, hn⟩
  replace HM : Mem w [] w8630 [box b8565 39 [p0_0, p0_1], box b8568 46 [.int .i64 x2.fKind, .int .i64 x2.fMember, p2_0, p2_1], box b8571 35 [.int .i64 0, .int .i64 0]] := HM.call hn
  refine ox rfl rfl rfl rfl (ex_not rfl rfl) ?_
  refine ops_nil (at_then ?_)
  refine run_cond (b := !t8628) rfl (fun hb8631 => ?_) (fun hb8631 => ?_)
  ·replace H := cond_t hb8631 H
   refine run_seq ?_
   refine run_region rfl ?_
   refine ox rfl rfl rfl rfl (ex_build (cells := #[(.int .i64 3), (.int .i64 0)]) rfl rfl (by kernel_rfl)) ?_
   replace HM := HM.front 2 rfl rfl
   refine odS rfl rfl rfl (does_store (vs := [.int .i64 3, .int .i64 0]) (cs' := [.int .i64 3, .int .i64 0]) rfl rfl rfl rfl tsz35 (Ones.int (Ones.int Ones.nil)) rfl rfl HM) ?_
   rintro w8632 HM
   refine ops_nil (at_then ?_)
   refine run_ret ?_
   refine at_then_ret ?_
   replace HM := (HM.front 1 rfl rfl).drop
   replace HM := (HM.front 1 rfl rfl).drop
   have hcb0 := HM.box_at 0 rfl
   replace HM := (HM.front 0 rfl rfl).drop
   have hR := Option.some.inj H
   subst hR
   exact at_retN rfl rfl Tryz.underlying35 rfl tsz35 rfl hcb0 ⟨_, rfl, rfl, HM⟩
  ·replace H := cond_f hb8631 H
   refine run_skip ?_
   refine at_then ?_
   refine run_seq ?_
   obtain ⟨t8633, h8634, H⟩ := bind_some H
   refine run_region rfl ?_
   refine ox rfl rfl rfl rfl (ex_loadN (cs := [p0_0, p0_1]) rfl rfl Tryz.underlying39 rfl tsz39 rfl ((HM.box_at 0 rfl).sub 0 2 rfl)) ?_
   refine ox rfl rfl rfl rfl (ex_move rfl rfl) ?_
   refine ox rfl rfl rfl rfl (ex_loadN (cs := [(.int .i64 x2.fKind), (.int .i64 x2.fMember), p2_0, p2_1]) rfl rfl Tryz.underlying46 rfl tsz46 rfl ((HM.box_at 1 rfl).sub 0 4 rfl)) ?_
   refine ox rfl rfl rfl rfl (ex_move rfl rfl) ?_
   refine od rfl rfl rfl rfl (does_callk rfl callok37 rfl (impl_Ledger_checkTx.calls (x0 := x0) (x1 := x1) (x2 := x2) (x3 := x3) (HM.tab htab) (HM.rd hp0_0) (HM.rd hp0_1) (HM.rd hp1) (HM.rd hp2_0) (HM.rd hp2_1) h8634)) ?_
   rintro _ w8635 ⟨rfl, hn⟩
   replace HM : Mem w [] w8635 [box b8565 39 [p0_0, p0_1], box b8568 46 [.int .i64 x2.fKind, .int .i64 x2.fMember, p2_0, p2_1], box b8571 35 [.int .i64 0, .int .i64 0]] := HM.call hn
   refine ox rfl rfl rfl rfl (ex_move rfl rfl) ?_
   refine ox rfl rfl rfl rfl (ex_extract rfl rfl rfl) ?_
   refine ox rfl rfl rfl rfl (ex_extract rfl rfl rfl) ?_
   refine ox rfl rfl rfl rfl (ex_assign rfl rfl) ?_
   refine ox rfl rfl rfl rfl (ex_assign rfl rfl) ?_
   refine ops_nil (at_then (run_seq ?_))
   refine run_region rfl ?_
   refine ox rfl rfl rfl rfl (ex_move rfl rfl) ?_
   refine ox rfl rfl rfl rfl (ex_move rfl rfl) ?_
   refine ox rfl rfl rfl rfl (ex_build (cells := #[(.int .i64 t8633.2), (.int .i64 t8633.1)]) rfl rfl (by kernel_rfl)) ?_
   replace HM := HM.front 2 rfl rfl
   refine odS rfl rfl rfl (does_store (vs := [.int .i64 t8633.2, .int .i64 t8633.1]) (cs' := [.int .i64 t8633.2, .int .i64 t8633.1]) rfl rfl rfl rfl tsz35 (Ones.int (Ones.int Ones.nil)) rfl rfl HM) ?_
   rintro w8636 HM
   refine ops_nil (at_then ?_)
   refine run_ret ?_
   replace HM := (HM.front 1 rfl rfl).drop
   replace HM := (HM.front 1 rfl rfl).drop
   have hcb0 := HM.box_at 0 rfl
   replace HM := (HM.front 0 rfl rfl).drop
   have hR := Option.some.inj H
   subst hR
   exact at_retN rfl rfl Tryz.underlying35 rfl tsz35 rfl hcb0 ⟨_, rfl, rfl, HM⟩

def laws_eqIntResult.f (k : Nat) (x0 : IntResult) (x1 : IntResult) : Option Bool := (bif (x0.fCode != x1.fCode) then some false else (bif (x0.fValue != x1.fValue) then some false else some true))
theorem laws_eqIntResult.calls {k : Nat} {x0 : IntResult} {x1 : IntResult}  {w : World}  {r : Bool} (H : laws_eqIntResult.f k x0 x1 = some r) :
  Calls Tryz.prog 12 ([.agg #[(.int .i64 x0.fCode), (.int .i64 x0.fValue)], .agg #[(.int .i64 x1.fCode), (.int .i64 x1.fValue)]] : List Value).toArray w (fun e w_ => ∃ v, e = .returned v ∧ v = (.bool r) ∧ Mem w [] w_ []) := by
 have HM := Mem.start w
 refine calls_run (N := 15) Tryz.func12 rfl rfl rfl rfl ?_
 unfold laws_eqIntResult.f at H
 refine run_seq ?_
 refine run_region rfl ?_
 refine od rfl rfl rfl rfl (does_box (cs := [.int .i64 x0.fCode, .int .i64 x0.fValue]) rfl rfl rfl HM) ?_
 rintro _ w8657 ⟨b8651, rfl, HM⟩
 refine od rfl rfl rfl rfl (does_box (cs := [.int .i64 x1.fCode, .int .i64 x1.fValue]) rfl rfl rfl HM) ?_
 rintro _ w8658 ⟨b8654, rfl, HM⟩
 refine ox rfl rfl rfl rfl (ex_assign rfl rfl) ?_
 refine ops_nil (at_then (run_seq ?_))
 refine run_seq ?_
 refine run_region rfl ?_
 refine ox rfl rfl rfl rfl (ex_fieldAddr (off' := 0) rfl rfl Tryz.underlying35 rfl tsz2 rfl) ?_
 refine ox rfl rfl rfl rfl (ex_load1 rfl rfl Tryz.underlying2 rfl ((HM.box_at 1 rfl) 0 _ rfl)) ?_
 refine ox rfl rfl rfl rfl (ex_fieldAddr (off' := 0) rfl rfl Tryz.underlying35 rfl tsz2 rfl) ?_
 refine ox rfl rfl rfl rfl (ex_load1 rfl rfl Tryz.underlying2 rfl ((HM.box_at 0 rfl) 0 _ rfl)) ?_
 refine ox rfl rfl rfl rfl (ex_neq rfl rfl rfl) ?_
 refine ops_nil (at_then ?_)
 refine run_cond (b := (x0.fCode != x1.fCode)) rfl (fun hb8660 => ?_) (fun hb8660 => ?_)
 ·replace H := cond_t hb8660 H
  refine run_seq ?_
  refine run_region rfl ?_
  refine ox rfl rfl rfl rfl (ex_assign rfl rfl) ?_
  refine ops_nil (at_then ?_)
  refine run_ret ?_
  refine at_then_ret ?_
  replace HM := (HM.front 0 rfl rfl).drop
  replace HM := (HM.front 0 rfl rfl).drop
  have hR := Option.some.inj H
  subst hR
  exact at_ret1 rfl rfl ⟨_, rfl, rfl, HM⟩
 ·replace H := cond_f hb8660 H
  refine run_skip ?_
  refine at_then ?_
  refine run_seq ?_
  refine run_seq ?_
  refine run_region rfl ?_
  refine ox rfl rfl rfl rfl (ex_fieldAddr (off' := 1) rfl rfl Tryz.underlying35 rfl tsz2 rfl) ?_
  refine ox rfl rfl rfl rfl (ex_load1 rfl rfl Tryz.underlying2 rfl ((HM.box_at 1 rfl) 1 _ rfl)) ?_
  refine ox rfl rfl rfl rfl (ex_fieldAddr (off' := 1) rfl rfl Tryz.underlying35 rfl tsz2 rfl) ?_
  refine ox rfl rfl rfl rfl (ex_load1 rfl rfl Tryz.underlying2 rfl ((HM.box_at 0 rfl) 1 _ rfl)) ?_
  refine ox rfl rfl rfl rfl (ex_neq rfl rfl rfl) ?_
  refine ops_nil (at_then ?_)
  refine run_cond (b := (x0.fValue != x1.fValue)) rfl (fun hb8661 => ?_) (fun hb8661 => ?_)
  ·replace H := cond_t hb8661 H
   refine run_seq ?_
   refine run_region rfl ?_
   refine ox rfl rfl rfl rfl (ex_assign rfl rfl) ?_
   refine ops_nil (at_then ?_)
   refine run_ret ?_
   refine at_then_ret ?_
   replace HM := (HM.front 0 rfl rfl).drop
   replace HM := (HM.front 0 rfl rfl).drop
   have hR := Option.some.inj H
   subst hR
   exact at_ret1 rfl rfl ⟨_, rfl, rfl, HM⟩
  ·replace H := cond_f hb8661 H
   refine run_skip ?_
   refine at_then ?_
   refine run_seq ?_
   refine run_region rfl ?_
   refine ox rfl rfl rfl rfl (ex_assign rfl rfl) ?_
   refine ops_nil (at_then ?_)
   refine run_ret ?_
   replace HM := (HM.front 0 rfl rfl).drop
   replace HM := (HM.front 0 rfl rfl).drop
   have hR := Option.some.inj H
   subst hR
   exact at_ret1 rfl rfl ⟨_, rfl, rfl, HM⟩
end Go.Proofs.YtpfaihnmonfkhaaGreatDoor.Zk
