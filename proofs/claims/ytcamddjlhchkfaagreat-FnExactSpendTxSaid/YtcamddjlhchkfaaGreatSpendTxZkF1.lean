/- What functions of the program compute, each as a plain function, and that they do. Conditions: as each theorem states them. -/
import Derived.Test.YtcamddjlhchkfaaGreatSpendTxZkF0
namespace Go.Proofs.YtcamddjlhchkfaaGreat.Zk
open Go Go.RowKit Go.IntWalk Go.Proofs
set_option linter.unusedVariables false
set_option linter.unusedSimpArgs false
set_option maxRecDepth 100000
set_option maxHeartbeats 4000000
def laws_toCoinS.l0 (x0 : List Coin) : Nat → (List Coin) → Int → Option ((List Coin))
  | 0, _, _ => none
  | k + 1, a569, a571 => (bif (decide (a571 < (x0.length : Int))) then (chk (idxOk a571 x0.length) ((laws_toCoin.f k (gt x0 a571)).bind fun t589 => (chk (idxOk a571 a569.length) (laws_toCoinS.l0 x0 k (a569.set (a571).toNat t589) (wrap64 (a571 + 1)))))) else some a569)
theorem laws_toCoinS.l0_z (x0 : List Coin) (a569 : List Coin) (a571 : Int) : laws_toCoinS.l0 x0 0 a569 a571 = none := rfl
theorem laws_toCoinS.l0_s (x0 : List Coin) (k : Nat) (a569 : List Coin) (a571 : Int) : laws_toCoinS.l0 x0 (k + 1) a569 a571 = (bif (decide (a571 < (x0.length : Int))) then (chk (idxOk a571 x0.length) ((laws_toCoin.f k (gt x0 a571)).bind fun t589 => (chk (idxOk a571 a569.length) (laws_toCoinS.l0 x0 k (a569.set (a571).toNat t589) (wrap64 (a571 + 1)))))) else some a569) := rfl
def laws_toCoinS.f (k : Nat) (x0 : List Coin) : Option ((List Coin)) := (chk (decide (0 ≤ (x0.length : Int))) (chk (leB (((x0.length : Int)).toNat * 80) 281474976710656) ((laws_toCoinS.l0 x0 k (List.replicate ((x0.length : Int)).toNat (⟨(⟨0, 0⟩ : Ref), (⟨0, (⟨[], 0, 0⟩ : Rule)⟩ : Out), 0, false⟩ : Coin)) 0).bind (fun a554 => some a554))))
theorem laws_toCoinS.calls {k : Nat} {x0 : List Coin} {p0 : Value} {w : World} (hp0 : RdS kCoin w p0 x0) {r : (List Coin)} (H : laws_toCoinS.f k x0 = some r) :
    Calls Tryz.prog 10 ([p0] : List Value).toArray w (fun e w_ => ∃ v, e = .returned v ∧ ∃ u0 : Value, v = u0 ∧ Mem w [] w_ [own kCoin 77 u0 r]) := by
  have HM := Mem.start w
  refine calls_run (N := 23) Tryz.func10 rfl rfl rfl rfl ?_
  unfold laws_toCoinS.f at H
  refine run_seq ?_
  refine run_region rfl ?_
  refine ops_ex rfl (guard_none rfl) rfl rfl (ex_assign rfl rfl) ?_
  refine ops_nil ?_
  refine at_then ?_
  refine run_seq ?_
  obtain ⟨e516, H⟩ := chk_some H
  obtain ⟨e517, H⟩ := chk_some H
  refine run_region rfl ?_
  refine ops_ex rfl (guard_none rfl) rfl rfl (ex_move rfl rfl) ?_
  refine ops_ex rfl (guard_none rfl) rfl rfl (ex_len (d := kCoin) (xs := x0) rfl rfl Tryz.underlying22 hp0) ?_
  refine ops_does rfl (guard_none rfl) rfl rfl (does_make (x := (⟨(⟨0, 0⟩ : Ref), (⟨0, (⟨[], 0, 0⟩ : Rule)⟩ : Out), 0, false⟩ : Coin)) kCoin rfl rfl rfl Tryz.underlying29 tsz77 tby77 tz77 rfl rfl (fun _ => ⟨.slice none 0 0, rfl, OwS.nil _ _ _ _⟩) (of_decide_eq_true e516) rfl (leB_le e517) rfl HM) ?_
  rintro v513 w518 HM
  refine ops_ex rfl (guard_none rfl) rfl rfl (ex_assign rfl rfl) ?_
  refine ops_nil ?_
  refine at_then ?_
  obtain ⟨o556, ho557, H⟩ := bind_some H
  refine run_mid (fun ρ_ w_ => ∃ v553 : Value, ∃ a554 : List Coin, a554 = o556 ∧ ρ_ = [(3, v553)] ∧ Mem w [] w_ [own kCoin 77 v553 a554]) ?_ ?_
  · clear H
    refine run_seq ?_
    refine run_region rfl ?_
    refine ops_ex rfl (guard_none rfl) rfl rfl (ex_assign rfl rfl) ?_
    refine ops_nil ?_
    refine at_then ?_
    refine run_block ?_
    refine run_loop (fun k_ ρ_ w_ => ∃ v568 : Value, ∃ a569 : List Coin, ∃ a571 : Int, laws_toCoinS.l0 x0 k_ a569 a571 = some o556 ∧ ρ_ = [(0, p0), (3, v568), (4, .int .i64 a571)] ∧ Mem w [] w_ [own kCoin 77 v568 a569]) k (ρ1 := [(0, p0), (3, v513), (4, .int .i64 0)]) ⟨_, _, _, ho557, rfl, HM⟩ (Sub.cons rfl (Sub.cons rfl (Sub.cons rfl Sub.nil))) ?_
    clear HM ho557
    rintro k582 _ w583 ⟨v568, a569, a571, ho557, rfl, HM⟩
    obtain _ | k582 := k582
    · exact nomatch ((laws_toCoinS.l0_z x0 a569 a571).symm.trans ho557)
    replace ho557 := (laws_toCoinS.l0_s x0 k582 a569 a571).symm.trans ho557
    refine run_seq ?_
    refine run_seq ?_
    refine run_region rfl ?_
    refine ops_ex rfl (guard_none rfl) rfl rfl (ex_move rfl rfl) ?_
    refine ops_ex rfl (guard_none rfl) rfl rfl (ex_move rfl rfl) ?_
    refine ops_ex rfl (guard_none rfl) rfl rfl (ex_len (d := kCoin) (xs := x0) rfl rfl Tryz.underlying22 hp0) ?_
    refine ops_ex rfl (guard_none rfl) rfl rfl (ex_lss rfl rfl rfl) ?_
    refine ops_nil ?_
    refine at_then ?_
    refine run_cond (b := (decide (a571 < (x0.length : Int)))) rfl (fun hb584 => ?_) (fun hb584 => ?_)
    · replace ho557 := cond_t hb584 ho557
      refine run_skip ?_
      refine at_then ?_
      refine run_seq ?_
      refine run_block ?_
      obtain ⟨e585, ho557⟩ := chk_some ho557
      obtain ⟨t589, h590, ho557⟩ := bind_some ho557
      obtain ⟨e593, ho557⟩ := chk_some ho557
      refine run_region rfl ?_
      refine ops_ex rfl (guard_none rfl) rfl rfl (ex_move rfl rfl) ?_
      refine ops_ex rfl (guard_none rfl) rfl rfl (ex_move rfl rfl) ?_
      refine ops_ex rfl (guard_none rfl) rfl rfl (ex_move rfl rfl) ?_
      refine ops_ex rfl (guard_none rfl) rfl rfl (ex_move rfl rfl) ?_
      obtain ⟨kv587, hc586, hk588⟩ : ∃ u, CellsAt _ (sb p0) (so p0 + (a571).toNat * 8) [(.int .i64 ((gt x0 a571).fRef.fTx)), (.int .i64 ((gt x0 a571).fRef.fAt)), (.int .i64 ((gt x0 a571).fOut.fValue)), u, (.int .i64 ((gt x0 a571).fOut.fRule.fNeed)), (.int .i64 ((gt x0 a571).fOut.fRule.fAfter)), (.int .i64 ((gt x0 a571).fHeight)), (.bool ((gt x0 a571).fMined))] ∧ RdS kInt _ u ((gt x0 a571).fOut.fRule.fKeys) := rd_with1 hp0 e585
      refine ops_ex rfl (guard_none rfl) rfl rfl (ex_indexAddr (d := kCoin) rfl rfl rfl Tryz.underlying22 tsz66 hp0 (idx_lo e585) (idx_hi e585)) ?_
      refine ops_ex rfl (guard_none rfl) rfl rfl (ex_loadN (cs := [(.int .i64 ((gt x0 a571).fRef.fTx)), (.int .i64 ((gt x0 a571).fRef.fAt)), (.int .i64 ((gt x0 a571).fOut.fValue)), kv587, (.int .i64 ((gt x0 a571).fOut.fRule.fNeed)), (.int .i64 ((gt x0 a571).fOut.fRule.fAfter)), (.int .i64 ((gt x0 a571).fHeight)), (.bool ((gt x0 a571).fMined))]) rfl rfl Tryz.underlying66 rfl tsz66 rfl ((HM.at_ hc586).sub 0 8 rfl)) ?_
      refine ops_does rfl (guard_none rfl) rfl rfl (does_callk rfl callok35 rfl (laws_toCoin.calls (x0 := (gt x0 a571)) (HM.rd hk588) h590)) ?_
      rintro _ w594 ⟨u591, rfl, hn⟩
      replace HM : Mem w [] w594 [own kInt 2 u591 t589.fOut.fRule.fKeys, own kCoin 77 v568 a569] := HM.call hn
      refine ops_ex rfl (guard_none rfl) rfl rfl (ex_indexAddr (d := kCoin) rfl rfl rfl Tryz.underlying29 tsz77 (HM.own_rd 1 rfl) (idx_lo e593) (idx_hi e593)) ?_
      replace HM := HM.front 1 rfl rfl
      refine ops_doesS rfl (guard_none rfl) rfl (does_setElem (vs := [(.int .i64 t589.fRef.fTx), (.int .i64 t589.fRef.fAt), (.int .i64 t589.fOut.fValue), u591, (.int .i64 t589.fOut.fRule.fNeed), (.int .i64 t589.fOut.fRule.fAfter), (.int .i64 t589.fHeight), (.bool t589.fMined)]) (y := t589) kCoin rfl rfl rfl rfl rfl tsz77 rfl rfl (idx_nat e593) (fun _ _ h => ⟨_, rfl, h⟩) HM) ?_
      rintro w595 HM
      refine ops_nil ?_
      refine at_block ?_
      refine at_then ?_
      refine run_region rfl ?_
      refine ops_ex rfl (guard_none rfl) rfl rfl (ex_move rfl rfl) ?_
      refine ops_ex rfl (guard_none rfl) rfl rfl (ex_add rfl rfl rfl) ?_
      refine ops_ex rfl (guard_none rfl) rfl rfl (ex_assign rfl rfl) ?_
      refine ops_nil ?_
      exact at_again k582 (ρ1 := [(0, p0), (3, v568), (4, .int .i64 (wrap64 (a571 + 1)))]) (Nat.lt_succ_self _) ⟨_, _, _, ho557, rfl, HM⟩ (Sub.cons rfl (Sub.cons rfl (Sub.cons rfl Sub.nil)))
    · replace ho557 := cond_f hb584 ho557
      refine run_exit ?_
      refine at_then_exit ?_
      refine at_then_exit ?_
      refine at_block_exit ?_
      exact at_mid (ρ' := [(3, v568)]) ⟨_, _, (Option.some.inj ho557), rfl, HM⟩ (Sub.cons rfl Sub.nil)
  · rintro _ w596 ⟨v553, a554, rfl, rfl, HM⟩
    refine run_seq ?_
    refine run_region rfl ?_
    refine ops_ex rfl (guard_none rfl) rfl rfl (ex_move rfl rfl) ?_
    refine ops_ex rfl (guard_none rfl) rfl rfl (ex_assign rfl rfl) ?_
    refine ops_nil ?_
    refine at_then ?_
    refine run_ret ?_
    have hR := Option.some.inj H
    subst hR
    exact at_ret1 rfl rfl ⟨_, rfl, _, rfl, HM⟩

def laws_toRefS.l0 (x0 : List Ref) : Nat → (List Ref) → Int → Option ((List Ref))
  | 0, _, _ => none
  | k + 1, a682, a684 => (bif (decide (a684 < (x0.length : Int))) then (chk (idxOk a684 x0.length) ((laws_toRef.f k (gt x0 a684)).bind fun t696 => (chk (idxOk a684 a682.length) (laws_toRefS.l0 x0 k (a682.set (a684).toNat t696) (wrap64 (a684 + 1)))))) else some a682)
theorem laws_toRefS.l0_z (x0 : List Ref) (a682 : List Ref) (a684 : Int) : laws_toRefS.l0 x0 0 a682 a684 = none := rfl
theorem laws_toRefS.l0_s (x0 : List Ref) (k : Nat) (a682 : List Ref) (a684 : Int) : laws_toRefS.l0 x0 (k + 1) a682 a684 = (bif (decide (a684 < (x0.length : Int))) then (chk (idxOk a684 x0.length) ((laws_toRef.f k (gt x0 a684)).bind fun t696 => (chk (idxOk a684 a682.length) (laws_toRefS.l0 x0 k (a682.set (a684).toNat t696) (wrap64 (a684 + 1)))))) else some a682) := rfl
def laws_toRefS.f (k : Nat) (x0 : List Ref) : Option ((List Ref)) := (chk (decide (0 ≤ (x0.length : Int))) (chk (leB (((x0.length : Int)).toNat * 16) 281474976710656) ((laws_toRefS.l0 x0 k (List.replicate ((x0.length : Int)).toNat (⟨0, 0⟩ : Ref)) 0).bind (fun a671 => some a671))))
theorem laws_toRefS.calls {k : Nat} {x0 : List Ref} {p0 : Value} {w : World} (hp0 : RdS kRef w p0 x0) {r : (List Ref)} (H : laws_toRefS.f k x0 = some r) :
    Calls Tryz.prog 36 ([p0] : List Value).toArray w (fun e w_ => ∃ v, e = .returned v ∧ ∃ u0 : Value, v = u0 ∧ Mem w [] w_ [own kRef 56 u0 r]) := by
  have HM := Mem.start w
  refine calls_run (N := 23) Tryz.func36 rfl rfl rfl rfl ?_
  unfold laws_toRefS.f at H
  refine run_seq ?_
  refine run_region rfl ?_
  refine ops_ex rfl (guard_none rfl) rfl rfl (ex_assign rfl rfl) ?_
  refine ops_nil ?_
  refine at_then ?_
  refine run_seq ?_
  obtain ⟨e645, H⟩ := chk_some H
  obtain ⟨e646, H⟩ := chk_some H
  refine run_region rfl ?_
  refine ops_ex rfl (guard_none rfl) rfl rfl (ex_move rfl rfl) ?_
  refine ops_ex rfl (guard_none rfl) rfl rfl (ex_len (d := kRef) (xs := x0) rfl rfl Tryz.underlying23 hp0) ?_
  refine ops_does rfl (guard_none rfl) rfl rfl (does_make (x := (⟨0, 0⟩ : Ref)) kRef rfl rfl rfl Tryz.underlying34 tsz56 tby56 tz56 rfl rfl (fun _ => ⟨rfl, rfl⟩) (of_decide_eq_true e645) rfl (leB_le e646) rfl HM) ?_
  rintro v642 w647 HM
  refine ops_ex rfl (guard_none rfl) rfl rfl (ex_assign rfl rfl) ?_
  refine ops_nil ?_
  refine at_then ?_
  obtain ⟨o673, ho674, H⟩ := bind_some H
  refine run_mid (fun ρ_ w_ => ∃ v670 : Value, ∃ a671 : List Ref, a671 = o673 ∧ ρ_ = [(3, v670)] ∧ Mem w [] w_ [own kRef 56 v670 a671]) ?_ ?_
  · clear H
    refine run_seq ?_
    refine run_region rfl ?_
    refine ops_ex rfl (guard_none rfl) rfl rfl (ex_assign rfl rfl) ?_
    refine ops_nil ?_
    refine at_then ?_
    refine run_block ?_
    refine run_loop (fun k_ ρ_ w_ => ∃ v681 : Value, ∃ a682 : List Ref, ∃ a684 : Int, laws_toRefS.l0 x0 k_ a682 a684 = some o673 ∧ ρ_ = [(0, p0), (3, v681), (4, .int .i64 a684)] ∧ Mem w [] w_ [own kRef 56 v681 a682]) k (ρ1 := [(0, p0), (3, v642), (4, .int .i64 0)]) ⟨_, _, _, ho674, rfl, HM⟩ (Sub.cons rfl (Sub.cons rfl (Sub.cons rfl Sub.nil))) ?_
    clear HM ho674
    rintro k691 _ w692 ⟨v681, a682, a684, ho674, rfl, HM⟩
    obtain _ | k691 := k691
    · exact nomatch ((laws_toRefS.l0_z x0 a682 a684).symm.trans ho674)
    replace ho674 := (laws_toRefS.l0_s x0 k691 a682 a684).symm.trans ho674
    refine run_seq ?_
    refine run_seq ?_
    refine run_region rfl ?_
    refine ops_ex rfl (guard_none rfl) rfl rfl (ex_move rfl rfl) ?_
    refine ops_ex rfl (guard_none rfl) rfl rfl (ex_move rfl rfl) ?_
    refine ops_ex rfl (guard_none rfl) rfl rfl (ex_len (d := kRef) (xs := x0) rfl rfl Tryz.underlying23 hp0) ?_
    refine ops_ex rfl (guard_none rfl) rfl rfl (ex_lss rfl rfl rfl) ?_
    refine ops_nil ?_
    refine at_then ?_
    refine run_cond (b := (decide (a684 < (x0.length : Int)))) rfl (fun hb693 => ?_) (fun hb693 => ?_)
    · replace ho674 := cond_t hb693 ho674
      refine run_skip ?_
      refine at_then ?_
      refine run_seq ?_
      refine run_block ?_
      obtain ⟨e694, ho674⟩ := chk_some ho674
      obtain ⟨t696, h697, ho674⟩ := bind_some ho674
      obtain ⟨e698, ho674⟩ := chk_some ho674
      refine run_region rfl ?_
      refine ops_ex rfl (guard_none rfl) rfl rfl (ex_move rfl rfl) ?_
      refine ops_ex rfl (guard_none rfl) rfl rfl (ex_move rfl rfl) ?_
      refine ops_ex rfl (guard_none rfl) rfl rfl (ex_move rfl rfl) ?_
      refine ops_ex rfl (guard_none rfl) rfl rfl (ex_move rfl rfl) ?_
      have hc695 : CellsAt _ (sb p0) (so p0 + (a684).toNat * 2) [(.int .i64 ((gt x0 a684).fTx)), (.int .i64 ((gt x0 a684).fAt))] := rd_plain hp0 e694
      refine ops_ex rfl (guard_none rfl) rfl rfl (ex_indexAddr (d := kRef) rfl rfl rfl Tryz.underlying23 tsz59 hp0 (idx_lo e694) (idx_hi e694)) ?_
      refine ops_ex rfl (guard_none rfl) rfl rfl (ex_loadN (cs := [(.int .i64 ((gt x0 a684).fTx)), (.int .i64 ((gt x0 a684).fAt))]) rfl rfl Tryz.underlying59 rfl tsz59 rfl ((HM.at_ hc695).sub 0 2 rfl)) ?_
      refine ops_does rfl (guard_none rfl) rfl rfl (does_callk rfl callok78 rfl (laws_toRef.calls (x0 := (gt x0 a684)) h697)) ?_
      rintro _ w699 ⟨rfl, hn⟩
      replace HM : Mem w [] w699 [own kRef 56 v681 a682] := HM.call hn
      refine ops_ex rfl (guard_none rfl) rfl rfl (ex_indexAddr (d := kRef) rfl rfl rfl Tryz.underlying34 tsz56 (HM.own_rd 0 rfl) (idx_lo e698) (idx_hi e698)) ?_
      refine ops_doesS rfl (guard_none rfl) rfl (does_setElem (vs := [(.int .i64 t696.fTx), (.int .i64 t696.fAt)]) (y := t696) kRef rfl rfl rfl rfl rfl tsz56 rfl rfl (idx_nat e698) (fun _ _ h => ⟨rfl, h⟩) (HM.emp.front 1 rfl rfl)) ?_
      rintro w700 HM
      refine ops_nil ?_
      refine at_block ?_
      refine at_then ?_
      refine run_region rfl ?_
      refine ops_ex rfl (guard_none rfl) rfl rfl (ex_move rfl rfl) ?_
      refine ops_ex rfl (guard_none rfl) rfl rfl (ex_add rfl rfl rfl) ?_
      refine ops_ex rfl (guard_none rfl) rfl rfl (ex_assign rfl rfl) ?_
      refine ops_nil ?_
      exact at_again k691 (ρ1 := [(0, p0), (3, v681), (4, .int .i64 (wrap64 (a684 + 1)))]) (Nat.lt_succ_self _) ⟨_, _, _, ho674, rfl, HM⟩ (Sub.cons rfl (Sub.cons rfl (Sub.cons rfl Sub.nil)))
    · replace ho674 := cond_f hb693 ho674
      refine run_exit ?_
      refine at_then_exit ?_
      refine at_then_exit ?_
      refine at_block_exit ?_
      exact at_mid (ρ' := [(3, v681)]) ⟨_, _, (Option.some.inj ho674), rfl, HM⟩ (Sub.cons rfl Sub.nil)
  · rintro _ w701 ⟨v670, a671, rfl, rfl, HM⟩
    refine run_seq ?_
    refine run_region rfl ?_
    refine ops_ex rfl (guard_none rfl) rfl rfl (ex_move rfl rfl) ?_
    refine ops_ex rfl (guard_none rfl) rfl rfl (ex_assign rfl rfl) ?_
    refine ops_nil ?_
    refine at_then ?_
    refine run_ret ?_
    have hR := Option.some.inj H
    subst hR
    exact at_ret1 rfl rfl ⟨_, rfl, _, rfl, HM⟩

def laws_toOutS.l0 (x0 : List Out) : Nat → (List Out) → Int → Option ((List Out))
  | 0, _, _ => none
  | k + 1, a806, a808 => (bif (decide (a808 < (x0.length : Int))) then (chk (idxOk a808 x0.length) ((laws_toOut.f k (gt x0 a808)).bind fun t826 => (chk (idxOk a808 a806.length) (laws_toOutS.l0 x0 k (a806.set (a808).toNat t826) (wrap64 (a808 + 1)))))) else some a806)
theorem laws_toOutS.l0_z (x0 : List Out) (a806 : List Out) (a808 : Int) : laws_toOutS.l0 x0 0 a806 a808 = none := rfl
theorem laws_toOutS.l0_s (x0 : List Out) (k : Nat) (a806 : List Out) (a808 : Int) : laws_toOutS.l0 x0 (k + 1) a806 a808 = (bif (decide (a808 < (x0.length : Int))) then (chk (idxOk a808 x0.length) ((laws_toOut.f k (gt x0 a808)).bind fun t826 => (chk (idxOk a808 a806.length) (laws_toOutS.l0 x0 k (a806.set (a808).toNat t826) (wrap64 (a808 + 1)))))) else some a806) := rfl
def laws_toOutS.f (k : Nat) (x0 : List Out) : Option ((List Out)) := (chk (decide (0 ≤ (x0.length : Int))) (chk (leB (((x0.length : Int)).toNat * 48) 281474976710656) ((laws_toOutS.l0 x0 k (List.replicate ((x0.length : Int)).toNat (⟨0, (⟨[], 0, 0⟩ : Rule)⟩ : Out)) 0).bind (fun a791 => some a791))))
theorem laws_toOutS.calls {k : Nat} {x0 : List Out} {p0 : Value} {w : World} (hp0 : RdS kOut w p0 x0) {r : (List Out)} (H : laws_toOutS.f k x0 = some r) :
    Calls Tryz.prog 37 ([p0] : List Value).toArray w (fun e w_ => ∃ v, e = .returned v ∧ ∃ u0 : Value, v = u0 ∧ Mem w [] w_ [own kOut 75 u0 r]) := by
  have HM := Mem.start w
  refine calls_run (N := 23) Tryz.func37 rfl rfl rfl rfl ?_
  unfold laws_toOutS.f at H
  refine run_seq ?_
  refine run_region rfl ?_
  refine ops_ex rfl (guard_none rfl) rfl rfl (ex_assign rfl rfl) ?_
  refine ops_nil ?_
  refine at_then ?_
  refine run_seq ?_
  obtain ⟨e753, H⟩ := chk_some H
  obtain ⟨e754, H⟩ := chk_some H
  refine run_region rfl ?_
  refine ops_ex rfl (guard_none rfl) rfl rfl (ex_move rfl rfl) ?_
  refine ops_ex rfl (guard_none rfl) rfl rfl (ex_len (d := kOut) (xs := x0) rfl rfl Tryz.underlying24 hp0) ?_
  refine ops_does rfl (guard_none rfl) rfl rfl (does_make (x := (⟨0, (⟨[], 0, 0⟩ : Rule)⟩ : Out)) kOut rfl rfl rfl Tryz.underlying35 tsz75 tby75 tz75 rfl rfl (fun _ => ⟨.slice none 0 0, rfl, OwS.nil _ _ _ _⟩) (of_decide_eq_true e753) rfl (leB_le e754) rfl HM) ?_
  rintro v750 w755 HM
  refine ops_ex rfl (guard_none rfl) rfl rfl (ex_assign rfl rfl) ?_
  refine ops_nil ?_
  refine at_then ?_
  obtain ⟨o793, ho794, H⟩ := bind_some H
  refine run_mid (fun ρ_ w_ => ∃ v790 : Value, ∃ a791 : List Out, a791 = o793 ∧ ρ_ = [(3, v790)] ∧ Mem w [] w_ [own kOut 75 v790 a791]) ?_ ?_
  · clear H
    refine run_seq ?_
    refine run_region rfl ?_
    refine ops_ex rfl (guard_none rfl) rfl rfl (ex_assign rfl rfl) ?_
    refine ops_nil ?_
    refine at_then ?_
    refine run_block ?_
    refine run_loop (fun k_ ρ_ w_ => ∃ v805 : Value, ∃ a806 : List Out, ∃ a808 : Int, laws_toOutS.l0 x0 k_ a806 a808 = some o793 ∧ ρ_ = [(0, p0), (3, v805), (4, .int .i64 a808)] ∧ Mem w [] w_ [own kOut 75 v805 a806]) k (ρ1 := [(0, p0), (3, v750), (4, .int .i64 0)]) ⟨_, _, _, ho794, rfl, HM⟩ (Sub.cons rfl (Sub.cons rfl (Sub.cons rfl Sub.nil))) ?_
    clear HM ho794
    rintro k819 _ w820 ⟨v805, a806, a808, ho794, rfl, HM⟩
    obtain _ | k819 := k819
    · exact nomatch ((laws_toOutS.l0_z x0 a806 a808).symm.trans ho794)
    replace ho794 := (laws_toOutS.l0_s x0 k819 a806 a808).symm.trans ho794
    refine run_seq ?_
    refine run_seq ?_
    refine run_region rfl ?_
    refine ops_ex rfl (guard_none rfl) rfl rfl (ex_move rfl rfl) ?_
    refine ops_ex rfl (guard_none rfl) rfl rfl (ex_move rfl rfl) ?_
    refine ops_ex rfl (guard_none rfl) rfl rfl (ex_len (d := kOut) (xs := x0) rfl rfl Tryz.underlying24 hp0) ?_
    refine ops_ex rfl (guard_none rfl) rfl rfl (ex_lss rfl rfl rfl) ?_
    refine ops_nil ?_
    refine at_then ?_
    refine run_cond (b := (decide (a808 < (x0.length : Int)))) rfl (fun hb821 => ?_) (fun hb821 => ?_)
    · replace ho794 := cond_t hb821 ho794
      refine run_skip ?_
      refine at_then ?_
      refine run_seq ?_
      refine run_block ?_
      obtain ⟨e822, ho794⟩ := chk_some ho794
      obtain ⟨t826, h827, ho794⟩ := bind_some ho794
      obtain ⟨e830, ho794⟩ := chk_some ho794
      refine run_region rfl ?_
      refine ops_ex rfl (guard_none rfl) rfl rfl (ex_move rfl rfl) ?_
      refine ops_ex rfl (guard_none rfl) rfl rfl (ex_move rfl rfl) ?_
      refine ops_ex rfl (guard_none rfl) rfl rfl (ex_move rfl rfl) ?_
      refine ops_ex rfl (guard_none rfl) rfl rfl (ex_move rfl rfl) ?_
      obtain ⟨kv824, hc823, hk825⟩ : ∃ u, CellsAt _ (sb p0) (so p0 + (a808).toNat * 4) [(.int .i64 ((gt x0 a808).fValue)), u, (.int .i64 ((gt x0 a808).fRule.fNeed)), (.int .i64 ((gt x0 a808).fRule.fAfter))] ∧ RdS kInt _ u ((gt x0 a808).fRule.fKeys) := rd_with1 hp0 e822
      refine ops_ex rfl (guard_none rfl) rfl rfl (ex_indexAddr (d := kOut) rfl rfl rfl Tryz.underlying24 tsz64 hp0 (idx_lo e822) (idx_hi e822)) ?_
      refine ops_ex rfl (guard_none rfl) rfl rfl (ex_loadN (cs := [(.int .i64 ((gt x0 a808).fValue)), kv824, (.int .i64 ((gt x0 a808).fRule.fNeed)), (.int .i64 ((gt x0 a808).fRule.fAfter))]) rfl rfl Tryz.underlying64 rfl tsz64 rfl ((HM.at_ hc823).sub 0 4 rfl)) ?_
      refine ops_does rfl (guard_none rfl) rfl rfl (does_callk rfl callok79 rfl (laws_toOut.calls (x0 := (gt x0 a808)) (HM.rd hk825) h827)) ?_
      rintro _ w831 ⟨u828, rfl, hn⟩
      replace HM : Mem w [] w831 [own kInt 2 u828 t826.fRule.fKeys, own kOut 75 v805 a806] := HM.call hn
      refine ops_ex rfl (guard_none rfl) rfl rfl (ex_indexAddr (d := kOut) rfl rfl rfl Tryz.underlying35 tsz75 (HM.own_rd 1 rfl) (idx_lo e830) (idx_hi e830)) ?_
      replace HM := HM.front 1 rfl rfl
      refine ops_doesS rfl (guard_none rfl) rfl (does_setElem (vs := [(.int .i64 t826.fValue), u828, (.int .i64 t826.fRule.fNeed), (.int .i64 t826.fRule.fAfter)]) (y := t826) kOut rfl rfl rfl rfl rfl tsz75 rfl rfl (idx_nat e830) (fun _ _ h => ⟨_, rfl, h⟩) HM) ?_
      rintro w832 HM
      refine ops_nil ?_
      refine at_block ?_
      refine at_then ?_
      refine run_region rfl ?_
      refine ops_ex rfl (guard_none rfl) rfl rfl (ex_move rfl rfl) ?_
      refine ops_ex rfl (guard_none rfl) rfl rfl (ex_add rfl rfl rfl) ?_
      refine ops_ex rfl (guard_none rfl) rfl rfl (ex_assign rfl rfl) ?_
      refine ops_nil ?_
      exact at_again k819 (ρ1 := [(0, p0), (3, v805), (4, .int .i64 (wrap64 (a808 + 1)))]) (Nat.lt_succ_self _) ⟨_, _, _, ho794, rfl, HM⟩ (Sub.cons rfl (Sub.cons rfl (Sub.cons rfl Sub.nil)))
    · replace ho794 := cond_f hb821 ho794
      refine run_exit ?_
      refine at_then_exit ?_
      refine at_then_exit ?_
      refine at_block_exit ?_
      exact at_mid (ρ' := [(3, v805)]) ⟨_, _, (Option.some.inj ho794), rfl, HM⟩ (Sub.cons rfl Sub.nil)
  · rintro _ w833 ⟨v790, a791, rfl, rfl, HM⟩
    refine run_seq ?_
    refine run_region rfl ?_
    refine ops_ex rfl (guard_none rfl) rfl rfl (ex_move rfl rfl) ?_
    refine ops_ex rfl (guard_none rfl) rfl rfl (ex_assign rfl rfl) ?_
    refine ops_nil ?_
    refine at_then ?_
    refine run_ret ?_
    have hR := Option.some.inj H
    subst hR
    exact at_ret1 rfl rfl ⟨_, rfl, _, rfl, HM⟩

def laws_toTx.f (k : Nat) (x0 : Tx) : Option Tx := ((laws_toRefS.f k x0.fIns).bind fun t852 => ((laws_toOutS.f k x0.fOuts).bind fun t858 => some (⟨x0.fKind, x0.fMember, t852, t858⟩ : Tx)))
theorem laws_toTx.calls {k : Nat} {x0 : Tx} {p0_0 : Value} {p0_1 : Value} {w : World} (hp0_0 : RdS kRef w p0_0 x0.fIns) (hp0_1 : RdS kOut w p0_1 x0.fOuts) {r : Tx} (H : laws_toTx.f k x0 = some r) :
    Calls Tryz.prog 11 ([.agg #[(.int .i64 x0.fKind), (.int .i64 x0.fMember), p0_0, p0_1]] : List Value).toArray w (fun e w_ => ∃ v, e = .returned v ∧ ∃ u0 : Value, ∃ u1 : Value, v = (.agg #[.int .i64 r.fKind, .int .i64 r.fMember, u0, u1]) ∧ Mem w [] w_ [own kRef 56 u0 r.fIns, own kOut 75 u1 r.fOuts]) := by
  have HM := Mem.start w
  refine calls_run (N := 19) Tryz.func11 rfl rfl rfl rfl ?_
  unfold laws_toTx.f at H
  refine run_seq ?_
  refine run_region rfl ?_
  refine ops_does rfl (guard_none rfl) rfl rfl (does_box (cs := [.int .i64 x0.fKind, .int .i64 x0.fMember, p0_0, p0_1]) rfl rfl rfl HM) ?_
  rintro _ w844 ⟨b838, rfl, HM⟩
  refine ops_does rfl (guard_none rfl) rfl rfl (does_alloc (cs := [.int .i64 0, .int .i64 0, .slice none 0 0, .slice none 0 0]) rfl tz37 rfl HM) ?_
  rintro _ w845 ⟨b841, rfl, HM⟩
  refine ops_nil ?_
  refine at_then ?_
  refine run_seq ?_
  refine run_region rfl ?_
  refine ops_does rfl (guard_none rfl) rfl rfl (does_alloc (cs := [.int .i64 0, .int .i64 0, .slice none 0 0, .slice none 0 0]) rfl tz37 rfl HM) ?_
  rintro _ w849 ⟨b846, rfl, HM⟩
  refine ops_nil ?_
  refine at_then ?_
  refine run_seq ?_
  refine run_region rfl ?_
  refine ops_ex rfl (guard_none rfl) rfl rfl (ex_fieldAddr (off' := 0) rfl rfl Tryz.underlying26 rfl tsz2 rfl) ?_
  refine ops_ex rfl (guard_none rfl) rfl rfl (ex_load1 rfl rfl Tryz.underlying2 rfl ((HM.box_at 2 rfl) 0 _ rfl)) ?_
  refine ops_ex rfl (guard_none rfl) rfl rfl (ex_fieldAddr (off' := 0) rfl rfl Tryz.underlying37 rfl tsz2 rfl) ?_
  refine ops_doesS rfl (guard_none rfl) rfl (does_store (vs := [.int .i64 x0.fKind]) (cs' := [.int .i64 x0.fKind, .int .i64 0, .slice none 0 0, .slice none 0 0]) rfl rfl rfl rfl tsz2 (Ones.int Ones.nil) rfl rfl HM) ?_
  rintro w850 HM
  refine ops_nil ?_
  refine at_then ?_
  refine run_seq ?_
  refine run_region rfl ?_
  refine ops_ex rfl (guard_none rfl) rfl rfl (ex_fieldAddr (off' := 1) rfl rfl Tryz.underlying26 rfl tsz2 rfl) ?_
  refine ops_ex rfl (guard_none rfl) rfl rfl (ex_load1 rfl rfl Tryz.underlying2 rfl ((HM.box_at 2 rfl) 1 _ rfl)) ?_
  refine ops_ex rfl (guard_none rfl) rfl rfl (ex_fieldAddr (off' := 1) rfl rfl Tryz.underlying37 rfl tsz2 rfl) ?_
  refine ops_doesS rfl (guard_none rfl) rfl (does_store (vs := [.int .i64 x0.fMember]) (cs' := [.int .i64 x0.fKind, .int .i64 x0.fMember, .slice none 0 0, .slice none 0 0]) rfl rfl rfl rfl tsz2 (Ones.int Ones.nil) rfl rfl HM) ?_
  rintro w851 HM
  refine ops_nil ?_
  refine at_then ?_
  refine run_seq ?_
  obtain ⟨t852, h853, H⟩ := bind_some H
  refine run_region rfl ?_
  refine ops_ex rfl (guard_none rfl) rfl rfl (ex_fieldAddr (off' := 2) rfl rfl Tryz.underlying26 rfl tsz23 rfl) ?_
  refine ops_ex rfl (guard_none rfl) rfl rfl (ex_load1 rfl rfl Tryz.underlying23 rfl ((HM.box_at 2 rfl) 2 _ rfl)) ?_
  refine ops_does rfl (guard_none rfl) rfl rfl (does_callk rfl callok36 rfl (laws_toRefS.calls (x0 := x0.fIns) (HM.rd hp0_0) h853)) ?_
  rintro u854 w856 ⟨_, rfl, hn⟩
  replace HM : Mem w [] w856 [own kRef 56 u854 t852, box b846 37 [.int .i64 x0.fKind, .int .i64 x0.fMember, .slice none 0 0, .slice none 0 0], box b841 37 [.int .i64 0, .int .i64 0, .slice none 0 0, .slice none 0 0], box b838 26 [.int .i64 x0.fKind, .int .i64 x0.fMember, p0_0, p0_1]] := HM.call hn
  refine ops_ex rfl (guard_none rfl) rfl rfl (ex_fieldAddr (off' := 2) rfl rfl Tryz.underlying37 rfl tsz34 rfl) ?_
  replace HM := HM.front 1 rfl rfl
  refine ops_doesS rfl (guard_none rfl) rfl (does_store (vs := [u854]) (cs' := [.int .i64 x0.fKind, .int .i64 x0.fMember, u854, .slice none 0 0]) rfl rfl rfl (rd_cells (HM.own_rd 1 rfl)) tsz34 (Ones.rd (HM.own_rd 1 rfl) Ones.nil) rfl rfl HM) ?_
  rintro w857 HM
  refine ops_nil ?_
  refine at_then ?_
  refine run_seq ?_
  obtain ⟨t858, h859, H⟩ := bind_some H
  refine run_region rfl ?_
  refine ops_ex rfl (guard_none rfl) rfl rfl (ex_fieldAddr (off' := 3) rfl rfl Tryz.underlying26 rfl tsz24 rfl) ?_
  refine ops_ex rfl (guard_none rfl) rfl rfl (ex_load1 rfl rfl Tryz.underlying24 rfl ((HM.box_at 3 rfl) 3 _ rfl)) ?_
  refine ops_does rfl (guard_none rfl) rfl rfl (does_callk rfl callok37 rfl (laws_toOutS.calls (x0 := x0.fOuts) (HM.rd hp0_1) h859)) ?_
  rintro u860 w862 ⟨_, rfl, hn⟩
  replace HM : Mem w [] w862 [own kOut 75 u860 t858, box b846 37 [.int .i64 x0.fKind, .int .i64 x0.fMember, u854, .slice none 0 0], own kRef 56 u854 t852, box b841 37 [.int .i64 0, .int .i64 0, .slice none 0 0, .slice none 0 0], box b838 26 [.int .i64 x0.fKind, .int .i64 x0.fMember, p0_0, p0_1]] := HM.call hn
  refine ops_ex rfl (guard_none rfl) rfl rfl (ex_fieldAddr (off' := 3) rfl rfl Tryz.underlying37 rfl tsz35 rfl) ?_
  replace HM := HM.front 1 rfl rfl
  refine ops_doesS rfl (guard_none rfl) rfl (does_store (vs := [u860]) (cs' := [.int .i64 x0.fKind, .int .i64 x0.fMember, u854, u860]) rfl rfl rfl (rd_cells (HM.own_rd 1 rfl)) tsz35 (Ones.rd (HM.own_rd 1 rfl) Ones.nil) rfl rfl HM) ?_
  rintro w863 HM
  refine ops_nil ?_
  refine at_then ?_
  refine run_seq ?_
  refine run_region rfl ?_
  refine ops_ex rfl (guard_none rfl) rfl rfl (ex_loadN (cs := [(.int .i64 x0.fKind), (.int .i64 x0.fMember), u854, u860]) rfl rfl Tryz.underlying37 rfl tsz37 rfl ((HM.box_at 0 rfl).sub 0 4 rfl)) ?_
  replace HM := HM.front 3 rfl rfl
  refine ops_doesS rfl (guard_none rfl) rfl (does_store (vs := [.int .i64 x0.fKind, .int .i64 x0.fMember, u854, u860]) (cs' := [.int .i64 x0.fKind, .int .i64 x0.fMember, u854, u860]) rfl rfl rfl rfl tsz37 (Ones.int (Ones.int (Ones.rd (HM.own_rd 3 rfl) (Ones.rd (HM.own_rd 2 rfl) Ones.nil)))) rfl rfl HM) ?_
  rintro w864 HM
  refine ops_nil ?_
  refine at_then ?_
  refine run_ret ?_
  replace HM := (HM.front 1 rfl rfl).drop
  replace HM := (HM.front 3 rfl rfl).drop
  replace HM := HM.front 1 rfl rfl
  replace HM := HM.front 2 rfl rfl
  replace HM := HM.front 2 rfl rfl
  have hcb0 := HM.box_at 0 rfl
  replace HM := (HM.front 0 rfl rfl).drop
  have hR := Option.some.inj H
  subst hR
  exact at_retN rfl rfl Tryz.underlying37 rfl tsz37 rfl hcb0 ⟨_, rfl, _, _, rfl, HM⟩

def spec_l1In.f (k : Nat) (x0 : Int) (x1 : Int) (x2 : Int) : Option Bool := some ((decide (x1 ≤ x0)) && (decide (x0 ≤ x2)))
theorem spec_l1In.calls {k : Nat} {x0 : Int} {x1 : Int} {x2 : Int}  {w : World}  {r : Bool} (H : spec_l1In.f k x0 x1 x2 = some r) :
    Calls Tryz.prog 47 ([.int .i64 x0, .int .i64 x1, .int .i64 x2] : List Value).toArray w (fun e w_ => ∃ v, e = .returned v ∧ v = (.bool r) ∧ Mem w [] w_ []) := by
  have HM := Mem.start w
  refine calls_run (N := 15) Tryz.func47 rfl rfl rfl rfl ?_
  unfold spec_l1In.f at H
  refine run_seq ?_
  refine run_region rfl ?_
  refine ops_ex rfl (guard_none rfl) rfl rfl (ex_assign rfl rfl) ?_
  refine ops_nil ?_
  refine at_then ?_
  refine run_seq ?_
  refine run_meet (fun ρ_ w_ => ρ_ = [(6, .bool ((decide (x1 ≤ x0)) && (decide (x0 ≤ x2))))] ∧ Mem w [] w_ []) ?_ ?_
  · skip
    refine run_region rfl ?_
    refine ops_ex rfl (guard_none rfl) rfl rfl (ex_move rfl rfl) ?_
    refine ops_ex rfl (guard_none rfl) rfl rfl (ex_move rfl rfl) ?_
    refine ops_ex rfl (guard_none rfl) rfl rfl (ex_geq rfl rfl rfl) ?_
    refine ops_ex rfl (guard_none rfl) rfl rfl (ex_move rfl rfl) ?_
    refine bool_cases (decide (x1 ≤ x0)) (fun hg893 => ?_) (fun hg893 => ?_)
    · skip
      refine ops_ex rfl (guard_on rfl rfl rfl hg893) rfl rfl (ex_move rfl rfl) ?_
      refine ops_ex rfl (guard_on rfl rfl rfl hg893) rfl rfl (ex_move rfl rfl) ?_
      refine ops_ex rfl (guard_on rfl rfl rfl hg893) rfl rfl (ex_leq rfl rfl rfl) ?_
      refine ops_ex (v := .bool ((decide (x1 ≤ x0)) && (decide (x0 ≤ x2)))) rfl (guard_none rfl) rfl rfl (ex_pand_t rfl rfl hg893 rfl) ?_
      refine ops_ex rfl (guard_none rfl) rfl rfl (ex_assign rfl rfl) ?_
      refine ops_nil ?_
      exact at_meet [(6, .bool ((decide (x1 ≤ x0)) && (decide (x0 ≤ x2))))] ⟨rfl, HM⟩ (Sub.cons rfl Sub.nil)
    · skip
      refine ops_off rfl (guard_off rfl rfl rfl hg893) rfl rfl ?_
      refine ops_off rfl (guard_off rfl rfl rfl hg893) rfl rfl ?_
      refine ops_off rfl (guard_off rfl rfl rfl hg893) rfl rfl ?_
      have hg894 : ((decide (x1 ≤ x0)) && (decide (x0 ≤ x2))) = false := by simp only [hg893, Bool.and_true, Bool.true_and, Bool.and_false, Bool.false_and, Bool.or_true, Bool.true_or, Bool.or_false, Bool.false_or, Bool.not_true, Bool.not_false, Bool.not_not]
      refine ops_ex (v := .bool ((decide (x1 ≤ x0)) && (decide (x0 ≤ x2)))) rfl (guard_none rfl) rfl rfl (ex_pand_f rfl rfl hg893) ?_
      refine ops_ex rfl (guard_none rfl) rfl rfl (ex_assign rfl rfl) ?_
      refine ops_nil ?_
      exact at_meet [(6, .bool ((decide (x1 ≤ x0)) && (decide (x0 ≤ x2))))] ⟨rfl, HM⟩ (Sub.cons rfl Sub.nil)
  · rintro _ w895 ⟨rfl, HM⟩
    refine at_then ?_
    refine run_ret ?_
    have hR := Option.some.inj H
    subst hR
    exact at_ret1 rfl rfl ⟨_, rfl, rfl, HM⟩

def spec_l3Ref.f (k : Nat) (x0 : Ref) : Option Bool := ((spec_l1In.f k x0.fTx 1 60).bind fun t904 => ((bif t904 then spec_l1In.f k x0.fAt 0 3 else some default).bind fun t906 => some (t904 && t906)))
theorem spec_l3Ref.calls {k : Nat} {x0 : Ref}  {w : World}  {r : Bool} (H : spec_l3Ref.f k x0 = some r) :
    Calls Tryz.prog 70 ([.agg #[(.int .i64 x0.fTx), (.int .i64 x0.fAt)]] : List Value).toArray w (fun e w_ => ∃ v, e = .returned v ∧ v = (.bool r) ∧ Mem w [] w_ []) := by
  have HM := Mem.start w
  refine calls_run (N := 11) Tryz.func70 rfl rfl rfl rfl ?_
  unfold spec_l3Ref.f at H
  refine run_seq ?_
  refine run_region rfl ?_
  refine ops_does rfl (guard_none rfl) rfl rfl (does_box (cs := [.int .i64 x0.fTx, .int .i64 x0.fAt]) rfl rfl rfl HM) ?_
  rintro _ w903 ⟨b900, rfl, HM⟩
  refine ops_ex rfl (guard_none rfl) rfl rfl (ex_assign rfl rfl) ?_
  refine ops_nil ?_
  refine at_then ?_
  refine run_seq ?_
  obtain ⟨t904, h905, H⟩ := bind_some H
  obtain ⟨t906, h907, H⟩ := bind_some H
  refine run_meet (fun ρ_ w_ => ρ_ = [(2, .bool (t904 && t906))] ∧ Mem w [] w_ []) ?_ ?_
  · skip
    refine run_region rfl ?_
    refine ops_ex rfl (guard_none rfl) rfl rfl (ex_fieldAddr (off' := 0) rfl rfl Tryz.underlying56 rfl tsz2 rfl) ?_
    refine ops_ex rfl (guard_none rfl) rfl rfl (ex_load1 rfl rfl Tryz.underlying2 rfl ((HM.box_at 0 rfl) 0 _ rfl)) ?_
    refine ops_does rfl (guard_none rfl) rfl rfl (does_callk rfl callok47 rfl (spec_l1In.calls (x0 := x0.fTx) (x1 := 1) (x2 := 60) h905)) ?_
    rintro _ w908 ⟨rfl, hn⟩
    replace HM : Mem w [] w908 [box b900 56 [.int .i64 x0.fTx, .int .i64 x0.fAt]] := HM.call hn
    refine ops_ex rfl (guard_none rfl) rfl rfl (ex_move rfl rfl) ?_
    refine bool_cases t904 (fun hg909 => ?_) (fun hg909 => ?_)
    · skip
      refine ops_ex rfl (guard_on rfl rfl rfl hg909) rfl rfl (ex_fieldAddr (off' := 1) rfl rfl Tryz.underlying56 rfl tsz2 rfl) ?_
      refine ops_ex rfl (guard_on rfl rfl rfl hg909) rfl rfl (ex_load1 rfl rfl Tryz.underlying2 rfl ((HM.box_at 0 rfl) 1 _ rfl)) ?_
      refine ops_does rfl (guard_on rfl rfl rfl hg909) rfl rfl (does_callk rfl callok47 rfl (spec_l1In.calls (x0 := x0.fAt) (x1 := 0) (x2 := 3) (cond_t hg909 h907))) ?_
      rintro _ w910 ⟨rfl, hn⟩
      replace HM : Mem w [] w910 [box b900 56 [.int .i64 x0.fTx, .int .i64 x0.fAt]] := HM.call hn
      refine ops_ex (v := .bool (t904 && t906)) rfl (guard_none rfl) rfl rfl (ex_pand_t rfl rfl hg909 rfl) ?_
      refine ops_ex rfl (guard_none rfl) rfl rfl (ex_assign rfl rfl) ?_
      refine ops_nil ?_
      replace HM := (HM.front 0 rfl rfl).drop
      exact at_meet [(2, .bool (t904 && t906))] ⟨rfl, HM⟩ (Sub.cons rfl Sub.nil)
    · skip
      refine ops_off rfl (guard_off rfl rfl rfl hg909) rfl rfl ?_
      refine ops_off rfl (guard_off rfl rfl rfl hg909) rfl rfl ?_
      refine ops_off rfl (guard_off rfl rfl rfl hg909) rfl rfl ?_
      have hg911 : (t904 && t906) = false := by simp only [hg909, Bool.and_true, Bool.true_and, Bool.and_false, Bool.false_and, Bool.or_true, Bool.true_or, Bool.or_false, Bool.false_or, Bool.not_true, Bool.not_false, Bool.not_not]
      refine ops_ex (v := .bool (t904 && t906)) rfl (guard_none rfl) rfl rfl (ex_pand_f rfl rfl hg909) ?_
      refine ops_ex rfl (guard_none rfl) rfl rfl (ex_assign rfl rfl) ?_
      refine ops_nil ?_
      replace HM := (HM.front 0 rfl rfl).drop
      exact at_meet [(2, .bool (t904 && t906))] ⟨rfl, HM⟩ (Sub.cons rfl Sub.nil)
  · rintro _ w912 ⟨rfl, HM⟩
    refine at_then ?_
    refine run_ret ?_
    have hR := Option.some.inj H
    subst hR
    exact at_ret1 rfl rfl ⟨_, rfl, rfl, HM⟩

def spec_l2Height.f (k : Nat) (x0 : Int) : Option Bool := ((spec_l1In.f k x0 0 999).bind fun t921 => some t921)
theorem spec_l2Height.calls {k : Nat} {x0 : Int}  {w : World}  {r : Bool} (H : spec_l2Height.f k x0 = some r) :
    Calls Tryz.prog 71 ([.int .i64 x0] : List Value).toArray w (fun e w_ => ∃ v, e = .returned v ∧ v = (.bool r) ∧ Mem w [] w_ []) := by
  have HM := Mem.start w
  refine calls_run (N := 5) Tryz.func71 rfl rfl rfl rfl ?_
  unfold spec_l2Height.f at H
  refine run_seq ?_
  refine run_region rfl ?_
  refine ops_ex rfl (guard_none rfl) rfl rfl (ex_assign rfl rfl) ?_
  refine ops_nil ?_
  refine at_then ?_
  refine run_seq ?_
  obtain ⟨t921, h922, H⟩ := bind_some H
  refine run_region rfl ?_
  refine ops_ex rfl (guard_none rfl) rfl rfl (ex_move rfl rfl) ?_
  refine ops_does rfl (guard_none rfl) rfl rfl (does_callk rfl callok47 rfl (spec_l1In.calls (x0 := x0) (x1 := 0) (x2 := 999) h922)) ?_
  rintro _ w923 ⟨rfl, hn⟩
  replace HM : Mem w [] w923 [] := HM.call hn
  refine ops_ex rfl (guard_none rfl) rfl rfl (ex_assign rfl rfl) ?_
  refine ops_nil ?_
  refine at_then ?_
  refine run_ret ?_
  have hR := Option.some.inj H
  subst hR
  exact at_ret1 rfl rfl ⟨_, rfl, rfl, HM⟩

def spec_l1Key.f (k : Nat) (x0 : Int) : Option Bool := ((spec_l1In.f k x0 1 999).bind fun t961 => some t961)
theorem spec_l1Key.calls {k : Nat} {x0 : Int}  {w : World}  {r : Bool} (H : spec_l1Key.f k x0 = some r) :
    Calls Tryz.prog 74 ([.int .i64 x0] : List Value).toArray w (fun e w_ => ∃ v, e = .returned v ∧ v = (.bool r) ∧ Mem w [] w_ []) := by
  have HM := Mem.start w
  refine calls_run (N := 5) Tryz.func74 rfl rfl rfl rfl ?_
  unfold spec_l1Key.f at H
  refine run_seq ?_
  refine run_region rfl ?_
  refine ops_ex rfl (guard_none rfl) rfl rfl (ex_assign rfl rfl) ?_
  refine ops_nil ?_
  refine at_then ?_
  refine run_seq ?_
  obtain ⟨t961, h962, H⟩ := bind_some H
  refine run_region rfl ?_
  refine ops_ex rfl (guard_none rfl) rfl rfl (ex_move rfl rfl) ?_
  refine ops_does rfl (guard_none rfl) rfl rfl (does_callk rfl callok47 rfl (spec_l1In.calls (x0 := x0) (x1 := 1) (x2 := 999) h962)) ?_
  rintro _ w963 ⟨rfl, hn⟩
  replace HM : Mem w [] w963 [] := HM.call hn
  refine ops_ex rfl (guard_none rfl) rfl rfl (ex_assign rfl rfl) ?_
  refine ops_nil ?_
  refine at_then ?_
  refine run_ret ?_
  have hR := Option.some.inj H
  subst hR
  exact at_ret1 rfl rfl ⟨_, rfl, rfl, HM⟩

def spec_l2Fault.l0 (x0 : Rule) : Nat → Int → Option (Int ⊕ Unit)
  | 0, _ => none
  | k + 1, a1047 => (bif (decide (a1047 < (x0.fKeys.length : Int))) then (chk (idxOk a1047 x0.fKeys.length) ((spec_l1Key.f k (gt x0.fKeys a1047)).bind fun t1059 => (bif !t1059 then some (.inl 3) else spec_l2Fault.l0 x0 k (wrap64 (a1047 + 1))))) else some (.inr ()))
theorem spec_l2Fault.l0_z (x0 : Rule) (a1047 : Int) : spec_l2Fault.l0 x0 0 a1047 = none := rfl
theorem spec_l2Fault.l0_s (x0 : Rule) (k : Nat) (a1047 : Int) : spec_l2Fault.l0 x0 (k + 1) a1047 = (bif (decide (a1047 < (x0.fKeys.length : Int))) then (chk (idxOk a1047 x0.fKeys.length) ((spec_l1Key.f k (gt x0.fKeys a1047)).bind fun t1059 => (bif !t1059 then some (.inl 3) else spec_l2Fault.l0 x0 k (wrap64 (a1047 + 1))))) else some (.inr ())) := rfl
def spec_l2Fault.l1 (x0 : Rule) : Nat → Int → Option (Int ⊕ Unit)
  | 0, _ => none
  | k + 1, a1106 => (bif (decide (a1106 < (x0.fKeys.length : Int))) then (chk (idxOk a1106 x0.fKeys.length) (chk (idxOk (wrap64 (a1106 - 1)) x0.fKeys.length) (bif (decide ((gt x0.fKeys a1106) ≤ (gt x0.fKeys (wrap64 (a1106 - 1))))) then some (.inl 1) else spec_l2Fault.l1 x0 k (wrap64 (a1106 + 1))))) else some (.inr ()))
theorem spec_l2Fault.l1_z (x0 : Rule) (a1106 : Int) : spec_l2Fault.l1 x0 0 a1106 = none := rfl
theorem spec_l2Fault.l1_s (x0 : Rule) (k : Nat) (a1106 : Int) : spec_l2Fault.l1 x0 (k + 1) a1106 = (bif (decide (a1106 < (x0.fKeys.length : Int))) then (chk (idxOk a1106 x0.fKeys.length) (chk (idxOk (wrap64 (a1106 - 1)) x0.fKeys.length) (bif (decide ((gt x0.fKeys a1106) ≤ (gt x0.fKeys (wrap64 (a1106 - 1))))) then some (.inl 1) else spec_l2Fault.l1 x0 k (wrap64 (a1106 + 1))))) else some (.inr ())) := rfl
def spec_l2Fault.f (k : Nat) (x0 : Rule) : Option Int := ((spec_l1In.f k (x0.fKeys.length : Int) 1 3).bind fun t1016 => (bif !t1016 then some 2 else ((spec_l2Fault.l0 x0 k 0).bind fun o1039 => thn o1039 (fun r => some r) (fun _ => ((spec_l1In.f k x0.fNeed 1 (x0.fKeys.length : Int)).bind fun t1069 => ((bif (!(!t1069)) then spec_l2Height.f k x0.fAfter else some default).bind fun t1071 => (bif ((!t1069) || (!t1071)) then some 3 else ((spec_l2Fault.l1 x0 k 1).bind fun o1098 => thn o1098 (fun r => some r) (fun _ => some 0)))))))))
theorem spec_l2Fault.calls {k : Nat} {x0 : Rule} {b0 f0 : Nat} {p0_0 : Value} {w : World} (hc0 : CellsAt w b0 f0 [p0_0, .int .i64 x0.fNeed, .int .i64 x0.fAfter]) (hp0_0 : RdS kInt w p0_0 x0.fKeys) {r : Int} (H : spec_l2Fault.f k x0 = some r) :
    Calls Tryz.prog 114 ([.pointer (some ⟨b0, f0, none⟩)] : List Value).toArray w (fun e w_ => ∃ v, e = .returned v ∧ v = (.int .i64 r) ∧ Mem w [] w_ []) := by
  have HM := Mem.start w
  refine calls_run (N := 72) Tryz.func114 rfl rfl rfl rfl ?_
  unfold spec_l2Fault.f at H
  refine run_seq ?_
  refine run_region rfl ?_
  refine ops_ex rfl (guard_none rfl) rfl rfl (ex_assign rfl rfl) ?_
  refine ops_nil ?_
  refine at_then ?_
  refine run_seq ?_
  refine run_region rfl ?_
  refine ops_ex rfl (guard_none rfl) rfl rfl (ex_move rfl rfl) ?_
  refine ops_ex rfl (guard_none rfl) rfl rfl (ex_nilCheck rfl rfl) ?_
  refine ops_ex rfl (guard_none rfl) rfl rfl (ex_fieldAddr (off' := f0) rfl rfl Tryz.underlying73 rfl tsz60 rfl) ?_
  refine ops_ex rfl (guard_none rfl) rfl rfl (ex_load1 rfl rfl Tryz.underlying60 rfl ((HM.at_ hc0) 0 _ rfl)) ?_
  refine ops_ex rfl (guard_none rfl) rfl rfl (ex_len (d := kInt) (xs := x0.fKeys) rfl rfl Tryz.underlying60 hp0_0) ?_
  refine ops_ex rfl (guard_none rfl) rfl rfl (ex_assign rfl rfl) ?_
  refine ops_nil ?_
  refine at_then ?_
  refine run_seq ?_
  refine run_seq ?_
  obtain ⟨t1016, h1017, H⟩ := bind_some H
  refine run_region rfl ?_
  refine ops_ex rfl (guard_none rfl) rfl rfl (ex_move rfl rfl) ?_
  refine ops_does rfl (guard_none rfl) rfl rfl (does_callk rfl callok47 rfl (spec_l1In.calls (x0 := (x0.fKeys.length : Int)) (x1 := 1) (x2 := 3) h1017)) ?_
  rintro _ w1018 ⟨rfl, hn⟩
  replace HM : Mem w [] w1018 [] := HM.call hn
  refine ops_ex rfl (guard_none rfl) rfl rfl (ex_not rfl rfl) ?_
  refine ops_nil ?_
  refine at_then ?_
  refine run_cond (b := !t1016) rfl (fun hb1019 => ?_) (fun hb1019 => ?_)
  · replace H := cond_t hb1019 H
    refine run_seq ?_
    refine run_region rfl ?_
    refine ops_ex rfl (guard_none rfl) rfl rfl (ex_assign rfl rfl) ?_
    refine ops_nil ?_
    refine at_then ?_
    refine run_ret ?_
    refine at_then_ret ?_
    have hR := Option.some.inj H
    subst hR
    exact at_ret1 rfl rfl ⟨_, rfl, rfl, HM⟩
  · replace H := cond_f hb1019 H
    refine run_skip ?_
    refine at_then ?_
    obtain ⟨o1039, ho1040, H⟩ := bind_some H
    refine run_mid (fun ρ_ w_ => Sum.inr () = o1039 ∧ ρ_ = [(0, .pointer (some ⟨b0, f0, none⟩)), (3, .int .i64 (x0.fKeys.length : Int))] ∧ Mem w [] w_ []) ?_ ?_
    · skip
      refine run_seq ?_
      refine run_region rfl ?_
      refine ops_ex rfl (guard_none rfl) rfl rfl (ex_assign rfl rfl) ?_
      refine ops_nil ?_
      refine at_then ?_
      refine run_block ?_
      refine run_loop (fun k_ ρ_ w_ => ∃ a1047 : Int, spec_l2Fault.l0 x0 k_ a1047 = some o1039 ∧ ρ_ = [(0, .pointer (some ⟨b0, f0, none⟩)), (3, .int .i64 (x0.fKeys.length : Int)), (4, .int .i64 a1047)] ∧ Mem w [] w_ []) k (ρ1 := [(0, .pointer (some ⟨b0, f0, none⟩)), (3, .int .i64 (x0.fKeys.length : Int)), (4, .int .i64 0)]) ⟨_, ho1040, rfl, HM⟩ (Sub.cons rfl (Sub.cons rfl (Sub.cons rfl Sub.nil))) ?_
      clear HM ho1040
      rintro k1054 _ w1055 ⟨a1047, ho1040, rfl, HM⟩
      obtain _ | k1054 := k1054
      · exact nomatch ((spec_l2Fault.l0_z x0 a1047).symm.trans ho1040)
      replace ho1040 := (spec_l2Fault.l0_s x0 k1054 a1047).symm.trans ho1040
      refine run_seq ?_
      refine run_seq ?_
      refine run_region rfl ?_
      refine ops_ex rfl (guard_none rfl) rfl rfl (ex_move rfl rfl) ?_
      refine ops_ex rfl (guard_none rfl) rfl rfl (ex_move rfl rfl) ?_
      refine ops_ex rfl (guard_none rfl) rfl rfl (ex_nilCheck rfl rfl) ?_
      refine ops_ex rfl (guard_none rfl) rfl rfl (ex_fieldAddr (off' := f0) rfl rfl Tryz.underlying73 rfl tsz60 rfl) ?_
      refine ops_ex rfl (guard_none rfl) rfl rfl (ex_load1 rfl rfl Tryz.underlying60 rfl ((HM.at_ hc0) 0 _ rfl)) ?_
      refine ops_ex rfl (guard_none rfl) rfl rfl (ex_len (d := kInt) (xs := x0.fKeys) rfl rfl Tryz.underlying60 hp0_0) ?_
      refine ops_ex rfl (guard_none rfl) rfl rfl (ex_lss rfl rfl rfl) ?_
      refine ops_nil ?_
      refine at_then ?_
      refine run_cond (b := (decide (a1047 < (x0.fKeys.length : Int)))) rfl (fun hb1056 => ?_) (fun hb1056 => ?_)
      · replace ho1040 := cond_t hb1056 ho1040
        refine run_skip ?_
        refine at_then ?_
        refine run_seq ?_
        refine run_block ?_
        refine run_seq ?_
        obtain ⟨e1057, ho1040⟩ := chk_some ho1040
        obtain ⟨t1059, h1060, ho1040⟩ := bind_some ho1040
        refine run_region rfl ?_
        refine ops_ex rfl (guard_none rfl) rfl rfl (ex_move rfl rfl) ?_
        refine ops_ex rfl (guard_none rfl) rfl rfl (ex_nilCheck rfl rfl) ?_
        refine ops_ex rfl (guard_none rfl) rfl rfl (ex_fieldAddr (off' := f0) rfl rfl Tryz.underlying73 rfl tsz60 rfl) ?_
        refine ops_ex rfl (guard_none rfl) rfl rfl (ex_load1 rfl rfl Tryz.underlying60 rfl ((HM.at_ hc0) 0 _ rfl)) ?_
        refine ops_ex rfl (guard_none rfl) rfl rfl (ex_move rfl rfl) ?_
        have hc1058 : CellsAt _ (sb p0_0) (so p0_0 + (a1047).toNat * 1) [(.int .i64 (gt x0.fKeys a1047))] := rd_plain hp0_0 e1057
        refine ops_ex rfl (guard_none rfl) rfl rfl (ex_indexAddr (d := kInt) rfl rfl rfl Tryz.underlying60 tsz2 hp0_0 (idx_lo e1057) (idx_hi e1057)) ?_
        refine ops_ex rfl (guard_none rfl) rfl rfl (ex_load1 rfl rfl Tryz.underlying2 rfl ((HM.at_ hc1058) 0 _ rfl)) ?_
        refine ops_does rfl (guard_none rfl) rfl rfl (does_callk rfl callok74 rfl (spec_l1Key.calls (x0 := (gt x0.fKeys a1047)) h1060)) ?_
        rintro _ w1061 ⟨rfl, hn⟩
        replace HM : Mem w [] w1061 [] := HM.call hn
        refine ops_ex rfl (guard_none rfl) rfl rfl (ex_not rfl rfl) ?_
        refine ops_nil ?_
        refine at_then ?_
        refine run_cond (b := !t1059) rfl (fun hb1062 => ?_) (fun hb1062 => ?_)
        · replace ho1040 := cond_t hb1062 ho1040
          refine run_seq ?_
          refine run_region rfl ?_
          refine ops_ex rfl (guard_none rfl) rfl rfl (ex_assign rfl rfl) ?_
          refine ops_nil ?_
          refine at_then ?_
          refine run_ret ?_
          refine at_block_ret ?_
          refine at_then_ret ?_
          refine at_then_ret ?_
          refine at_block_ret ?_
          refine at_then_ret ?_
          have hR := Option.some.inj ho1040
          subst hR
          have hT := thn_inl H
          have hR := Option.some.inj hT
          subst hR
          exact at_ret1 rfl rfl ⟨_, rfl, rfl, HM⟩
        · replace ho1040 := cond_f hb1062 ho1040
          refine run_skip ?_
          refine at_block ?_
          refine at_then ?_
          refine run_region rfl ?_
          refine ops_ex rfl (guard_none rfl) rfl rfl (ex_move rfl rfl) ?_
          refine ops_ex rfl (guard_none rfl) rfl rfl (ex_add rfl rfl rfl) ?_
          refine ops_ex rfl (guard_none rfl) rfl rfl (ex_assign rfl rfl) ?_
          refine ops_nil ?_
          exact at_again k1054 (ρ1 := [(0, .pointer (some ⟨b0, f0, none⟩)), (3, .int .i64 (x0.fKeys.length : Int)), (4, .int .i64 (wrap64 (a1047 + 1)))]) (Nat.lt_succ_self _) ⟨_, ho1040, rfl, HM⟩ (Sub.cons rfl (Sub.cons rfl (Sub.cons rfl Sub.nil)))
      · replace ho1040 := cond_f hb1056 ho1040
        refine run_exit ?_
        refine at_then_exit ?_
        refine at_then_exit ?_
        refine at_block_exit ?_
        exact at_mid (ρ' := [(0, .pointer (some ⟨b0, f0, none⟩)), (3, .int .i64 (x0.fKeys.length : Int))]) ⟨(Option.some.inj ho1040), rfl, HM⟩ (Sub.cons rfl (Sub.cons rfl Sub.nil))
    · rintro _ w1063 ⟨rfl, rfl, HM⟩
      replace H := (thn_inr H)
      refine run_seq ?_
      refine run_seq ?_
      obtain ⟨t1069, h1070, H⟩ := bind_some H
      obtain ⟨t1071, h1072, H⟩ := bind_some H
      refine run_meet (fun ρ_ w_ => ρ_ = [(0, .pointer (some ⟨b0, f0, none⟩)), (46, .bool ((!t1069) || (!t1071)))] ∧ Mem w [] w_ []) ?_ ?_
      · skip
        refine run_region rfl ?_
        refine ops_ex rfl (guard_none rfl) rfl rfl (ex_move rfl rfl) ?_
        refine ops_ex rfl (guard_none rfl) rfl rfl (ex_nilCheck rfl rfl) ?_
        refine ops_ex rfl (guard_none rfl) rfl rfl (ex_fieldAddr (off' := f0 + 1) rfl rfl Tryz.underlying73 rfl tsz2 rfl) ?_
        refine ops_ex rfl (guard_none rfl) rfl rfl (ex_load1 rfl rfl Tryz.underlying2 rfl ((HM.at_ hc0) 1 _ rfl)) ?_
        refine ops_ex rfl (guard_none rfl) rfl rfl (ex_move rfl rfl) ?_
        refine ops_does rfl (guard_none rfl) rfl rfl (does_callk rfl callok47 rfl (spec_l1In.calls (x0 := x0.fNeed) (x1 := 1) (x2 := (x0.fKeys.length : Int)) h1070)) ?_
        rintro _ w1073 ⟨rfl, hn⟩
        replace HM : Mem w [] w1073 [] := HM.call hn
        refine ops_ex rfl (guard_none rfl) rfl rfl (ex_not rfl rfl) ?_
        refine ops_ex rfl (guard_none rfl) rfl rfl (ex_move rfl rfl) ?_
        refine bool_cases (!t1069) (fun hg1074 => ?_) (fun hg1074 => ?_)
        · skip
          refine ops_off rfl (guard_off rfl rfl rfl hg1074) rfl rfl ?_
          refine ops_off rfl (guard_off rfl rfl rfl hg1074) rfl rfl ?_
          refine ops_off rfl (guard_off rfl rfl rfl hg1074) rfl rfl ?_
          refine ops_off rfl (guard_off rfl rfl rfl hg1074) rfl rfl ?_
          refine ops_off rfl (guard_off rfl rfl rfl hg1074) rfl rfl ?_
          refine ops_off rfl (guard_off rfl rfl rfl hg1074) rfl rfl ?_
          have hg1075 : ((!t1069) || (!t1071)) = true := by simp only [hg1074, Bool.and_true, Bool.true_and, Bool.and_false, Bool.false_and, Bool.or_true, Bool.true_or, Bool.or_false, Bool.false_or, Bool.not_true, Bool.not_false, Bool.not_not]
          refine ops_ex (v := .bool ((!t1069) || (!t1071))) rfl (guard_none rfl) rfl rfl (ex_por_t rfl rfl hg1074) ?_
          refine ops_nil ?_
          exact at_meet [(0, .pointer (some ⟨b0, f0, none⟩)), (46, .bool ((!t1069) || (!t1071)))] ⟨rfl, HM⟩ (Sub.cons rfl (Sub.cons rfl Sub.nil))
        · skip
          refine ops_ex rfl (guard_on rfl rfl rfl hg1074) rfl rfl (ex_move rfl rfl) ?_
          refine ops_ex rfl (guard_on rfl rfl rfl hg1074) rfl rfl (ex_nilCheck rfl rfl) ?_
          refine ops_ex rfl (guard_on rfl rfl rfl hg1074) rfl rfl (ex_fieldAddr (off' := f0 + 2) rfl rfl Tryz.underlying73 rfl tsz2 rfl) ?_
          refine ops_ex rfl (guard_on rfl rfl rfl hg1074) rfl rfl (ex_load1 rfl rfl Tryz.underlying2 rfl ((HM.at_ hc0) 2 _ rfl)) ?_
          refine ops_does rfl (guard_on rfl rfl rfl hg1074) rfl rfl (does_callk rfl callok71 rfl (spec_l2Height.calls (x0 := x0.fAfter) (cond_t (not_mk hg1074) h1072))) ?_
          rintro _ w1076 ⟨rfl, hn⟩
          replace HM : Mem w [] w1076 [] := HM.call hn
          refine ops_ex rfl (guard_on rfl rfl rfl hg1074) rfl rfl (ex_not rfl rfl) ?_
          refine ops_ex (v := .bool ((!t1069) || (!t1071))) rfl (guard_none rfl) rfl rfl (ex_por_f rfl rfl hg1074 rfl) ?_
          refine ops_nil ?_
          exact at_meet [(0, .pointer (some ⟨b0, f0, none⟩)), (46, .bool ((!t1069) || (!t1071)))] ⟨rfl, HM⟩ (Sub.cons rfl (Sub.cons rfl Sub.nil))
      · rintro _ w1077 ⟨rfl, HM⟩
        refine at_then ?_
        refine run_cond (b := ((!t1069) || (!t1071))) rfl (fun hb1078 => ?_) (fun hb1078 => ?_)
        · replace H := cond_t hb1078 H
          refine run_seq ?_
          refine run_region rfl ?_
          refine ops_ex rfl (guard_none rfl) rfl rfl (ex_assign rfl rfl) ?_
          refine ops_nil ?_
          refine at_then ?_
          refine run_ret ?_
          refine at_then_ret ?_
          have hR := Option.some.inj H
          subst hR
          exact at_ret1 rfl rfl ⟨_, rfl, rfl, HM⟩
        · replace H := cond_f hb1078 H
          refine run_skip ?_
          refine at_then ?_
          obtain ⟨o1098, ho1099, H⟩ := bind_some H
          refine run_mid (fun ρ_ w_ => Sum.inr () = o1098 ∧ ρ_ = [] ∧ Mem w [] w_ []) ?_ ?_
          · skip
            refine run_seq ?_
            refine run_region rfl ?_
            refine ops_ex rfl (guard_none rfl) rfl rfl (ex_assign rfl rfl) ?_
            refine ops_nil ?_
            refine at_then ?_
            refine run_block ?_
            refine run_loop (fun k_ ρ_ w_ => ∃ a1106 : Int, spec_l2Fault.l1 x0 k_ a1106 = some o1098 ∧ ρ_ = [(0, .pointer (some ⟨b0, f0, none⟩)), (5, .int .i64 a1106)] ∧ Mem w [] w_ []) k (ρ1 := [(0, .pointer (some ⟨b0, f0, none⟩)), (5, .int .i64 1)]) ⟨_, ho1099, rfl, HM⟩ (Sub.cons rfl (Sub.cons rfl Sub.nil)) ?_
            clear HM ho1099
            rintro k1113 _ w1114 ⟨a1106, ho1099, rfl, HM⟩
            obtain _ | k1113 := k1113
            · exact nomatch ((spec_l2Fault.l1_z x0 a1106).symm.trans ho1099)
            replace ho1099 := (spec_l2Fault.l1_s x0 k1113 a1106).symm.trans ho1099
            refine run_seq ?_
            refine run_seq ?_
            refine run_region rfl ?_
            refine ops_ex rfl (guard_none rfl) rfl rfl (ex_move rfl rfl) ?_
            refine ops_ex rfl (guard_none rfl) rfl rfl (ex_move rfl rfl) ?_
            refine ops_ex rfl (guard_none rfl) rfl rfl (ex_nilCheck rfl rfl) ?_
            refine ops_ex rfl (guard_none rfl) rfl rfl (ex_fieldAddr (off' := f0) rfl rfl Tryz.underlying73 rfl tsz60 rfl) ?_
            refine ops_ex rfl (guard_none rfl) rfl rfl (ex_load1 rfl rfl Tryz.underlying60 rfl ((HM.at_ hc0) 0 _ rfl)) ?_
            refine ops_ex rfl (guard_none rfl) rfl rfl (ex_len (d := kInt) (xs := x0.fKeys) rfl rfl Tryz.underlying60 hp0_0) ?_
            refine ops_ex rfl (guard_none rfl) rfl rfl (ex_lss rfl rfl rfl) ?_
            refine ops_nil ?_
            refine at_then ?_
            refine run_cond (b := (decide (a1106 < (x0.fKeys.length : Int)))) rfl (fun hb1115 => ?_) (fun hb1115 => ?_)
            · replace ho1099 := cond_t hb1115 ho1099
              refine run_skip ?_
              refine at_then ?_
              refine run_seq ?_
              refine run_block ?_
              refine run_seq ?_
              obtain ⟨e1116, ho1099⟩ := chk_some ho1099
              obtain ⟨e1118, ho1099⟩ := chk_some ho1099
              refine run_drawf (fun w_ => Mem w [] w_ []) [(0, true), (1, true), (2, true), (3, true), (4, true), (5, true), (6, true), (7, true), (8, true), (9, true), (10, true), (11, true), (12, true), (13, true), (14, true), (15, true)] mixed rfl rfl (by kernel_rfl) ?_
              replace HM := HM.grow (fr_drew _)
              have hS := Mem.suf (M := []) HM
              refine drwp_take rfl (guard_none rfl) rfl rfl (fun w_ hS_ => (ex_move rfl rfl)) hS ?_
              refine drwp_take rfl (guard_none rfl) rfl rfl (fun w_ hS_ => (ex_nilCheck rfl rfl)) hS ?_
              refine drwp_take rfl (guard_none rfl) rfl rfl (fun w_ hS_ => (ex_fieldAddr (off' := f0) rfl rfl Tryz.underlying73 rfl tsz60 rfl)) hS ?_
              refine drwp_take rfl (guard_none rfl) rfl rfl (fun w_ hS_ => (ex_load1 rfl rfl Tryz.underlying60 rfl ((hS_.at_ hc0) 0 _ rfl))) hS ?_
              refine drwp_take rfl (guard_none rfl) rfl rfl (fun w_ hS_ => (ex_move rfl rfl)) hS ?_
              have hc1117 : CellsAt _ (sb p0_0) (so p0_0 + (a1106).toNat * 1) [(.int .i64 (gt x0.fKeys a1106))] := rd_plain hp0_0 e1116
              refine drwp_take rfl (guard_none rfl) rfl rfl (fun w_ hS_ => (ex_indexAddr (d := kInt) rfl rfl rfl Tryz.underlying60 tsz2 hp0_0 (idx_lo e1116) (idx_hi e1116))) hS ?_
              refine drwp_take rfl (guard_none rfl) rfl rfl (fun w_ hS_ => (ex_load1 rfl rfl Tryz.underlying2 rfl ((hS_.at_ hc1117) 0 _ rfl))) hS ?_
              refine drwp_take rfl (guard_none rfl) rfl rfl (fun w_ hS_ => (ex_move rfl rfl)) hS ?_
              refine drwp_take rfl (guard_none rfl) rfl rfl (fun w_ hS_ => (ex_nilCheck rfl rfl)) hS ?_
              refine drwp_take rfl (guard_none rfl) rfl rfl (fun w_ hS_ => (ex_fieldAddr (off' := f0) rfl rfl Tryz.underlying73 rfl tsz60 rfl)) hS ?_
              refine drwp_take rfl (guard_none rfl) rfl rfl (fun w_ hS_ => (ex_load1 rfl rfl Tryz.underlying60 rfl ((hS_.at_ hc0) 0 _ rfl))) hS ?_
              refine drwp_take rfl (guard_none rfl) rfl rfl (fun w_ hS_ => (ex_move rfl rfl)) hS ?_
              refine drwp_take rfl (guard_none rfl) rfl rfl (fun w_ hS_ => (ex_sub rfl rfl rfl)) hS ?_
              have hc1119 : CellsAt _ (sb p0_0) (so p0_0 + (wrap64 (a1106 - 1)).toNat * 1) [(.int .i64 (gt x0.fKeys (wrap64 (a1106 - 1))))] := rd_plain hp0_0 e1118
              refine drwp_take rfl (guard_none rfl) rfl rfl (fun w_ hS_ => (ex_indexAddr (d := kInt) rfl rfl rfl Tryz.underlying60 tsz2 hp0_0 (idx_lo e1118) (idx_hi e1118))) hS ?_
              refine drwp_take rfl (guard_none rfl) rfl rfl (fun w_ hS_ => (ex_load1 rfl rfl Tryz.underlying2 rfl ((hS_.at_ hc1119) 0 _ rfl))) hS ?_
              refine drwp_take rfl (guard_none rfl) rfl rfl (fun w_ hS_ => (ex_leq rfl rfl rfl)) hS ?_
              refine drwp_done ?_
              refine at_then ?_
              refine run_cond (b := (decide ((gt x0.fKeys a1106) ≤ (gt x0.fKeys (wrap64 (a1106 - 1)))))) rfl (fun hb1120 => ?_) (fun hb1120 => ?_)
              · replace ho1099 := cond_t hb1120 ho1099
                refine run_seq ?_
                refine run_region rfl ?_
                refine ops_ex rfl (guard_none rfl) rfl rfl (ex_assign rfl rfl) ?_
                refine ops_nil ?_
                refine at_then ?_
                refine run_ret ?_
                refine at_block_ret ?_
                refine at_then_ret ?_
                refine at_then_ret ?_
                refine at_block_ret ?_
                refine at_then_ret ?_
                have hR := Option.some.inj ho1099
                subst hR
                have hT := thn_inl H
                have hR := Option.some.inj hT
                subst hR
                exact at_ret1 rfl rfl ⟨_, rfl, rfl, HM⟩
              · replace ho1099 := cond_f hb1120 ho1099
                refine run_skip ?_
                refine at_block ?_
                refine at_then ?_
                refine run_region rfl ?_
                refine ops_ex rfl (guard_none rfl) rfl rfl (ex_move rfl rfl) ?_
                refine ops_ex rfl (guard_none rfl) rfl rfl (ex_add rfl rfl rfl) ?_
                refine ops_ex rfl (guard_none rfl) rfl rfl (ex_assign rfl rfl) ?_
                refine ops_nil ?_
                exact at_again k1113 (ρ1 := [(0, .pointer (some ⟨b0, f0, none⟩)), (5, .int .i64 (wrap64 (a1106 + 1)))]) (Nat.lt_succ_self _) ⟨_, ho1099, rfl, HM⟩ (Sub.cons rfl (Sub.cons rfl Sub.nil))
            · replace ho1099 := cond_f hb1115 ho1099
              refine run_exit ?_
              refine at_then_exit ?_
              refine at_then_exit ?_
              refine at_block_exit ?_
              exact at_mid (ρ' := []) ⟨(Option.some.inj ho1099), rfl, HM⟩ Sub.nil
          · rintro _ w1121 ⟨rfl, rfl, HM⟩
            replace H := (thn_inr H)
            refine run_seq ?_
            refine run_region rfl ?_
            refine ops_ex rfl (guard_none rfl) rfl rfl (ex_assign rfl rfl) ?_
            refine ops_nil ?_
            refine at_then ?_
            refine run_ret ?_
            have hR := Option.some.inj H
            subst hR
            exact at_ret1 rfl rfl ⟨_, rfl, rfl, HM⟩

def spec_l4Out.f (k : Nat) (x0 : Out) : Option Int := ((spec_l1In.f k x0.fValue 1 1000000).bind fun t1127 => (bif !t1127 then some 3 else ((spec_l2Fault.f k x0.fRule).bind fun t1131 => some t1131)))
theorem spec_l4Out.calls {k : Nat} {x0 : Out} {b0 f0 : Nat} {p0_0 : Value} {w : World} (hc0 : CellsAt w b0 f0 [.int .i64 x0.fValue, p0_0, .int .i64 x0.fRule.fNeed, .int .i64 x0.fRule.fAfter]) (hp0_0 : RdS kInt w p0_0 x0.fRule.fKeys) {r : Int} (H : spec_l4Out.f k x0 = some r) :
    Calls Tryz.prog 72 ([.pointer (some ⟨b0, f0, none⟩)] : List Value).toArray w (fun e w_ => ∃ v, e = .returned v ∧ v = (.int .i64 r) ∧ Mem w [] w_ []) := by
  have HM := Mem.start w
  refine calls_run (N := 13) Tryz.func72 rfl rfl rfl rfl ?_
  unfold spec_l4Out.f at H
  refine run_seq ?_
  refine run_region rfl ?_
  refine ops_ex rfl (guard_none rfl) rfl rfl (ex_assign rfl rfl) ?_
  refine ops_nil ?_
  refine at_then ?_
  refine run_seq ?_
  refine run_seq ?_
  obtain ⟨t1127, h1128, H⟩ := bind_some H
  refine run_region rfl ?_
  refine ops_ex rfl (guard_none rfl) rfl rfl (ex_move rfl rfl) ?_
  refine ops_ex rfl (guard_none rfl) rfl rfl (ex_nilCheck rfl rfl) ?_
  refine ops_ex rfl (guard_none rfl) rfl rfl (ex_fieldAddr (off' := f0) rfl rfl Tryz.underlying75 rfl tsz2 rfl) ?_
  refine ops_ex rfl (guard_none rfl) rfl rfl (ex_load1 rfl rfl Tryz.underlying2 rfl ((HM.at_ hc0) 0 _ rfl)) ?_
  refine ops_does rfl (guard_none rfl) rfl rfl (does_callk rfl callok47 rfl (spec_l1In.calls (x0 := x0.fValue) (x1 := 1) (x2 := 1000000) h1128)) ?_
  rintro _ w1129 ⟨rfl, hn⟩
  replace HM : Mem w [] w1129 [] := HM.call hn
  refine ops_ex rfl (guard_none rfl) rfl rfl (ex_not rfl rfl) ?_
  refine ops_nil ?_
  refine at_then ?_
  refine run_cond (b := !t1127) rfl (fun hb1130 => ?_) (fun hb1130 => ?_)
  · replace H := cond_t hb1130 H
    refine run_seq ?_
    refine run_region rfl ?_
    refine ops_ex rfl (guard_none rfl) rfl rfl (ex_assign rfl rfl) ?_
    refine ops_nil ?_
    refine at_then ?_
    refine run_ret ?_
    refine at_then_ret ?_
    have hR := Option.some.inj H
    subst hR
    exact at_ret1 rfl rfl ⟨_, rfl, rfl, HM⟩
  · replace H := cond_f hb1130 H
    refine run_skip ?_
    refine at_then ?_
    refine run_seq ?_
    obtain ⟨t1131, h1132, H⟩ := bind_some H
    refine run_region rfl ?_
    refine ops_ex rfl (guard_none rfl) rfl rfl (ex_move rfl rfl) ?_
    refine ops_ex rfl (guard_none rfl) rfl rfl (ex_nilCheck rfl rfl) ?_
    refine ops_ex rfl (guard_none rfl) rfl rfl (ex_fieldAddr (off' := f0 + 1) rfl rfl Tryz.underlying75 rfl tsz73 rfl) ?_
    refine ops_does rfl (guard_none rfl) rfl rfl (does_callk rfl callok114 rfl (spec_l2Fault.calls (x0 := x0.fRule) (CellsAt.sub (HM.at_ hc0) 1 3 rfl) (HM.rd hp0_0) h1132)) ?_
    rintro _ w1133 ⟨rfl, hn⟩
    replace HM : Mem w [] w1133 [] := HM.call hn
    refine ops_ex rfl (guard_none rfl) rfl rfl (ex_assign rfl rfl) ?_
    refine ops_nil ?_
    refine at_then ?_
    refine run_ret ?_
    have hR := Option.some.inj H
    subst hR
    exact at_ret1 rfl rfl ⟨_, rfl, rfl, HM⟩
end Go.Proofs.YtcamddjlhchkfaaGreat.Zk
