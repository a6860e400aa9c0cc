/- What functions of the program compute, each as a plain function, and that they do. Conditions: as each theorem states them. -/
import Derived.Test.YtcamddjlhchkfaaGreatSpentByZkF8
namespace Go.Proofs.YtcamddjlhchkfaaGreat.Zk
open Go Go.RowKit Go.IntWalk Go.Proofs
set_option linter.unusedVariables false
set_option linter.unusedSimpArgs false
set_option maxRecDepth 100000
set_option maxHeartbeats 4000000
def laws_heldInt64S.l0 (x0 : List Int) : Nat → Int → Int → Option (Int ⊕ Int)
  | 0, _, _ => none
  | k + 1, a5906, a5907 => (bif (decide (a5907 < (x0.length : Int))) then (chk (idxOk a5907 x0.length) (bif ((gt x0 a5907) != a5906) then some (.inl (-1)) else laws_heldInt64S.l0 x0 k (wrap64 (a5906 + 1)) (wrap64 (a5907 + 1)))) else some (.inr a5906))
theorem laws_heldInt64S.l0_z (x0 : List Int) (a5906 : Int) (a5907 : Int) : laws_heldInt64S.l0 x0 0 a5906 a5907 = none := rfl
theorem laws_heldInt64S.l0_s (x0 : List Int) (k : Nat) (a5906 : Int) (a5907 : Int) : laws_heldInt64S.l0 x0 (k + 1) a5906 a5907 = (bif (decide (a5907 < (x0.length : Int))) then (chk (idxOk a5907 x0.length) (bif ((gt x0 a5907) != a5906) then some (.inl (-1)) else laws_heldInt64S.l0 x0 k (wrap64 (a5906 + 1)) (wrap64 (a5907 + 1)))) else some (.inr a5906)) := rfl
def laws_heldInt64S.f (k : Nat) (x0 : List Int) (x1 : Int) : Option Int := ((laws_heldInt64S.l0 x0 k x1 0).bind fun o5900 => thn o5900 (fun r => some r) (fun a5899 => some a5899))
theorem laws_heldInt64S.calls {k : Nat} {x0 : List Int} {x1 : Int} {p0 : Value} {w : World} (hp0 : RdS kInt w p0 x0) {r : Int} (H : laws_heldInt64S.f k x0 x1 = some r) :
    Calls Tryz.prog 87 ([p0, .int .i64 x1] : List Value).toArray w (fun e w_ => ∃ v, e = .returned v ∧ v = (.int .i64 r) ∧ Mem w [] w_ []) := by
  have HM := Mem.start w
  refine calls_run (N := 21) Tryz.func87 rfl rfl rfl rfl ?_
  unfold laws_heldInt64S.f at H
  refine run_seq ?_
  refine run_region rfl ?_
  refine ops_ex rfl (guard_none rfl) rfl rfl (ex_assign rfl rfl) ?_
  refine ops_nil ?_
  refine at_then ?_
  obtain ⟨o5900, ho5901, H⟩ := bind_some H
  refine run_mid (fun ρ_ w_ => ∃ a5899 : Int, Sum.inr a5899 = o5900 ∧ ρ_ = [(1, .int .i64 a5899)] ∧ Mem w [] w_ []) ?_ ?_
  · skip
    refine run_seq ?_
    refine run_region rfl ?_
    refine ops_ex rfl (guard_none rfl) rfl rfl (ex_assign rfl rfl) ?_
    refine ops_nil ?_
    refine at_then ?_
    refine run_block ?_
    refine run_loop (fun k_ ρ_ w_ => ∃ a5906 : Int, ∃ a5907 : Int, laws_heldInt64S.l0 x0 k_ a5906 a5907 = some o5900 ∧ ρ_ = [(0, p0), (1, .int .i64 a5906), (5, .int .i64 a5907)] ∧ Mem w [] w_ []) k (ρ1 := [(0, p0), (1, .int .i64 x1), (5, .int .i64 0)]) ⟨_, _, ho5901, rfl, HM⟩ (Sub.cons rfl (Sub.cons rfl (Sub.cons rfl Sub.nil))) ?_
    clear HM ho5901
    rintro k5912 _ w5913 ⟨a5906, a5907, ho5901, rfl, HM⟩
    obtain _ | k5912 := k5912
    · exact nomatch ((laws_heldInt64S.l0_z x0 a5906 a5907).symm.trans ho5901)
    replace ho5901 := (laws_heldInt64S.l0_s x0 k5912 a5906 a5907).symm.trans ho5901
    refine run_seq ?_
    refine run_seq ?_
    refine run_region rfl ?_
    refine ops_ex rfl (guard_none rfl) rfl rfl (ex_move rfl rfl) ?_
    refine ops_ex rfl (guard_none rfl) rfl rfl (ex_move rfl rfl) ?_
    refine ops_ex rfl (guard_none rfl) rfl rfl (ex_len (d := kInt) (xs := x0) rfl rfl Tryz.underlying60 hp0) ?_
    refine ops_ex rfl (guard_none rfl) rfl rfl (ex_lss rfl rfl rfl) ?_
    refine ops_nil ?_
    refine at_then ?_
    refine run_cond (b := (decide (a5907 < (x0.length : Int)))) rfl (fun hb5914 => ?_) (fun hb5914 => ?_)
    · replace ho5901 := cond_t hb5914 ho5901
      refine run_skip ?_
      refine at_then ?_
      refine run_seq ?_
      refine run_block ?_
      refine run_seq ?_
      refine run_seq ?_
      obtain ⟨e5915, ho5901⟩ := chk_some ho5901
      refine run_region rfl ?_
      refine ops_ex rfl (guard_none rfl) rfl rfl (ex_move rfl rfl) ?_
      refine ops_ex rfl (guard_none rfl) rfl rfl (ex_move rfl rfl) ?_
      have hc5916 : CellsAt _ (sb p0) (so p0 + (a5907).toNat * 1) [(.int .i64 (gt x0 a5907))] := rd_plain hp0 e5915
      refine ops_ex rfl (guard_none rfl) rfl rfl (ex_indexAddr (d := kInt) rfl rfl rfl Tryz.underlying60 tsz2 hp0 (idx_lo e5915) (idx_hi e5915)) ?_
      refine ops_ex rfl (guard_none rfl) rfl rfl (ex_load1 rfl rfl Tryz.underlying2 rfl ((HM.at_ hc5916) 0 _ rfl)) ?_
      refine ops_ex rfl (guard_none rfl) rfl rfl (ex_move rfl rfl) ?_
      refine ops_ex rfl (guard_none rfl) rfl rfl (ex_neq rfl rfl rfl) ?_
      refine ops_nil ?_
      refine at_then ?_
      refine run_cond (b := ((gt x0 a5907) != a5906)) rfl (fun hb5917 => ?_) (fun hb5917 => ?_)
      · replace ho5901 := cond_t hb5917 ho5901
        refine run_seq ?_
        refine run_region rfl ?_
        refine ops_ex rfl (guard_none rfl) rfl rfl (ex_assign rfl rfl) ?_
        refine ops_nil ?_
        refine at_then ?_
        refine run_ret ?_
        refine at_then_ret ?_
        refine at_block_ret ?_
        refine at_then_ret ?_
        refine at_then_ret ?_
        refine at_block_ret ?_
        refine at_then_ret ?_
        have hR := Option.some.inj ho5901
        subst hR
        have hT := thn_inl H
        have hR := Option.some.inj hT
        subst hR
        exact at_ret1 rfl rfl ⟨_, rfl, rfl, HM⟩
      · replace ho5901 := cond_f hb5917 ho5901
        refine run_skip ?_
        refine at_then ?_
        refine run_region rfl ?_
        refine ops_ex rfl (guard_none rfl) rfl rfl (ex_move rfl rfl) ?_
        refine ops_ex rfl (guard_none rfl) rfl rfl (ex_add rfl rfl rfl) ?_
        refine ops_ex rfl (guard_none rfl) rfl rfl (ex_assign rfl rfl) ?_
        refine ops_nil ?_
        refine at_block ?_
        refine at_then ?_
        refine run_region rfl ?_
        refine ops_ex rfl (guard_none rfl) rfl rfl (ex_move rfl rfl) ?_
        refine ops_ex rfl (guard_none rfl) rfl rfl (ex_add rfl rfl rfl) ?_
        refine ops_ex rfl (guard_none rfl) rfl rfl (ex_assign rfl rfl) ?_
        refine ops_nil ?_
        exact at_again k5912 (ρ1 := [(0, p0), (1, .int .i64 (wrap64 (a5906 + 1))), (5, .int .i64 (wrap64 (a5907 + 1)))]) (Nat.lt_succ_self _) ⟨_, _, ho5901, rfl, HM⟩ (Sub.cons rfl (Sub.cons rfl (Sub.cons rfl Sub.nil)))
    · replace ho5901 := cond_f hb5914 ho5901
      refine run_exit ?_
      refine at_then_exit ?_
      refine at_then_exit ?_
      refine at_block_exit ?_
      exact at_mid (ρ' := [(1, .int .i64 a5906)]) ⟨_, (Option.some.inj ho5901), rfl, HM⟩ (Sub.cons rfl Sub.nil)
  · rintro _ w5918 ⟨a5899, rfl, rfl, HM⟩
    replace H := (thn_inr H)
    refine run_seq ?_
    refine run_region rfl ?_
    refine ops_ex rfl (guard_none rfl) rfl rfl (ex_move rfl rfl) ?_
    refine ops_ex rfl (guard_none rfl) rfl rfl (ex_assign rfl rfl) ?_
    refine ops_nil ?_
    refine at_then ?_
    refine run_ret ?_
    have hR := Option.some.inj H
    subst hR
    exact at_ret1 rfl rfl ⟨_, rfl, rfl, HM⟩

def laws_heldCoinS.l0 (x0 : List Coin) : Nat → Int → Int → Option (Int ⊕ Int)
  | 0, _, _ => none
  | k + 1, a6419, a6420 => (bif (decide (a6420 < (x0.length : Int))) then (chk (idxOk a6420 x0.length) (bif (((gt x0 a6420).fRef.fTx) != a6419) then some (.inl (-1)) else (chk (idxOk a6420 x0.length) (bif (((gt x0 a6420).fRef.fAt) != (wrap64 (a6419 + 1))) then some (.inl (-1)) else (chk (idxOk a6420 x0.length) (bif (((gt x0 a6420).fOut.fValue) != (wrap64 ((wrap64 (a6419 + 1)) + 1))) then some (.inl (-1)) else (chk (idxOk a6420 x0.length) ((laws_heldInt64S.f k ((gt x0 a6420).fOut.fRule.fKeys) (wrap64 ((wrap64 ((wrap64 (a6419 + 1)) + 1)) + 1))).bind fun t6533 => (bif (decide (t6533 < 0)) then some (.inl (-1)) else (chk (idxOk a6420 x0.length) (bif (((gt x0 a6420).fOut.fRule.fNeed) != t6533) then some (.inl (-1)) else (chk (idxOk a6420 x0.length) (bif (((gt x0 a6420).fOut.fRule.fAfter) != (wrap64 (t6533 + 1))) then some (.inl (-1)) else (chk (idxOk a6420 x0.length) (bif (((gt x0 a6420).fHeight) != (wrap64 ((wrap64 (t6533 + 1)) + 1))) then some (.inl (-1)) else (chk (idxOk a6420 x0.length) (chk ((3 : Int) != 0) (bif (((gt x0 a6420).fMined) != ((Int.tmod (wrap64 ((wrap64 ((wrap64 (t6533 + 1)) + 1)) + 1)) (3 : Int)) == 0)) then some (.inl (-1)) else laws_heldCoinS.l0 x0 k (wrap64 ((wrap64 ((wrap64 ((wrap64 (t6533 + 1)) + 1)) + 1)) + 1)) (wrap64 (a6420 + 1)))))))))))))))))))) else some (.inr a6419))
theorem laws_heldCoinS.l0_z (x0 : List Coin) (a6419 : Int) (a6420 : Int) : laws_heldCoinS.l0 x0 0 a6419 a6420 = none := rfl
theorem laws_heldCoinS.l0_s (x0 : List Coin) (k : Nat) (a6419 : Int) (a6420 : Int) : laws_heldCoinS.l0 x0 (k + 1) a6419 a6420 = (bif (decide (a6420 < (x0.length : Int))) then (chk (idxOk a6420 x0.length) (bif (((gt x0 a6420).fRef.fTx) != a6419) then some (.inl (-1)) else (chk (idxOk a6420 x0.length) (bif (((gt x0 a6420).fRef.fAt) != (wrap64 (a6419 + 1))) then some (.inl (-1)) else (chk (idxOk a6420 x0.length) (bif (((gt x0 a6420).fOut.fValue) != (wrap64 ((wrap64 (a6419 + 1)) + 1))) then some (.inl (-1)) else (chk (idxOk a6420 x0.length) ((laws_heldInt64S.f k ((gt x0 a6420).fOut.fRule.fKeys) (wrap64 ((wrap64 ((wrap64 (a6419 + 1)) + 1)) + 1))).bind fun t6533 => (bif (decide (t6533 < 0)) then some (.inl (-1)) else (chk (idxOk a6420 x0.length) (bif (((gt x0 a6420).fOut.fRule.fNeed) != t6533) then some (.inl (-1)) else (chk (idxOk a6420 x0.length) (bif (((gt x0 a6420).fOut.fRule.fAfter) != (wrap64 (t6533 + 1))) then some (.inl (-1)) else (chk (idxOk a6420 x0.length) (bif (((gt x0 a6420).fHeight) != (wrap64 ((wrap64 (t6533 + 1)) + 1))) then some (.inl (-1)) else (chk (idxOk a6420 x0.length) (chk ((3 : Int) != 0) (bif (((gt x0 a6420).fMined) != ((Int.tmod (wrap64 ((wrap64 ((wrap64 (t6533 + 1)) + 1)) + 1)) (3 : Int)) == 0)) then some (.inl (-1)) else laws_heldCoinS.l0 x0 k (wrap64 ((wrap64 ((wrap64 ((wrap64 (t6533 + 1)) + 1)) + 1)) + 1)) (wrap64 (a6420 + 1)))))))))))))))))))) else some (.inr a6419)) := rfl
def laws_heldCoinS.f (k : Nat) (x0 : List Coin) (x1 : Int) : Option Int := ((laws_heldCoinS.l0 x0 k x1 0).bind fun o6342 => thn o6342 (fun r => some r) (fun a6341 => some a6341))
theorem laws_heldCoinS.calls {k : Nat} {x0 : List Coin} {x1 : Int} {p0 : Value} {w : World} (hp0 : RdS kCoin w p0 x0) {r : Int} (H : laws_heldCoinS.f k x0 x1 = some r) :
    Calls Tryz.prog 46 ([p0, .int .i64 x1] : List Value).toArray w (fun e w_ => ∃ v, e = .returned v ∧ v = (.int .i64 r) ∧ Mem w [] w_ []) := by
  have HM := Mem.start w
  refine calls_run (N := 96) Tryz.func46 rfl rfl rfl rfl ?_
  unfold laws_heldCoinS.f at H
  refine run_seq ?_
  refine run_region rfl ?_
  refine ops_ex rfl (guard_none rfl) rfl rfl (ex_assign rfl rfl) ?_
  refine ops_nil ?_
  refine at_then ?_
  obtain ⟨o6342, ho6343, H⟩ := bind_some H
  refine run_mid (fun ρ_ w_ => ∃ a6341 : Int, Sum.inr a6341 = o6342 ∧ ρ_ = [(1, .int .i64 a6341)] ∧ Mem w [] w_ []) ?_ ?_
  · skip
    refine run_seq ?_
    refine run_region rfl ?_
    refine ops_ex rfl (guard_none rfl) rfl rfl (ex_assign rfl rfl) ?_
    refine ops_nil ?_
    refine at_then ?_
    refine run_block ?_
    refine run_loop (fun k_ ρ_ w_ => ∃ a6419 : Int, ∃ a6420 : Int, laws_heldCoinS.l0 x0 k_ a6419 a6420 = some o6342 ∧ ρ_ = [(0, p0), (1, .int .i64 a6419), (5, .int .i64 a6420)] ∧ Mem w [] w_ []) k (ρ1 := [(0, p0), (1, .int .i64 x1), (5, .int .i64 0)]) ⟨_, _, ho6343, rfl, HM⟩ (Sub.cons rfl (Sub.cons rfl (Sub.cons rfl Sub.nil))) ?_
    clear HM ho6343
    rintro k6496 _ w6497 ⟨a6419, a6420, ho6343, rfl, HM⟩
    obtain _ | k6496 := k6496
    · exact nomatch ((laws_heldCoinS.l0_z x0 a6419 a6420).symm.trans ho6343)
    replace ho6343 := (laws_heldCoinS.l0_s x0 k6496 a6419 a6420).symm.trans ho6343
    refine run_seq ?_
    refine run_seq ?_
    refine run_region rfl ?_
    refine ops_ex rfl (guard_none rfl) rfl rfl (ex_move rfl rfl) ?_
    refine ops_ex rfl (guard_none rfl) rfl rfl (ex_move rfl rfl) ?_
    refine ops_ex rfl (guard_none rfl) rfl rfl (ex_len (d := kCoin) (xs := x0) rfl rfl Tryz.underlying29 hp0) ?_
    refine ops_ex rfl (guard_none rfl) rfl rfl (ex_lss rfl rfl rfl) ?_
    refine ops_nil ?_
    refine at_then ?_
    refine run_cond (b := (decide (a6420 < (x0.length : Int)))) rfl (fun hb6498 => ?_) (fun hb6498 => ?_)
    · replace ho6343 := cond_t hb6498 ho6343
      refine run_skip ?_
      refine at_then ?_
      refine run_seq ?_
      refine run_block ?_
      refine run_seq ?_
      refine run_seq ?_
      obtain ⟨e6504, ho6343⟩ := chk_some ho6343
      refine run_region rfl ?_
      refine ops_ex rfl (guard_none rfl) rfl rfl (ex_move rfl rfl) ?_
      refine ops_ex rfl (guard_none rfl) rfl rfl (ex_move rfl rfl) ?_
      obtain ⟨kv6506, hc6505, hk6507⟩ : ∃ u, CellsAt _ (sb p0) (so p0 + (a6420).toNat * 8) [(.int .i64 ((gt x0 a6420).fRef.fTx)), (.int .i64 ((gt x0 a6420).fRef.fAt)), (.int .i64 ((gt x0 a6420).fOut.fValue)), u, (.int .i64 ((gt x0 a6420).fOut.fRule.fNeed)), (.int .i64 ((gt x0 a6420).fOut.fRule.fAfter)), (.int .i64 ((gt x0 a6420).fHeight)), (.bool ((gt x0 a6420).fMined))] ∧ RdS kInt _ u ((gt x0 a6420).fOut.fRule.fKeys) := rd_with1 hp0 e6504
      refine ops_ex rfl (guard_none rfl) rfl rfl (ex_indexAddr (d := kCoin) rfl rfl rfl Tryz.underlying29 tsz77 hp0 (idx_lo e6504) (idx_hi e6504)) ?_
      refine ops_ex rfl (guard_none rfl) rfl rfl (ex_fieldAddr (off' := so p0 + (a6420).toNat * 8) rfl rfl Tryz.underlying77 rfl tsz56 rfl) ?_
      refine ops_ex rfl (guard_none rfl) rfl rfl (ex_fieldAddr (off' := so p0 + (a6420).toNat * 8) rfl rfl Tryz.underlying56 rfl tsz2 rfl) ?_
      refine ops_ex rfl (guard_none rfl) rfl rfl (ex_load1 rfl rfl Tryz.underlying2 rfl ((HM.at_ hc6505) 0 _ rfl)) ?_
      refine ops_ex rfl (guard_none rfl) rfl rfl (ex_move rfl rfl) ?_
      refine ops_ex rfl (guard_none rfl) rfl rfl (ex_neq rfl rfl rfl) ?_
      refine ops_nil ?_
      refine at_then ?_
      refine run_cond (b := (((gt x0 a6420).fRef.fTx) != a6419)) rfl (fun hb6508 => ?_) (fun hb6508 => ?_)
      · replace ho6343 := cond_t hb6508 ho6343
        refine run_seq ?_
        refine run_region rfl ?_
        refine ops_ex rfl (guard_none rfl) rfl rfl (ex_assign rfl rfl) ?_
        refine ops_nil ?_
        refine at_then ?_
        refine run_ret ?_
        refine at_then_ret ?_
        refine at_block_ret ?_
        refine at_then_ret ?_
        refine at_then_ret ?_
        refine at_block_ret ?_
        refine at_then_ret ?_
        have hR := Option.some.inj ho6343
        subst hR
        have hT := thn_inl H
        have hR := Option.some.inj hT
        subst hR
        exact at_ret1 rfl rfl ⟨_, rfl, rfl, HM⟩
      · replace ho6343 := cond_f hb6508 ho6343
        refine run_skip ?_
        refine at_then ?_
        refine run_seq ?_
        refine run_region rfl ?_
        refine ops_ex rfl (guard_none rfl) rfl rfl (ex_move rfl rfl) ?_
        refine ops_ex rfl (guard_none rfl) rfl rfl (ex_add rfl rfl rfl) ?_
        refine ops_ex rfl (guard_none rfl) rfl rfl (ex_assign rfl rfl) ?_
        refine ops_nil ?_
        refine at_then ?_
        refine run_seq ?_
        refine run_seq ?_
        obtain ⟨e6514, ho6343⟩ := chk_some ho6343
        refine run_region rfl ?_
        refine ops_ex rfl (guard_none rfl) rfl rfl (ex_move rfl rfl) ?_
        refine ops_ex rfl (guard_none rfl) rfl rfl (ex_move rfl rfl) ?_
        obtain ⟨kv6516, hc6515, hk6517⟩ : ∃ u, CellsAt _ (sb p0) (so p0 + (a6420).toNat * 8) [(.int .i64 ((gt x0 a6420).fRef.fTx)), (.int .i64 ((gt x0 a6420).fRef.fAt)), (.int .i64 ((gt x0 a6420).fOut.fValue)), u, (.int .i64 ((gt x0 a6420).fOut.fRule.fNeed)), (.int .i64 ((gt x0 a6420).fOut.fRule.fAfter)), (.int .i64 ((gt x0 a6420).fHeight)), (.bool ((gt x0 a6420).fMined))] ∧ RdS kInt _ u ((gt x0 a6420).fOut.fRule.fKeys) := rd_with1 hp0 e6514
        refine ops_ex rfl (guard_none rfl) rfl rfl (ex_indexAddr (d := kCoin) rfl rfl rfl Tryz.underlying29 tsz77 hp0 (idx_lo e6514) (idx_hi e6514)) ?_
        refine ops_ex rfl (guard_none rfl) rfl rfl (ex_fieldAddr (off' := so p0 + (a6420).toNat * 8) rfl rfl Tryz.underlying77 rfl tsz56 rfl) ?_
        refine ops_ex rfl (guard_none rfl) rfl rfl (ex_fieldAddr (off' := so p0 + (a6420).toNat * 8 + 1) rfl rfl Tryz.underlying56 rfl tsz2 rfl) ?_
        refine ops_ex rfl (guard_none rfl) rfl rfl (ex_load1 rfl rfl Tryz.underlying2 rfl ((HM.at_ hc6515) 1 _ rfl)) ?_
        refine ops_ex rfl (guard_none rfl) rfl rfl (ex_move rfl rfl) ?_
        refine ops_ex rfl (guard_none rfl) rfl rfl (ex_neq rfl rfl rfl) ?_
        refine ops_nil ?_
        refine at_then ?_
        refine run_cond (b := (((gt x0 a6420).fRef.fAt) != (wrap64 (a6419 + 1)))) rfl (fun hb6518 => ?_) (fun hb6518 => ?_)
        · replace ho6343 := cond_t hb6518 ho6343
          refine run_seq ?_
          refine run_region rfl ?_
          refine ops_ex rfl (guard_none rfl) rfl rfl (ex_assign rfl rfl) ?_
          refine ops_nil ?_
          refine at_then ?_
          refine run_ret ?_
          refine at_then_ret ?_
          refine at_block_ret ?_
          refine at_then_ret ?_
          refine at_then_ret ?_
          refine at_block_ret ?_
          refine at_then_ret ?_
          have hR := Option.some.inj ho6343
          subst hR
          have hT := thn_inl H
          have hR := Option.some.inj hT
          subst hR
          exact at_ret1 rfl rfl ⟨_, rfl, rfl, HM⟩
        · replace ho6343 := cond_f hb6518 ho6343
          refine run_skip ?_
          refine at_then ?_
          refine run_seq ?_
          refine run_region rfl ?_
          refine ops_ex rfl (guard_none rfl) rfl rfl (ex_move rfl rfl) ?_
          refine ops_ex rfl (guard_none rfl) rfl rfl (ex_add rfl rfl rfl) ?_
          refine ops_ex rfl (guard_none rfl) rfl rfl (ex_assign rfl rfl) ?_
          refine ops_nil ?_
          refine at_then ?_
          refine run_seq ?_
          refine run_seq ?_
          obtain ⟨e6524, ho6343⟩ := chk_some ho6343
          refine run_region rfl ?_
          refine ops_ex rfl (guard_none rfl) rfl rfl (ex_move rfl rfl) ?_
          refine ops_ex rfl (guard_none rfl) rfl rfl (ex_move rfl rfl) ?_
          obtain ⟨kv6526, hc6525, hk6527⟩ : ∃ u, CellsAt _ (sb p0) (so p0 + (a6420).toNat * 8) [(.int .i64 ((gt x0 a6420).fRef.fTx)), (.int .i64 ((gt x0 a6420).fRef.fAt)), (.int .i64 ((gt x0 a6420).fOut.fValue)), u, (.int .i64 ((gt x0 a6420).fOut.fRule.fNeed)), (.int .i64 ((gt x0 a6420).fOut.fRule.fAfter)), (.int .i64 ((gt x0 a6420).fHeight)), (.bool ((gt x0 a6420).fMined))] ∧ RdS kInt _ u ((gt x0 a6420).fOut.fRule.fKeys) := rd_with1 hp0 e6524
          refine ops_ex rfl (guard_none rfl) rfl rfl (ex_indexAddr (d := kCoin) rfl rfl rfl Tryz.underlying29 tsz77 hp0 (idx_lo e6524) (idx_hi e6524)) ?_
          refine ops_ex rfl (guard_none rfl) rfl rfl (ex_fieldAddr (off' := so p0 + (a6420).toNat * 8 + 2) rfl rfl Tryz.underlying77 rfl tsz75 rfl) ?_
          refine ops_ex rfl (guard_none rfl) rfl rfl (ex_fieldAddr (off' := so p0 + (a6420).toNat * 8 + 2) rfl rfl Tryz.underlying75 rfl tsz2 rfl) ?_
          refine ops_ex rfl (guard_none rfl) rfl rfl (ex_load1 rfl rfl Tryz.underlying2 rfl ((HM.at_ hc6525) 2 _ rfl)) ?_
          refine ops_ex rfl (guard_none rfl) rfl rfl (ex_move rfl rfl) ?_
          refine ops_ex rfl (guard_none rfl) rfl rfl (ex_neq rfl rfl rfl) ?_
          refine ops_nil ?_
          refine at_then ?_
          refine run_cond (b := (((gt x0 a6420).fOut.fValue) != (wrap64 ((wrap64 (a6419 + 1)) + 1)))) rfl (fun hb6528 => ?_) (fun hb6528 => ?_)
          · replace ho6343 := cond_t hb6528 ho6343
            refine run_seq ?_
            refine run_region rfl ?_
            refine ops_ex rfl (guard_none rfl) rfl rfl (ex_assign rfl rfl) ?_
            refine ops_nil ?_
            refine at_then ?_
            refine run_ret ?_
            refine at_then_ret ?_
            refine at_block_ret ?_
            refine at_then_ret ?_
            refine at_then_ret ?_
            refine at_block_ret ?_
            refine at_then_ret ?_
            have hR := Option.some.inj ho6343
            subst hR
            have hT := thn_inl H
            have hR := Option.some.inj hT
            subst hR
            exact at_ret1 rfl rfl ⟨_, rfl, rfl, HM⟩
          · replace ho6343 := cond_f hb6528 ho6343
            refine run_skip ?_
            refine at_then ?_
            refine run_seq ?_
            refine run_region rfl ?_
            refine ops_ex rfl (guard_none rfl) rfl rfl (ex_move rfl rfl) ?_
            refine ops_ex rfl (guard_none rfl) rfl rfl (ex_add rfl rfl rfl) ?_
            refine ops_ex rfl (guard_none rfl) rfl rfl (ex_assign rfl rfl) ?_
            refine ops_nil ?_
            refine at_then ?_
            refine run_seq ?_
            obtain ⟨e6529, ho6343⟩ := chk_some ho6343
            obtain ⟨t6533, h6534, ho6343⟩ := bind_some ho6343
            refine run_region rfl ?_
            refine ops_ex rfl (guard_none rfl) rfl rfl (ex_move rfl rfl) ?_
            refine ops_ex rfl (guard_none rfl) rfl rfl (ex_move rfl rfl) ?_
            obtain ⟨kv6531, hc6530, hk6532⟩ : ∃ u, CellsAt _ (sb p0) (so p0 + (a6420).toNat * 8) [(.int .i64 ((gt x0 a6420).fRef.fTx)), (.int .i64 ((gt x0 a6420).fRef.fAt)), (.int .i64 ((gt x0 a6420).fOut.fValue)), u, (.int .i64 ((gt x0 a6420).fOut.fRule.fNeed)), (.int .i64 ((gt x0 a6420).fOut.fRule.fAfter)), (.int .i64 ((gt x0 a6420).fHeight)), (.bool ((gt x0 a6420).fMined))] ∧ RdS kInt _ u ((gt x0 a6420).fOut.fRule.fKeys) := rd_with1 hp0 e6529
            refine ops_ex rfl (guard_none rfl) rfl rfl (ex_indexAddr (d := kCoin) rfl rfl rfl Tryz.underlying29 tsz77 hp0 (idx_lo e6529) (idx_hi e6529)) ?_
            refine ops_ex rfl (guard_none rfl) rfl rfl (ex_fieldAddr (off' := so p0 + (a6420).toNat * 8 + 2) rfl rfl Tryz.underlying77 rfl tsz75 rfl) ?_
            refine ops_ex rfl (guard_none rfl) rfl rfl (ex_fieldAddr (off' := so p0 + (a6420).toNat * 8 + 3) rfl rfl Tryz.underlying75 rfl tsz73 rfl) ?_
            refine ops_ex rfl (guard_none rfl) rfl rfl (ex_fieldAddr (off' := so p0 + (a6420).toNat * 8 + 3) rfl rfl Tryz.underlying73 rfl tsz60 rfl) ?_
            refine ops_ex rfl (guard_none rfl) rfl rfl (ex_load1 rfl rfl Tryz.underlying60 rfl ((HM.at_ hc6530) 3 _ rfl)) ?_
            refine ops_ex rfl (guard_none rfl) rfl rfl (ex_move rfl rfl) ?_
            refine ops_does rfl (guard_none rfl) rfl rfl (does_callk rfl callok87 rfl (laws_heldInt64S.calls (x0 := (gt x0 a6420).fOut.fRule.fKeys) (x1 := wrap64 ((wrap64 ((wrap64 (a6419 + 1)) + 1)) + 1)) (HM.rd hk6532) h6534)) ?_
            rintro _ w6535 ⟨rfl, hn⟩
            replace HM : Mem w [] w6535 [] := HM.call hn
            refine ops_ex rfl (guard_none rfl) rfl rfl (ex_assign rfl rfl) ?_
            refine ops_nil ?_
            refine at_then ?_
            refine run_seq ?_
            refine run_seq ?_
            refine run_region rfl ?_
            refine ops_ex rfl (guard_none rfl) rfl rfl (ex_move rfl rfl) ?_
            refine ops_ex rfl (guard_none rfl) rfl rfl (ex_lss rfl rfl rfl) ?_
            refine ops_nil ?_
            refine at_then ?_
            refine run_cond (b := (decide (t6533 < 0))) rfl (fun hb6537 => ?_) (fun hb6537 => ?_)
            · replace ho6343 := cond_t hb6537 ho6343
              refine run_seq ?_
              refine run_region rfl ?_
              refine ops_ex rfl (guard_none rfl) rfl rfl (ex_assign rfl rfl) ?_
              refine ops_nil ?_
              refine at_then ?_
              refine run_ret ?_
              refine at_then_ret ?_
              refine at_block_ret ?_
              refine at_then_ret ?_
              refine at_then_ret ?_
              refine at_block_ret ?_
              refine at_then_ret ?_
              have hR := Option.some.inj ho6343
              subst hR
              have hT := thn_inl H
              have hR := Option.some.inj hT
              subst hR
              exact at_ret1 rfl rfl ⟨_, rfl, rfl, HM⟩
            · replace ho6343 := cond_f hb6537 ho6343
              refine run_skip ?_
              refine at_then ?_
              refine run_seq ?_
              refine run_seq ?_
              obtain ⟨e6543, ho6343⟩ := chk_some ho6343
              refine run_region rfl ?_
              refine ops_ex rfl (guard_none rfl) rfl rfl (ex_move rfl rfl) ?_
              refine ops_ex rfl (guard_none rfl) rfl rfl (ex_move rfl rfl) ?_
              obtain ⟨kv6545, hc6544, hk6546⟩ : ∃ u, CellsAt _ (sb p0) (so p0 + (a6420).toNat * 8) [(.int .i64 ((gt x0 a6420).fRef.fTx)), (.int .i64 ((gt x0 a6420).fRef.fAt)), (.int .i64 ((gt x0 a6420).fOut.fValue)), u, (.int .i64 ((gt x0 a6420).fOut.fRule.fNeed)), (.int .i64 ((gt x0 a6420).fOut.fRule.fAfter)), (.int .i64 ((gt x0 a6420).fHeight)), (.bool ((gt x0 a6420).fMined))] ∧ RdS kInt _ u ((gt x0 a6420).fOut.fRule.fKeys) := rd_with1 hp0 e6543
              refine ops_ex rfl (guard_none rfl) rfl rfl (ex_indexAddr (d := kCoin) rfl rfl rfl Tryz.underlying29 tsz77 hp0 (idx_lo e6543) (idx_hi e6543)) ?_
              refine ops_ex rfl (guard_none rfl) rfl rfl (ex_fieldAddr (off' := so p0 + (a6420).toNat * 8 + 2) rfl rfl Tryz.underlying77 rfl tsz75 rfl) ?_
              refine ops_ex rfl (guard_none rfl) rfl rfl (ex_fieldAddr (off' := so p0 + (a6420).toNat * 8 + 3) rfl rfl Tryz.underlying75 rfl tsz73 rfl) ?_
              refine ops_ex rfl (guard_none rfl) rfl rfl (ex_fieldAddr (off' := so p0 + (a6420).toNat * 8 + 4) rfl rfl Tryz.underlying73 rfl tsz2 rfl) ?_
              refine ops_ex rfl (guard_none rfl) rfl rfl (ex_load1 rfl rfl Tryz.underlying2 rfl ((HM.at_ hc6544) 4 _ rfl)) ?_
              refine ops_ex rfl (guard_none rfl) rfl rfl (ex_move rfl rfl) ?_
              refine ops_ex rfl (guard_none rfl) rfl rfl (ex_neq rfl rfl rfl) ?_
              refine ops_nil ?_
              refine at_then ?_
              refine run_cond (b := (((gt x0 a6420).fOut.fRule.fNeed) != t6533)) rfl (fun hb6547 => ?_) (fun hb6547 => ?_)
              · replace ho6343 := cond_t hb6547 ho6343
                refine run_seq ?_
                refine run_region rfl ?_
                refine ops_ex rfl (guard_none rfl) rfl rfl (ex_assign rfl rfl) ?_
                refine ops_nil ?_
                refine at_then ?_
                refine run_ret ?_
                refine at_then_ret ?_
                refine at_block_ret ?_
                refine at_then_ret ?_
                refine at_then_ret ?_
                refine at_block_ret ?_
                refine at_then_ret ?_
                have hR := Option.some.inj ho6343
                subst hR
                have hT := thn_inl H
                have hR := Option.some.inj hT
                subst hR
                exact at_ret1 rfl rfl ⟨_, rfl, rfl, HM⟩
              · replace ho6343 := cond_f hb6547 ho6343
                refine run_skip ?_
                refine at_then ?_
                refine run_seq ?_
                refine run_region rfl ?_
                refine ops_ex rfl (guard_none rfl) rfl rfl (ex_move rfl rfl) ?_
                refine ops_ex rfl (guard_none rfl) rfl rfl (ex_add rfl rfl rfl) ?_
                refine ops_ex rfl (guard_none rfl) rfl rfl (ex_assign rfl rfl) ?_
                refine ops_nil ?_
                refine at_then ?_
                refine run_seq ?_
                refine run_seq ?_
                obtain ⟨e6553, ho6343⟩ := chk_some ho6343
                refine run_region rfl ?_
                refine ops_ex rfl (guard_none rfl) rfl rfl (ex_move rfl rfl) ?_
                refine ops_ex rfl (guard_none rfl) rfl rfl (ex_move rfl rfl) ?_
                obtain ⟨kv6555, hc6554, hk6556⟩ : ∃ u, CellsAt _ (sb p0) (so p0 + (a6420).toNat * 8) [(.int .i64 ((gt x0 a6420).fRef.fTx)), (.int .i64 ((gt x0 a6420).fRef.fAt)), (.int .i64 ((gt x0 a6420).fOut.fValue)), u, (.int .i64 ((gt x0 a6420).fOut.fRule.fNeed)), (.int .i64 ((gt x0 a6420).fOut.fRule.fAfter)), (.int .i64 ((gt x0 a6420).fHeight)), (.bool ((gt x0 a6420).fMined))] ∧ RdS kInt _ u ((gt x0 a6420).fOut.fRule.fKeys) := rd_with1 hp0 e6553
                refine ops_ex rfl (guard_none rfl) rfl rfl (ex_indexAddr (d := kCoin) rfl rfl rfl Tryz.underlying29 tsz77 hp0 (idx_lo e6553) (idx_hi e6553)) ?_
                refine ops_ex rfl (guard_none rfl) rfl rfl (ex_fieldAddr (off' := so p0 + (a6420).toNat * 8 + 2) rfl rfl Tryz.underlying77 rfl tsz75 rfl) ?_
                refine ops_ex rfl (guard_none rfl) rfl rfl (ex_fieldAddr (off' := so p0 + (a6420).toNat * 8 + 3) rfl rfl Tryz.underlying75 rfl tsz73 rfl) ?_
                refine ops_ex rfl (guard_none rfl) rfl rfl (ex_fieldAddr (off' := so p0 + (a6420).toNat * 8 + 5) rfl rfl Tryz.underlying73 rfl tsz2 rfl) ?_
                refine ops_ex rfl (guard_none rfl) rfl rfl (ex_load1 rfl rfl Tryz.underlying2 rfl ((HM.at_ hc6554) 5 _ rfl)) ?_
                refine ops_ex rfl (guard_none rfl) rfl rfl (ex_move rfl rfl) ?_
                refine ops_ex rfl (guard_none rfl) rfl rfl (ex_neq rfl rfl rfl) ?_
                refine ops_nil ?_
                refine at_then ?_
                refine run_cond (b := (((gt x0 a6420).fOut.fRule.fAfter) != (wrap64 (t6533 + 1)))) rfl (fun hb6557 => ?_) (fun hb6557 => ?_)
                · replace ho6343 := cond_t hb6557 ho6343
                  refine run_seq ?_
                  refine run_region rfl ?_
                  refine ops_ex rfl (guard_none rfl) rfl rfl (ex_assign rfl rfl) ?_
                  refine ops_nil ?_
                  refine at_then ?_
                  refine run_ret ?_
                  refine at_then_ret ?_
                  refine at_block_ret ?_
                  refine at_then_ret ?_
                  refine at_then_ret ?_
                  refine at_block_ret ?_
                  refine at_then_ret ?_
                  have hR := Option.some.inj ho6343
                  subst hR
                  have hT := thn_inl H
                  have hR := Option.some.inj hT
                  subst hR
                  exact at_ret1 rfl rfl ⟨_, rfl, rfl, HM⟩
                · replace ho6343 := cond_f hb6557 ho6343
                  refine run_skip ?_
                  refine at_then ?_
                  refine run_seq ?_
                  refine run_region rfl ?_
                  refine ops_ex rfl (guard_none rfl) rfl rfl (ex_move rfl rfl) ?_
                  refine ops_ex rfl (guard_none rfl) rfl rfl (ex_add rfl rfl rfl) ?_
                  refine ops_ex rfl (guard_none rfl) rfl rfl (ex_assign rfl rfl) ?_
                  refine ops_nil ?_
                  refine at_then ?_
                  refine run_seq ?_
                  refine run_seq ?_
                  obtain ⟨e6563, ho6343⟩ := chk_some ho6343
                  refine run_region rfl ?_
                  refine ops_ex rfl (guard_none rfl) rfl rfl (ex_move rfl rfl) ?_
                  refine ops_ex rfl (guard_none rfl) rfl rfl (ex_move rfl rfl) ?_
                  obtain ⟨kv6565, hc6564, hk6566⟩ : ∃ u, CellsAt _ (sb p0) (so p0 + (a6420).toNat * 8) [(.int .i64 ((gt x0 a6420).fRef.fTx)), (.int .i64 ((gt x0 a6420).fRef.fAt)), (.int .i64 ((gt x0 a6420).fOut.fValue)), u, (.int .i64 ((gt x0 a6420).fOut.fRule.fNeed)), (.int .i64 ((gt x0 a6420).fOut.fRule.fAfter)), (.int .i64 ((gt x0 a6420).fHeight)), (.bool ((gt x0 a6420).fMined))] ∧ RdS kInt _ u ((gt x0 a6420).fOut.fRule.fKeys) := rd_with1 hp0 e6563
                  refine ops_ex rfl (guard_none rfl) rfl rfl (ex_indexAddr (d := kCoin) rfl rfl rfl Tryz.underlying29 tsz77 hp0 (idx_lo e6563) (idx_hi e6563)) ?_
                  refine ops_ex rfl (guard_none rfl) rfl rfl (ex_fieldAddr (off' := so p0 + (a6420).toNat * 8 + 6) rfl rfl Tryz.underlying77 rfl tsz2 rfl) ?_
                  refine ops_ex rfl (guard_none rfl) rfl rfl (ex_load1 rfl rfl Tryz.underlying2 rfl ((HM.at_ hc6564) 6 _ rfl)) ?_
                  refine ops_ex rfl (guard_none rfl) rfl rfl (ex_move rfl rfl) ?_
                  refine ops_ex rfl (guard_none rfl) rfl rfl (ex_neq rfl rfl rfl) ?_
                  refine ops_nil ?_
                  refine at_then ?_
                  refine run_cond (b := (((gt x0 a6420).fHeight) != (wrap64 ((wrap64 (t6533 + 1)) + 1)))) rfl (fun hb6567 => ?_) (fun hb6567 => ?_)
                  · replace ho6343 := cond_t hb6567 ho6343
                    refine run_seq ?_
                    refine run_region rfl ?_
                    refine ops_ex rfl (guard_none rfl) rfl rfl (ex_assign rfl rfl) ?_
                    refine ops_nil ?_
                    refine at_then ?_
                    refine run_ret ?_
                    refine at_then_ret ?_
                    refine at_block_ret ?_
                    refine at_then_ret ?_
                    refine at_then_ret ?_
                    refine at_block_ret ?_
                    refine at_then_ret ?_
                    have hR := Option.some.inj ho6343
                    subst hR
                    have hT := thn_inl H
                    have hR := Option.some.inj hT
                    subst hR
                    exact at_ret1 rfl rfl ⟨_, rfl, rfl, HM⟩
                  · replace ho6343 := cond_f hb6567 ho6343
                    refine run_skip ?_
                    refine at_then ?_
                    refine run_seq ?_
                    refine run_region rfl ?_
                    refine ops_ex rfl (guard_none rfl) rfl rfl (ex_move rfl rfl) ?_
                    refine ops_ex rfl (guard_none rfl) rfl rfl (ex_add rfl rfl rfl) ?_
                    refine ops_ex rfl (guard_none rfl) rfl rfl (ex_assign rfl rfl) ?_
                    refine ops_nil ?_
                    refine at_then ?_
                    refine run_seq ?_
                    refine run_seq ?_
                    obtain ⟨e6568, ho6343⟩ := chk_some ho6343
                    obtain ⟨e6572, ho6343⟩ := chk_some ho6343
                    refine run_region rfl ?_
                    refine ops_ex rfl (guard_none rfl) rfl rfl (ex_move rfl rfl) ?_
                    refine ops_ex rfl (guard_none rfl) rfl rfl (ex_move rfl rfl) ?_
                    obtain ⟨kv6570, hc6569, hk6571⟩ : ∃ u, CellsAt _ (sb p0) (so p0 + (a6420).toNat * 8) [(.int .i64 ((gt x0 a6420).fRef.fTx)), (.int .i64 ((gt x0 a6420).fRef.fAt)), (.int .i64 ((gt x0 a6420).fOut.fValue)), u, (.int .i64 ((gt x0 a6420).fOut.fRule.fNeed)), (.int .i64 ((gt x0 a6420).fOut.fRule.fAfter)), (.int .i64 ((gt x0 a6420).fHeight)), (.bool ((gt x0 a6420).fMined))] ∧ RdS kInt _ u ((gt x0 a6420).fOut.fRule.fKeys) := rd_with1 hp0 e6568
                    refine ops_ex rfl (guard_none rfl) rfl rfl (ex_indexAddr (d := kCoin) rfl rfl rfl Tryz.underlying29 tsz77 hp0 (idx_lo e6568) (idx_hi e6568)) ?_
                    refine ops_ex rfl (guard_none rfl) rfl rfl (ex_fieldAddr (off' := so p0 + (a6420).toNat * 8 + 7) rfl rfl Tryz.underlying77 rfl tsz4 rfl) ?_
                    refine ops_ex rfl (guard_none rfl) rfl rfl (ex_load1 rfl rfl Tryz.underlying4 rfl ((HM.at_ hc6569) 7 _ rfl)) ?_
                    refine ops_ex rfl (guard_none rfl) rfl rfl (ex_move rfl rfl) ?_
                    refine ops_ex rfl (guard_none rfl) rfl rfl (ex_remk rfl rfl rfl e6572) ?_
                    refine ops_ex rfl (guard_none rfl) rfl rfl (ex_eql rfl rfl rfl) ?_
                    refine ops_ex rfl (guard_none rfl) rfl rfl (ex_bneq rfl rfl rfl Tryz.underlying4) ?_
                    refine ops_nil ?_
                    refine at_then ?_
                    refine run_cond (b := (((gt x0 a6420).fMined) != ((Int.tmod (wrap64 ((wrap64 ((wrap64 (t6533 + 1)) + 1)) + 1)) (3 : Int)) == 0))) rfl (fun hb6573 => ?_) (fun hb6573 => ?_)
                    · replace ho6343 := cond_t hb6573 ho6343
                      refine run_seq ?_
                      refine run_region rfl ?_
                      refine ops_ex rfl (guard_none rfl) rfl rfl (ex_assign rfl rfl) ?_
                      refine ops_nil ?_
                      refine at_then ?_
                      refine run_ret ?_
                      refine at_then_ret ?_
                      refine at_block_ret ?_
                      refine at_then_ret ?_
                      refine at_then_ret ?_
                      refine at_block_ret ?_
                      refine at_then_ret ?_
                      have hR := Option.some.inj ho6343
                      subst hR
                      have hT := thn_inl H
                      have hR := Option.some.inj hT
                      subst hR
                      exact at_ret1 rfl rfl ⟨_, rfl, rfl, HM⟩
                    · replace ho6343 := cond_f hb6573 ho6343
                      refine run_skip ?_
                      refine at_then ?_
                      refine run_region rfl ?_
                      refine ops_ex rfl (guard_none rfl) rfl rfl (ex_move rfl rfl) ?_
                      refine ops_ex rfl (guard_none rfl) rfl rfl (ex_add rfl rfl rfl) ?_
                      refine ops_ex rfl (guard_none rfl) rfl rfl (ex_assign rfl rfl) ?_
                      refine ops_nil ?_
                      refine at_block ?_
                      refine at_then ?_
                      refine run_region rfl ?_
                      refine ops_ex rfl (guard_none rfl) rfl rfl (ex_move rfl rfl) ?_
                      refine ops_ex rfl (guard_none rfl) rfl rfl (ex_add rfl rfl rfl) ?_
                      refine ops_ex rfl (guard_none rfl) rfl rfl (ex_assign rfl rfl) ?_
                      refine ops_nil ?_
                      exact at_again k6496 (ρ1 := [(0, p0), (1, .int .i64 (wrap64 ((wrap64 ((wrap64 ((wrap64 (t6533 + 1)) + 1)) + 1)) + 1))), (5, .int .i64 (wrap64 (a6420 + 1)))]) (Nat.lt_succ_self _) ⟨_, _, ho6343, rfl, HM⟩ (Sub.cons rfl (Sub.cons rfl (Sub.cons rfl Sub.nil)))
    · replace ho6343 := cond_f hb6498 ho6343
      refine run_exit ?_
      refine at_then_exit ?_
      refine at_then_exit ?_
      refine at_block_exit ?_
      exact at_mid (ρ' := [(1, .int .i64 a6419)]) ⟨_, (Option.some.inj ho6343), rfl, HM⟩ (Sub.cons rfl Sub.nil)
  · rintro _ w6574 ⟨a6341, rfl, rfl, HM⟩
    replace H := (thn_inr H)
    refine run_seq ?_
    refine run_region rfl ?_
    refine ops_ex rfl (guard_none rfl) rfl rfl (ex_move rfl rfl) ?_
    refine ops_ex rfl (guard_none rfl) rfl rfl (ex_assign rfl rfl) ?_
    refine ops_nil ?_
    refine at_then ?_
    refine run_ret ?_
    have hR := Option.some.inj H
    subst hR
    exact at_ret1 rfl rfl ⟨_, rfl, rfl, HM⟩

def laws_heldCoinsResult.f (k : Nat) (x0 : CoinsResult) (x1 : Int) : Option Int := ((laws_heldCoinS.f k x0.fCoins x1).bind fun t6582 => (bif (decide (t6582 < 0)) then some (-1) else some t6582))
theorem laws_heldCoinsResult.calls {k : Nat} {x0 : CoinsResult} {x1 : Int} {p0_0 : Value} {w : World} (hp0_0 : RdS kCoin w p0_0 x0.fCoins) {r : Int} (H : laws_heldCoinsResult.f k x0 x1 = some r) :
    Calls Tryz.prog 19 ([.agg #[(.int .i64 x0.fCode), p0_0], .int .i64 x1] : List Value).toArray w (fun e w_ => ∃ v, e = .returned v ∧ v = (.int .i64 r) ∧ Mem w [] w_ []) := by
  have HM := Mem.start w
  refine calls_run (N := 12) Tryz.func19 rfl rfl rfl rfl ?_
  unfold laws_heldCoinsResult.f at H
  refine run_seq ?_
  refine run_region rfl ?_
  refine ops_does rfl (guard_none rfl) rfl rfl (does_box (cs := [.int .i64 x0.fCode, p0_0]) rfl rfl rfl HM) ?_
  rintro _ w6581 ⟨b6578, rfl, HM⟩
  refine ops_ex rfl (guard_none rfl) rfl rfl (ex_assign rfl rfl) ?_
  refine ops_nil ?_
  refine at_then ?_
  refine run_seq ?_
  obtain ⟨t6582, h6583, H⟩ := bind_some H
  refine run_region rfl ?_
  refine ops_ex rfl (guard_none rfl) rfl rfl (ex_fieldAddr (off' := 1) rfl rfl Tryz.underlying31 rfl tsz29 rfl) ?_
  refine ops_ex rfl (guard_none rfl) rfl rfl (ex_load1 rfl rfl Tryz.underlying29 rfl ((HM.box_at 0 rfl) 1 _ rfl)) ?_
  refine ops_ex rfl (guard_none rfl) rfl rfl (ex_move rfl rfl) ?_
  refine ops_does rfl (guard_none rfl) rfl rfl (does_callk rfl callok46 rfl (laws_heldCoinS.calls (x0 := x0.fCoins) (x1 := x1) (HM.rd hp0_0) h6583)) ?_
  rintro _ w6584 ⟨rfl, hn⟩
  replace HM : Mem w [] w6584 [box b6578 31 [.int .i64 x0.fCode, p0_0]] := HM.call hn
  refine ops_ex rfl (guard_none rfl) rfl rfl (ex_assign rfl rfl) ?_
  refine ops_nil ?_
  refine at_then ?_
  refine run_seq ?_
  refine run_seq ?_
  refine run_region rfl ?_
  refine ops_ex rfl (guard_none rfl) rfl rfl (ex_move rfl rfl) ?_
  refine ops_ex rfl (guard_none rfl) rfl rfl (ex_lss rfl rfl rfl) ?_
  refine ops_nil ?_
  refine at_then ?_
  refine run_cond (b := (decide (t6582 < 0))) rfl (fun hb6585 => ?_) (fun hb6585 => ?_)
  · replace H := cond_t hb6585 H
    refine run_seq ?_
    refine run_region rfl ?_
    refine ops_ex rfl (guard_none rfl) rfl rfl (ex_assign rfl rfl) ?_
    refine ops_nil ?_
    refine at_then ?_
    refine run_ret ?_
    refine at_then_ret ?_
    replace HM := (HM.front 0 rfl rfl).drop
    have hR := Option.some.inj H
    subst hR
    exact at_ret1 rfl rfl ⟨_, rfl, rfl, HM⟩
  · replace H := cond_f hb6585 H
    refine run_skip ?_
    refine at_then ?_
    refine run_seq ?_
    refine run_region rfl ?_
    refine ops_ex rfl (guard_none rfl) rfl rfl (ex_move rfl rfl) ?_
    refine ops_ex rfl (guard_none rfl) rfl rfl (ex_assign rfl rfl) ?_
    refine ops_nil ?_
    refine at_then ?_
    refine run_ret ?_
    replace HM := (HM.front 0 rfl rfl).drop
    have hR := Option.some.inj H
    subst hR
    exact at_ret1 rfl rfl ⟨_, rfl, rfl, HM⟩

def laws_FnExactSpentBy.f (k : Nat) (x0 : List Coin) (x1 : Tx) : Option Bool := ((laws_szCoinS.f k x0 1048576).bind fun t6624 => (bif (decide (t6624 < 0)) then some true else ((laws_szTx.f k x1 t6624).bind fun t6629 => (bif (decide (t6629 < 0)) then some true else ((laws_toCoinS.f k x0).bind fun t6634 => ((laws_toTx.f k x1).bind fun t6638 => ((spec_SpentBy.f k t6634 t6638).bind fun t6644 => ((laws_toCoinS.f k x0).bind fun t6669 => ((laws_toTx.f k x1).bind fun t6674 => ((impl_SpentBy.f k t6669 t6674).bind fun t6686 => ((laws_eqCoinsResult.f k t6686 t6644).bind fun t6699 => (bif !t6699 then some false else ((laws_toCoinS.f k x0).bind fun t6710 => ((laws_eqCoinS.f k t6669 t6710).bind fun t6714 => (bif !t6714 then some false else ((laws_toTx.f k x1).bind fun t6728 => ((laws_eqTx.f k t6674 t6728).bind fun t6734 => (bif !t6734 then some false else ((laws_markCoinS.f k t6669 1).bind fun t6739 => ((laws_markTx.f k t6674 t6739.1).bind fun t6748 => ((bif (!(decide (t6748.1 < 0))) then laws_eqCoinsResult.f k t6686 t6644 else some default).bind fun t6760 => (bif ((decide (t6748.1 < 0)) || (!t6760)) then some false else ((laws_markCoinsResult.f k t6686 1).bind fun t6767 => ((laws_heldCoinsResult.f k (⟨t6686.fCode, t6767.2⟩ : CoinsResult) 1).bind fun t6776 => (bif (decide (t6776 < 0)) then some false else (bif (t6776 != t6767.1) then some false else ((laws_toCoinS.f k x0).bind fun t6783 => ((laws_toTx.f k x1).bind fun t6787 => ((impl_SpentBy.f k t6783 t6787).bind fun t6793 => ((laws_eqCoinsResult.f k t6793 t6644).bind fun t6821 => (bif !t6821 then some false else ((laws_heldCoinsResult.f k (⟨t6686.fCode, t6767.2⟩ : CoinsResult) 1).bind fun t6825 => (bif (decide (t6825 < 0)) then some false else (bif (t6825 != t6767.1) then some false else some true))))))))))))))))))))))))))))))))))
theorem laws_FnExactSpentBy.calls {k : Nat} {x0 : List Coin} {x1 : Tx} {p0 : Value} {p1_0 : Value} {p1_1 : Value} {w : World} (hp0 : RdS kCoin w p0 x0) (hp1_0 : RdS kRef w p1_0 x1.fIns) (hp1_1 : RdS kOut w p1_1 x1.fOuts) {r : Bool} (H : laws_FnExactSpentBy.f k x0 x1 = some r) :
    Calls Tryz.prog 3 ([p0, .agg #[(.int .i64 x1.fKind), (.int .i64 x1.fMember), p1_0, p1_1]] : List Value).toArray w (fun e w_ => ∃ v, e = .returned v ∧ v = (.bool r) ∧ Mem w [] w_ []) := by
  have HM := Mem.start w
  refine calls_run (N := 92) Tryz.func3 rfl rfl rfl rfl ?_
  unfold laws_FnExactSpentBy.f at H
  refine run_seq ?_
  refine run_region rfl ?_
  refine ops_does rfl (guard_none rfl) rfl rfl (does_box (cs := [.int .i64 x1.fKind, .int .i64 x1.fMember, p1_0, p1_1]) rfl rfl rfl HM) ?_
  rintro _ w6623 ⟨b6620, rfl, HM⟩
  refine ops_ex rfl (guard_none rfl) rfl rfl (ex_assign rfl rfl) ?_
  refine ops_nil ?_
  refine at_then ?_
  refine run_seq ?_
  refine run_region rfl ?_
  refine ops_ex rfl (guard_none rfl) rfl rfl (ex_assign rfl rfl) ?_
  refine ops_nil ?_
  refine at_then ?_
  refine run_seq ?_
  obtain ⟨t6624, h6625, H⟩ := bind_some H
  refine run_region rfl ?_
  refine ops_ex rfl (guard_none rfl) rfl rfl (ex_move rfl rfl) ?_
  refine ops_ex rfl (guard_none rfl) rfl rfl (ex_move rfl rfl) ?_
  refine ops_does rfl (guard_none rfl) rfl rfl (does_callk rfl callok7 rfl (laws_szCoinS.calls (x0 := x0) (x1 := 1048576) (HM.rd hp0) h6625)) ?_
  rintro _ w6626 ⟨rfl, hn⟩
  replace HM : Mem w [] w6626 [box b6620 26 [.int .i64 x1.fKind, .int .i64 x1.fMember, p1_0, p1_1]] := HM.call hn
  refine ops_ex rfl (guard_none rfl) rfl rfl (ex_assign rfl rfl) ?_
  refine ops_nil ?_
  refine at_then ?_
  refine run_seq ?_
  refine run_seq ?_
  refine run_region rfl ?_
  refine ops_ex rfl (guard_none rfl) rfl rfl (ex_move rfl rfl) ?_
  refine ops_ex rfl (guard_none rfl) rfl rfl (ex_lss rfl rfl rfl) ?_
  refine ops_nil ?_
  refine at_then ?_
  refine run_cond (b := (decide (t6624 < 0))) rfl (fun hb6628 => ?_) (fun hb6628 => ?_)
  · replace H := cond_t hb6628 H
    refine run_seq ?_
    refine run_region rfl ?_
    refine ops_ex rfl (guard_none rfl) rfl rfl (ex_assign rfl rfl) ?_
    refine ops_nil ?_
    refine at_then ?_
    refine run_ret ?_
    refine at_then_ret ?_
    replace HM := (HM.front 0 rfl rfl).drop
    have hR := Option.some.inj H
    subst hR
    exact at_ret1 rfl rfl ⟨_, rfl, rfl, HM⟩
  · replace H := cond_f hb6628 H
    refine run_skip ?_
    refine at_then ?_
    refine run_seq ?_
    obtain ⟨t6629, h6630, H⟩ := bind_some H
    refine run_region rfl ?_
    refine ops_ex rfl (guard_none rfl) rfl rfl (ex_loadN (cs := [(.int .i64 x1.fKind), (.int .i64 x1.fMember), p1_0, p1_1]) rfl rfl Tryz.underlying26 rfl tsz26 rfl ((HM.box_at 0 rfl).sub 0 4 rfl)) ?_
    refine ops_ex rfl (guard_none rfl) rfl rfl (ex_move rfl rfl) ?_
    refine ops_does rfl (guard_none rfl) rfl rfl (does_callk rfl callok8 rfl (laws_szTx.calls (x0 := x1) (x1 := t6624) (HM.rd hp1_0) (HM.rd hp1_1) h6630)) ?_
    rintro _ w6631 ⟨rfl, hn⟩
    replace HM : Mem w [] w6631 [box b6620 26 [.int .i64 x1.fKind, .int .i64 x1.fMember, p1_0, p1_1]] := HM.call hn
    refine ops_ex rfl (guard_none rfl) rfl rfl (ex_assign rfl rfl) ?_
    refine ops_nil ?_
    refine at_then ?_
    refine run_seq ?_
    refine run_seq ?_
    refine run_region rfl ?_
    refine ops_ex rfl (guard_none rfl) rfl rfl (ex_move rfl rfl) ?_
    refine ops_ex rfl (guard_none rfl) rfl rfl (ex_lss rfl rfl rfl) ?_
    refine ops_nil ?_
    refine at_then ?_
    refine run_cond (b := (decide (t6629 < 0))) rfl (fun hb6633 => ?_) (fun hb6633 => ?_)
    · replace H := cond_t hb6633 H
      refine run_seq ?_
      refine run_region rfl ?_
      refine ops_ex rfl (guard_none rfl) rfl rfl (ex_assign rfl rfl) ?_
      refine ops_nil ?_
      refine at_then ?_
      refine run_ret ?_
      refine at_then_ret ?_
      replace HM := (HM.front 0 rfl rfl).drop
      have hR := Option.some.inj H
      subst hR
      exact at_ret1 rfl rfl ⟨_, rfl, rfl, HM⟩
    · replace H := cond_f hb6633 H
      refine run_skip ?_
      refine at_then ?_
      refine run_seq ?_
      obtain ⟨t6634, h6635, H⟩ := bind_some H
      obtain ⟨t6638, h6639, H⟩ := bind_some H
      obtain ⟨t6644, h6645, H⟩ := bind_some H
      refine run_meet (fun ρ_ w_ => ∃ u6646 : Value, ∃ b6648 : Nat, ρ_ = [(0, p0), (3, .pointer (some ⟨b6620, 0, none⟩)), (6, .pointer (some ⟨b6648, 0, none⟩))] ∧ Mem w [] w_ [box b6620 26 [.int .i64 x1.fKind, .int .i64 x1.fMember, p1_0, p1_1], box b6648 31 [.int .i64 t6644.fCode, u6646], own kCoin 77 u6646 t6644.fCoins]) ?_ ?_
      · skip
        refine run_draw (fun w_ => Mem w [] w_ [box b6620 26 [.int .i64 x1.fKind, .int .i64 x1.fMember, p1_0, p1_1]]) mixed rfl (l := #[false, false, false, false, false, false, false]) rfl ?_
        replace HM := HM.grow (fr_drew _)
        have hS := Mem.suf (M := []) HM
        refine drw_take (i := 0) (l' := #[true, false, false, false, false, false, false]) rfl (guard_none rfl) rfl rfl (by kernel_rfl) (fun w_ hS_ => (ex_move rfl rfl)) hS ?_
        refine drw_take (i := 2) (l' := #[true, false, true, false, false, false, false]) rfl (guard_none rfl) rfl rfl (by kernel_rfl) (fun w_ hS_ => (ex_loadN (cs := [(.int .i64 x1.fKind), (.int .i64 x1.fMember), p1_0, p1_1]) rfl rfl Tryz.underlying26 rfl tsz26 rfl ((hS_.box_at 0 rfl).sub 0 4 rfl))) hS ?_
        refine drw_any [1, 5] (by kernel_rfl) rfl (.cons ?_ (.cons ?_ .nil))
        · skip
          refine br_does (l' := #[true, true, true, false, false, false, false]) rfl (guard_none rfl) rfl rfl (by kernel_rfl) (does_callk rfl callok10 rfl (laws_toCoinS.calls (x0 := x0) (HM.rd hp0) h6635)) ?_
          rintro u6636 w6651 ⟨_, rfl, hn⟩
          replace HM : Mem w [] w6651 [own kCoin 77 u6636 t6634, box b6620 26 [.int .i64 x1.fKind, .int .i64 x1.fMember, p1_0, p1_1]] := HM.call hn
          refine ⟨Mem.suf (M := [own kCoin 77 u6636 t6634]) HM, ?_⟩
          have hS := Mem.suf (M := [own kCoin 77 u6636 t6634]) HM
          refine drw_any [3, 5] (by kernel_rfl) rfl (.cons ?_ (.cons ?_ .nil))
          · skip
            refine br_does (l' := #[true, true, true, true, false, false, false]) rfl (guard_none rfl) rfl rfl (by kernel_rfl) (does_callk rfl callok11 rfl (laws_toTx.calls (x0 := x1) (HM.rd hp1_0) (HM.rd hp1_1) h6639)) ?_
            rintro _ w6652 ⟨u6640, u6642, rfl, hn⟩
            replace HM : Mem w [] w6652 [own kRef 56 u6640 t6638.fIns, own kOut 75 u6642 t6638.fOuts, own kCoin 77 u6636 t6634, box b6620 26 [.int .i64 x1.fKind, .int .i64 x1.fMember, p1_0, p1_1]] := HM.call hn
            refine ⟨Mem.suf (M := [own kRef 56 u6640 t6638.fIns, own kOut 75 u6642 t6638.fOuts, own kCoin 77 u6636 t6634]) HM, ?_⟩
            have hS := Mem.suf (M := [own kRef 56 u6640 t6638.fIns, own kOut 75 u6642 t6638.fOuts, own kCoin 77 u6636 t6634]) HM
            refine drw_any [4, 5] (by kernel_rfl) rfl (.cons ?_ (.cons ?_ .nil))
            · skip
              refine br_does (l' := #[true, true, true, true, true, false, false]) rfl (guard_none rfl) rfl rfl (by kernel_rfl) (does_callk rfl callok9 rfl (spec_SpentBy.calls (x0 := t6634) (x1 := t6638) (HM.own_rd 2 rfl) (HM.own_rd 0 rfl) (HM.own_rd 1 rfl) h6645)) ?_
              rintro _ w6653 ⟨u6646, rfl, hn⟩
              replace HM : Mem w [] w6653 [own kCoin 77 u6646 t6644.fCoins, own kRef 56 u6640 t6638.fIns, own kOut 75 u6642 t6638.fOuts, own kCoin 77 u6636 t6634, box b6620 26 [.int .i64 x1.fKind, .int .i64 x1.fMember, p1_0, p1_1]] := HM.call hn
              refine ⟨Mem.suf (M := [own kCoin 77 u6646 t6644.fCoins, own kRef 56 u6640 t6638.fIns, own kOut 75 u6642 t6638.fOuts, own kCoin 77 u6636 t6634]) HM, ?_⟩
              have hS := Mem.suf (M := [own kCoin 77 u6646 t6644.fCoins, own kRef 56 u6640 t6638.fIns, own kOut 75 u6642 t6638.fOuts, own kCoin 77 u6636 t6634]) HM
              refine drw_any [5] (by kernel_rfl) rfl (.cons ?_ .nil)
              refine br_does (l' := #[true, true, true, true, true, true, false]) rfl (guard_none rfl) rfl rfl (by kernel_rfl) (does_alloc (cs := [.int .i64 0, .slice none 0 0]) rfl tz31 rfl HM) ?_
              rintro _ w6654 ⟨b6648, rfl, HM⟩
              refine ⟨Mem.suf (M := [box b6648 31 [.int .i64 0, .slice none 0 0], own kCoin 77 u6646 t6644.fCoins, own kRef 56 u6640 t6638.fIns, own kOut 75 u6642 t6638.fOuts, own kCoin 77 u6636 t6634]) HM, ?_⟩
              have hS := Mem.suf (M := [box b6648 31 [.int .i64 0, .slice none 0 0], own kCoin 77 u6646 t6644.fCoins, own kRef 56 u6640 t6638.fIns, own kOut 75 u6642 t6638.fOuts, own kCoin 77 u6636 t6634]) HM
              refine drw_any [6] (by kernel_rfl) rfl (.cons ?_ .nil)
              refine br_doesS (l' := #[true, true, true, true, true, true, true]) rfl (guard_none rfl) rfl (by kernel_rfl) (does_store (vs := [.int .i64 t6644.fCode, u6646]) (cs' := [.int .i64 t6644.fCode, u6646]) rfl rfl rfl rfl tsz31 (Ones.int (Ones.rd (HM.own_rd 1 rfl) Ones.nil)) rfl rfl HM) ?_
              rintro w6655 HM
              refine ⟨Mem.suf (M := [box b6648 31 [.int .i64 t6644.fCode, u6646], own kCoin 77 u6646 t6644.fCoins, own kRef 56 u6640 t6638.fIns, own kOut 75 u6642 t6638.fOuts, own kCoin 77 u6636 t6634]) HM, ?_⟩
              have hS := Mem.suf (M := [box b6648 31 [.int .i64 t6644.fCode, u6646], own kCoin 77 u6646 t6644.fCoins, own kRef 56 u6640 t6638.fIns, own kOut 75 u6642 t6638.fOuts, own kCoin 77 u6636 t6634]) HM
              refine drw_done (by kernel_rfl) ?_
              replace HM := (HM.front 2 rfl rfl).drop
              replace HM := (HM.front 2 rfl rfl).drop
              replace HM := (HM.front 2 rfl rfl).drop
              replace HM := HM.front 1 rfl rfl
              replace HM := HM.front 1 rfl rfl
              replace HM := HM.front 2 rfl rfl
              exact at_meet [(0, p0), (3, .pointer (some ⟨b6620, 0, none⟩)), (6, .pointer (some ⟨b6648, 0, none⟩))] ⟨_, _, rfl, HM⟩ (Sub.cons rfl (Sub.cons rfl (Sub.cons rfl Sub.nil)))
            · skip
              refine br_does (l' := #[true, true, true, true, false, true, false]) rfl (guard_none rfl) rfl rfl (by kernel_rfl) (does_alloc (cs := [.int .i64 0, .slice none 0 0]) rfl tz31 rfl HM) ?_
              rintro _ w6656 ⟨b6648, rfl, HM⟩
              refine ⟨Mem.suf (M := [box b6648 31 [.int .i64 0, .slice none 0 0], own kRef 56 u6640 t6638.fIns, own kOut 75 u6642 t6638.fOuts, own kCoin 77 u6636 t6634]) HM, ?_⟩
              have hS := Mem.suf (M := [box b6648 31 [.int .i64 0, .slice none 0 0], own kRef 56 u6640 t6638.fIns, own kOut 75 u6642 t6638.fOuts, own kCoin 77 u6636 t6634]) HM
              refine drw_any [4] (by kernel_rfl) rfl (.cons ?_ .nil)
              refine br_does (l' := #[true, true, true, true, true, true, false]) rfl (guard_none rfl) rfl rfl (by kernel_rfl) (does_callk rfl callok9 rfl (spec_SpentBy.calls (x0 := t6634) (x1 := t6638) (HM.own_rd 3 rfl) (HM.own_rd 1 rfl) (HM.own_rd 2 rfl) h6645)) ?_
              rintro _ w6657 ⟨u6646, rfl, hn⟩
              replace HM : Mem w [] w6657 [own kCoin 77 u6646 t6644.fCoins, box b6648 31 [.int .i64 0, .slice none 0 0], own kRef 56 u6640 t6638.fIns, own kOut 75 u6642 t6638.fOuts, own kCoin 77 u6636 t6634, box b6620 26 [.int .i64 x1.fKind, .int .i64 x1.fMember, p1_0, p1_1]] := HM.call hn
              refine ⟨Mem.suf (M := [own kCoin 77 u6646 t6644.fCoins, box b6648 31 [.int .i64 0, .slice none 0 0], own kRef 56 u6640 t6638.fIns, own kOut 75 u6642 t6638.fOuts, own kCoin 77 u6636 t6634]) HM, ?_⟩
              have hS := Mem.suf (M := [own kCoin 77 u6646 t6644.fCoins, box b6648 31 [.int .i64 0, .slice none 0 0], own kRef 56 u6640 t6638.fIns, own kOut 75 u6642 t6638.fOuts, own kCoin 77 u6636 t6634]) HM
              replace HM := HM.front 1 rfl rfl
              refine drw_any [6] (by kernel_rfl) rfl (.cons ?_ .nil)
              refine br_doesS (l' := #[true, true, true, true, true, true, true]) rfl (guard_none rfl) rfl (by kernel_rfl) (does_store (vs := [.int .i64 t6644.fCode, u6646]) (cs' := [.int .i64 t6644.fCode, u6646]) rfl rfl rfl rfl tsz31 (Ones.int (Ones.rd (HM.own_rd 1 rfl) Ones.nil)) rfl rfl HM) ?_
              rintro w6658 HM
              refine ⟨Mem.suf (M := [box b6648 31 [.int .i64 t6644.fCode, u6646], own kCoin 77 u6646 t6644.fCoins, own kRef 56 u6640 t6638.fIns, own kOut 75 u6642 t6638.fOuts, own kCoin 77 u6636 t6634]) HM, ?_⟩
              have hS := Mem.suf (M := [box b6648 31 [.int .i64 t6644.fCode, u6646], own kCoin 77 u6646 t6644.fCoins, own kRef 56 u6640 t6638.fIns, own kOut 75 u6642 t6638.fOuts, own kCoin 77 u6636 t6634]) HM
              refine drw_done (by kernel_rfl) ?_
              replace HM := (HM.front 2 rfl rfl).drop
              replace HM := (HM.front 2 rfl rfl).drop
              replace HM := (HM.front 2 rfl rfl).drop
              replace HM := HM.front 1 rfl rfl
              replace HM := HM.front 1 rfl rfl
              replace HM := HM.front 2 rfl rfl
              exact at_meet [(0, p0), (3, .pointer (some ⟨b6620, 0, none⟩)), (6, .pointer (some ⟨b6648, 0, none⟩))] ⟨_, _, rfl, HM⟩ (Sub.cons rfl (Sub.cons rfl (Sub.cons rfl Sub.nil)))
          · skip
            refine br_does (l' := #[true, true, true, false, false, true, false]) rfl (guard_none rfl) rfl rfl (by kernel_rfl) (does_alloc (cs := [.int .i64 0, .slice none 0 0]) rfl tz31 rfl HM) ?_
            rintro _ w6659 ⟨b6648, rfl, HM⟩
            refine ⟨Mem.suf (M := [box b6648 31 [.int .i64 0, .slice none 0 0], own kCoin 77 u6636 t6634]) HM, ?_⟩
            have hS := Mem.suf (M := [box b6648 31 [.int .i64 0, .slice none 0 0], own kCoin 77 u6636 t6634]) HM
            refine drw_any [3] (by kernel_rfl) rfl (.cons ?_ .nil)
            refine br_does (l' := #[true, true, true, true, false, true, false]) rfl (guard_none rfl) rfl rfl (by kernel_rfl) (does_callk rfl callok11 rfl (laws_toTx.calls (x0 := x1) (HM.rd hp1_0) (HM.rd hp1_1) h6639)) ?_
            rintro _ w6660 ⟨u6640, u6642, rfl, hn⟩
            replace HM : Mem w [] w6660 [own kRef 56 u6640 t6638.fIns, own kOut 75 u6642 t6638.fOuts, box b6648 31 [.int .i64 0, .slice none 0 0], own kCoin 77 u6636 t6634, box b6620 26 [.int .i64 x1.fKind, .int .i64 x1.fMember, p1_0, p1_1]] := HM.call hn
            refine ⟨Mem.suf (M := [own kRef 56 u6640 t6638.fIns, own kOut 75 u6642 t6638.fOuts, box b6648 31 [.int .i64 0, .slice none 0 0], own kCoin 77 u6636 t6634]) HM, ?_⟩
            have hS := Mem.suf (M := [own kRef 56 u6640 t6638.fIns, own kOut 75 u6642 t6638.fOuts, box b6648 31 [.int .i64 0, .slice none 0 0], own kCoin 77 u6636 t6634]) HM
            refine drw_any [4] (by kernel_rfl) rfl (.cons ?_ .nil)
            refine br_does (l' := #[true, true, true, true, true, true, false]) rfl (guard_none rfl) rfl rfl (by kernel_rfl) (does_callk rfl callok9 rfl (spec_SpentBy.calls (x0 := t6634) (x1 := t6638) (HM.own_rd 3 rfl) (HM.own_rd 0 rfl) (HM.own_rd 1 rfl) h6645)) ?_
            rintro _ w6661 ⟨u6646, rfl, hn⟩
            replace HM : Mem w [] w6661 [own kCoin 77 u6646 t6644.fCoins, own kRef 56 u6640 t6638.fIns, own kOut 75 u6642 t6638.fOuts, box b6648 31 [.int .i64 0, .slice none 0 0], own kCoin 77 u6636 t6634, box b6620 26 [.int .i64 x1.fKind, .int .i64 x1.fMember, p1_0, p1_1]] := HM.call hn
            refine ⟨Mem.suf (M := [own kCoin 77 u6646 t6644.fCoins, own kRef 56 u6640 t6638.fIns, own kOut 75 u6642 t6638.fOuts, box b6648 31 [.int .i64 0, .slice none 0 0], own kCoin 77 u6636 t6634]) HM, ?_⟩
            have hS := Mem.suf (M := [own kCoin 77 u6646 t6644.fCoins, own kRef 56 u6640 t6638.fIns, own kOut 75 u6642 t6638.fOuts, box b6648 31 [.int .i64 0, .slice none 0 0], own kCoin 77 u6636 t6634]) HM
            replace HM := HM.front 3 rfl rfl
            refine drw_any [6] (by kernel_rfl) rfl (.cons ?_ .nil)
            refine br_doesS (l' := #[true, true, true, true, true, true, true]) rfl (guard_none rfl) rfl (by kernel_rfl) (does_store (vs := [.int .i64 t6644.fCode, u6646]) (cs' := [.int .i64 t6644.fCode, u6646]) rfl rfl rfl rfl tsz31 (Ones.int (Ones.rd (HM.own_rd 1 rfl) Ones.nil)) rfl rfl HM) ?_
            rintro w6662 HM
            refine ⟨Mem.suf (M := [box b6648 31 [.int .i64 t6644.fCode, u6646], own kCoin 77 u6646 t6644.fCoins, own kRef 56 u6640 t6638.fIns, own kOut 75 u6642 t6638.fOuts, own kCoin 77 u6636 t6634]) HM, ?_⟩
            have hS := Mem.suf (M := [box b6648 31 [.int .i64 t6644.fCode, u6646], own kCoin 77 u6646 t6644.fCoins, own kRef 56 u6640 t6638.fIns, own kOut 75 u6642 t6638.fOuts, own kCoin 77 u6636 t6634]) HM
            refine drw_done (by kernel_rfl) ?_
            replace HM := (HM.front 2 rfl rfl).drop
            replace HM := (HM.front 2 rfl rfl).drop
            replace HM := (HM.front 2 rfl rfl).drop
            replace HM := HM.front 1 rfl rfl
            replace HM := HM.front 1 rfl rfl
            replace HM := HM.front 2 rfl rfl
            exact at_meet [(0, p0), (3, .pointer (some ⟨b6620, 0, none⟩)), (6, .pointer (some ⟨b6648, 0, none⟩))] ⟨_, _, rfl, HM⟩ (Sub.cons rfl (Sub.cons rfl (Sub.cons rfl Sub.nil)))
        · skip
          refine br_does (l' := #[true, false, true, false, false, true, false]) rfl (guard_none rfl) rfl rfl (by kernel_rfl) (does_alloc (cs := [.int .i64 0, .slice none 0 0]) rfl tz31 rfl HM) ?_
          rintro _ w6663 ⟨b6648, rfl, HM⟩
          refine ⟨Mem.suf (M := [box b6648 31 [.int .i64 0, .slice none 0 0]]) HM, ?_⟩
          have hS := Mem.suf (M := [box b6648 31 [.int .i64 0, .slice none 0 0]]) HM
          refine drw_any [1] (by kernel_rfl) rfl (.cons ?_ .nil)
          refine br_does (l' := #[true, true, true, false, false, true, false]) rfl (guard_none rfl) rfl rfl (by kernel_rfl) (does_callk rfl callok10 rfl (laws_toCoinS.calls (x0 := x0) (HM.rd hp0) h6635)) ?_
          rintro u6636 w6664 ⟨_, rfl, hn⟩
          replace HM : Mem w [] w6664 [own kCoin 77 u6636 t6634, box b6648 31 [.int .i64 0, .slice none 0 0], box b6620 26 [.int .i64 x1.fKind, .int .i64 x1.fMember, p1_0, p1_1]] := HM.call hn
          refine ⟨Mem.suf (M := [own kCoin 77 u6636 t6634, box b6648 31 [.int .i64 0, .slice none 0 0]]) HM, ?_⟩
          have hS := Mem.suf (M := [own kCoin 77 u6636 t6634, box b6648 31 [.int .i64 0, .slice none 0 0]]) HM
          refine drw_any [3] (by kernel_rfl) rfl (.cons ?_ .nil)
          refine br_does (l' := #[true, true, true, true, false, true, false]) rfl (guard_none rfl) rfl rfl (by kernel_rfl) (does_callk rfl callok11 rfl (laws_toTx.calls (x0 := x1) (HM.rd hp1_0) (HM.rd hp1_1) h6639)) ?_
          rintro _ w6665 ⟨u6640, u6642, rfl, hn⟩
          replace HM : Mem w [] w6665 [own kRef 56 u6640 t6638.fIns, own kOut 75 u6642 t6638.fOuts, own kCoin 77 u6636 t6634, box b6648 31 [.int .i64 0, .slice none 0 0], box b6620 26 [.int .i64 x1.fKind, .int .i64 x1.fMember, p1_0, p1_1]] := HM.call hn
          refine ⟨Mem.suf (M := [own kRef 56 u6640 t6638.fIns, own kOut 75 u6642 t6638.fOuts, own kCoin 77 u6636 t6634, box b6648 31 [.int .i64 0, .slice none 0 0]]) HM, ?_⟩
          have hS := Mem.suf (M := [own kRef 56 u6640 t6638.fIns, own kOut 75 u6642 t6638.fOuts, own kCoin 77 u6636 t6634, box b6648 31 [.int .i64 0, .slice none 0 0]]) HM
          refine drw_any [4] (by kernel_rfl) rfl (.cons ?_ .nil)
          refine br_does (l' := #[true, true, true, true, true, true, false]) rfl (guard_none rfl) rfl rfl (by kernel_rfl) (does_callk rfl callok9 rfl (spec_SpentBy.calls (x0 := t6634) (x1 := t6638) (HM.own_rd 2 rfl) (HM.own_rd 0 rfl) (HM.own_rd 1 rfl) h6645)) ?_
          rintro _ w6666 ⟨u6646, rfl, hn⟩
          replace HM : Mem w [] w6666 [own kCoin 77 u6646 t6644.fCoins, own kRef 56 u6640 t6638.fIns, own kOut 75 u6642 t6638.fOuts, own kCoin 77 u6636 t6634, box b6648 31 [.int .i64 0, .slice none 0 0], box b6620 26 [.int .i64 x1.fKind, .int .i64 x1.fMember, p1_0, p1_1]] := HM.call hn
          refine ⟨Mem.suf (M := [own kCoin 77 u6646 t6644.fCoins, own kRef 56 u6640 t6638.fIns, own kOut 75 u6642 t6638.fOuts, own kCoin 77 u6636 t6634, box b6648 31 [.int .i64 0, .slice none 0 0]]) HM, ?_⟩
          have hS := Mem.suf (M := [own kCoin 77 u6646 t6644.fCoins, own kRef 56 u6640 t6638.fIns, own kOut 75 u6642 t6638.fOuts, own kCoin 77 u6636 t6634, box b6648 31 [.int .i64 0, .slice none 0 0]]) HM
          replace HM := HM.front 4 rfl rfl
          refine drw_any [6] (by kernel_rfl) rfl (.cons ?_ .nil)
          refine br_doesS (l' := #[true, true, true, true, true, true, true]) rfl (guard_none rfl) rfl (by kernel_rfl) (does_store (vs := [.int .i64 t6644.fCode, u6646]) (cs' := [.int .i64 t6644.fCode, u6646]) rfl rfl rfl rfl tsz31 (Ones.int (Ones.rd (HM.own_rd 1 rfl) Ones.nil)) rfl rfl HM) ?_
          rintro w6667 HM
          refine ⟨Mem.suf (M := [box b6648 31 [.int .i64 t6644.fCode, u6646], own kCoin 77 u6646 t6644.fCoins, own kRef 56 u6640 t6638.fIns, own kOut 75 u6642 t6638.fOuts, own kCoin 77 u6636 t6634]) HM, ?_⟩
          have hS := Mem.suf (M := [box b6648 31 [.int .i64 t6644.fCode, u6646], own kCoin 77 u6646 t6644.fCoins, own kRef 56 u6640 t6638.fIns, own kOut 75 u6642 t6638.fOuts, own kCoin 77 u6636 t6634]) HM
          refine drw_done (by kernel_rfl) ?_
          replace HM := (HM.front 2 rfl rfl).drop
          replace HM := (HM.front 2 rfl rfl).drop
          replace HM := (HM.front 2 rfl rfl).drop
          replace HM := HM.front 1 rfl rfl
          replace HM := HM.front 1 rfl rfl
          replace HM := HM.front 2 rfl rfl
          exact at_meet [(0, p0), (3, .pointer (some ⟨b6620, 0, none⟩)), (6, .pointer (some ⟨b6648, 0, none⟩))] ⟨_, _, rfl, HM⟩ (Sub.cons rfl (Sub.cons rfl (Sub.cons rfl Sub.nil)))
      · rintro _ w6668 ⟨u6646, b6648, rfl, HM⟩
        refine at_then ?_
        refine run_seq ?_
        obtain ⟨t6669, h6670, H⟩ := bind_some H
        refine run_region rfl ?_
        refine ops_ex rfl (guard_none rfl) rfl rfl (ex_move rfl rfl) ?_
        refine ops_does rfl (guard_none rfl) rfl rfl (does_callk rfl callok10 rfl (laws_toCoinS.calls (x0 := x0) (HM.rd hp0) h6670)) ?_
        rintro u6671 w6673 ⟨_, rfl, hn⟩
        replace HM : Mem w [] w6673 [own kCoin 77 u6671 t6669, box b6620 26 [.int .i64 x1.fKind, .int .i64 x1.fMember, p1_0, p1_1], box b6648 31 [.int .i64 t6644.fCode, u6646], own kCoin 77 u6646 t6644.fCoins] := HM.call hn
        refine ops_ex rfl (guard_none rfl) rfl rfl (ex_assign rfl rfl) ?_
        refine ops_nil ?_
        refine at_then ?_
        refine run_seq ?_
        obtain ⟨t6674, h6675, H⟩ := bind_some H
        refine run_region rfl ?_
        refine ops_ex rfl (guard_none rfl) rfl rfl (ex_loadN (cs := [(.int .i64 x1.fKind), (.int .i64 x1.fMember), p1_0, p1_1]) rfl rfl Tryz.underlying26 rfl tsz26 rfl ((HM.box_at 1 rfl).sub 0 4 rfl)) ?_
        refine ops_does rfl (guard_none rfl) rfl rfl (does_callk rfl callok11 rfl (laws_toTx.calls (x0 := x1) (HM.rd hp1_0) (HM.rd hp1_1) h6675)) ?_
        rintro _ w6683 ⟨u6676, u6678, rfl, hn⟩
        replace HM : Mem w [] w6683 [own kRef 56 u6676 t6674.fIns, own kOut 75 u6678 t6674.fOuts, own kCoin 77 u6671 t6669, box b6620 26 [.int .i64 x1.fKind, .int .i64 x1.fMember, p1_0, p1_1], box b6648 31 [.int .i64 t6644.fCode, u6646], own kCoin 77 u6646 t6644.fCoins] := HM.call hn
        refine ops_does rfl (guard_none rfl) rfl rfl (does_alloc (cs := [.int .i64 0, .int .i64 0, .slice none 0 0, .slice none 0 0]) rfl tz37 rfl HM) ?_
        rintro _ w6684 ⟨b6680, rfl, HM⟩
        refine ops_doesS rfl (guard_none rfl) rfl (does_store (vs := [.int .i64 t6674.fKind, .int .i64 t6674.fMember, u6676, u6678]) (cs' := [.int .i64 t6674.fKind, .int .i64 t6674.fMember, u6676, u6678]) rfl rfl rfl rfl tsz37 (Ones.int (Ones.int (Ones.rd (HM.own_rd 1 rfl) (Ones.rd (HM.own_rd 2 rfl) Ones.nil)))) rfl rfl HM) ?_
        rintro w6685 HM
        refine ops_nil ?_
        refine at_then ?_
        refine run_seq ?_
        obtain ⟨t6686, h6687, H⟩ := bind_some H
        refine run_region rfl ?_
        refine ops_ex rfl (guard_none rfl) rfl rfl (ex_move rfl rfl) ?_
        refine ops_ex rfl (guard_none rfl) rfl rfl (ex_loadN (cs := [(.int .i64 t6674.fKind), (.int .i64 t6674.fMember), u6676, u6678]) rfl rfl Tryz.underlying37 rfl tsz37 rfl ((HM.box_at 0 rfl).sub 0 4 rfl)) ?_
        refine ops_does rfl (guard_none rfl) rfl rfl (does_callk rfl callok12 rfl (impl_SpentBy.calls (x0 := t6669) (x1 := t6674) (HM.own_rd 3 rfl) (HM.own_rd 1 rfl) (HM.own_rd 2 rfl) h6687)) ?_
        rintro _ w6693 ⟨u6688, rfl, hn⟩
        replace HM : Mem w [] w6693 [own kCoin 77 u6688 t6686.fCoins, box b6680 37 [.int .i64 t6674.fKind, .int .i64 t6674.fMember, u6676, u6678], own kRef 56 u6676 t6674.fIns, own kOut 75 u6678 t6674.fOuts, own kCoin 77 u6671 t6669, box b6620 26 [.int .i64 x1.fKind, .int .i64 x1.fMember, p1_0, p1_1], box b6648 31 [.int .i64 t6644.fCode, u6646], own kCoin 77 u6646 t6644.fCoins] := HM.call hn
        refine ops_does rfl (guard_none rfl) rfl rfl (does_alloc (cs := [.int .i64 0, .slice none 0 0]) rfl tz31 rfl HM) ?_
        rintro _ w6694 ⟨b6690, rfl, HM⟩
        refine ops_doesS rfl (guard_none rfl) rfl (does_store (vs := [.int .i64 t6686.fCode, u6688]) (cs' := [.int .i64 t6686.fCode, u6688]) rfl rfl rfl rfl tsz31 (Ones.int (Ones.rd (HM.own_rd 1 rfl) Ones.nil)) rfl rfl HM) ?_
        rintro w6695 HM
        refine ops_nil ?_
        refine at_then ?_
        refine run_seq ?_
        refine run_seq ?_
        obtain ⟨t6699, h6700, H⟩ := bind_some H
        refine run_region rfl ?_
        refine ops_ex rfl (guard_none rfl) rfl rfl (ex_loadN (cs := [(.int .i64 t6686.fCode), u6688]) rfl rfl Tryz.underlying31 rfl tsz31 rfl ((HM.box_at 0 rfl).sub 0 2 rfl)) ?_
        refine ops_ex rfl (guard_none rfl) rfl rfl (ex_loadN (cs := [(.int .i64 t6644.fCode), u6646]) rfl rfl Tryz.underlying31 rfl tsz31 rfl ((HM.box_at 7 rfl).sub 0 2 rfl)) ?_
        refine ops_does rfl (guard_none rfl) rfl rfl (does_callk rfl callok13 rfl (laws_eqCoinsResult.calls (x0 := t6686) (x1 := t6644) (HM.own_rd 1 rfl) (HM.own_rd 8 rfl) h6700)) ?_
        rintro _ w6701 ⟨rfl, hn⟩
        replace HM : Mem w [] w6701 [box b6690 31 [.int .i64 t6686.fCode, u6688], own kCoin 77 u6688 t6686.fCoins, box b6680 37 [.int .i64 t6674.fKind, .int .i64 t6674.fMember, u6676, u6678], own kRef 56 u6676 t6674.fIns, own kOut 75 u6678 t6674.fOuts, own kCoin 77 u6671 t6669, box b6620 26 [.int .i64 x1.fKind, .int .i64 x1.fMember, p1_0, p1_1], box b6648 31 [.int .i64 t6644.fCode, u6646], own kCoin 77 u6646 t6644.fCoins] := HM.call hn
        refine ops_ex rfl (guard_none rfl) rfl rfl (ex_not rfl rfl) ?_
        refine ops_nil ?_
        refine at_then ?_
        refine run_cond (b := !t6699) rfl (fun hb6702 => ?_) (fun hb6702 => ?_)
        · replace H := cond_t hb6702 H
          refine run_seq ?_
          refine run_region rfl ?_
          refine ops_ex rfl (guard_none rfl) rfl rfl (ex_assign rfl rfl) ?_
          refine ops_nil ?_
          refine at_then ?_
          refine run_ret ?_
          refine at_then_ret ?_
          replace HM := (HM.front 0 rfl rfl).drop
          replace HM := (HM.front 0 rfl rfl).drop
          replace HM := (HM.front 0 rfl rfl).drop
          replace HM := (HM.front 0 rfl rfl).drop
          replace HM := (HM.front 0 rfl rfl).drop
          replace HM := (HM.front 0 rfl rfl).drop
          replace HM := (HM.front 0 rfl rfl).drop
          replace HM := (HM.front 0 rfl rfl).drop
          replace HM := (HM.front 0 rfl rfl).drop
          have hR := Option.some.inj H
          subst hR
          exact at_ret1 rfl rfl ⟨_, rfl, rfl, HM⟩
        · replace H := cond_f hb6702 H
          refine run_skip ?_
          refine at_then ?_
          refine run_seq ?_
          refine run_seq ?_
          obtain ⟨t6710, h6711, H⟩ := bind_some H
          obtain ⟨t6714, h6715, H⟩ := bind_some H
          refine run_region rfl ?_
          refine ops_ex rfl (guard_none rfl) rfl rfl (ex_move rfl rfl) ?_
          refine ops_ex rfl (guard_none rfl) rfl rfl (ex_move rfl rfl) ?_
          refine ops_does rfl (guard_none rfl) rfl rfl (does_callk rfl callok10 rfl (laws_toCoinS.calls (x0 := x0) (HM.rd hp0) h6711)) ?_
          rintro u6712 w6716 ⟨_, rfl, hn⟩
          replace HM : Mem w [] w6716 [own kCoin 77 u6712 t6710, box b6690 31 [.int .i64 t6686.fCode, u6688], own kCoin 77 u6688 t6686.fCoins, box b6680 37 [.int .i64 t6674.fKind, .int .i64 t6674.fMember, u6676, u6678], own kRef 56 u6676 t6674.fIns, own kOut 75 u6678 t6674.fOuts, own kCoin 77 u6671 t6669, box b6620 26 [.int .i64 x1.fKind, .int .i64 x1.fMember, p1_0, p1_1], box b6648 31 [.int .i64 t6644.fCode, u6646], own kCoin 77 u6646 t6644.fCoins] := HM.call hn
          refine ops_does rfl (guard_none rfl) rfl rfl (does_callk rfl callok14 rfl (laws_eqCoinS.calls (x0 := t6669) (x1 := t6710) (HM.own_rd 6 rfl) (HM.own_rd 0 rfl) h6715)) ?_
          rintro _ w6717 ⟨rfl, hn⟩
          replace HM : Mem w [] w6717 [own kCoin 77 u6712 t6710, box b6690 31 [.int .i64 t6686.fCode, u6688], own kCoin 77 u6688 t6686.fCoins, box b6680 37 [.int .i64 t6674.fKind, .int .i64 t6674.fMember, u6676, u6678], own kRef 56 u6676 t6674.fIns, own kOut 75 u6678 t6674.fOuts, own kCoin 77 u6671 t6669, box b6620 26 [.int .i64 x1.fKind, .int .i64 x1.fMember, p1_0, p1_1], box b6648 31 [.int .i64 t6644.fCode, u6646], own kCoin 77 u6646 t6644.fCoins] := HM.call hn
          refine ops_ex rfl (guard_none rfl) rfl rfl (ex_not rfl rfl) ?_
          refine ops_nil ?_
          refine at_then ?_
          refine run_cond (b := !t6714) rfl (fun hb6718 => ?_) (fun hb6718 => ?_)
          · replace H := cond_t hb6718 H
            refine run_seq ?_
            refine run_region rfl ?_
            refine ops_ex rfl (guard_none rfl) rfl rfl (ex_assign rfl rfl) ?_
            refine ops_nil ?_
            refine at_then ?_
            refine run_ret ?_
            refine at_then_ret ?_
            replace HM := (HM.front 0 rfl rfl).drop
            replace HM := (HM.front 0 rfl rfl).drop
            replace HM := (HM.front 0 rfl rfl).drop
            replace HM := (HM.front 0 rfl rfl).drop
            replace HM := (HM.front 0 rfl rfl).drop
            replace HM := (HM.front 0 rfl rfl).drop
            replace HM := (HM.front 0 rfl rfl).drop
            replace HM := (HM.front 0 rfl rfl).drop
            replace HM := (HM.front 0 rfl rfl).drop
            replace HM := (HM.front 0 rfl rfl).drop
            have hR := Option.some.inj H
            subst hR
            exact at_ret1 rfl rfl ⟨_, rfl, rfl, HM⟩
          · replace H := cond_f hb6718 H
            refine run_skip ?_
            refine at_then ?_
            refine run_seq ?_
            refine run_seq ?_
            obtain ⟨t6728, h6729, H⟩ := bind_some H
            obtain ⟨t6734, h6735, H⟩ := bind_some H
            refine run_drawf (fun w_ => Mem w [] w_ [own kCoin 77 u6712 t6710, box b6690 31 [.int .i64 t6686.fCode, u6688], own kCoin 77 u6688 t6686.fCoins, box b6680 37 [.int .i64 t6674.fKind, .int .i64 t6674.fMember, u6676, u6678], own kRef 56 u6676 t6674.fIns, own kOut 75 u6678 t6674.fOuts, own kCoin 77 u6671 t6669, box b6620 26 [.int .i64 x1.fKind, .int .i64 x1.fMember, p1_0, p1_1], box b6648 31 [.int .i64 t6644.fCode, u6646], own kCoin 77 u6646 t6644.fCoins]) [(0, true), (1, true), (2, false), (3, false), (4, true)] mixed rfl rfl (by kernel_rfl) ?_
            replace HM := HM.grow (fr_drew _)
            have hS := Mem.suf (M := []) HM
            refine drwp_take rfl (guard_none rfl) rfl rfl (fun w_ hS_ => (ex_loadN (cs := [(.int .i64 t6674.fKind), (.int .i64 t6674.fMember), u6676, u6678]) rfl rfl Tryz.underlying37 rfl tsz37 rfl ((hS_.box_at 3 rfl).sub 0 4 rfl))) hS ?_
            refine drwp_take rfl (guard_none rfl) rfl rfl (fun w_ hS_ => (ex_loadN (cs := [(.int .i64 x1.fKind), (.int .i64 x1.fMember), p1_0, p1_1]) rfl rfl Tryz.underlying26 rfl tsz26 rfl ((hS_.box_at 7 rfl).sub 0 4 rfl))) hS ?_
            refine drwp_one rfl (guard_none rfl) rfl rfl (does_callk rfl callok11 rfl (laws_toTx.calls (x0 := x1) (HM.rd hp1_0) (HM.rd hp1_1) h6729)) ?_
            rintro _ w6736 ⟨u6730, u6732, rfl, hn⟩
            replace HM : Mem w [] w6736 [own kRef 56 u6730 t6728.fIns, own kOut 75 u6732 t6728.fOuts, own kCoin 77 u6712 t6710, box b6690 31 [.int .i64 t6686.fCode, u6688], own kCoin 77 u6688 t6686.fCoins, box b6680 37 [.int .i64 t6674.fKind, .int .i64 t6674.fMember, u6676, u6678], own kRef 56 u6676 t6674.fIns, own kOut 75 u6678 t6674.fOuts, own kCoin 77 u6671 t6669, box b6620 26 [.int .i64 x1.fKind, .int .i64 x1.fMember, p1_0, p1_1], box b6648 31 [.int .i64 t6644.fCode, u6646], own kCoin 77 u6646 t6644.fCoins] := HM.call hn
            refine ⟨Mem.suf (M := [own kRef 56 u6730 t6728.fIns, own kOut 75 u6732 t6728.fOuts]) HM, ?_⟩
            have hS := Mem.suf (M := [own kRef 56 u6730 t6728.fIns, own kOut 75 u6732 t6728.fOuts]) HM
            refine drwp_one rfl (guard_none rfl) rfl rfl (does_callk rfl callok15 rfl (laws_eqTx.calls (x0 := t6674) (x1 := t6728) (HM.own_rd 6 rfl) (HM.own_rd 7 rfl) (HM.own_rd 0 rfl) (HM.own_rd 1 rfl) h6735)) ?_
            rintro _ w6737 ⟨rfl, hn⟩
            replace HM : Mem w [] w6737 [own kRef 56 u6730 t6728.fIns, own kOut 75 u6732 t6728.fOuts, own kCoin 77 u6712 t6710, box b6690 31 [.int .i64 t6686.fCode, u6688], own kCoin 77 u6688 t6686.fCoins, box b6680 37 [.int .i64 t6674.fKind, .int .i64 t6674.fMember, u6676, u6678], own kRef 56 u6676 t6674.fIns, own kOut 75 u6678 t6674.fOuts, own kCoin 77 u6671 t6669, box b6620 26 [.int .i64 x1.fKind, .int .i64 x1.fMember, p1_0, p1_1], box b6648 31 [.int .i64 t6644.fCode, u6646], own kCoin 77 u6646 t6644.fCoins] := HM.call hn
            refine ⟨Mem.suf (M := [own kRef 56 u6730 t6728.fIns, own kOut 75 u6732 t6728.fOuts]) HM, ?_⟩
            have hS := Mem.suf (M := [own kRef 56 u6730 t6728.fIns, own kOut 75 u6732 t6728.fOuts]) HM
            refine drwp_take rfl (guard_none rfl) rfl rfl (fun w_ hS_ => (ex_not rfl rfl)) hS ?_
            refine drwp_done ?_
            refine at_then ?_
            refine run_cond (b := !t6734) rfl (fun hb6738 => ?_) (fun hb6738 => ?_)
            · replace H := cond_t hb6738 H
              refine run_seq ?_
              refine run_region rfl ?_
              refine ops_ex rfl (guard_none rfl) rfl rfl (ex_assign rfl rfl) ?_
              refine ops_nil ?_
              refine at_then ?_
              refine run_ret ?_
              refine at_then_ret ?_
              replace HM := (HM.front 0 rfl rfl).drop
              replace HM := (HM.front 0 rfl rfl).drop
              replace HM := (HM.front 0 rfl rfl).drop
              replace HM := (HM.front 0 rfl rfl).drop
              replace HM := (HM.front 0 rfl rfl).drop
              replace HM := (HM.front 0 rfl rfl).drop
              replace HM := (HM.front 0 rfl rfl).drop
              replace HM := (HM.front 0 rfl rfl).drop
              replace HM := (HM.front 0 rfl rfl).drop
              replace HM := (HM.front 0 rfl rfl).drop
              replace HM := (HM.front 0 rfl rfl).drop
              replace HM := (HM.front 0 rfl rfl).drop
              have hR := Option.some.inj H
              subst hR
              exact at_ret1 rfl rfl ⟨_, rfl, rfl, HM⟩
            · replace H := cond_f hb6738 H
              refine run_skip ?_
              refine at_then ?_
              refine run_seq ?_
              refine run_region rfl ?_
              refine ops_ex rfl (guard_none rfl) rfl rfl (ex_assign rfl rfl) ?_
              refine ops_nil ?_
              refine at_then ?_
              refine run_seq ?_
              obtain ⟨t6739, h6740, H⟩ := bind_some H
              refine run_region rfl ?_
              refine ops_ex rfl (guard_none rfl) rfl rfl (ex_move rfl rfl) ?_
              refine ops_ex rfl (guard_none rfl) rfl rfl (ex_move rfl rfl) ?_
              replace HM := HM.front 8 rfl rfl
              obtain ⟨F6741, hF6742, hFn6743, hFl6744, HMh6745, hcl6746⟩ := HM.hide (Ms := [own kCoin 77 u6671 t6669])
              refine ops_does rfl (guard_none rfl) rfl rfl (does_callk rfl callok16 rfl (laws_markCoinS.calls (x0 := t6669) (x1 := 1) (hide_olds _ _) hF6742 hFn6743 hFl6744 h6740)) ?_
              rintro _ w6747 ⟨rfl, hn⟩
              replace HM : Mem w [] w6747 [own kCoin 77 u6671 t6739.2, own kRef 56 u6730 t6728.fIns, own kOut 75 u6732 t6728.fOuts, own kCoin 77 u6712 t6710, box b6690 31 [.int .i64 t6686.fCode, u6688], own kCoin 77 u6688 t6686.fCoins, box b6680 37 [.int .i64 t6674.fKind, .int .i64 t6674.fMember, u6676, u6678], own kRef 56 u6676 t6674.fIns, own kOut 75 u6678 t6674.fOuts, box b6620 26 [.int .i64 x1.fKind, .int .i64 x1.fMember, p1_0, p1_1], box b6648 31 [.int .i64 t6644.fCode, u6646], own kCoin 77 u6646 t6644.fCoins] := hcl6746 _ _ hn
              refine ops_ex rfl (guard_none rfl) rfl rfl (ex_assign rfl rfl) ?_
              refine ops_nil ?_
              refine at_then ?_
              refine run_seq ?_
              obtain ⟨t6748, h6749, H⟩ := bind_some H
              refine run_region rfl ?_
              refine ops_ex rfl (guard_none rfl) rfl rfl (ex_loadN (cs := [(.int .i64 t6674.fKind), (.int .i64 t6674.fMember), u6676, u6678]) rfl rfl Tryz.underlying37 rfl tsz37 rfl ((HM.box_at 6 rfl).sub 0 4 rfl)) ?_
              refine ops_ex rfl (guard_none rfl) rfl rfl (ex_move rfl rfl) ?_
              replace HM := HM.front 8 rfl rfl
              replace HM := HM.front 8 rfl rfl
              obtain ⟨F6750, hF6751, hFn6752, hFl6753, HMh6754, hcl6755⟩ := HM.hide (Ms := [own kRef 56 u6676 t6674.fIns, own kOut 75 u6678 t6674.fOuts])
              refine ops_does rfl (guard_none rfl) rfl rfl (does_callk rfl callok17 rfl (laws_markTx.calls (x0 := t6674) (x1 := t6739.1) (hide_olds _ _) hF6751 hFn6752 hFl6753 h6749)) ?_
              rintro _ w6756 ⟨rfl, hn⟩
              replace HM : Mem w [] w6756 [own kRef 56 u6676 t6748.2.1, own kOut 75 u6678 t6748.2.2, own kCoin 77 u6671 t6739.2, own kRef 56 u6730 t6728.fIns, own kOut 75 u6732 t6728.fOuts, own kCoin 77 u6712 t6710, box b6690 31 [.int .i64 t6686.fCode, u6688], own kCoin 77 u6688 t6686.fCoins, box b6680 37 [.int .i64 t6674.fKind, .int .i64 t6674.fMember, u6676, u6678], box b6620 26 [.int .i64 x1.fKind, .int .i64 x1.fMember, p1_0, p1_1], box b6648 31 [.int .i64 t6644.fCode, u6646], own kCoin 77 u6646 t6644.fCoins] := hcl6755 _ _ hn
              refine ops_ex rfl (guard_none rfl) rfl rfl (ex_assign rfl rfl) ?_
              refine ops_nil ?_
              refine at_then ?_
              refine run_seq ?_
              refine run_seq ?_
              obtain ⟨t6760, h6761, H⟩ := bind_some H
              refine run_meet (fun ρ_ w_ => ρ_ = [(0, p0), (3, .pointer (some ⟨b6620, 0, none⟩)), (6, .pointer (some ⟨b6648, 0, none⟩)), (9, .pointer (some ⟨b6690, 0, none⟩)), (63, .bool ((decide (t6748.1 < 0)) || (!t6760)))] ∧ Mem w [] w_ [box b6620 26 [.int .i64 x1.fKind, .int .i64 x1.fMember, p1_0, p1_1], box b6648 31 [.int .i64 t6644.fCode, u6646], own kCoin 77 u6646 t6644.fCoins, box b6690 31 [.int .i64 t6686.fCode, u6688], own kCoin 77 u6688 t6686.fCoins]) ?_ ?_
              · skip
                refine run_region rfl ?_
                refine ops_ex rfl (guard_none rfl) rfl rfl (ex_move rfl rfl) ?_
                refine ops_ex rfl (guard_none rfl) rfl rfl (ex_lss rfl rfl rfl) ?_
                refine ops_ex rfl (guard_none rfl) rfl rfl (ex_move rfl rfl) ?_
                refine bool_cases (decide (t6748.1 < 0)) (fun hg6762 => ?_) (fun hg6762 => ?_)
                · skip
                  refine ops_off rfl (guard_off rfl rfl rfl hg6762) rfl rfl ?_
                  refine ops_off rfl (guard_off rfl rfl rfl hg6762) rfl rfl ?_
                  refine ops_off rfl (guard_off rfl rfl rfl hg6762) rfl rfl ?_
                  refine ops_off rfl (guard_off rfl rfl rfl hg6762) rfl rfl ?_
                  have hg6763 : ((decide (t6748.1 < 0)) || (!t6760)) = true := by simp only [hg6762, Bool.and_true, Bool.true_and, Bool.and_false, Bool.false_and, Bool.or_true, Bool.true_or, Bool.or_false, Bool.false_or, Bool.not_true, Bool.not_false, Bool.not_not]
                  refine ops_ex (v := .bool ((decide (t6748.1 < 0)) || (!t6760))) rfl (guard_none rfl) rfl rfl (ex_por_t rfl rfl hg6762) ?_
                  refine ops_nil ?_
                  replace HM := (HM.front 0 rfl rfl).drop
                  replace HM := (HM.front 0 rfl rfl).drop
                  replace HM := (HM.front 0 rfl rfl).drop
                  replace HM := (HM.front 0 rfl rfl).drop
                  replace HM := (HM.front 0 rfl rfl).drop
                  replace HM := (HM.front 0 rfl rfl).drop
                  replace HM := (HM.front 2 rfl rfl).drop
                  replace HM := HM.front 1 rfl rfl
                  replace HM := HM.front 1 rfl rfl
                  replace HM := HM.front 4 rfl rfl
                  replace HM := HM.front 4 rfl rfl
                  replace HM := HM.front 4 rfl rfl
                  exact at_meet [(0, p0), (3, .pointer (some ⟨b6620, 0, none⟩)), (6, .pointer (some ⟨b6648, 0, none⟩)), (9, .pointer (some ⟨b6690, 0, none⟩)), (63, .bool ((decide (t6748.1 < 0)) || (!t6760)))] ⟨rfl, HM⟩ (Sub.cons rfl (Sub.cons rfl (Sub.cons rfl (Sub.cons rfl (Sub.cons rfl Sub.nil)))))
                · skip
                  refine ops_ex rfl (guard_on rfl rfl rfl hg6762) rfl rfl (ex_loadN (cs := [(.int .i64 t6686.fCode), u6688]) rfl rfl Tryz.underlying31 rfl tsz31 rfl ((HM.box_at 6 rfl).sub 0 2 rfl)) ?_
                  refine ops_ex rfl (guard_on rfl rfl rfl hg6762) rfl rfl (ex_loadN (cs := [(.int .i64 t6644.fCode), u6646]) rfl rfl Tryz.underlying31 rfl tsz31 rfl ((HM.box_at 10 rfl).sub 0 2 rfl)) ?_
                  refine ops_does rfl (guard_on rfl rfl rfl hg6762) rfl rfl (does_callk rfl callok13 rfl (laws_eqCoinsResult.calls (x0 := t6686) (x1 := t6644) (HM.own_rd 7 rfl) (HM.own_rd 11 rfl) (cond_t (not_mk hg6762) h6761))) ?_
                  rintro _ w6764 ⟨rfl, hn⟩
                  replace HM : Mem w [] w6764 [own kRef 56 u6676 t6748.2.1, own kOut 75 u6678 t6748.2.2, own kCoin 77 u6671 t6739.2, own kRef 56 u6730 t6728.fIns, own kOut 75 u6732 t6728.fOuts, own kCoin 77 u6712 t6710, box b6690 31 [.int .i64 t6686.fCode, u6688], own kCoin 77 u6688 t6686.fCoins, box b6680 37 [.int .i64 t6674.fKind, .int .i64 t6674.fMember, u6676, u6678], box b6620 26 [.int .i64 x1.fKind, .int .i64 x1.fMember, p1_0, p1_1], box b6648 31 [.int .i64 t6644.fCode, u6646], own kCoin 77 u6646 t6644.fCoins] := HM.call hn
                  refine ops_ex rfl (guard_on rfl rfl rfl hg6762) rfl rfl (ex_not rfl rfl) ?_
                  refine ops_ex (v := .bool ((decide (t6748.1 < 0)) || (!t6760))) rfl (guard_none rfl) rfl rfl (ex_por_f rfl rfl hg6762 rfl) ?_
                  refine ops_nil ?_
                  replace HM := (HM.front 0 rfl rfl).drop
                  replace HM := (HM.front 0 rfl rfl).drop
                  replace HM := (HM.front 0 rfl rfl).drop
                  replace HM := (HM.front 0 rfl rfl).drop
                  replace HM := (HM.front 0 rfl rfl).drop
                  replace HM := (HM.front 0 rfl rfl).drop
                  replace HM := (HM.front 2 rfl rfl).drop
                  replace HM := HM.front 1 rfl rfl
                  replace HM := HM.front 1 rfl rfl
                  replace HM := HM.front 4 rfl rfl
                  replace HM := HM.front 4 rfl rfl
                  replace HM := HM.front 4 rfl rfl
                  exact at_meet [(0, p0), (3, .pointer (some ⟨b6620, 0, none⟩)), (6, .pointer (some ⟨b6648, 0, none⟩)), (9, .pointer (some ⟨b6690, 0, none⟩)), (63, .bool ((decide (t6748.1 < 0)) || (!t6760)))] ⟨rfl, HM⟩ (Sub.cons rfl (Sub.cons rfl (Sub.cons rfl (Sub.cons rfl (Sub.cons rfl Sub.nil)))))
              · rintro _ w6765 ⟨rfl, HM⟩
                refine at_then ?_
                refine run_cond (b := ((decide (t6748.1 < 0)) || (!t6760))) rfl (fun hb6766 => ?_) (fun hb6766 => ?_)
                · replace H := cond_t hb6766 H
                  refine run_seq ?_
                  refine run_region rfl ?_
                  refine ops_ex rfl (guard_none rfl) rfl rfl (ex_assign rfl rfl) ?_
                  refine ops_nil ?_
                  refine at_then ?_
                  refine run_ret ?_
                  refine at_then_ret ?_
                  replace HM := (HM.front 0 rfl rfl).drop
                  replace HM := (HM.front 0 rfl rfl).drop
                  replace HM := (HM.front 0 rfl rfl).drop
                  replace HM := (HM.front 0 rfl rfl).drop
                  replace HM := (HM.front 0 rfl rfl).drop
                  have hR := Option.some.inj H
                  subst hR
                  exact at_ret1 rfl rfl ⟨_, rfl, rfl, HM⟩
                · replace H := cond_f hb6766 H
                  refine run_skip ?_
                  refine at_then ?_
                  refine run_seq ?_
                  refine run_region rfl ?_
                  refine ops_ex rfl (guard_none rfl) rfl rfl (ex_assign rfl rfl) ?_
                  refine ops_nil ?_
                  refine at_then ?_
                  refine run_seq ?_
                  obtain ⟨t6767, h6768, H⟩ := bind_some H
                  refine run_region rfl ?_
                  refine ops_ex rfl (guard_none rfl) rfl rfl (ex_loadN (cs := [(.int .i64 t6686.fCode), u6688]) rfl rfl Tryz.underlying31 rfl tsz31 rfl ((HM.box_at 3 rfl).sub 0 2 rfl)) ?_
                  refine ops_ex rfl (guard_none rfl) rfl rfl (ex_move rfl rfl) ?_
                  replace HM := HM.front 4 rfl rfl
                  obtain ⟨F6769, hF6770, hFn6771, hFl6772, HMh6773, hcl6774⟩ := HM.hide (Ms := [own kCoin 77 u6688 t6686.fCoins])
                  refine ops_does rfl (guard_none rfl) rfl rfl (does_callk rfl callok18 rfl (laws_markCoinsResult.calls (x0 := t6686) (x1 := 1) (hide_olds _ _) hF6770 hFn6771 hFl6772 h6768)) ?_
                  rintro _ w6775 ⟨rfl, hn⟩
                  replace HM : Mem w [] w6775 [own kCoin 77 u6688 t6767.2, box b6620 26 [.int .i64 x1.fKind, .int .i64 x1.fMember, p1_0, p1_1], box b6648 31 [.int .i64 t6644.fCode, u6646], own kCoin 77 u6646 t6644.fCoins, box b6690 31 [.int .i64 t6686.fCode, u6688]] := hcl6774 _ _ hn
                  refine ops_ex rfl (guard_none rfl) rfl rfl (ex_assign rfl rfl) ?_
                  refine ops_nil ?_
                  refine at_then ?_
                  refine run_seq ?_
                  refine run_region rfl ?_
                  refine ops_ex rfl (guard_none rfl) rfl rfl (ex_assign rfl rfl) ?_
                  refine ops_nil ?_
                  refine at_then ?_
                  refine run_seq ?_
                  obtain ⟨t6776, h6777, H⟩ := bind_some H
                  refine run_region rfl ?_
                  refine ops_ex rfl (guard_none rfl) rfl rfl (ex_loadN (cs := [(.int .i64 t6686.fCode), u6688]) rfl rfl Tryz.underlying31 rfl tsz31 rfl ((HM.box_at 4 rfl).sub 0 2 rfl)) ?_
                  refine ops_ex rfl (guard_none rfl) rfl rfl (ex_move rfl rfl) ?_
                  refine ops_does rfl (guard_none rfl) rfl rfl (does_callk rfl callok19 rfl (laws_heldCoinsResult.calls (x0 := (⟨t6686.fCode, t6767.2⟩ : CoinsResult)) (x1 := 1) (HM.own_rd 0 rfl) h6777)) ?_
                  rintro _ w6778 ⟨rfl, hn⟩
                  replace HM : Mem w [] w6778 [own kCoin 77 u6688 t6767.2, box b6620 26 [.int .i64 x1.fKind, .int .i64 x1.fMember, p1_0, p1_1], box b6648 31 [.int .i64 t6644.fCode, u6646], own kCoin 77 u6646 t6644.fCoins, box b6690 31 [.int .i64 t6686.fCode, u6688]] := HM.call hn
                  refine ops_ex rfl (guard_none rfl) rfl rfl (ex_assign rfl rfl) ?_
                  refine ops_nil ?_
                  refine at_then ?_
                  refine run_seq ?_
                  refine run_seq ?_
                  refine run_region rfl ?_
                  refine ops_ex rfl (guard_none rfl) rfl rfl (ex_move rfl rfl) ?_
                  refine ops_ex rfl (guard_none rfl) rfl rfl (ex_lss rfl rfl rfl) ?_
                  refine ops_nil ?_
                  refine at_then ?_
                  refine run_cond (b := (decide (t6776 < 0))) rfl (fun hb6780 => ?_) (fun hb6780 => ?_)
                  · replace H := cond_t hb6780 H
                    refine run_seq ?_
                    refine run_region rfl ?_
                    refine ops_ex rfl (guard_none rfl) rfl rfl (ex_assign rfl rfl) ?_
                    refine ops_nil ?_
                    refine at_then ?_
                    refine run_ret ?_
                    refine at_then_ret ?_
                    replace HM := (HM.front 0 rfl rfl).drop
                    replace HM := (HM.front 0 rfl rfl).drop
                    replace HM := (HM.front 0 rfl rfl).drop
                    replace HM := (HM.front 0 rfl rfl).drop
                    replace HM := (HM.front 0 rfl rfl).drop
                    have hR := Option.some.inj H
                    subst hR
                    exact at_ret1 rfl rfl ⟨_, rfl, rfl, HM⟩
                  · replace H := cond_f hb6780 H
                    refine run_skip ?_
                    refine at_then ?_
                    refine run_seq ?_
                    refine run_seq ?_
                    refine run_region rfl ?_
                    refine ops_ex rfl (guard_none rfl) rfl rfl (ex_move rfl rfl) ?_
                    refine ops_ex rfl (guard_none rfl) rfl rfl (ex_move rfl rfl) ?_
                    refine ops_ex rfl (guard_none rfl) rfl rfl (ex_neq rfl rfl rfl) ?_
                    refine ops_nil ?_
                    refine at_then ?_
                    refine run_cond (b := (t6776 != t6767.1)) rfl (fun hb6782 => ?_) (fun hb6782 => ?_)
                    · replace H := cond_t hb6782 H
                      refine run_seq ?_
                      refine run_region rfl ?_
                      refine ops_ex rfl (guard_none rfl) rfl rfl (ex_assign rfl rfl) ?_
                      refine ops_nil ?_
                      refine at_then ?_
                      refine run_ret ?_
                      refine at_then_ret ?_
                      replace HM := (HM.front 0 rfl rfl).drop
                      replace HM := (HM.front 0 rfl rfl).drop
                      replace HM := (HM.front 0 rfl rfl).drop
                      replace HM := (HM.front 0 rfl rfl).drop
                      replace HM := (HM.front 0 rfl rfl).drop
                      have hR := Option.some.inj H
                      subst hR
                      exact at_ret1 rfl rfl ⟨_, rfl, rfl, HM⟩
                    · replace H := cond_f hb6782 H
                      refine run_skip ?_
                      refine at_then ?_
                      refine run_seq ?_
                      obtain ⟨t6783, h6784, H⟩ := bind_some H
                      obtain ⟨t6787, h6788, H⟩ := bind_some H
                      obtain ⟨t6793, h6794, H⟩ := bind_some H
                      refine run_meet (fun ρ_ w_ => ∃ u6795 : Value, ∃ b6797 : Nat, ρ_ = [(6, .pointer (some ⟨b6648, 0, none⟩)), (9, .pointer (some ⟨b6690, 0, none⟩)), (11, .int .i64 t6767.1), (13, .pointer (some ⟨b6797, 0, none⟩))] ∧ Mem w [] w_ [box b6648 31 [.int .i64 t6644.fCode, u6646], own kCoin 77 u6646 t6644.fCoins, box b6690 31 [.int .i64 t6686.fCode, u6688], own kCoin 77 u6688 t6767.2, box b6797 31 [.int .i64 t6793.fCode, u6795], own kCoin 77 u6795 t6793.fCoins]) ?_ ?_
                      · skip
                        refine run_draw (fun w_ => Mem w [] w_ [own kCoin 77 u6688 t6767.2, box b6620 26 [.int .i64 x1.fKind, .int .i64 x1.fMember, p1_0, p1_1], box b6648 31 [.int .i64 t6644.fCode, u6646], own kCoin 77 u6646 t6644.fCoins, box b6690 31 [.int .i64 t6686.fCode, u6688]]) mixed rfl (l := #[false, false, false, false, false, false, false]) rfl ?_
                        replace HM := HM.grow (fr_drew _)
                        have hS := Mem.suf (M := []) HM
                        refine drw_take (i := 0) (l' := #[true, false, false, false, false, false, false]) rfl (guard_none rfl) rfl rfl (by kernel_rfl) (fun w_ hS_ => (ex_move rfl rfl)) hS ?_
                        refine drw_take (i := 2) (l' := #[true, false, true, false, false, false, false]) rfl (guard_none rfl) rfl rfl (by kernel_rfl) (fun w_ hS_ => (ex_loadN (cs := [(.int .i64 x1.fKind), (.int .i64 x1.fMember), p1_0, p1_1]) rfl rfl Tryz.underlying26 rfl tsz26 rfl ((hS_.box_at 1 rfl).sub 0 4 rfl))) hS ?_
                        refine drw_any [1, 5] (by kernel_rfl) rfl (.cons ?_ (.cons ?_ .nil))
                        · skip
                          refine br_does (l' := #[true, true, true, false, false, false, false]) rfl (guard_none rfl) rfl rfl (by kernel_rfl) (does_callk rfl callok10 rfl (laws_toCoinS.calls (x0 := x0) (HM.rd hp0) h6784)) ?_
                          rintro u6785 w6800 ⟨_, rfl, hn⟩
                          replace HM : Mem w [] w6800 [own kCoin 77 u6785 t6783, own kCoin 77 u6688 t6767.2, box b6620 26 [.int .i64 x1.fKind, .int .i64 x1.fMember, p1_0, p1_1], box b6648 31 [.int .i64 t6644.fCode, u6646], own kCoin 77 u6646 t6644.fCoins, box b6690 31 [.int .i64 t6686.fCode, u6688]] := HM.call hn
                          refine ⟨Mem.suf (M := [own kCoin 77 u6785 t6783]) HM, ?_⟩
                          have hS := Mem.suf (M := [own kCoin 77 u6785 t6783]) HM
                          refine drw_any [3, 5] (by kernel_rfl) rfl (.cons ?_ (.cons ?_ .nil))
                          · skip
                            refine br_does (l' := #[true, true, true, true, false, false, false]) rfl (guard_none rfl) rfl rfl (by kernel_rfl) (does_callk rfl callok11 rfl (laws_toTx.calls (x0 := x1) (HM.rd hp1_0) (HM.rd hp1_1) h6788)) ?_
                            rintro _ w6801 ⟨u6789, u6791, rfl, hn⟩
                            replace HM : Mem w [] w6801 [own kRef 56 u6789 t6787.fIns, own kOut 75 u6791 t6787.fOuts, own kCoin 77 u6785 t6783, own kCoin 77 u6688 t6767.2, box b6620 26 [.int .i64 x1.fKind, .int .i64 x1.fMember, p1_0, p1_1], box b6648 31 [.int .i64 t6644.fCode, u6646], own kCoin 77 u6646 t6644.fCoins, box b6690 31 [.int .i64 t6686.fCode, u6688]] := HM.call hn
                            refine ⟨Mem.suf (M := [own kRef 56 u6789 t6787.fIns, own kOut 75 u6791 t6787.fOuts, own kCoin 77 u6785 t6783]) HM, ?_⟩
                            have hS := Mem.suf (M := [own kRef 56 u6789 t6787.fIns, own kOut 75 u6791 t6787.fOuts, own kCoin 77 u6785 t6783]) HM
                            refine drw_any [4, 5] (by kernel_rfl) rfl (.cons ?_ (.cons ?_ .nil))
                            · skip
                              refine br_does (l' := #[true, true, true, true, true, false, false]) rfl (guard_none rfl) rfl rfl (by kernel_rfl) (does_callk rfl callok12 rfl (impl_SpentBy.calls (x0 := t6783) (x1 := t6787) (HM.own_rd 2 rfl) (HM.own_rd 0 rfl) (HM.own_rd 1 rfl) h6794)) ?_
                              rintro _ w6802 ⟨u6795, rfl, hn⟩
                              replace HM : Mem w [] w6802 [own kCoin 77 u6795 t6793.fCoins, own kRef 56 u6789 t6787.fIns, own kOut 75 u6791 t6787.fOuts, own kCoin 77 u6785 t6783, own kCoin 77 u6688 t6767.2, box b6620 26 [.int .i64 x1.fKind, .int .i64 x1.fMember, p1_0, p1_1], box b6648 31 [.int .i64 t6644.fCode, u6646], own kCoin 77 u6646 t6644.fCoins, box b6690 31 [.int .i64 t6686.fCode, u6688]] := HM.call hn
                              refine ⟨Mem.suf (M := [own kCoin 77 u6795 t6793.fCoins, own kRef 56 u6789 t6787.fIns, own kOut 75 u6791 t6787.fOuts, own kCoin 77 u6785 t6783]) HM, ?_⟩
                              have hS := Mem.suf (M := [own kCoin 77 u6795 t6793.fCoins, own kRef 56 u6789 t6787.fIns, own kOut 75 u6791 t6787.fOuts, own kCoin 77 u6785 t6783]) HM
                              refine drw_any [5] (by kernel_rfl) rfl (.cons ?_ .nil)
                              refine br_does (l' := #[true, true, true, true, true, true, false]) rfl (guard_none rfl) rfl rfl (by kernel_rfl) (does_alloc (cs := [.int .i64 0, .slice none 0 0]) rfl tz31 rfl HM) ?_
                              rintro _ w6803 ⟨b6797, rfl, HM⟩
                              refine ⟨Mem.suf (M := [box b6797 31 [.int .i64 0, .slice none 0 0], own kCoin 77 u6795 t6793.fCoins, own kRef 56 u6789 t6787.fIns, own kOut 75 u6791 t6787.fOuts, own kCoin 77 u6785 t6783]) HM, ?_⟩
                              have hS := Mem.suf (M := [box b6797 31 [.int .i64 0, .slice none 0 0], own kCoin 77 u6795 t6793.fCoins, own kRef 56 u6789 t6787.fIns, own kOut 75 u6791 t6787.fOuts, own kCoin 77 u6785 t6783]) HM
                              refine drw_any [6] (by kernel_rfl) rfl (.cons ?_ .nil)
                              refine br_doesS (l' := #[true, true, true, true, true, true, true]) rfl (guard_none rfl) rfl (by kernel_rfl) (does_store (vs := [.int .i64 t6793.fCode, u6795]) (cs' := [.int .i64 t6793.fCode, u6795]) rfl rfl rfl rfl tsz31 (Ones.int (Ones.rd (HM.own_rd 1 rfl) Ones.nil)) rfl rfl HM) ?_
                              rintro w6804 HM
                              refine ⟨Mem.suf (M := [box b6797 31 [.int .i64 t6793.fCode, u6795], own kCoin 77 u6795 t6793.fCoins, own kRef 56 u6789 t6787.fIns, own kOut 75 u6791 t6787.fOuts, own kCoin 77 u6785 t6783]) HM, ?_⟩
                              have hS := Mem.suf (M := [box b6797 31 [.int .i64 t6793.fCode, u6795], own kCoin 77 u6795 t6793.fCoins, own kRef 56 u6789 t6787.fIns, own kOut 75 u6791 t6787.fOuts, own kCoin 77 u6785 t6783]) HM
                              refine drw_done (by kernel_rfl) ?_
                              replace HM := (HM.front 2 rfl rfl).drop
                              replace HM := (HM.front 2 rfl rfl).drop
                              replace HM := (HM.front 2 rfl rfl).drop
                              replace HM := (HM.front 3 rfl rfl).drop
                              replace HM := HM.front 1 rfl rfl
                              replace HM := HM.front 1 rfl rfl
                              replace HM := HM.front 2 rfl rfl
                              replace HM := HM.front 5 rfl rfl
                              replace HM := HM.front 5 rfl rfl
                              replace HM := HM.front 5 rfl rfl
                              exact at_meet [(6, .pointer (some ⟨b6648, 0, none⟩)), (9, .pointer (some ⟨b6690, 0, none⟩)), (11, .int .i64 t6767.1), (13, .pointer (some ⟨b6797, 0, none⟩))] ⟨_, _, rfl, HM⟩ (Sub.cons rfl (Sub.cons rfl (Sub.cons rfl (Sub.cons rfl Sub.nil))))
                            · skip
                              refine br_does (l' := #[true, true, true, true, false, true, false]) rfl (guard_none rfl) rfl rfl (by kernel_rfl) (does_alloc (cs := [.int .i64 0, .slice none 0 0]) rfl tz31 rfl HM) ?_
                              rintro _ w6805 ⟨b6797, rfl, HM⟩
                              refine ⟨Mem.suf (M := [box b6797 31 [.int .i64 0, .slice none 0 0], own kRef 56 u6789 t6787.fIns, own kOut 75 u6791 t6787.fOuts, own kCoin 77 u6785 t6783]) HM, ?_⟩
                              have hS := Mem.suf (M := [box b6797 31 [.int .i64 0, .slice none 0 0], own kRef 56 u6789 t6787.fIns, own kOut 75 u6791 t6787.fOuts, own kCoin 77 u6785 t6783]) HM
                              refine drw_any [4] (by kernel_rfl) rfl (.cons ?_ .nil)
                              refine br_does (l' := #[true, true, true, true, true, true, false]) rfl (guard_none rfl) rfl rfl (by kernel_rfl) (does_callk rfl callok12 rfl (impl_SpentBy.calls (x0 := t6783) (x1 := t6787) (HM.own_rd 3 rfl) (HM.own_rd 1 rfl) (HM.own_rd 2 rfl) h6794)) ?_
                              rintro _ w6806 ⟨u6795, rfl, hn⟩
                              replace HM : Mem w [] w6806 [own kCoin 77 u6795 t6793.fCoins, box b6797 31 [.int .i64 0, .slice none 0 0], own kRef 56 u6789 t6787.fIns, own kOut 75 u6791 t6787.fOuts, own kCoin 77 u6785 t6783, own kCoin 77 u6688 t6767.2, box b6620 26 [.int .i64 x1.fKind, .int .i64 x1.fMember, p1_0, p1_1], box b6648 31 [.int .i64 t6644.fCode, u6646], own kCoin 77 u6646 t6644.fCoins, box b6690 31 [.int .i64 t6686.fCode, u6688]] := HM.call hn
                              refine ⟨Mem.suf (M := [own kCoin 77 u6795 t6793.fCoins, box b6797 31 [.int .i64 0, .slice none 0 0], own kRef 56 u6789 t6787.fIns, own kOut 75 u6791 t6787.fOuts, own kCoin 77 u6785 t6783]) HM, ?_⟩
                              have hS := Mem.suf (M := [own kCoin 77 u6795 t6793.fCoins, box b6797 31 [.int .i64 0, .slice none 0 0], own kRef 56 u6789 t6787.fIns, own kOut 75 u6791 t6787.fOuts, own kCoin 77 u6785 t6783]) HM
                              replace HM := HM.front 1 rfl rfl
                              refine drw_any [6] (by kernel_rfl) rfl (.cons ?_ .nil)
                              refine br_doesS (l' := #[true, true, true, true, true, true, true]) rfl (guard_none rfl) rfl (by kernel_rfl) (does_store (vs := [.int .i64 t6793.fCode, u6795]) (cs' := [.int .i64 t6793.fCode, u6795]) rfl rfl rfl rfl tsz31 (Ones.int (Ones.rd (HM.own_rd 1 rfl) Ones.nil)) rfl rfl HM) ?_
                              rintro w6807 HM
                              refine ⟨Mem.suf (M := [box b6797 31 [.int .i64 t6793.fCode, u6795], own kCoin 77 u6795 t6793.fCoins, own kRef 56 u6789 t6787.fIns, own kOut 75 u6791 t6787.fOuts, own kCoin 77 u6785 t6783]) HM, ?_⟩
                              have hS := Mem.suf (M := [box b6797 31 [.int .i64 t6793.fCode, u6795], own kCoin 77 u6795 t6793.fCoins, own kRef 56 u6789 t6787.fIns, own kOut 75 u6791 t6787.fOuts, own kCoin 77 u6785 t6783]) HM
                              refine drw_done (by kernel_rfl) ?_
                              replace HM := (HM.front 2 rfl rfl).drop
                              replace HM := (HM.front 2 rfl rfl).drop
                              replace HM := (HM.front 2 rfl rfl).drop
                              replace HM := (HM.front 3 rfl rfl).drop
                              replace HM := HM.front 1 rfl rfl
                              replace HM := HM.front 1 rfl rfl
                              replace HM := HM.front 2 rfl rfl
                              replace HM := HM.front 5 rfl rfl
                              replace HM := HM.front 5 rfl rfl
                              replace HM := HM.front 5 rfl rfl
                              exact at_meet [(6, .pointer (some ⟨b6648, 0, none⟩)), (9, .pointer (some ⟨b6690, 0, none⟩)), (11, .int .i64 t6767.1), (13, .pointer (some ⟨b6797, 0, none⟩))] ⟨_, _, rfl, HM⟩ (Sub.cons rfl (Sub.cons rfl (Sub.cons rfl (Sub.cons rfl Sub.nil))))
                          · skip
                            refine br_does (l' := #[true, true, true, false, false, true, false]) rfl (guard_none rfl) rfl rfl (by kernel_rfl) (does_alloc (cs := [.int .i64 0, .slice none 0 0]) rfl tz31 rfl HM) ?_
                            rintro _ w6808 ⟨b6797, rfl, HM⟩
                            refine ⟨Mem.suf (M := [box b6797 31 [.int .i64 0, .slice none 0 0], own kCoin 77 u6785 t6783]) HM, ?_⟩
                            have hS := Mem.suf (M := [box b6797 31 [.int .i64 0, .slice none 0 0], own kCoin 77 u6785 t6783]) HM
                            refine drw_any [3] (by kernel_rfl) rfl (.cons ?_ .nil)
                            refine br_does (l' := #[true, true, true, true, false, true, false]) rfl (guard_none rfl) rfl rfl (by kernel_rfl) (does_callk rfl callok11 rfl (laws_toTx.calls (x0 := x1) (HM.rd hp1_0) (HM.rd hp1_1) h6788)) ?_
                            rintro _ w6809 ⟨u6789, u6791, rfl, hn⟩
                            replace HM : Mem w [] w6809 [own kRef 56 u6789 t6787.fIns, own kOut 75 u6791 t6787.fOuts, box b6797 31 [.int .i64 0, .slice none 0 0], own kCoin 77 u6785 t6783, own kCoin 77 u6688 t6767.2, box b6620 26 [.int .i64 x1.fKind, .int .i64 x1.fMember, p1_0, p1_1], box b6648 31 [.int .i64 t6644.fCode, u6646], own kCoin 77 u6646 t6644.fCoins, box b6690 31 [.int .i64 t6686.fCode, u6688]] := HM.call hn
                            refine ⟨Mem.suf (M := [own kRef 56 u6789 t6787.fIns, own kOut 75 u6791 t6787.fOuts, box b6797 31 [.int .i64 0, .slice none 0 0], own kCoin 77 u6785 t6783]) HM, ?_⟩
                            have hS := Mem.suf (M := [own kRef 56 u6789 t6787.fIns, own kOut 75 u6791 t6787.fOuts, box b6797 31 [.int .i64 0, .slice none 0 0], own kCoin 77 u6785 t6783]) HM
                            refine drw_any [4] (by kernel_rfl) rfl (.cons ?_ .nil)
                            refine br_does (l' := #[true, true, true, true, true, true, false]) rfl (guard_none rfl) rfl rfl (by kernel_rfl) (does_callk rfl callok12 rfl (impl_SpentBy.calls (x0 := t6783) (x1 := t6787) (HM.own_rd 3 rfl) (HM.own_rd 0 rfl) (HM.own_rd 1 rfl) h6794)) ?_
                            rintro _ w6810 ⟨u6795, rfl, hn⟩
                            replace HM : Mem w [] w6810 [own kCoin 77 u6795 t6793.fCoins, own kRef 56 u6789 t6787.fIns, own kOut 75 u6791 t6787.fOuts, box b6797 31 [.int .i64 0, .slice none 0 0], own kCoin 77 u6785 t6783, own kCoin 77 u6688 t6767.2, box b6620 26 [.int .i64 x1.fKind, .int .i64 x1.fMember, p1_0, p1_1], box b6648 31 [.int .i64 t6644.fCode, u6646], own kCoin 77 u6646 t6644.fCoins, box b6690 31 [.int .i64 t6686.fCode, u6688]] := HM.call hn
                            refine ⟨Mem.suf (M := [own kCoin 77 u6795 t6793.fCoins, own kRef 56 u6789 t6787.fIns, own kOut 75 u6791 t6787.fOuts, box b6797 31 [.int .i64 0, .slice none 0 0], own kCoin 77 u6785 t6783]) HM, ?_⟩
                            have hS := Mem.suf (M := [own kCoin 77 u6795 t6793.fCoins, own kRef 56 u6789 t6787.fIns, own kOut 75 u6791 t6787.fOuts, box b6797 31 [.int .i64 0, .slice none 0 0], own kCoin 77 u6785 t6783]) HM
                            replace HM := HM.front 3 rfl rfl
                            refine drw_any [6] (by kernel_rfl) rfl (.cons ?_ .nil)
                            refine br_doesS (l' := #[true, true, true, true, true, true, true]) rfl (guard_none rfl) rfl (by kernel_rfl) (does_store (vs := [.int .i64 t6793.fCode, u6795]) (cs' := [.int .i64 t6793.fCode, u6795]) rfl rfl rfl rfl tsz31 (Ones.int (Ones.rd (HM.own_rd 1 rfl) Ones.nil)) rfl rfl HM) ?_
                            rintro w6811 HM
                            refine ⟨Mem.suf (M := [box b6797 31 [.int .i64 t6793.fCode, u6795], own kCoin 77 u6795 t6793.fCoins, own kRef 56 u6789 t6787.fIns, own kOut 75 u6791 t6787.fOuts, own kCoin 77 u6785 t6783]) HM, ?_⟩
                            have hS := Mem.suf (M := [box b6797 31 [.int .i64 t6793.fCode, u6795], own kCoin 77 u6795 t6793.fCoins, own kRef 56 u6789 t6787.fIns, own kOut 75 u6791 t6787.fOuts, own kCoin 77 u6785 t6783]) HM
                            refine drw_done (by kernel_rfl) ?_
                            replace HM := (HM.front 2 rfl rfl).drop
                            replace HM := (HM.front 2 rfl rfl).drop
                            replace HM := (HM.front 2 rfl rfl).drop
                            replace HM := (HM.front 3 rfl rfl).drop
                            replace HM := HM.front 1 rfl rfl
                            replace HM := HM.front 1 rfl rfl
                            replace HM := HM.front 2 rfl rfl
                            replace HM := HM.front 5 rfl rfl
                            replace HM := HM.front 5 rfl rfl
                            replace HM := HM.front 5 rfl rfl
                            exact at_meet [(6, .pointer (some ⟨b6648, 0, none⟩)), (9, .pointer (some ⟨b6690, 0, none⟩)), (11, .int .i64 t6767.1), (13, .pointer (some ⟨b6797, 0, none⟩))] ⟨_, _, rfl, HM⟩ (Sub.cons rfl (Sub.cons rfl (Sub.cons rfl (Sub.cons rfl Sub.nil))))
                        · skip
                          refine br_does (l' := #[true, false, true, false, false, true, false]) rfl (guard_none rfl) rfl rfl (by kernel_rfl) (does_alloc (cs := [.int .i64 0, .slice none 0 0]) rfl tz31 rfl HM) ?_
                          rintro _ w6812 ⟨b6797, rfl, HM⟩
                          refine ⟨Mem.suf (M := [box b6797 31 [.int .i64 0, .slice none 0 0]]) HM, ?_⟩
                          have hS := Mem.suf (M := [box b6797 31 [.int .i64 0, .slice none 0 0]]) HM
                          refine drw_any [1] (by kernel_rfl) rfl (.cons ?_ .nil)
                          refine br_does (l' := #[true, true, true, false, false, true, false]) rfl (guard_none rfl) rfl rfl (by kernel_rfl) (does_callk rfl callok10 rfl (laws_toCoinS.calls (x0 := x0) (HM.rd hp0) h6784)) ?_
                          rintro u6785 w6813 ⟨_, rfl, hn⟩
                          replace HM : Mem w [] w6813 [own kCoin 77 u6785 t6783, box b6797 31 [.int .i64 0, .slice none 0 0], own kCoin 77 u6688 t6767.2, box b6620 26 [.int .i64 x1.fKind, .int .i64 x1.fMember, p1_0, p1_1], box b6648 31 [.int .i64 t6644.fCode, u6646], own kCoin 77 u6646 t6644.fCoins, box b6690 31 [.int .i64 t6686.fCode, u6688]] := HM.call hn
                          refine ⟨Mem.suf (M := [own kCoin 77 u6785 t6783, box b6797 31 [.int .i64 0, .slice none 0 0]]) HM, ?_⟩
                          have hS := Mem.suf (M := [own kCoin 77 u6785 t6783, box b6797 31 [.int .i64 0, .slice none 0 0]]) HM
                          refine drw_any [3] (by kernel_rfl) rfl (.cons ?_ .nil)
                          refine br_does (l' := #[true, true, true, true, false, true, false]) rfl (guard_none rfl) rfl rfl (by kernel_rfl) (does_callk rfl callok11 rfl (laws_toTx.calls (x0 := x1) (HM.rd hp1_0) (HM.rd hp1_1) h6788)) ?_
                          rintro _ w6814 ⟨u6789, u6791, rfl, hn⟩
                          replace HM : Mem w [] w6814 [own kRef 56 u6789 t6787.fIns, own kOut 75 u6791 t6787.fOuts, own kCoin 77 u6785 t6783, box b6797 31 [.int .i64 0, .slice none 0 0], own kCoin 77 u6688 t6767.2, box b6620 26 [.int .i64 x1.fKind, .int .i64 x1.fMember, p1_0, p1_1], box b6648 31 [.int .i64 t6644.fCode, u6646], own kCoin 77 u6646 t6644.fCoins, box b6690 31 [.int .i64 t6686.fCode, u6688]] := HM.call hn
                          refine ⟨Mem.suf (M := [own kRef 56 u6789 t6787.fIns, own kOut 75 u6791 t6787.fOuts, own kCoin 77 u6785 t6783, box b6797 31 [.int .i64 0, .slice none 0 0]]) HM, ?_⟩
                          have hS := Mem.suf (M := [own kRef 56 u6789 t6787.fIns, own kOut 75 u6791 t6787.fOuts, own kCoin 77 u6785 t6783, box b6797 31 [.int .i64 0, .slice none 0 0]]) HM
                          refine drw_any [4] (by kernel_rfl) rfl (.cons ?_ .nil)
                          refine br_does (l' := #[true, true, true, true, true, true, false]) rfl (guard_none rfl) rfl rfl (by kernel_rfl) (does_callk rfl callok12 rfl (impl_SpentBy.calls (x0 := t6783) (x1 := t6787) (HM.own_rd 2 rfl) (HM.own_rd 0 rfl) (HM.own_rd 1 rfl) h6794)) ?_
                          rintro _ w6815 ⟨u6795, rfl, hn⟩
                          replace HM : Mem w [] w6815 [own kCoin 77 u6795 t6793.fCoins, own kRef 56 u6789 t6787.fIns, own kOut 75 u6791 t6787.fOuts, own kCoin 77 u6785 t6783, box b6797 31 [.int .i64 0, .slice none 0 0], own kCoin 77 u6688 t6767.2, box b6620 26 [.int .i64 x1.fKind, .int .i64 x1.fMember, p1_0, p1_1], box b6648 31 [.int .i64 t6644.fCode, u6646], own kCoin 77 u6646 t6644.fCoins, box b6690 31 [.int .i64 t6686.fCode, u6688]] := HM.call hn
                          refine ⟨Mem.suf (M := [own kCoin 77 u6795 t6793.fCoins, own kRef 56 u6789 t6787.fIns, own kOut 75 u6791 t6787.fOuts, own kCoin 77 u6785 t6783, box b6797 31 [.int .i64 0, .slice none 0 0]]) HM, ?_⟩
                          have hS := Mem.suf (M := [own kCoin 77 u6795 t6793.fCoins, own kRef 56 u6789 t6787.fIns, own kOut 75 u6791 t6787.fOuts, own kCoin 77 u6785 t6783, box b6797 31 [.int .i64 0, .slice none 0 0]]) HM
                          replace HM := HM.front 4 rfl rfl
                          refine drw_any [6] (by kernel_rfl) rfl (.cons ?_ .nil)
                          refine br_doesS (l' := #[true, true, true, true, true, true, true]) rfl (guard_none rfl) rfl (by kernel_rfl) (does_store (vs := [.int .i64 t6793.fCode, u6795]) (cs' := [.int .i64 t6793.fCode, u6795]) rfl rfl rfl rfl tsz31 (Ones.int (Ones.rd (HM.own_rd 1 rfl) Ones.nil)) rfl rfl HM) ?_
                          rintro w6816 HM
                          refine ⟨Mem.suf (M := [box b6797 31 [.int .i64 t6793.fCode, u6795], own kCoin 77 u6795 t6793.fCoins, own kRef 56 u6789 t6787.fIns, own kOut 75 u6791 t6787.fOuts, own kCoin 77 u6785 t6783]) HM, ?_⟩
                          have hS := Mem.suf (M := [box b6797 31 [.int .i64 t6793.fCode, u6795], own kCoin 77 u6795 t6793.fCoins, own kRef 56 u6789 t6787.fIns, own kOut 75 u6791 t6787.fOuts, own kCoin 77 u6785 t6783]) HM
                          refine drw_done (by kernel_rfl) ?_
                          replace HM := (HM.front 2 rfl rfl).drop
                          replace HM := (HM.front 2 rfl rfl).drop
                          replace HM := (HM.front 2 rfl rfl).drop
                          replace HM := (HM.front 3 rfl rfl).drop
                          replace HM := HM.front 1 rfl rfl
                          replace HM := HM.front 1 rfl rfl
                          replace HM := HM.front 2 rfl rfl
                          replace HM := HM.front 5 rfl rfl
                          replace HM := HM.front 5 rfl rfl
                          replace HM := HM.front 5 rfl rfl
                          exact at_meet [(6, .pointer (some ⟨b6648, 0, none⟩)), (9, .pointer (some ⟨b6690, 0, none⟩)), (11, .int .i64 t6767.1), (13, .pointer (some ⟨b6797, 0, none⟩))] ⟨_, _, rfl, HM⟩ (Sub.cons rfl (Sub.cons rfl (Sub.cons rfl (Sub.cons rfl Sub.nil))))
                      · rintro _ w6817 ⟨u6795, b6797, rfl, HM⟩
                        refine at_then ?_
                        refine run_seq ?_
                        refine run_seq ?_
                        obtain ⟨t6821, h6822, H⟩ := bind_some H
                        refine run_region rfl ?_
                        refine ops_ex rfl (guard_none rfl) rfl rfl (ex_loadN (cs := [(.int .i64 t6793.fCode), u6795]) rfl rfl Tryz.underlying31 rfl tsz31 rfl ((HM.box_at 4 rfl).sub 0 2 rfl)) ?_
                        refine ops_ex rfl (guard_none rfl) rfl rfl (ex_loadN (cs := [(.int .i64 t6644.fCode), u6646]) rfl rfl Tryz.underlying31 rfl tsz31 rfl ((HM.box_at 0 rfl).sub 0 2 rfl)) ?_
                        refine ops_does rfl (guard_none rfl) rfl rfl (does_callk rfl callok13 rfl (laws_eqCoinsResult.calls (x0 := t6793) (x1 := t6644) (HM.own_rd 5 rfl) (HM.own_rd 1 rfl) h6822)) ?_
                        rintro _ w6823 ⟨rfl, hn⟩
                        replace HM : Mem w [] w6823 [box b6648 31 [.int .i64 t6644.fCode, u6646], own kCoin 77 u6646 t6644.fCoins, box b6690 31 [.int .i64 t6686.fCode, u6688], own kCoin 77 u6688 t6767.2, box b6797 31 [.int .i64 t6793.fCode, u6795], own kCoin 77 u6795 t6793.fCoins] := HM.call hn
                        refine ops_ex rfl (guard_none rfl) rfl rfl (ex_not rfl rfl) ?_
                        refine ops_nil ?_
                        refine at_then ?_
                        refine run_cond (b := !t6821) rfl (fun hb6824 => ?_) (fun hb6824 => ?_)
                        · replace H := cond_t hb6824 H
                          refine run_seq ?_
                          refine run_region rfl ?_
                          refine ops_ex rfl (guard_none rfl) rfl rfl (ex_assign rfl rfl) ?_
                          refine ops_nil ?_
                          refine at_then ?_
                          refine run_ret ?_
                          refine at_then_ret ?_
                          replace HM := (HM.front 0 rfl rfl).drop
                          replace HM := (HM.front 0 rfl rfl).drop
                          replace HM := (HM.front 0 rfl rfl).drop
                          replace HM := (HM.front 0 rfl rfl).drop
                          replace HM := (HM.front 0 rfl rfl).drop
                          replace HM := (HM.front 0 rfl rfl).drop
                          have hR := Option.some.inj H
                          subst hR
                          exact at_ret1 rfl rfl ⟨_, rfl, rfl, HM⟩
                        · replace H := cond_f hb6824 H
                          refine run_skip ?_
                          refine at_then ?_
                          refine run_seq ?_
                          refine run_region rfl ?_
                          refine ops_ex rfl (guard_none rfl) rfl rfl (ex_assign rfl rfl) ?_
                          refine ops_nil ?_
                          refine at_then ?_
                          refine run_seq ?_
                          obtain ⟨t6825, h6826, H⟩ := bind_some H
                          refine run_region rfl ?_
                          refine ops_ex rfl (guard_none rfl) rfl rfl (ex_loadN (cs := [(.int .i64 t6686.fCode), u6688]) rfl rfl Tryz.underlying31 rfl tsz31 rfl ((HM.box_at 2 rfl).sub 0 2 rfl)) ?_
                          refine ops_ex rfl (guard_none rfl) rfl rfl (ex_move rfl rfl) ?_
                          refine ops_does rfl (guard_none rfl) rfl rfl (does_callk rfl callok19 rfl (laws_heldCoinsResult.calls (x0 := (⟨t6686.fCode, t6767.2⟩ : CoinsResult)) (x1 := 1) (HM.own_rd 3 rfl) h6826)) ?_
                          rintro _ w6827 ⟨rfl, hn⟩
                          replace HM : Mem w [] w6827 [box b6648 31 [.int .i64 t6644.fCode, u6646], own kCoin 77 u6646 t6644.fCoins, box b6690 31 [.int .i64 t6686.fCode, u6688], own kCoin 77 u6688 t6767.2, box b6797 31 [.int .i64 t6793.fCode, u6795], own kCoin 77 u6795 t6793.fCoins] := HM.call hn
                          refine ops_ex rfl (guard_none rfl) rfl rfl (ex_assign rfl rfl) ?_
                          refine ops_nil ?_
                          refine at_then ?_
                          refine run_seq ?_
                          refine run_seq ?_
                          refine run_region rfl ?_
                          refine ops_ex rfl (guard_none rfl) rfl rfl (ex_move rfl rfl) ?_
                          refine ops_ex rfl (guard_none rfl) rfl rfl (ex_lss rfl rfl rfl) ?_
                          refine ops_nil ?_
                          refine at_then ?_
                          refine run_cond (b := (decide (t6825 < 0))) rfl (fun hb6829 => ?_) (fun hb6829 => ?_)
                          · replace H := cond_t hb6829 H
                            refine run_seq ?_
                            refine run_region rfl ?_
                            refine ops_ex rfl (guard_none rfl) rfl rfl (ex_assign rfl rfl) ?_
                            refine ops_nil ?_
                            refine at_then ?_
                            refine run_ret ?_
                            refine at_then_ret ?_
                            replace HM := (HM.front 0 rfl rfl).drop
                            replace HM := (HM.front 0 rfl rfl).drop
                            replace HM := (HM.front 0 rfl rfl).drop
                            replace HM := (HM.front 0 rfl rfl).drop
                            replace HM := (HM.front 0 rfl rfl).drop
                            replace HM := (HM.front 0 rfl rfl).drop
                            have hR := Option.some.inj H
                            subst hR
                            exact at_ret1 rfl rfl ⟨_, rfl, rfl, HM⟩
                          · replace H := cond_f hb6829 H
                            refine run_skip ?_
                            refine at_then ?_
                            refine run_seq ?_
                            refine run_seq ?_
                            refine run_region rfl ?_
                            refine ops_ex rfl (guard_none rfl) rfl rfl (ex_move rfl rfl) ?_
                            refine ops_ex rfl (guard_none rfl) rfl rfl (ex_move rfl rfl) ?_
                            refine ops_ex rfl (guard_none rfl) rfl rfl (ex_neq rfl rfl rfl) ?_
                            refine ops_nil ?_
                            refine at_then ?_
                            refine run_cond (b := (t6825 != t6767.1)) rfl (fun hb6830 => ?_) (fun hb6830 => ?_)
                            · replace H := cond_t hb6830 H
                              refine run_seq ?_
                              refine run_region rfl ?_
                              refine ops_ex rfl (guard_none rfl) rfl rfl (ex_assign rfl rfl) ?_
                              refine ops_nil ?_
                              refine at_then ?_
                              refine run_ret ?_
                              refine at_then_ret ?_
                              replace HM := (HM.front 0 rfl rfl).drop
                              replace HM := (HM.front 0 rfl rfl).drop
                              replace HM := (HM.front 0 rfl rfl).drop
                              replace HM := (HM.front 0 rfl rfl).drop
                              replace HM := (HM.front 0 rfl rfl).drop
                              replace HM := (HM.front 0 rfl rfl).drop
                              have hR := Option.some.inj H
                              subst hR
                              exact at_ret1 rfl rfl ⟨_, rfl, rfl, HM⟩
                            · replace H := cond_f hb6830 H
                              refine run_skip ?_
                              refine at_then ?_
                              refine run_seq ?_
                              refine run_region rfl ?_
                              refine ops_ex rfl (guard_none rfl) rfl rfl (ex_assign rfl rfl) ?_
                              refine ops_nil ?_
                              refine at_then ?_
                              refine run_ret ?_
                              replace HM := (HM.front 0 rfl rfl).drop
                              replace HM := (HM.front 0 rfl rfl).drop
                              replace HM := (HM.front 0 rfl rfl).drop
                              replace HM := (HM.front 0 rfl rfl).drop
                              replace HM := (HM.front 0 rfl rfl).drop
                              replace HM := (HM.front 0 rfl rfl).drop
                              have hR := Option.some.inj H
                              subst hR
                              exact at_ret1 rfl rfl ⟨_, rfl, rfl, HM⟩
end Go.Proofs.YtcamddjlhchkfaaGreat.Zk
