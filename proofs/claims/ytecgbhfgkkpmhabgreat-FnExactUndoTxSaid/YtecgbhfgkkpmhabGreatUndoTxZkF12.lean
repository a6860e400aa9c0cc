/- What functions of the program compute, each as a plain function, and that they do. Conditions: as each theorem states them. -/
import Derived.Test.YtecgbhfgkkpmhabGreatUndoTxZkF11
namespace Go.Proofs.YtecgbhfgkkpmhabGreat.Zk
open Go Go.RowKit Go.IntWalk Go.Proofs
set_option linter.unusedVariables false
set_option linter.unusedSimpArgs false
set_option maxRecDepth 100000
set_option maxHeartbeats 4000000
def laws_markCoinsResult.f (k : Nat) (x0 : CoinsResult) (x1 : Int) : Option (Int × (List Coin)) := ((laws_markCoinS.f k x0.fCoins x1).bind fun t7542 => some (t7542.1, t7542.2))
theorem laws_markCoinsResult.calls {k : Nat} {x0 : CoinsResult} {x1 : Int} {p0_0 : Value} {w wo : World} {X : List Nat} (hwo : Olds wo w X) (hX : Hold w [own kCoin 72 p0_0 x0.fCoins] X) (hXn : X.Nodup) (hXl : ∀ b ∈ X, b < w.heap.size)  {r : Int × (List Coin)} (H : laws_markCoinsResult.f k x0 x1 = some r) :
    Calls Tryz.prog 15 ([.agg #[(.int .i64 x0.fCode), p0_0], .int .i64 x1] : List Value).toArray w (fun e w_ => ∃ v, e = .returned v ∧ v = (.int .i64 r.1) ∧ Mem w X w_ [own kCoin 72 p0_0 r.2]) := by
  have HM := Mem.startX hX hXn hXl
  refine calls_run (N := 10) Tryz.func15 rfl rfl rfl rfl ?_
  unfold laws_markCoinsResult.f at H
  refine run_seq ?_
  refine run_region rfl ?_
  refine od rfl rfl rfl rfl (does_box (cs := [.int .i64 x0.fCode, p0_0]) rfl rfl rfl HM) ?_
  rintro _ w7541 ⟨b7538, rfl, HM⟩
  refine ox rfl rfl rfl rfl (ex_assign rfl rfl) ?_
  refine ops_nil (at_then (run_seq ?_))
  obtain ⟨t7542, h7543, H⟩ := bind_some H
  refine run_region rfl ?_
  refine ox rfl rfl rfl rfl (ex_fieldAddr (off' := 1) rfl rfl Tryz.underlying31 rfl tsz29 rfl) ?_
  refine ox rfl rfl rfl rfl (ex_load1 rfl rfl Tryz.underlying29 rfl ((HM.box_at 0 rfl) 1 _ rfl)) ?_
  refine ox rfl rfl rfl rfl (ex_move rfl rfl) ?_
  replace HM := HM.front 1 rfl rfl
  obtain ⟨F7544, hF7545, hFn7546, hFl7547, HMh7548, hcl7549⟩ := HM.hide (Ms := [own kCoin 72 p0_0 x0.fCoins])
  refine od rfl rfl rfl rfl (does_callk rfl callok13 rfl (laws_markCoinS.calls (x0 := x0.fCoins) (x1 := x1) (hide_olds _ _) hF7545 hFn7546 hFl7547 h7543)) ?_
  rintro _ w7550 ⟨rfl, hn⟩
  replace HM : Mem w X w7550 [own kCoin 72 p0_0 t7542.2, box b7538 31 [.int .i64 x0.fCode, p0_0]] := hcl7549 _ _ hn
  refine ox rfl rfl rfl rfl (ex_assign rfl rfl) ?_
  refine ops_nil (at_then (run_seq ?_))
  refine run_region rfl ?_
  refine ox rfl rfl rfl rfl (ex_move rfl rfl) ?_
  refine ox rfl rfl rfl rfl (ex_assign rfl rfl) ?_
  refine ops_nil (at_then ?_)
  refine run_ret ?_
  replace HM := (HM.front 1 rfl rfl).drop
  have hR := Option.some.inj H
  subst hR
  exact at_ret1 rfl rfl ⟨_, rfl, rfl, HM⟩

def laws_heldInt64S.l0 (x0 : List Int) : Nat → Int → Int → Option (Int ⊕ Int)
  | 0, _, _ => none
  | k + 1, a7635, a7636 => (bif (decide (a7636 < (x0.length : Int))) then (chk (idxOk a7636 x0.length) (bif ((gt x0 a7636) != a7635) then some (.inl (-1)) else laws_heldInt64S.l0 x0 k (wrap64 (a7635 + 1)) (wrap64 (a7636 + 1)))) else some (.inr a7635))
theorem laws_heldInt64S.l0_z (x0 : List Int) (a7635 : Int) (a7636 : Int) : laws_heldInt64S.l0 x0 0 a7635 a7636 = none := rfl
theorem laws_heldInt64S.l0_s (x0 : List Int) (k : Nat) (a7635 : Int) (a7636 : Int) : laws_heldInt64S.l0 x0 (k + 1) a7635 a7636 = (bif (decide (a7636 < (x0.length : Int))) then (chk (idxOk a7636 x0.length) (bif ((gt x0 a7636) != a7635) then some (.inl (-1)) else laws_heldInt64S.l0 x0 k (wrap64 (a7635 + 1)) (wrap64 (a7636 + 1)))) else some (.inr a7635)) := rfl
def laws_heldInt64S.f (k : Nat) (x0 : List Int) (x1 : Int) : Option Int := ((laws_heldInt64S.l0 x0 k x1 0).bind fun o7629 => thn o7629 (fun r => some r) (fun a7628 => some a7628))
theorem laws_heldInt64S.calls {k : Nat} {x0 : List Int} {x1 : Int} {p0 : Value} {w : World} (hp0 : RdS kInt w p0 x0) {r : Int} (H : laws_heldInt64S.f k x0 x1 = some r) :
    Calls Tryz.prog 74 ([p0, .int .i64 x1] : List Value).toArray w (fun e w_ => ∃ v, e = .returned v ∧ v = (.int .i64 r) ∧ Mem w [] w_ []) := by
  have HM := Mem.start w
  refine calls_run (N := 21) Tryz.func74 rfl rfl rfl rfl ?_
  unfold laws_heldInt64S.f at H
  refine run_seq ?_
  refine run_region rfl ?_
  refine ox rfl rfl rfl rfl (ex_assign rfl rfl) ?_
  refine ops_nil (at_then ?_)
  obtain ⟨o7629, ho7630, H⟩ := bind_some H
  refine run_mid (fun ρ_ w_ => ∃ a7628 : Int, Sum.inr a7628 = o7629 ∧ ρ_ = [(1, .int .i64 a7628)] ∧ Mem w [] w_ []) ?_ ?_
  · skip
    refine run_seq ?_
    refine run_region rfl ?_
    refine ox rfl rfl rfl rfl (ex_assign rfl rfl) ?_
    refine ops_nil (at_then ?_)
    refine run_block ?_
    refine run_loop (fun k_ ρ_ w_ => ∃ a7635 : Int, ∃ a7636 : Int, laws_heldInt64S.l0 x0 k_ a7635 a7636 = some o7629 ∧ ρ_ = [(0, p0), (1, .int .i64 a7635), (5, .int .i64 a7636)] ∧ Mem w [] w_ []) k (ρ1 := [(0, p0), (1, .int .i64 x1), (5, .int .i64 0)]) ⟨_, _, ho7630, rfl, HM⟩ (Sub.cons rfl (Sub.cons rfl (Sub.cons rfl Sub.nil))) ?_
    clear HM ho7630
    rintro k7641 _ w7642 ⟨a7635, a7636, ho7630, rfl, HM⟩
    obtain _ | k7641 := k7641
    · exact nomatch ((laws_heldInt64S.l0_z x0 a7635 a7636).symm.trans ho7630)
    replace ho7630 := (laws_heldInt64S.l0_s x0 k7641 a7635 a7636).symm.trans ho7630
    refine run_seq ?_
    refine run_seq ?_
    refine run_region rfl ?_
    refine ox rfl rfl rfl rfl (ex_move rfl rfl) ?_
    refine ox rfl rfl rfl rfl (ex_move rfl rfl) ?_
    refine ox rfl rfl rfl rfl (ex_len (d := kInt) (xs := x0) rfl rfl Tryz.underlying49 hp0) ?_
    refine ox rfl rfl rfl rfl (ex_lss rfl rfl rfl) ?_
    refine ops_nil (at_then ?_)
    refine run_cond (b := (decide (a7636 < (x0.length : Int)))) rfl (fun hb7643 => ?_) (fun hb7643 => ?_)
    · replace ho7630 := cond_t hb7643 ho7630
      refine run_skip ?_
      refine at_then ?_
      refine run_seq ?_
      refine run_block ?_
      refine run_seq ?_
      refine run_seq ?_
      obtain ⟨e7644, ho7630⟩ := chk_some ho7630
      refine run_region rfl ?_
      refine ox rfl rfl rfl rfl (ex_move rfl rfl) ?_
      refine ox rfl rfl rfl rfl (ex_move rfl rfl) ?_
      have hc7645 : CellsAt _ (sb p0) (so p0 + (a7636).toNat * 1) [(.int .i64 (gt x0 a7636))] := rd_plain hp0 e7644
      refine ox rfl rfl rfl rfl (ex_indexAddr (d := kInt) rfl rfl rfl Tryz.underlying49 tsz2 hp0 (idx_lo e7644) (idx_hi e7644)) ?_
      refine ox rfl rfl rfl rfl (ex_load1 rfl rfl Tryz.underlying2 rfl ((HM.at_ hc7645) 0 _ rfl)) ?_
      refine ox rfl rfl rfl rfl (ex_move rfl rfl) ?_
      refine ox rfl rfl rfl rfl (ex_neq rfl rfl rfl) ?_
      refine ops_nil (at_then ?_)
      refine run_cond (b := ((gt x0 a7636) != a7635)) rfl (fun hb7646 => ?_) (fun hb7646 => ?_)
      · replace ho7630 := cond_t hb7646 ho7630
        refine run_seq ?_
        refine run_region rfl ?_
        refine ox rfl rfl rfl rfl (ex_assign rfl rfl) ?_
        refine ops_nil (at_then ?_)
        refine run_ret ?_
        refine at_then_ret ?_
        refine at_block_ret ?_
        refine at_then_ret ?_
        refine at_then_ret ?_
        refine at_block_ret ?_
        refine at_then_ret ?_
        have hR := Option.some.inj ho7630
        subst hR
        have hT := thn_inl H
        have hR := Option.some.inj hT
        subst hR
        exact at_ret1 rfl rfl ⟨_, rfl, rfl, HM⟩
      · replace ho7630 := cond_f hb7646 ho7630
        refine run_skip ?_
        refine at_then ?_
        refine run_region rfl ?_
        refine ox rfl rfl rfl rfl (ex_move rfl rfl) ?_
        refine ox rfl rfl rfl rfl (ex_add rfl rfl rfl) ?_
        refine ox rfl rfl rfl rfl (ex_assign rfl rfl) ?_
        refine ops_nil ?_
        refine at_block ?_
        refine at_then ?_
        refine run_region rfl ?_
        refine ox rfl rfl rfl rfl (ex_move rfl rfl) ?_
        refine ox rfl rfl rfl rfl (ex_add rfl rfl rfl) ?_
        refine ox rfl rfl rfl rfl (ex_assign rfl rfl) ?_
        refine ops_nil ?_
        exact at_again k7641 (ρ1 := [(0, p0), (1, .int .i64 (wrap64 (a7635 + 1))), (5, .int .i64 (wrap64 (a7636 + 1)))]) (Nat.lt_succ_self _) ⟨_, _, ho7630, rfl, HM⟩ (Sub.cons rfl (Sub.cons rfl (Sub.cons rfl Sub.nil)))
    · replace ho7630 := cond_f hb7643 ho7630
      refine run_exit ?_
      refine at_then_exit ?_
      refine at_then_exit ?_
      refine at_block_exit ?_
      exact at_mid (ρ' := [(1, .int .i64 a7635)]) ⟨_, (Option.some.inj ho7630), rfl, HM⟩ (Sub.cons rfl Sub.nil)
  · rintro _ w7647 ⟨a7628, rfl, rfl, HM⟩
    replace H := (thn_inr H)
    refine run_seq ?_
    refine run_region rfl ?_
    refine ox rfl rfl rfl rfl (ex_move rfl rfl) ?_
    refine ox rfl rfl rfl rfl (ex_assign rfl rfl) ?_
    refine ops_nil (at_then ?_)
    refine run_ret ?_
    have hR := Option.some.inj H
    subst hR
    exact at_ret1 rfl rfl ⟨_, rfl, rfl, HM⟩

def laws_heldCoinS.l0 (x0 : List Coin) : Nat → Int → Int → Option (Int ⊕ Int)
  | 0, _, _ => none
  | k + 1, a8148, a8149 => (bif (decide (a8149 < (x0.length : Int))) then (chk (idxOk a8149 x0.length) (bif (((gt x0 a8149).fRef.fTx) != a8148) then some (.inl (-1)) else (chk (idxOk a8149 x0.length) (bif (((gt x0 a8149).fRef.fAt) != (wrap64 (a8148 + 1))) then some (.inl (-1)) else (chk (idxOk a8149 x0.length) (bif (((gt x0 a8149).fOut.fValue) != (wrap64 ((wrap64 (a8148 + 1)) + 1))) then some (.inl (-1)) else (chk (idxOk a8149 x0.length) ((laws_heldInt64S.f k ((gt x0 a8149).fOut.fRule.fKeys) (wrap64 ((wrap64 ((wrap64 (a8148 + 1)) + 1)) + 1))).bind fun t8262 => (bif (decide (t8262 < 0)) then some (.inl (-1)) else (chk (idxOk a8149 x0.length) (bif (((gt x0 a8149).fOut.fRule.fNeed) != t8262) then some (.inl (-1)) else (chk (idxOk a8149 x0.length) (bif (((gt x0 a8149).fOut.fRule.fAfter) != (wrap64 (t8262 + 1))) then some (.inl (-1)) else (chk (idxOk a8149 x0.length) (bif (((gt x0 a8149).fHeight) != (wrap64 ((wrap64 (t8262 + 1)) + 1))) then some (.inl (-1)) else (chk (idxOk a8149 x0.length) (chk ((3 : Int) != 0) (bif (((gt x0 a8149).fMined) != ((Int.tmod (wrap64 ((wrap64 ((wrap64 (t8262 + 1)) + 1)) + 1)) (3 : Int)) == 0)) then some (.inl (-1)) else laws_heldCoinS.l0 x0 k (wrap64 ((wrap64 ((wrap64 ((wrap64 (t8262 + 1)) + 1)) + 1)) + 1)) (wrap64 (a8149 + 1)))))))))))))))))))) else some (.inr a8148))
theorem laws_heldCoinS.l0_z (x0 : List Coin) (a8148 : Int) (a8149 : Int) : laws_heldCoinS.l0 x0 0 a8148 a8149 = none := rfl
theorem laws_heldCoinS.l0_s (x0 : List Coin) (k : Nat) (a8148 : Int) (a8149 : Int) : laws_heldCoinS.l0 x0 (k + 1) a8148 a8149 = (bif (decide (a8149 < (x0.length : Int))) then (chk (idxOk a8149 x0.length) (bif (((gt x0 a8149).fRef.fTx) != a8148) then some (.inl (-1)) else (chk (idxOk a8149 x0.length) (bif (((gt x0 a8149).fRef.fAt) != (wrap64 (a8148 + 1))) then some (.inl (-1)) else (chk (idxOk a8149 x0.length) (bif (((gt x0 a8149).fOut.fValue) != (wrap64 ((wrap64 (a8148 + 1)) + 1))) then some (.inl (-1)) else (chk (idxOk a8149 x0.length) ((laws_heldInt64S.f k ((gt x0 a8149).fOut.fRule.fKeys) (wrap64 ((wrap64 ((wrap64 (a8148 + 1)) + 1)) + 1))).bind fun t8262 => (bif (decide (t8262 < 0)) then some (.inl (-1)) else (chk (idxOk a8149 x0.length) (bif (((gt x0 a8149).fOut.fRule.fNeed) != t8262) then some (.inl (-1)) else (chk (idxOk a8149 x0.length) (bif (((gt x0 a8149).fOut.fRule.fAfter) != (wrap64 (t8262 + 1))) then some (.inl (-1)) else (chk (idxOk a8149 x0.length) (bif (((gt x0 a8149).fHeight) != (wrap64 ((wrap64 (t8262 + 1)) + 1))) then some (.inl (-1)) else (chk (idxOk a8149 x0.length) (chk ((3 : Int) != 0) (bif (((gt x0 a8149).fMined) != ((Int.tmod (wrap64 ((wrap64 ((wrap64 (t8262 + 1)) + 1)) + 1)) (3 : Int)) == 0)) then some (.inl (-1)) else laws_heldCoinS.l0 x0 k (wrap64 ((wrap64 ((wrap64 ((wrap64 (t8262 + 1)) + 1)) + 1)) + 1)) (wrap64 (a8149 + 1)))))))))))))))))))) else some (.inr a8148)) := rfl
def laws_heldCoinS.f (k : Nat) (x0 : List Coin) (x1 : Int) : Option Int := ((laws_heldCoinS.l0 x0 k x1 0).bind fun o8071 => thn o8071 (fun r => some r) (fun a8070 => some a8070))
theorem laws_heldCoinS.calls {k : Nat} {x0 : List Coin} {x1 : Int} {p0 : Value} {w : World} (hp0 : RdS kCoin w p0 x0) {r : Int} (H : laws_heldCoinS.f k x0 x1 = some r) :
    Calls Tryz.prog 39 ([p0, .int .i64 x1] : List Value).toArray w (fun e w_ => ∃ v, e = .returned v ∧ v = (.int .i64 r) ∧ Mem w [] w_ []) := by
  have HM := Mem.start w
  refine calls_run (N := 96) Tryz.func39 rfl rfl rfl rfl ?_
  unfold laws_heldCoinS.f at H
  refine run_seq ?_
  refine run_region rfl ?_
  refine ox rfl rfl rfl rfl (ex_assign rfl rfl) ?_
  refine ops_nil (at_then ?_)
  obtain ⟨o8071, ho8072, H⟩ := bind_some H
  refine run_mid (fun ρ_ w_ => ∃ a8070 : Int, Sum.inr a8070 = o8071 ∧ ρ_ = [(1, .int .i64 a8070)] ∧ Mem w [] w_ []) ?_ ?_
  · skip
    refine run_seq ?_
    refine run_region rfl ?_
    refine ox rfl rfl rfl rfl (ex_assign rfl rfl) ?_
    refine ops_nil (at_then ?_)
    refine run_block ?_
    refine run_loop (fun k_ ρ_ w_ => ∃ a8148 : Int, ∃ a8149 : Int, laws_heldCoinS.l0 x0 k_ a8148 a8149 = some o8071 ∧ ρ_ = [(0, p0), (1, .int .i64 a8148), (5, .int .i64 a8149)] ∧ Mem w [] w_ []) k (ρ1 := [(0, p0), (1, .int .i64 x1), (5, .int .i64 0)]) ⟨_, _, ho8072, rfl, HM⟩ (Sub.cons rfl (Sub.cons rfl (Sub.cons rfl Sub.nil))) ?_
    clear HM ho8072
    rintro k8225 _ w8226 ⟨a8148, a8149, ho8072, rfl, HM⟩
    obtain _ | k8225 := k8225
    · exact nomatch ((laws_heldCoinS.l0_z x0 a8148 a8149).symm.trans ho8072)
    replace ho8072 := (laws_heldCoinS.l0_s x0 k8225 a8148 a8149).symm.trans ho8072
    refine run_seq ?_
    refine run_seq ?_
    refine run_region rfl ?_
    refine ox rfl rfl rfl rfl (ex_move rfl rfl) ?_
    refine ox rfl rfl rfl rfl (ex_move rfl rfl) ?_
    refine ox rfl rfl rfl rfl (ex_len (d := kCoin) (xs := x0) rfl rfl Tryz.underlying29 hp0) ?_
    refine ox rfl rfl rfl rfl (ex_lss rfl rfl rfl) ?_
    refine ops_nil (at_then ?_)
    refine run_cond (b := (decide (a8149 < (x0.length : Int)))) rfl (fun hb8227 => ?_) (fun hb8227 => ?_)
    · replace ho8072 := cond_t hb8227 ho8072
      refine run_skip ?_
      refine at_then ?_
      refine run_seq ?_
      refine run_block ?_
      refine run_seq ?_
      refine run_seq ?_
      obtain ⟨e8233, ho8072⟩ := chk_some ho8072
      refine run_region rfl ?_
      refine ox rfl rfl rfl rfl (ex_move rfl rfl) ?_
      refine ox rfl rfl rfl rfl (ex_move rfl rfl) ?_
      obtain ⟨kv8235, hc8234, hk8236⟩ : ∃ u, CellsAt _ (sb p0) (so p0 + (a8149).toNat * 8) [(.int .i64 ((gt x0 a8149).fRef.fTx)), (.int .i64 ((gt x0 a8149).fRef.fAt)), (.int .i64 ((gt x0 a8149).fOut.fValue)), u, (.int .i64 ((gt x0 a8149).fOut.fRule.fNeed)), (.int .i64 ((gt x0 a8149).fOut.fRule.fAfter)), (.int .i64 ((gt x0 a8149).fHeight)), (.bool ((gt x0 a8149).fMined))] ∧ RdS kInt _ u ((gt x0 a8149).fOut.fRule.fKeys) := rd_with1 hp0 e8233
      refine ox rfl rfl rfl rfl (ex_indexAddr (d := kCoin) rfl rfl rfl Tryz.underlying29 tsz72 hp0 (idx_lo e8233) (idx_hi e8233)) ?_
      refine ox rfl rfl rfl rfl (ex_fieldAddr (off' := so p0 + (a8149).toNat * 8) rfl rfl Tryz.underlying72 rfl tsz66 rfl) ?_
      refine ox rfl rfl rfl rfl (ex_fieldAddr (off' := so p0 + (a8149).toNat * 8) rfl rfl Tryz.underlying66 rfl tsz2 rfl) ?_
      refine ox rfl rfl rfl rfl (ex_load1 rfl rfl Tryz.underlying2 rfl ((HM.at_ hc8234) 0 _ rfl)) ?_
      refine ox rfl rfl rfl rfl (ex_move rfl rfl) ?_
      refine ox rfl rfl rfl rfl (ex_neq rfl rfl rfl) ?_
      refine ops_nil (at_then ?_)
      refine run_cond (b := (((gt x0 a8149).fRef.fTx) != a8148)) rfl (fun hb8237 => ?_) (fun hb8237 => ?_)
      · replace ho8072 := cond_t hb8237 ho8072
        refine run_seq ?_
        refine run_region rfl ?_
        refine ox rfl rfl rfl rfl (ex_assign rfl rfl) ?_
        refine ops_nil (at_then ?_)
        refine run_ret ?_
        refine at_then_ret ?_
        refine at_block_ret ?_
        refine at_then_ret ?_
        refine at_then_ret ?_
        refine at_block_ret ?_
        refine at_then_ret ?_
        have hR := Option.some.inj ho8072
        subst hR
        have hT := thn_inl H
        have hR := Option.some.inj hT
        subst hR
        exact at_ret1 rfl rfl ⟨_, rfl, rfl, HM⟩
      · replace ho8072 := cond_f hb8237 ho8072
        refine run_skip ?_
        refine at_then ?_
        refine run_seq ?_
        refine run_region rfl ?_
        refine ox rfl rfl rfl rfl (ex_move rfl rfl) ?_
        refine ox rfl rfl rfl rfl (ex_add rfl rfl rfl) ?_
        refine ox rfl rfl rfl rfl (ex_assign rfl rfl) ?_
        refine ops_nil (at_then (run_seq ?_))
        refine run_seq ?_
        obtain ⟨e8243, ho8072⟩ := chk_some ho8072
        refine run_region rfl ?_
        refine ox rfl rfl rfl rfl (ex_move rfl rfl) ?_
        refine ox rfl rfl rfl rfl (ex_move rfl rfl) ?_
        obtain ⟨kv8245, hc8244, hk8246⟩ : ∃ u, CellsAt _ (sb p0) (so p0 + (a8149).toNat * 8) [(.int .i64 ((gt x0 a8149).fRef.fTx)), (.int .i64 ((gt x0 a8149).fRef.fAt)), (.int .i64 ((gt x0 a8149).fOut.fValue)), u, (.int .i64 ((gt x0 a8149).fOut.fRule.fNeed)), (.int .i64 ((gt x0 a8149).fOut.fRule.fAfter)), (.int .i64 ((gt x0 a8149).fHeight)), (.bool ((gt x0 a8149).fMined))] ∧ RdS kInt _ u ((gt x0 a8149).fOut.fRule.fKeys) := rd_with1 hp0 e8243
        refine ox rfl rfl rfl rfl (ex_indexAddr (d := kCoin) rfl rfl rfl Tryz.underlying29 tsz72 hp0 (idx_lo e8243) (idx_hi e8243)) ?_
        refine ox rfl rfl rfl rfl (ex_fieldAddr (off' := so p0 + (a8149).toNat * 8) rfl rfl Tryz.underlying72 rfl tsz66 rfl) ?_
        refine ox rfl rfl rfl rfl (ex_fieldAddr (off' := so p0 + (a8149).toNat * 8 + 1) rfl rfl Tryz.underlying66 rfl tsz2 rfl) ?_
        refine ox rfl rfl rfl rfl (ex_load1 rfl rfl Tryz.underlying2 rfl ((HM.at_ hc8244) 1 _ rfl)) ?_
        refine ox rfl rfl rfl rfl (ex_move rfl rfl) ?_
        refine ox rfl rfl rfl rfl (ex_neq rfl rfl rfl) ?_
        refine ops_nil (at_then ?_)
        refine run_cond (b := (((gt x0 a8149).fRef.fAt) != (wrap64 (a8148 + 1)))) rfl (fun hb8247 => ?_) (fun hb8247 => ?_)
        · replace ho8072 := cond_t hb8247 ho8072
          refine run_seq ?_
          refine run_region rfl ?_
          refine ox rfl rfl rfl rfl (ex_assign rfl rfl) ?_
          refine ops_nil (at_then ?_)
          refine run_ret ?_
          refine at_then_ret ?_
          refine at_block_ret ?_
          refine at_then_ret ?_
          refine at_then_ret ?_
          refine at_block_ret ?_
          refine at_then_ret ?_
          have hR := Option.some.inj ho8072
          subst hR
          have hT := thn_inl H
          have hR := Option.some.inj hT
          subst hR
          exact at_ret1 rfl rfl ⟨_, rfl, rfl, HM⟩
        · replace ho8072 := cond_f hb8247 ho8072
          refine run_skip ?_
          refine at_then ?_
          refine run_seq ?_
          refine run_region rfl ?_
          refine ox rfl rfl rfl rfl (ex_move rfl rfl) ?_
          refine ox rfl rfl rfl rfl (ex_add rfl rfl rfl) ?_
          refine ox rfl rfl rfl rfl (ex_assign rfl rfl) ?_
          refine ops_nil (at_then (run_seq ?_))
          refine run_seq ?_
          obtain ⟨e8253, ho8072⟩ := chk_some ho8072
          refine run_region rfl ?_
          refine ox rfl rfl rfl rfl (ex_move rfl rfl) ?_
          refine ox rfl rfl rfl rfl (ex_move rfl rfl) ?_
          obtain ⟨kv8255, hc8254, hk8256⟩ : ∃ u, CellsAt _ (sb p0) (so p0 + (a8149).toNat * 8) [(.int .i64 ((gt x0 a8149).fRef.fTx)), (.int .i64 ((gt x0 a8149).fRef.fAt)), (.int .i64 ((gt x0 a8149).fOut.fValue)), u, (.int .i64 ((gt x0 a8149).fOut.fRule.fNeed)), (.int .i64 ((gt x0 a8149).fOut.fRule.fAfter)), (.int .i64 ((gt x0 a8149).fHeight)), (.bool ((gt x0 a8149).fMined))] ∧ RdS kInt _ u ((gt x0 a8149).fOut.fRule.fKeys) := rd_with1 hp0 e8253
          refine ox rfl rfl rfl rfl (ex_indexAddr (d := kCoin) rfl rfl rfl Tryz.underlying29 tsz72 hp0 (idx_lo e8253) (idx_hi e8253)) ?_
          refine ox rfl rfl rfl rfl (ex_fieldAddr (off' := so p0 + (a8149).toNat * 8 + 2) rfl rfl Tryz.underlying72 rfl tsz70 rfl) ?_
          refine ox rfl rfl rfl rfl (ex_fieldAddr (off' := so p0 + (a8149).toNat * 8 + 2) rfl rfl Tryz.underlying70 rfl tsz2 rfl) ?_
          refine ox rfl rfl rfl rfl (ex_load1 rfl rfl Tryz.underlying2 rfl ((HM.at_ hc8254) 2 _ rfl)) ?_
          refine ox rfl rfl rfl rfl (ex_move rfl rfl) ?_
          refine ox rfl rfl rfl rfl (ex_neq rfl rfl rfl) ?_
          refine ops_nil (at_then ?_)
          refine run_cond (b := (((gt x0 a8149).fOut.fValue) != (wrap64 ((wrap64 (a8148 + 1)) + 1)))) rfl (fun hb8257 => ?_) (fun hb8257 => ?_)
          · replace ho8072 := cond_t hb8257 ho8072
            refine run_seq ?_
            refine run_region rfl ?_
            refine ox rfl rfl rfl rfl (ex_assign rfl rfl) ?_
            refine ops_nil (at_then ?_)
            refine run_ret ?_
            refine at_then_ret ?_
            refine at_block_ret ?_
            refine at_then_ret ?_
            refine at_then_ret ?_
            refine at_block_ret ?_
            refine at_then_ret ?_
            have hR := Option.some.inj ho8072
            subst hR
            have hT := thn_inl H
            have hR := Option.some.inj hT
            subst hR
            exact at_ret1 rfl rfl ⟨_, rfl, rfl, HM⟩
          · replace ho8072 := cond_f hb8257 ho8072
            refine run_skip ?_
            refine at_then ?_
            refine run_seq ?_
            refine run_region rfl ?_
            refine ox rfl rfl rfl rfl (ex_move rfl rfl) ?_
            refine ox rfl rfl rfl rfl (ex_add rfl rfl rfl) ?_
            refine ox rfl rfl rfl rfl (ex_assign rfl rfl) ?_
            refine ops_nil (at_then (run_seq ?_))
            obtain ⟨e8258, ho8072⟩ := chk_some ho8072
            obtain ⟨t8262, h8263, ho8072⟩ := bind_some ho8072
            refine run_region rfl ?_
            refine ox rfl rfl rfl rfl (ex_move rfl rfl) ?_
            refine ox rfl rfl rfl rfl (ex_move rfl rfl) ?_
            obtain ⟨kv8260, hc8259, hk8261⟩ : ∃ u, CellsAt _ (sb p0) (so p0 + (a8149).toNat * 8) [(.int .i64 ((gt x0 a8149).fRef.fTx)), (.int .i64 ((gt x0 a8149).fRef.fAt)), (.int .i64 ((gt x0 a8149).fOut.fValue)), u, (.int .i64 ((gt x0 a8149).fOut.fRule.fNeed)), (.int .i64 ((gt x0 a8149).fOut.fRule.fAfter)), (.int .i64 ((gt x0 a8149).fHeight)), (.bool ((gt x0 a8149).fMined))] ∧ RdS kInt _ u ((gt x0 a8149).fOut.fRule.fKeys) := rd_with1 hp0 e8258
            refine ox rfl rfl rfl rfl (ex_indexAddr (d := kCoin) rfl rfl rfl Tryz.underlying29 tsz72 hp0 (idx_lo e8258) (idx_hi e8258)) ?_
            refine ox rfl rfl rfl rfl (ex_fieldAddr (off' := so p0 + (a8149).toNat * 8 + 2) rfl rfl Tryz.underlying72 rfl tsz70 rfl) ?_
            refine ox rfl rfl rfl rfl (ex_fieldAddr (off' := so p0 + (a8149).toNat * 8 + 3) rfl rfl Tryz.underlying70 rfl tsz68 rfl) ?_
            refine ox rfl rfl rfl rfl (ex_fieldAddr (off' := so p0 + (a8149).toNat * 8 + 3) rfl rfl Tryz.underlying68 rfl tsz49 rfl) ?_
            refine ox rfl rfl rfl rfl (ex_load1 rfl rfl Tryz.underlying49 rfl ((HM.at_ hc8259) 3 _ rfl)) ?_
            refine ox rfl rfl rfl rfl (ex_move rfl rfl) ?_
            refine od rfl rfl rfl rfl (does_callk rfl callok74 rfl (laws_heldInt64S.calls (x0 := (gt x0 a8149).fOut.fRule.fKeys) (x1 := wrap64 ((wrap64 ((wrap64 (a8148 + 1)) + 1)) + 1)) (HM.rd hk8261) h8263)) ?_
            rintro _ w8264 ⟨rfl, hn⟩
            replace HM : Mem w [] w8264 [] := HM.call hn
            refine ox rfl rfl rfl rfl (ex_assign rfl rfl) ?_
            refine ops_nil (at_then (run_seq ?_))
            refine run_seq ?_
            refine run_region rfl ?_
            refine ox rfl rfl rfl rfl (ex_move rfl rfl) ?_
            refine ox rfl rfl rfl rfl (ex_lss rfl rfl rfl) ?_
            refine ops_nil (at_then ?_)
            refine run_cond (b := (decide (t8262 < 0))) rfl (fun hb8266 => ?_) (fun hb8266 => ?_)
            · replace ho8072 := cond_t hb8266 ho8072
              refine run_seq ?_
              refine run_region rfl ?_
              refine ox rfl rfl rfl rfl (ex_assign rfl rfl) ?_
              refine ops_nil (at_then ?_)
              refine run_ret ?_
              refine at_then_ret ?_
              refine at_block_ret ?_
              refine at_then_ret ?_
              refine at_then_ret ?_
              refine at_block_ret ?_
              refine at_then_ret ?_
              have hR := Option.some.inj ho8072
              subst hR
              have hT := thn_inl H
              have hR := Option.some.inj hT
              subst hR
              exact at_ret1 rfl rfl ⟨_, rfl, rfl, HM⟩
            · replace ho8072 := cond_f hb8266 ho8072
              refine run_skip ?_
              refine at_then ?_
              refine run_seq ?_
              refine run_seq ?_
              obtain ⟨e8272, ho8072⟩ := chk_some ho8072
              refine run_region rfl ?_
              refine ox rfl rfl rfl rfl (ex_move rfl rfl) ?_
              refine ox rfl rfl rfl rfl (ex_move rfl rfl) ?_
              obtain ⟨kv8274, hc8273, hk8275⟩ : ∃ u, CellsAt _ (sb p0) (so p0 + (a8149).toNat * 8) [(.int .i64 ((gt x0 a8149).fRef.fTx)), (.int .i64 ((gt x0 a8149).fRef.fAt)), (.int .i64 ((gt x0 a8149).fOut.fValue)), u, (.int .i64 ((gt x0 a8149).fOut.fRule.fNeed)), (.int .i64 ((gt x0 a8149).fOut.fRule.fAfter)), (.int .i64 ((gt x0 a8149).fHeight)), (.bool ((gt x0 a8149).fMined))] ∧ RdS kInt _ u ((gt x0 a8149).fOut.fRule.fKeys) := rd_with1 hp0 e8272
              refine ox rfl rfl rfl rfl (ex_indexAddr (d := kCoin) rfl rfl rfl Tryz.underlying29 tsz72 hp0 (idx_lo e8272) (idx_hi e8272)) ?_
              refine ox rfl rfl rfl rfl (ex_fieldAddr (off' := so p0 + (a8149).toNat * 8 + 2) rfl rfl Tryz.underlying72 rfl tsz70 rfl) ?_
              refine ox rfl rfl rfl rfl (ex_fieldAddr (off' := so p0 + (a8149).toNat * 8 + 3) rfl rfl Tryz.underlying70 rfl tsz68 rfl) ?_
              refine ox rfl rfl rfl rfl (ex_fieldAddr (off' := so p0 + (a8149).toNat * 8 + 4) rfl rfl Tryz.underlying68 rfl tsz2 rfl) ?_
              refine ox rfl rfl rfl rfl (ex_load1 rfl rfl Tryz.underlying2 rfl ((HM.at_ hc8273) 4 _ rfl)) ?_
              refine ox rfl rfl rfl rfl (ex_move rfl rfl) ?_
              refine ox rfl rfl rfl rfl (ex_neq rfl rfl rfl) ?_
              refine ops_nil (at_then ?_)
              refine run_cond (b := (((gt x0 a8149).fOut.fRule.fNeed) != t8262)) rfl (fun hb8276 => ?_) (fun hb8276 => ?_)
              · replace ho8072 := cond_t hb8276 ho8072
                refine run_seq ?_
                refine run_region rfl ?_
                refine ox rfl rfl rfl rfl (ex_assign rfl rfl) ?_
                refine ops_nil (at_then ?_)
                refine run_ret ?_
                refine at_then_ret ?_
                refine at_block_ret ?_
                refine at_then_ret ?_
                refine at_then_ret ?_
                refine at_block_ret ?_
                refine at_then_ret ?_
                have hR := Option.some.inj ho8072
                subst hR
                have hT := thn_inl H
                have hR := Option.some.inj hT
                subst hR
                exact at_ret1 rfl rfl ⟨_, rfl, rfl, HM⟩
              · replace ho8072 := cond_f hb8276 ho8072
                refine run_skip ?_
                refine at_then ?_
                refine run_seq ?_
                refine run_region rfl ?_
                refine ox rfl rfl rfl rfl (ex_move rfl rfl) ?_
                refine ox rfl rfl rfl rfl (ex_add rfl rfl rfl) ?_
                refine ox rfl rfl rfl rfl (ex_assign rfl rfl) ?_
                refine ops_nil (at_then (run_seq ?_))
                refine run_seq ?_
                obtain ⟨e8282, ho8072⟩ := chk_some ho8072
                refine run_region rfl ?_
                refine ox rfl rfl rfl rfl (ex_move rfl rfl) ?_
                refine ox rfl rfl rfl rfl (ex_move rfl rfl) ?_
                obtain ⟨kv8284, hc8283, hk8285⟩ : ∃ u, CellsAt _ (sb p0) (so p0 + (a8149).toNat * 8) [(.int .i64 ((gt x0 a8149).fRef.fTx)), (.int .i64 ((gt x0 a8149).fRef.fAt)), (.int .i64 ((gt x0 a8149).fOut.fValue)), u, (.int .i64 ((gt x0 a8149).fOut.fRule.fNeed)), (.int .i64 ((gt x0 a8149).fOut.fRule.fAfter)), (.int .i64 ((gt x0 a8149).fHeight)), (.bool ((gt x0 a8149).fMined))] ∧ RdS kInt _ u ((gt x0 a8149).fOut.fRule.fKeys) := rd_with1 hp0 e8282
                refine ox rfl rfl rfl rfl (ex_indexAddr (d := kCoin) rfl rfl rfl Tryz.underlying29 tsz72 hp0 (idx_lo e8282) (idx_hi e8282)) ?_
                refine ox rfl rfl rfl rfl (ex_fieldAddr (off' := so p0 + (a8149).toNat * 8 + 2) rfl rfl Tryz.underlying72 rfl tsz70 rfl) ?_
                refine ox rfl rfl rfl rfl (ex_fieldAddr (off' := so p0 + (a8149).toNat * 8 + 3) rfl rfl Tryz.underlying70 rfl tsz68 rfl) ?_
                refine ox rfl rfl rfl rfl (ex_fieldAddr (off' := so p0 + (a8149).toNat * 8 + 5) rfl rfl Tryz.underlying68 rfl tsz2 rfl) ?_
                refine ox rfl rfl rfl rfl (ex_load1 rfl rfl Tryz.underlying2 rfl ((HM.at_ hc8283) 5 _ rfl)) ?_
                refine ox rfl rfl rfl rfl (ex_move rfl rfl) ?_
                refine ox rfl rfl rfl rfl (ex_neq rfl rfl rfl) ?_
                refine ops_nil (at_then ?_)
                refine run_cond (b := (((gt x0 a8149).fOut.fRule.fAfter) != (wrap64 (t8262 + 1)))) rfl (fun hb8286 => ?_) (fun hb8286 => ?_)
                · replace ho8072 := cond_t hb8286 ho8072
                  refine run_seq ?_
                  refine run_region rfl ?_
                  refine ox rfl rfl rfl rfl (ex_assign rfl rfl) ?_
                  refine ops_nil (at_then ?_)
                  refine run_ret ?_
                  refine at_then_ret ?_
                  refine at_block_ret ?_
                  refine at_then_ret ?_
                  refine at_then_ret ?_
                  refine at_block_ret ?_
                  refine at_then_ret ?_
                  have hR := Option.some.inj ho8072
                  subst hR
                  have hT := thn_inl H
                  have hR := Option.some.inj hT
                  subst hR
                  exact at_ret1 rfl rfl ⟨_, rfl, rfl, HM⟩
                · replace ho8072 := cond_f hb8286 ho8072
                  refine run_skip ?_
                  refine at_then ?_
                  refine run_seq ?_
                  refine run_region rfl ?_
                  refine ox rfl rfl rfl rfl (ex_move rfl rfl) ?_
                  refine ox rfl rfl rfl rfl (ex_add rfl rfl rfl) ?_
                  refine ox rfl rfl rfl rfl (ex_assign rfl rfl) ?_
                  refine ops_nil (at_then (run_seq ?_))
                  refine run_seq ?_
                  obtain ⟨e8292, ho8072⟩ := chk_some ho8072
                  refine run_region rfl ?_
                  refine ox rfl rfl rfl rfl (ex_move rfl rfl) ?_
                  refine ox rfl rfl rfl rfl (ex_move rfl rfl) ?_
                  obtain ⟨kv8294, hc8293, hk8295⟩ : ∃ u, CellsAt _ (sb p0) (so p0 + (a8149).toNat * 8) [(.int .i64 ((gt x0 a8149).fRef.fTx)), (.int .i64 ((gt x0 a8149).fRef.fAt)), (.int .i64 ((gt x0 a8149).fOut.fValue)), u, (.int .i64 ((gt x0 a8149).fOut.fRule.fNeed)), (.int .i64 ((gt x0 a8149).fOut.fRule.fAfter)), (.int .i64 ((gt x0 a8149).fHeight)), (.bool ((gt x0 a8149).fMined))] ∧ RdS kInt _ u ((gt x0 a8149).fOut.fRule.fKeys) := rd_with1 hp0 e8292
                  refine ox rfl rfl rfl rfl (ex_indexAddr (d := kCoin) rfl rfl rfl Tryz.underlying29 tsz72 hp0 (idx_lo e8292) (idx_hi e8292)) ?_
                  refine ox rfl rfl rfl rfl (ex_fieldAddr (off' := so p0 + (a8149).toNat * 8 + 6) rfl rfl Tryz.underlying72 rfl tsz2 rfl) ?_
                  refine ox rfl rfl rfl rfl (ex_load1 rfl rfl Tryz.underlying2 rfl ((HM.at_ hc8293) 6 _ rfl)) ?_
                  refine ox rfl rfl rfl rfl (ex_move rfl rfl) ?_
                  refine ox rfl rfl rfl rfl (ex_neq rfl rfl rfl) ?_
                  refine ops_nil (at_then ?_)
                  refine run_cond (b := (((gt x0 a8149).fHeight) != (wrap64 ((wrap64 (t8262 + 1)) + 1)))) rfl (fun hb8296 => ?_) (fun hb8296 => ?_)
                  · replace ho8072 := cond_t hb8296 ho8072
                    refine run_seq ?_
                    refine run_region rfl ?_
                    refine ox rfl rfl rfl rfl (ex_assign rfl rfl) ?_
                    refine ops_nil (at_then ?_)
                    refine run_ret ?_
                    refine at_then_ret ?_
                    refine at_block_ret ?_
                    refine at_then_ret ?_
                    refine at_then_ret ?_
                    refine at_block_ret ?_
                    refine at_then_ret ?_
                    have hR := Option.some.inj ho8072
                    subst hR
                    have hT := thn_inl H
                    have hR := Option.some.inj hT
                    subst hR
                    exact at_ret1 rfl rfl ⟨_, rfl, rfl, HM⟩
                  · replace ho8072 := cond_f hb8296 ho8072
                    refine run_skip ?_
                    refine at_then ?_
                    refine run_seq ?_
                    refine run_region rfl ?_
                    refine ox rfl rfl rfl rfl (ex_move rfl rfl) ?_
                    refine ox rfl rfl rfl rfl (ex_add rfl rfl rfl) ?_
                    refine ox rfl rfl rfl rfl (ex_assign rfl rfl) ?_
                    refine ops_nil (at_then (run_seq ?_))
                    refine run_seq ?_
                    obtain ⟨e8297, ho8072⟩ := chk_some ho8072
                    obtain ⟨e8301, ho8072⟩ := chk_some ho8072
                    refine run_region rfl ?_
                    refine ox rfl rfl rfl rfl (ex_move rfl rfl) ?_
                    refine ox rfl rfl rfl rfl (ex_move rfl rfl) ?_
                    obtain ⟨kv8299, hc8298, hk8300⟩ : ∃ u, CellsAt _ (sb p0) (so p0 + (a8149).toNat * 8) [(.int .i64 ((gt x0 a8149).fRef.fTx)), (.int .i64 ((gt x0 a8149).fRef.fAt)), (.int .i64 ((gt x0 a8149).fOut.fValue)), u, (.int .i64 ((gt x0 a8149).fOut.fRule.fNeed)), (.int .i64 ((gt x0 a8149).fOut.fRule.fAfter)), (.int .i64 ((gt x0 a8149).fHeight)), (.bool ((gt x0 a8149).fMined))] ∧ RdS kInt _ u ((gt x0 a8149).fOut.fRule.fKeys) := rd_with1 hp0 e8297
                    refine ox rfl rfl rfl rfl (ex_indexAddr (d := kCoin) rfl rfl rfl Tryz.underlying29 tsz72 hp0 (idx_lo e8297) (idx_hi e8297)) ?_
                    refine ox rfl rfl rfl rfl (ex_fieldAddr (off' := so p0 + (a8149).toNat * 8 + 7) rfl rfl Tryz.underlying72 rfl tsz4 rfl) ?_
                    refine ox rfl rfl rfl rfl (ex_load1 rfl rfl Tryz.underlying4 rfl ((HM.at_ hc8298) 7 _ rfl)) ?_
                    refine ox rfl rfl rfl rfl (ex_move rfl rfl) ?_
                    refine ox rfl rfl rfl rfl (ex_remk rfl rfl rfl e8301) ?_
                    refine ox rfl rfl rfl rfl (ex_eql rfl rfl rfl) ?_
                    refine ox rfl rfl rfl rfl (ex_bneq rfl rfl rfl Tryz.underlying4) ?_
                    refine ops_nil (at_then ?_)
                    refine run_cond (b := (((gt x0 a8149).fMined) != ((Int.tmod (wrap64 ((wrap64 ((wrap64 (t8262 + 1)) + 1)) + 1)) (3 : Int)) == 0))) rfl (fun hb8302 => ?_) (fun hb8302 => ?_)
                    · replace ho8072 := cond_t hb8302 ho8072
                      refine run_seq ?_
                      refine run_region rfl ?_
                      refine ox rfl rfl rfl rfl (ex_assign rfl rfl) ?_
                      refine ops_nil (at_then ?_)
                      refine run_ret ?_
                      refine at_then_ret ?_
                      refine at_block_ret ?_
                      refine at_then_ret ?_
                      refine at_then_ret ?_
                      refine at_block_ret ?_
                      refine at_then_ret ?_
                      have hR := Option.some.inj ho8072
                      subst hR
                      have hT := thn_inl H
                      have hR := Option.some.inj hT
                      subst hR
                      exact at_ret1 rfl rfl ⟨_, rfl, rfl, HM⟩
                    · replace ho8072 := cond_f hb8302 ho8072
                      refine run_skip ?_
                      refine at_then ?_
                      refine run_region rfl ?_
                      refine ox rfl rfl rfl rfl (ex_move rfl rfl) ?_
                      refine ox rfl rfl rfl rfl (ex_add rfl rfl rfl) ?_
                      refine ox rfl rfl rfl rfl (ex_assign rfl rfl) ?_
                      refine ops_nil ?_
                      refine at_block ?_
                      refine at_then ?_
                      refine run_region rfl ?_
                      refine ox rfl rfl rfl rfl (ex_move rfl rfl) ?_
                      refine ox rfl rfl rfl rfl (ex_add rfl rfl rfl) ?_
                      refine ox rfl rfl rfl rfl (ex_assign rfl rfl) ?_
                      refine ops_nil ?_
                      exact at_again k8225 (ρ1 := [(0, p0), (1, .int .i64 (wrap64 ((wrap64 ((wrap64 ((wrap64 (t8262 + 1)) + 1)) + 1)) + 1))), (5, .int .i64 (wrap64 (a8149 + 1)))]) (Nat.lt_succ_self _) ⟨_, _, ho8072, rfl, HM⟩ (Sub.cons rfl (Sub.cons rfl (Sub.cons rfl Sub.nil)))
    · replace ho8072 := cond_f hb8227 ho8072
      refine run_exit ?_
      refine at_then_exit ?_
      refine at_then_exit ?_
      refine at_block_exit ?_
      exact at_mid (ρ' := [(1, .int .i64 a8148)]) ⟨_, (Option.some.inj ho8072), rfl, HM⟩ (Sub.cons rfl Sub.nil)
  · rintro _ w8303 ⟨a8070, rfl, rfl, HM⟩
    replace H := (thn_inr H)
    refine run_seq ?_
    refine run_region rfl ?_
    refine ox rfl rfl rfl rfl (ex_move rfl rfl) ?_
    refine ox rfl rfl rfl rfl (ex_assign rfl rfl) ?_
    refine ops_nil (at_then ?_)
    refine run_ret ?_
    have hR := Option.some.inj H
    subst hR
    exact at_ret1 rfl rfl ⟨_, rfl, rfl, HM⟩

def laws_heldCoinsResult.f (k : Nat) (x0 : CoinsResult) (x1 : Int) : Option Int := ((laws_heldCoinS.f k x0.fCoins x1).bind fun t8311 => (bif (decide (t8311 < 0)) then some (-1) else some t8311))
theorem laws_heldCoinsResult.calls {k : Nat} {x0 : CoinsResult} {x1 : Int} {p0_0 : Value} {w : World} (hp0_0 : RdS kCoin w p0_0 x0.fCoins) {r : Int} (H : laws_heldCoinsResult.f k x0 x1 = some r) :
    Calls Tryz.prog 16 ([.agg #[(.int .i64 x0.fCode), p0_0], .int .i64 x1] : List Value).toArray w (fun e w_ => ∃ v, e = .returned v ∧ v = (.int .i64 r) ∧ Mem w [] w_ []) := by
  have HM := Mem.start w
  refine calls_run (N := 12) Tryz.func16 rfl rfl rfl rfl ?_
  unfold laws_heldCoinsResult.f at H
  refine run_seq ?_
  refine run_region rfl ?_
  refine od rfl rfl rfl rfl (does_box (cs := [.int .i64 x0.fCode, p0_0]) rfl rfl rfl HM) ?_
  rintro _ w8310 ⟨b8307, rfl, HM⟩
  refine ox rfl rfl rfl rfl (ex_assign rfl rfl) ?_
  refine ops_nil (at_then (run_seq ?_))
  obtain ⟨t8311, h8312, H⟩ := bind_some H
  refine run_region rfl ?_
  refine ox rfl rfl rfl rfl (ex_fieldAddr (off' := 1) rfl rfl Tryz.underlying31 rfl tsz29 rfl) ?_
  refine ox rfl rfl rfl rfl (ex_load1 rfl rfl Tryz.underlying29 rfl ((HM.box_at 0 rfl) 1 _ rfl)) ?_
  refine ox rfl rfl rfl rfl (ex_move rfl rfl) ?_
  refine od rfl rfl rfl rfl (does_callk rfl callok39 rfl (laws_heldCoinS.calls (x0 := x0.fCoins) (x1 := x1) (HM.rd hp0_0) h8312)) ?_
  rintro _ w8313 ⟨rfl, hn⟩
  replace HM : Mem w [] w8313 [box b8307 31 [.int .i64 x0.fCode, p0_0]] := HM.call hn
  refine ox rfl rfl rfl rfl (ex_assign rfl rfl) ?_
  refine ops_nil (at_then (run_seq ?_))
  refine run_seq ?_
  refine run_region rfl ?_
  refine ox rfl rfl rfl rfl (ex_move rfl rfl) ?_
  refine ox rfl rfl rfl rfl (ex_lss rfl rfl rfl) ?_
  refine ops_nil (at_then ?_)
  refine run_cond (b := (decide (t8311 < 0))) rfl (fun hb8314 => ?_) (fun hb8314 => ?_)
  · replace H := cond_t hb8314 H
    refine run_seq ?_
    refine run_region rfl ?_
    refine ox rfl rfl rfl rfl (ex_assign rfl rfl) ?_
    refine ops_nil (at_then ?_)
    refine run_ret ?_
    refine at_then_ret ?_
    replace HM := (HM.front 0 rfl rfl).drop
    have hR := Option.some.inj H
    subst hR
    exact at_ret1 rfl rfl ⟨_, rfl, rfl, HM⟩
  · replace H := cond_f hb8314 H
    refine run_skip ?_
    refine at_then ?_
    refine run_seq ?_
    refine run_region rfl ?_
    refine ox rfl rfl rfl rfl (ex_move rfl rfl) ?_
    refine ox rfl rfl rfl rfl (ex_assign rfl rfl) ?_
    refine ops_nil (at_then ?_)
    refine run_ret ?_
    replace HM := (HM.front 0 rfl rfl).drop
    have hR := Option.some.inj H
    subst hR
    exact at_ret1 rfl rfl ⟨_, rfl, rfl, HM⟩

def laws_FnExactUndoTx.f (k : Nat) (x0 : List Coin) (x1 : Tx) (x2 : Int) (x3 : List Coin) : Option Bool := ((laws_szCoinS.f k x0 1048576).bind fun t8357 => (bif (decide (t8357 < 0)) then some true else ((laws_szTx.f k x1 t8357).bind fun t8362 => (bif (decide (t8362 < 0)) then some true else ((laws_szCoinS.f k x3 t8362).bind fun t8367 => (bif (decide (t8367 < 0)) then some true else ((laws_toCoinS.f k x0).bind fun t8372 => ((laws_toTx.f k x1).bind fun t8376 => ((laws_toCoinS.f k x3).bind fun t8382 => ((spec_UndoTx.f k t8372 t8376 x2 t8382).bind fun t8386 => ((laws_toCoinS.f k x0).bind fun t8430 => ((laws_toTx.f k x1).bind fun t8435 => ((laws_toCoinS.f k x3).bind fun t8447 => ((impl_UndoTx.f k t8430 t8435 x2 t8447).bind fun t8452 => ((laws_eqCoinsResult.f k t8452 t8386).bind fun t8465 => (bif !t8465 then some false else ((laws_toCoinS.f k x0).bind fun t8476 => ((laws_eqCoinS.f k t8430 t8476).bind fun t8480 => (bif !t8480 then some false else ((laws_toTx.f k x1).bind fun t8494 => ((laws_eqTx.f k t8435 t8494).bind fun t8500 => (bif !t8500 then some false else ((laws_toCoinS.f k x3).bind fun t8512 => ((laws_eqCoinS.f k t8447 t8512).bind fun t8516 => (bif !t8516 then some false else ((laws_markCoinS.f k t8430 1).bind fun t8521 => ((laws_markTx.f k t8435 t8521.1).bind fun t8530 => ((laws_markCoinS.f k t8447 t8530.1).bind fun t8539 => ((bif (!(decide (t8539.1 < 0))) then laws_eqCoinsResult.f k t8452 t8386 else some default).bind fun t8551 => (bif ((decide (t8539.1 < 0)) || (!t8551)) then some false else ((laws_markCoinsResult.f k t8452 1).bind fun t8558 => ((laws_heldCoinsResult.f k (⟨t8452.fCode, t8558.2⟩ : CoinsResult) 1).bind fun t8567 => (bif (decide (t8567 < 0)) then some false else (bif (t8567 != t8558.1) then some false else ((laws_toCoinS.f k x0).bind fun t8574 => ((laws_toTx.f k x1).bind fun t8578 => ((laws_toCoinS.f k x3).bind fun t8584 => ((impl_UndoTx.f k t8574 t8578 x2 t8584).bind fun t8588 => ((laws_eqCoinsResult.f k t8588 t8386).bind fun t8635 => (bif !t8635 then some false else ((laws_heldCoinsResult.f k (⟨t8452.fCode, t8558.2⟩ : CoinsResult) 1).bind fun t8639 => (bif (decide (t8639 < 0)) then some false else (bif (t8639 != t8558.1) then some false else some true)))))))))))))))))))))))))))))))))))))))))))
theorem laws_FnExactUndoTx.calls {k : Nat} {x0 : List Coin} {x1 : Tx} {x2 : Int} {x3 : List Coin} {p0 : Value} {p1_0 : Value} {p1_1 : Value} {p3 : Value} {w : World} (hp0 : RdS kCoin w p0 x0) (hp1_0 : RdS kRef w p1_0 x1.fIns) (hp1_1 : RdS kOut w p1_1 x1.fOuts) (hp3 : RdS kCoin w p3 x3) {r : Bool} (H : laws_FnExactUndoTx.f k x0 x1 x2 x3 = some r) :
    Calls Tryz.prog 3 ([p0, .agg #[(.int .i64 x1.fKind), (.int .i64 x1.fMember), p1_0, p1_1], .int .i64 x2, p3] : List Value).toArray w (fun e w_ => ∃ v, e = .returned v ∧ v = (.bool r) ∧ Mem w [] w_ []) := by
  have HM := Mem.start w
  refine calls_run (N := 120) Tryz.func3 rfl rfl rfl rfl ?_
  unfold laws_FnExactUndoTx.f at H
  refine run_seq ?_
  refine run_region rfl ?_
  refine od rfl rfl rfl rfl (does_box (cs := [.int .i64 x1.fKind, .int .i64 x1.fMember, p1_0, p1_1]) rfl rfl rfl HM) ?_
  rintro _ w8356 ⟨b8353, rfl, HM⟩
  refine ox rfl rfl rfl rfl (ex_assign rfl rfl) ?_
  refine ops_nil (at_then (run_seq ?_))
  refine run_region rfl ?_
  refine ox rfl rfl rfl rfl (ex_assign rfl rfl) ?_
  refine ops_nil (at_then (run_seq ?_))
  obtain ⟨t8357, h8358, H⟩ := bind_some H
  refine run_region rfl ?_
  refine ox rfl rfl rfl rfl (ex_move rfl rfl) ?_
  refine ox rfl rfl rfl rfl (ex_move rfl rfl) ?_
  refine od rfl rfl rfl rfl (does_callk rfl callok4 rfl (laws_szCoinS.calls (x0 := x0) (x1 := 1048576) (HM.rd hp0) h8358)) ?_
  rintro _ w8359 ⟨rfl, hn⟩
  replace HM : Mem w [] w8359 [box b8353 26 [.int .i64 x1.fKind, .int .i64 x1.fMember, p1_0, p1_1]] := HM.call hn
  refine ox rfl rfl rfl rfl (ex_assign rfl rfl) ?_
  refine ops_nil (at_then (run_seq ?_))
  refine run_seq ?_
  refine run_region rfl ?_
  refine ox rfl rfl rfl rfl (ex_move rfl rfl) ?_
  refine ox rfl rfl rfl rfl (ex_lss rfl rfl rfl) ?_
  refine ops_nil (at_then ?_)
  refine run_cond (b := (decide (t8357 < 0))) rfl (fun hb8361 => ?_) (fun hb8361 => ?_)
  · replace H := cond_t hb8361 H
    refine run_seq ?_
    refine run_region rfl ?_
    refine ox rfl rfl rfl rfl (ex_assign rfl rfl) ?_
    refine ops_nil (at_then ?_)
    refine run_ret ?_
    refine at_then_ret ?_
    replace HM := (HM.front 0 rfl rfl).drop
    have hR := Option.some.inj H
    subst hR
    exact at_ret1 rfl rfl ⟨_, rfl, rfl, HM⟩
  · replace H := cond_f hb8361 H
    refine run_skip ?_
    refine at_then ?_
    refine run_seq ?_
    obtain ⟨t8362, h8363, H⟩ := bind_some H
    refine run_region rfl ?_
    refine ox rfl rfl rfl rfl (ex_loadN (cs := [(.int .i64 x1.fKind), (.int .i64 x1.fMember), p1_0, p1_1]) rfl rfl Tryz.underlying26 rfl tsz26 rfl ((HM.box_at 0 rfl).sub 0 4 rfl)) ?_
    refine ox rfl rfl rfl rfl (ex_move rfl rfl) ?_
    refine od rfl rfl rfl rfl (does_callk rfl callok5 rfl (laws_szTx.calls (x0 := x1) (x1 := t8357) (HM.rd hp1_0) (HM.rd hp1_1) h8363)) ?_
    rintro _ w8364 ⟨rfl, hn⟩
    replace HM : Mem w [] w8364 [box b8353 26 [.int .i64 x1.fKind, .int .i64 x1.fMember, p1_0, p1_1]] := HM.call hn
    refine ox rfl rfl rfl rfl (ex_assign rfl rfl) ?_
    refine ops_nil (at_then (run_seq ?_))
    refine run_seq ?_
    refine run_region rfl ?_
    refine ox rfl rfl rfl rfl (ex_move rfl rfl) ?_
    refine ox rfl rfl rfl rfl (ex_lss rfl rfl rfl) ?_
    refine ops_nil (at_then ?_)
    refine run_cond (b := (decide (t8362 < 0))) rfl (fun hb8366 => ?_) (fun hb8366 => ?_)
    · replace H := cond_t hb8366 H
      refine run_seq ?_
      refine run_region rfl ?_
      refine ox rfl rfl rfl rfl (ex_assign rfl rfl) ?_
      refine ops_nil (at_then ?_)
      refine run_ret ?_
      refine at_then_ret ?_
      replace HM := (HM.front 0 rfl rfl).drop
      have hR := Option.some.inj H
      subst hR
      exact at_ret1 rfl rfl ⟨_, rfl, rfl, HM⟩
    · replace H := cond_f hb8366 H
      refine run_skip ?_
      refine at_then ?_
      refine run_seq ?_
      obtain ⟨t8367, h8368, H⟩ := bind_some H
      refine run_region rfl ?_
      refine ox rfl rfl rfl rfl (ex_move rfl rfl) ?_
      refine ox rfl rfl rfl rfl (ex_move rfl rfl) ?_
      refine od rfl rfl rfl rfl (does_callk rfl callok4 rfl (laws_szCoinS.calls (x0 := x3) (x1 := t8362) (HM.rd hp3) h8368)) ?_
      rintro _ w8369 ⟨rfl, hn⟩
      replace HM : Mem w [] w8369 [box b8353 26 [.int .i64 x1.fKind, .int .i64 x1.fMember, p1_0, p1_1]] := HM.call hn
      refine ox rfl rfl rfl rfl (ex_assign rfl rfl) ?_
      refine ops_nil (at_then (run_seq ?_))
      refine run_seq ?_
      refine run_region rfl ?_
      refine ox rfl rfl rfl rfl (ex_move rfl rfl) ?_
      refine ox rfl rfl rfl rfl (ex_lss rfl rfl rfl) ?_
      refine ops_nil (at_then ?_)
      refine run_cond (b := (decide (t8367 < 0))) rfl (fun hb8371 => ?_) (fun hb8371 => ?_)
      · replace H := cond_t hb8371 H
        refine run_seq ?_
        refine run_region rfl ?_
        refine ox rfl rfl rfl rfl (ex_assign rfl rfl) ?_
        refine ops_nil (at_then ?_)
        refine run_ret ?_
        refine at_then_ret ?_
        replace HM := (HM.front 0 rfl rfl).drop
        have hR := Option.some.inj H
        subst hR
        exact at_ret1 rfl rfl ⟨_, rfl, rfl, HM⟩
      · replace H := cond_f hb8371 H
        refine run_skip ?_
        refine at_then ?_
        refine run_seq ?_
        obtain ⟨t8372, h8373, H⟩ := bind_some H
        obtain ⟨t8376, h8377, H⟩ := bind_some H
        obtain ⟨t8382, h8383, H⟩ := bind_some H
        obtain ⟨t8386, h8387, H⟩ := bind_some H
        refine run_meet (fun ρ_ w_ => ∃ u8388 : Value, ∃ b8390 : Nat, ρ_ = [(0, p0), (2, .int .i64 x2), (3, p3), (5, .pointer (some ⟨b8353, 0, none⟩)), (10, .pointer (some ⟨b8390, 0, none⟩))] ∧ Mem w [] w_ [box b8353 26 [.int .i64 x1.fKind, .int .i64 x1.fMember, p1_0, p1_1], box b8390 31 [.int .i64 t8386.fCode, u8388], own kCoin 72 u8388 t8386.fCoins]) ?_ ?_
        · skip
          refine run_draw (fun w_ => Mem w [] w_ [box b8353 26 [.int .i64 x1.fKind, .int .i64 x1.fMember, p1_0, p1_1]]) mixed rfl (l := #[false, false, false, false, false, false, false, false, false, false]) rfl ?_
          replace HM := HM.grow (fr_drew _)
          have hS := Mem.suf (M := []) HM
          refine drw_cut2 (l' := #[true, true, true, false, true, true, false, false, true, false]) (f' := 4) (fun (u8374 : Value) => fun (b8390 : Nat) => [(0, p0), (2, .int .i64 x2), (3, p3), (5, .pointer (some ⟨b8353, 0, none⟩)), (36, .agg #[(.int .i64 x1.fKind), (.int .i64 x1.fMember), p1_0, p1_1]), (38, .int .i64 x2), (39, p3), (35, u8374), (10, .pointer (some ⟨b8390, 0, none⟩))]) (fun (u8374 : Value) => fun (b8390 : Nat) => fun w_ => Mem w [] w_ [box b8390 31 [.int .i64 0, .slice none 0 0], own kCoin 72 u8374 t8372, box b8353 26 [.int .i64 x1.fKind, .int .i64 x1.fMember, p1_0, p1_1]]) ?_ (fun K8407 => ?_)
          · rintro u8374 b8390 w8408 HM
            replace HM : Mem w [] w8408 [box b8390 31 [.int .i64 0, .slice none 0 0], own kCoin 72 u8374 t8372, box b8353 26 [.int .i64 x1.fKind, .int .i64 x1.fMember, p1_0, p1_1]] := HM
            have hS := Mem.suf (M := [box b8390 31 [.int .i64 0, .slice none 0 0], own kCoin 72 u8374 t8372]) HM
            refine drw_any [3] (by kernel_rfl) rfl (.cons ?_ .nil)
            refine br_does (l' := #[true, true, true, true, true, true, false, false, true, false]) rfl (guard_none rfl) rfl rfl (by kernel_rfl) (does_callk rfl callok8 rfl (laws_toTx.calls (x0 := x1) (HM.rd hp1_0) (HM.rd hp1_1) h8377)) ?_
            rintro _ w8409 ⟨u8378, u8380, rfl, hn⟩
            replace HM : Mem w [] w8409 [own kRef 66 u8378 t8376.fIns, own kOut 70 u8380 t8376.fOuts, box b8390 31 [.int .i64 0, .slice none 0 0], own kCoin 72 u8374 t8372, box b8353 26 [.int .i64 x1.fKind, .int .i64 x1.fMember, p1_0, p1_1]] := HM.call hn
            have hS := Mem.suf (M := [own kRef 66 u8378 t8376.fIns, own kOut 70 u8380 t8376.fOuts, box b8390 31 [.int .i64 0, .slice none 0 0], own kCoin 72 u8374 t8372]) HM
            refine ⟨hS, ?_⟩
            refine drw_any [6] (by kernel_rfl) rfl (.cons ?_ .nil)
            refine br_does (l' := #[true, true, true, true, true, true, true, false, true, false]) rfl (guard_none rfl) rfl rfl (by kernel_rfl) (does_callk rfl callok7 rfl (laws_toCoinS.calls (x0 := x3) (HM.rd hp3) h8383)) ?_
            rintro u8384 w8410 ⟨_, rfl, hn⟩
            replace HM : Mem w [] w8410 [own kCoin 72 u8384 t8382, own kRef 66 u8378 t8376.fIns, own kOut 70 u8380 t8376.fOuts, box b8390 31 [.int .i64 0, .slice none 0 0], own kCoin 72 u8374 t8372, box b8353 26 [.int .i64 x1.fKind, .int .i64 x1.fMember, p1_0, p1_1]] := HM.call hn
            have hS := Mem.suf (M := [own kCoin 72 u8384 t8382, own kRef 66 u8378 t8376.fIns, own kOut 70 u8380 t8376.fOuts, box b8390 31 [.int .i64 0, .slice none 0 0], own kCoin 72 u8374 t8372]) HM
            refine ⟨hS, ?_⟩
            refine drw_any [7] (by kernel_rfl) rfl (.cons ?_ .nil)
            refine br_does (l' := #[true, true, true, true, true, true, true, true, true, false]) rfl (guard_none rfl) rfl rfl (by kernel_rfl) (does_callk rfl callok6 rfl (spec_UndoTx.calls (x0 := t8372) (x1 := t8376) (x2 := x2) (x3 := t8382) (HM.own_rd 4 rfl) (HM.own_rd 1 rfl) (HM.own_rd 2 rfl) (HM.own_rd 0 rfl) h8387)) ?_
            rintro _ w8411 ⟨u8388, rfl, hn⟩
            replace HM : Mem w [] w8411 [own kCoin 72 u8388 t8386.fCoins, own kCoin 72 u8384 t8382, own kRef 66 u8378 t8376.fIns, own kOut 70 u8380 t8376.fOuts, box b8390 31 [.int .i64 0, .slice none 0 0], own kCoin 72 u8374 t8372, box b8353 26 [.int .i64 x1.fKind, .int .i64 x1.fMember, p1_0, p1_1]] := HM.call hn
            have hS := Mem.suf (M := [own kCoin 72 u8388 t8386.fCoins, own kCoin 72 u8384 t8382, own kRef 66 u8378 t8376.fIns, own kOut 70 u8380 t8376.fOuts, box b8390 31 [.int .i64 0, .slice none 0 0], own kCoin 72 u8374 t8372]) HM
            refine ⟨hS, ?_⟩
            replace HM := HM.front 4 rfl rfl
            refine drw_any [9] (by kernel_rfl) rfl (.cons ?_ .nil)
            refine br_doesS (l' := #[true, true, true, true, true, true, true, true, true, true]) rfl (guard_none rfl) rfl (by kernel_rfl) (does_store (vs := [.int .i64 t8386.fCode, u8388]) (cs' := [.int .i64 t8386.fCode, u8388]) rfl rfl rfl rfl tsz31 (Ones.int (Ones.rd (HM.own_rd 1 rfl) Ones.nil)) rfl rfl HM) ?_
            rintro w8412 HM
            have hS := Mem.suf (M := [box b8390 31 [.int .i64 t8386.fCode, u8388], own kCoin 72 u8388 t8386.fCoins, own kCoin 72 u8384 t8382, own kRef 66 u8378 t8376.fIns, own kOut 70 u8380 t8376.fOuts, own kCoin 72 u8374 t8372]) HM
            refine ⟨hS, ?_⟩
            refine drw_done (by kernel_rfl) ?_
            replace HM := (HM.front 2 rfl rfl).drop
            replace HM := (HM.front 2 rfl rfl).drop
            replace HM := (HM.front 2 rfl rfl).drop
            replace HM := (HM.front 2 rfl rfl).drop
            replace HM := HM.front 1 rfl rfl
            replace HM := HM.front 1 rfl rfl
            replace HM := HM.front 2 rfl rfl
            exact at_meet [(0, p0), (2, .int .i64 x2), (3, p3), (5, .pointer (some ⟨b8353, 0, none⟩)), (10, .pointer (some ⟨b8390, 0, none⟩))] ⟨_, _, rfl, HM⟩ (Sub.cons rfl (Sub.cons rfl (Sub.cons rfl (Sub.cons rfl (Sub.cons rfl Sub.nil)))))
          refine dt 0 #[true, false, false, false, false, false, false, false, false, false] rfl rfl rfl rfl (by kernel_rfl) (ex_move rfl rfl) hS ?_
          refine drw_take (i := 2) (l' := #[true, false, true, false, false, false, false, false, false, false]) rfl (guard_none rfl) rfl rfl (by kernel_rfl) (fun w_ hS_ => (ex_loadN (cs := [(.int .i64 x1.fKind), (.int .i64 x1.fMember), p1_0, p1_1]) rfl rfl Tryz.underlying26 rfl tsz26 rfl ((hS_.box_at 0 rfl).sub 0 4 rfl))) hS ?_
          refine dt 4 #[true, false, true, false, true, false, false, false, false, false] rfl rfl rfl rfl (by kernel_rfl) (ex_move rfl rfl) hS ?_
          refine dt 5 #[true, false, true, false, true, true, false, false, false, false] rfl rfl rfl rfl (by kernel_rfl) (ex_move rfl rfl) hS ?_
          refine drw_any [1, 8] (by kernel_rfl) rfl (.cons ?_ (.cons ?_ .nil))
          · skip
            refine br_does (l' := #[true, true, true, false, true, true, false, false, false, false]) rfl (guard_none rfl) rfl rfl (by kernel_rfl) (does_callk rfl callok7 rfl (laws_toCoinS.calls (x0 := x0) (HM.rd hp0) h8373)) ?_
            rintro u8374 w8413 ⟨_, rfl, hn⟩
            replace HM : Mem w [] w8413 [own kCoin 72 u8374 t8372, box b8353 26 [.int .i64 x1.fKind, .int .i64 x1.fMember, p1_0, p1_1]] := HM.call hn
            have hS := Mem.suf (M := [own kCoin 72 u8374 t8372]) HM
            refine ⟨hS, ?_⟩
            refine drw_any [3, 8] (by kernel_rfl) rfl (.cons ?_ (.cons ?_ .nil))
            · skip
              refine br_does (l' := #[true, true, true, true, true, true, false, false, false, false]) rfl (guard_none rfl) rfl rfl (by kernel_rfl) (does_callk rfl callok8 rfl (laws_toTx.calls (x0 := x1) (HM.rd hp1_0) (HM.rd hp1_1) h8377)) ?_
              rintro _ w8414 ⟨u8378, u8380, rfl, hn⟩
              replace HM : Mem w [] w8414 [own kRef 66 u8378 t8376.fIns, own kOut 70 u8380 t8376.fOuts, own kCoin 72 u8374 t8372, box b8353 26 [.int .i64 x1.fKind, .int .i64 x1.fMember, p1_0, p1_1]] := HM.call hn
              have hS := Mem.suf (M := [own kRef 66 u8378 t8376.fIns, own kOut 70 u8380 t8376.fOuts, own kCoin 72 u8374 t8372]) HM
              refine ⟨hS, ?_⟩
              refine drw_any [6, 8] (by kernel_rfl) rfl (.cons ?_ (.cons ?_ .nil))
              · skip
                refine br_does (l' := #[true, true, true, true, true, true, true, false, false, false]) rfl (guard_none rfl) rfl rfl (by kernel_rfl) (does_callk rfl callok7 rfl (laws_toCoinS.calls (x0 := x3) (HM.rd hp3) h8383)) ?_
                rintro u8384 w8415 ⟨_, rfl, hn⟩
                replace HM : Mem w [] w8415 [own kCoin 72 u8384 t8382, own kRef 66 u8378 t8376.fIns, own kOut 70 u8380 t8376.fOuts, own kCoin 72 u8374 t8372, box b8353 26 [.int .i64 x1.fKind, .int .i64 x1.fMember, p1_0, p1_1]] := HM.call hn
                have hS := Mem.suf (M := [own kCoin 72 u8384 t8382, own kRef 66 u8378 t8376.fIns, own kOut 70 u8380 t8376.fOuts, own kCoin 72 u8374 t8372]) HM
                refine ⟨hS, ?_⟩
                refine drw_any [7, 8] (by kernel_rfl) rfl (.cons ?_ (.cons ?_ .nil))
                · skip
                  refine br_does (l' := #[true, true, true, true, true, true, true, true, false, false]) rfl (guard_none rfl) rfl rfl (by kernel_rfl) (does_callk rfl callok6 rfl (spec_UndoTx.calls (x0 := t8372) (x1 := t8376) (x2 := x2) (x3 := t8382) (HM.own_rd 3 rfl) (HM.own_rd 1 rfl) (HM.own_rd 2 rfl) (HM.own_rd 0 rfl) h8387)) ?_
                  rintro _ w8416 ⟨u8388, rfl, hn⟩
                  replace HM : Mem w [] w8416 [own kCoin 72 u8388 t8386.fCoins, own kCoin 72 u8384 t8382, own kRef 66 u8378 t8376.fIns, own kOut 70 u8380 t8376.fOuts, own kCoin 72 u8374 t8372, box b8353 26 [.int .i64 x1.fKind, .int .i64 x1.fMember, p1_0, p1_1]] := HM.call hn
                  have hS := Mem.suf (M := [own kCoin 72 u8388 t8386.fCoins, own kCoin 72 u8384 t8382, own kRef 66 u8378 t8376.fIns, own kOut 70 u8380 t8376.fOuts, own kCoin 72 u8374 t8372]) HM
                  refine ⟨hS, ?_⟩
                  refine drw_any [8] (by kernel_rfl) rfl (.cons ?_ .nil)
                  refine br_does (l' := #[true, true, true, true, true, true, true, true, true, false]) rfl (guard_none rfl) rfl rfl (by kernel_rfl) (does_alloc (cs := [.int .i64 0, .slice none 0 0]) rfl tz31 rfl HM) ?_
                  rintro _ w8417 ⟨b8390, rfl, HM⟩
                  have hS := Mem.suf (M := [box b8390 31 [.int .i64 0, .slice none 0 0], own kCoin 72 u8388 t8386.fCoins, own kCoin 72 u8384 t8382, own kRef 66 u8378 t8376.fIns, own kOut 70 u8380 t8376.fOuts, own kCoin 72 u8374 t8372]) HM
                  refine ⟨hS, ?_⟩
                  refine drw_any [9] (by kernel_rfl) rfl (.cons ?_ .nil)
                  refine br_doesS (l' := #[true, true, true, true, true, true, true, true, true, true]) rfl (guard_none rfl) rfl (by kernel_rfl) (does_store (vs := [.int .i64 t8386.fCode, u8388]) (cs' := [.int .i64 t8386.fCode, u8388]) rfl rfl rfl rfl tsz31 (Ones.int (Ones.rd (HM.own_rd 1 rfl) Ones.nil)) rfl rfl HM) ?_
                  rintro w8418 HM
                  have hS := Mem.suf (M := [box b8390 31 [.int .i64 t8386.fCode, u8388], own kCoin 72 u8388 t8386.fCoins, own kCoin 72 u8384 t8382, own kRef 66 u8378 t8376.fIns, own kOut 70 u8380 t8376.fOuts, own kCoin 72 u8374 t8372]) HM
                  refine ⟨hS, ?_⟩
                  refine drw_done (by kernel_rfl) ?_
                  replace HM := (HM.front 2 rfl rfl).drop
                  replace HM := (HM.front 2 rfl rfl).drop
                  replace HM := (HM.front 2 rfl rfl).drop
                  replace HM := (HM.front 2 rfl rfl).drop
                  replace HM := HM.front 1 rfl rfl
                  replace HM := HM.front 1 rfl rfl
                  replace HM := HM.front 2 rfl rfl
                  exact at_meet [(0, p0), (2, .int .i64 x2), (3, p3), (5, .pointer (some ⟨b8353, 0, none⟩)), (10, .pointer (some ⟨b8390, 0, none⟩))] ⟨_, _, rfl, HM⟩ (Sub.cons rfl (Sub.cons rfl (Sub.cons rfl (Sub.cons rfl (Sub.cons rfl Sub.nil)))))
                · skip
                  refine br_does (l' := #[true, true, true, true, true, true, true, false, true, false]) rfl (guard_none rfl) rfl rfl (by kernel_rfl) (does_alloc (cs := [.int .i64 0, .slice none 0 0]) rfl tz31 rfl HM) ?_
                  rintro _ w8419 ⟨b8390, rfl, HM⟩
                  have hS := Mem.suf (M := [box b8390 31 [.int .i64 0, .slice none 0 0], own kCoin 72 u8384 t8382, own kRef 66 u8378 t8376.fIns, own kOut 70 u8380 t8376.fOuts, own kCoin 72 u8374 t8372]) HM
                  refine ⟨hS, ?_⟩
                  refine drw_any [7] (by kernel_rfl) rfl (.cons ?_ .nil)
                  refine br_does (l' := #[true, true, true, true, true, true, true, true, true, false]) rfl (guard_none rfl) rfl rfl (by kernel_rfl) (does_callk rfl callok6 rfl (spec_UndoTx.calls (x0 := t8372) (x1 := t8376) (x2 := x2) (x3 := t8382) (HM.own_rd 4 rfl) (HM.own_rd 2 rfl) (HM.own_rd 3 rfl) (HM.own_rd 1 rfl) h8387)) ?_
                  rintro _ w8420 ⟨u8388, rfl, hn⟩
                  replace HM : Mem w [] w8420 [own kCoin 72 u8388 t8386.fCoins, box b8390 31 [.int .i64 0, .slice none 0 0], own kCoin 72 u8384 t8382, own kRef 66 u8378 t8376.fIns, own kOut 70 u8380 t8376.fOuts, own kCoin 72 u8374 t8372, box b8353 26 [.int .i64 x1.fKind, .int .i64 x1.fMember, p1_0, p1_1]] := HM.call hn
                  have hS := Mem.suf (M := [own kCoin 72 u8388 t8386.fCoins, box b8390 31 [.int .i64 0, .slice none 0 0], own kCoin 72 u8384 t8382, own kRef 66 u8378 t8376.fIns, own kOut 70 u8380 t8376.fOuts, own kCoin 72 u8374 t8372]) HM
                  refine ⟨hS, ?_⟩
                  replace HM := HM.front 1 rfl rfl
                  refine drw_any [9] (by kernel_rfl) rfl (.cons ?_ .nil)
                  refine br_doesS (l' := #[true, true, true, true, true, true, true, true, true, true]) rfl (guard_none rfl) rfl (by kernel_rfl) (does_store (vs := [.int .i64 t8386.fCode, u8388]) (cs' := [.int .i64 t8386.fCode, u8388]) rfl rfl rfl rfl tsz31 (Ones.int (Ones.rd (HM.own_rd 1 rfl) Ones.nil)) rfl rfl HM) ?_
                  rintro w8421 HM
                  have hS := Mem.suf (M := [box b8390 31 [.int .i64 t8386.fCode, u8388], own kCoin 72 u8388 t8386.fCoins, own kCoin 72 u8384 t8382, own kRef 66 u8378 t8376.fIns, own kOut 70 u8380 t8376.fOuts, own kCoin 72 u8374 t8372]) HM
                  refine ⟨hS, ?_⟩
                  refine drw_done (by kernel_rfl) ?_
                  replace HM := (HM.front 2 rfl rfl).drop
                  replace HM := (HM.front 2 rfl rfl).drop
                  replace HM := (HM.front 2 rfl rfl).drop
                  replace HM := (HM.front 2 rfl rfl).drop
                  replace HM := HM.front 1 rfl rfl
                  replace HM := HM.front 1 rfl rfl
                  replace HM := HM.front 2 rfl rfl
                  exact at_meet [(0, p0), (2, .int .i64 x2), (3, p3), (5, .pointer (some ⟨b8353, 0, none⟩)), (10, .pointer (some ⟨b8390, 0, none⟩))] ⟨_, _, rfl, HM⟩ (Sub.cons rfl (Sub.cons rfl (Sub.cons rfl (Sub.cons rfl (Sub.cons rfl Sub.nil)))))
              · skip
                refine br_does (l' := #[true, true, true, true, true, true, false, false, true, false]) rfl (guard_none rfl) rfl rfl (by kernel_rfl) (does_alloc (cs := [.int .i64 0, .slice none 0 0]) rfl tz31 rfl HM) ?_
                rintro _ w8422 ⟨b8390, rfl, HM⟩
                have hS := Mem.suf (M := [box b8390 31 [.int .i64 0, .slice none 0 0], own kRef 66 u8378 t8376.fIns, own kOut 70 u8380 t8376.fOuts, own kCoin 72 u8374 t8372]) HM
                refine ⟨hS, ?_⟩
                refine drw_any [6] (by kernel_rfl) rfl (.cons ?_ .nil)
                refine br_does (l' := #[true, true, true, true, true, true, true, false, true, false]) rfl (guard_none rfl) rfl rfl (by kernel_rfl) (does_callk rfl callok7 rfl (laws_toCoinS.calls (x0 := x3) (HM.rd hp3) h8383)) ?_
                rintro u8384 w8423 ⟨_, rfl, hn⟩
                replace HM : Mem w [] w8423 [own kCoin 72 u8384 t8382, box b8390 31 [.int .i64 0, .slice none 0 0], own kRef 66 u8378 t8376.fIns, own kOut 70 u8380 t8376.fOuts, own kCoin 72 u8374 t8372, box b8353 26 [.int .i64 x1.fKind, .int .i64 x1.fMember, p1_0, p1_1]] := HM.call hn
                have hS := Mem.suf (M := [own kCoin 72 u8384 t8382, box b8390 31 [.int .i64 0, .slice none 0 0], own kRef 66 u8378 t8376.fIns, own kOut 70 u8380 t8376.fOuts, own kCoin 72 u8374 t8372]) HM
                refine ⟨hS, ?_⟩
                refine drw_any [7] (by kernel_rfl) rfl (.cons ?_ .nil)
                refine br_does (l' := #[true, true, true, true, true, true, true, true, true, false]) rfl (guard_none rfl) rfl rfl (by kernel_rfl) (does_callk rfl callok6 rfl (spec_UndoTx.calls (x0 := t8372) (x1 := t8376) (x2 := x2) (x3 := t8382) (HM.own_rd 4 rfl) (HM.own_rd 2 rfl) (HM.own_rd 3 rfl) (HM.own_rd 0 rfl) h8387)) ?_
                rintro _ w8424 ⟨u8388, rfl, hn⟩
                replace HM : Mem w [] w8424 [own kCoin 72 u8388 t8386.fCoins, own kCoin 72 u8384 t8382, box b8390 31 [.int .i64 0, .slice none 0 0], own kRef 66 u8378 t8376.fIns, own kOut 70 u8380 t8376.fOuts, own kCoin 72 u8374 t8372, box b8353 26 [.int .i64 x1.fKind, .int .i64 x1.fMember, p1_0, p1_1]] := HM.call hn
                have hS := Mem.suf (M := [own kCoin 72 u8388 t8386.fCoins, own kCoin 72 u8384 t8382, box b8390 31 [.int .i64 0, .slice none 0 0], own kRef 66 u8378 t8376.fIns, own kOut 70 u8380 t8376.fOuts, own kCoin 72 u8374 t8372]) HM
                refine ⟨hS, ?_⟩
                replace HM := HM.front 2 rfl rfl
                refine drw_any [9] (by kernel_rfl) rfl (.cons ?_ .nil)
                refine br_doesS (l' := #[true, true, true, true, true, true, true, true, true, true]) rfl (guard_none rfl) rfl (by kernel_rfl) (does_store (vs := [.int .i64 t8386.fCode, u8388]) (cs' := [.int .i64 t8386.fCode, u8388]) rfl rfl rfl rfl tsz31 (Ones.int (Ones.rd (HM.own_rd 1 rfl) Ones.nil)) rfl rfl HM) ?_
                rintro w8425 HM
                have hS := Mem.suf (M := [box b8390 31 [.int .i64 t8386.fCode, u8388], own kCoin 72 u8388 t8386.fCoins, own kCoin 72 u8384 t8382, own kRef 66 u8378 t8376.fIns, own kOut 70 u8380 t8376.fOuts, own kCoin 72 u8374 t8372]) HM
                refine ⟨hS, ?_⟩
                refine drw_done (by kernel_rfl) ?_
                replace HM := (HM.front 2 rfl rfl).drop
                replace HM := (HM.front 2 rfl rfl).drop
                replace HM := (HM.front 2 rfl rfl).drop
                replace HM := (HM.front 2 rfl rfl).drop
                replace HM := HM.front 1 rfl rfl
                replace HM := HM.front 1 rfl rfl
                replace HM := HM.front 2 rfl rfl
                exact at_meet [(0, p0), (2, .int .i64 x2), (3, p3), (5, .pointer (some ⟨b8353, 0, none⟩)), (10, .pointer (some ⟨b8390, 0, none⟩))] ⟨_, _, rfl, HM⟩ (Sub.cons rfl (Sub.cons rfl (Sub.cons rfl (Sub.cons rfl (Sub.cons rfl Sub.nil)))))
            · skip
              refine br_does (l' := #[true, true, true, false, true, true, false, false, true, false]) rfl (guard_none rfl) rfl rfl (by kernel_rfl) (does_alloc (cs := [.int .i64 0, .slice none 0 0]) rfl tz31 rfl HM) ?_
              rintro _ w8426 ⟨b8390, rfl, HM⟩
              have hS := Mem.suf (M := [box b8390 31 [.int .i64 0, .slice none 0 0], own kCoin 72 u8374 t8372]) HM
              refine ⟨hS, ?_⟩
              exact drw_sub (K8407 u8374 b8390 _ HM) (Sub.cons rfl (Sub.cons rfl (Sub.cons rfl (Sub.cons rfl (Sub.cons rfl (Sub.cons rfl (Sub.cons rfl (Sub.cons rfl (Sub.cons rfl Sub.nil)))))))))
          · skip
            refine br_does (l' := #[true, false, true, false, true, true, false, false, true, false]) rfl (guard_none rfl) rfl rfl (by kernel_rfl) (does_alloc (cs := [.int .i64 0, .slice none 0 0]) rfl tz31 rfl HM) ?_
            rintro _ w8427 ⟨b8390, rfl, HM⟩
            have hS := Mem.suf (M := [box b8390 31 [.int .i64 0, .slice none 0 0]]) HM
            refine ⟨hS, ?_⟩
            refine drw_any [1] (by kernel_rfl) rfl (.cons ?_ .nil)
            refine br_does (l' := #[true, true, true, false, true, true, false, false, true, false]) rfl (guard_none rfl) rfl rfl (by kernel_rfl) (does_callk rfl callok7 rfl (laws_toCoinS.calls (x0 := x0) (HM.rd hp0) h8373)) ?_
            rintro u8374 w8428 ⟨_, rfl, hn⟩
            replace HM : Mem w [] w8428 [own kCoin 72 u8374 t8372, box b8390 31 [.int .i64 0, .slice none 0 0], box b8353 26 [.int .i64 x1.fKind, .int .i64 x1.fMember, p1_0, p1_1]] := HM.call hn
            have hS := Mem.suf (M := [own kCoin 72 u8374 t8372, box b8390 31 [.int .i64 0, .slice none 0 0]]) HM
            refine ⟨hS, ?_⟩
            replace HM := HM.front 2 rfl rfl
            replace HM := HM.front 1 rfl rfl
            replace HM := HM.front 2 rfl rfl
            exact drw_sub (K8407 u8374 b8390 _ HM) (Sub.cons rfl (Sub.cons rfl (Sub.cons rfl (Sub.cons rfl (Sub.cons rfl (Sub.cons rfl (Sub.cons rfl (Sub.cons rfl (Sub.cons rfl Sub.nil)))))))))
        · rintro _ w8429 ⟨u8388, b8390, rfl, HM⟩
          refine at_then ?_
          refine run_seq ?_
          obtain ⟨t8430, h8431, H⟩ := bind_some H
          refine run_region rfl ?_
          refine ox rfl rfl rfl rfl (ex_move rfl rfl) ?_
          refine od rfl rfl rfl rfl (does_callk rfl callok7 rfl (laws_toCoinS.calls (x0 := x0) (HM.rd hp0) h8431)) ?_
          rintro u8432 w8434 ⟨_, rfl, hn⟩
          replace HM : Mem w [] w8434 [own kCoin 72 u8432 t8430, box b8353 26 [.int .i64 x1.fKind, .int .i64 x1.fMember, p1_0, p1_1], box b8390 31 [.int .i64 t8386.fCode, u8388], own kCoin 72 u8388 t8386.fCoins] := HM.call hn
          refine ox rfl rfl rfl rfl (ex_assign rfl rfl) ?_
          refine ops_nil (at_then (run_seq ?_))
          obtain ⟨t8435, h8436, H⟩ := bind_some H
          refine run_region rfl ?_
          refine ox rfl rfl rfl rfl (ex_loadN (cs := [(.int .i64 x1.fKind), (.int .i64 x1.fMember), p1_0, p1_1]) rfl rfl Tryz.underlying26 rfl tsz26 rfl ((HM.box_at 1 rfl).sub 0 4 rfl)) ?_
          refine od rfl rfl rfl rfl (does_callk rfl callok8 rfl (laws_toTx.calls (x0 := x1) (HM.rd hp1_0) (HM.rd hp1_1) h8436)) ?_
          rintro _ w8444 ⟨u8437, u8439, rfl, hn⟩
          replace HM : Mem w [] w8444 [own kRef 66 u8437 t8435.fIns, own kOut 70 u8439 t8435.fOuts, own kCoin 72 u8432 t8430, box b8353 26 [.int .i64 x1.fKind, .int .i64 x1.fMember, p1_0, p1_1], box b8390 31 [.int .i64 t8386.fCode, u8388], own kCoin 72 u8388 t8386.fCoins] := HM.call hn
          refine od rfl rfl rfl rfl (does_alloc (cs := [.int .i64 0, .int .i64 0, .slice none 0 0, .slice none 0 0]) rfl tz37 rfl HM) ?_
          rintro _ w8445 ⟨b8441, rfl, HM⟩
          refine odS rfl rfl rfl (does_store (vs := [.int .i64 t8435.fKind, .int .i64 t8435.fMember, u8437, u8439]) (cs' := [.int .i64 t8435.fKind, .int .i64 t8435.fMember, u8437, u8439]) rfl rfl rfl rfl tsz37 (Ones.int (Ones.int (Ones.rd (HM.own_rd 1 rfl) (Ones.rd (HM.own_rd 2 rfl) Ones.nil)))) rfl rfl HM) ?_
          rintro w8446 HM
          refine ops_nil (at_then (run_seq ?_))
          obtain ⟨t8447, h8448, H⟩ := bind_some H
          refine run_region rfl ?_
          refine ox rfl rfl rfl rfl (ex_move rfl rfl) ?_
          refine od rfl rfl rfl rfl (does_callk rfl callok7 rfl (laws_toCoinS.calls (x0 := x3) (HM.rd hp3) h8448)) ?_
          rintro u8449 w8451 ⟨_, rfl, hn⟩
          replace HM : Mem w [] w8451 [own kCoin 72 u8449 t8447, box b8441 37 [.int .i64 t8435.fKind, .int .i64 t8435.fMember, u8437, u8439], own kRef 66 u8437 t8435.fIns, own kOut 70 u8439 t8435.fOuts, own kCoin 72 u8432 t8430, box b8353 26 [.int .i64 x1.fKind, .int .i64 x1.fMember, p1_0, p1_1], box b8390 31 [.int .i64 t8386.fCode, u8388], own kCoin 72 u8388 t8386.fCoins] := HM.call hn
          refine ox rfl rfl rfl rfl (ex_assign rfl rfl) ?_
          refine ops_nil (at_then (run_seq ?_))
          obtain ⟨t8452, h8453, H⟩ := bind_some H
          refine run_region rfl ?_
          refine ox rfl rfl rfl rfl (ex_move rfl rfl) ?_
          refine ox rfl rfl rfl rfl (ex_loadN (cs := [(.int .i64 t8435.fKind), (.int .i64 t8435.fMember), u8437, u8439]) rfl rfl Tryz.underlying37 rfl tsz37 rfl ((HM.box_at 1 rfl).sub 0 4 rfl)) ?_
          refine ox rfl rfl rfl rfl (ex_move rfl rfl) ?_
          refine ox rfl rfl rfl rfl (ex_move rfl rfl) ?_
          refine od rfl rfl rfl rfl (does_callk rfl callok9 rfl (impl_UndoTx.calls (x0 := t8430) (x1 := t8435) (x2 := x2) (x3 := t8447) (HM.own_rd 4 rfl) (HM.own_rd 2 rfl) (HM.own_rd 3 rfl) (HM.own_rd 0 rfl) h8453)) ?_
          rintro _ w8459 ⟨u8454, rfl, hn⟩
          replace HM : Mem w [] w8459 [own kCoin 72 u8454 t8452.fCoins, own kCoin 72 u8449 t8447, box b8441 37 [.int .i64 t8435.fKind, .int .i64 t8435.fMember, u8437, u8439], own kRef 66 u8437 t8435.fIns, own kOut 70 u8439 t8435.fOuts, own kCoin 72 u8432 t8430, box b8353 26 [.int .i64 x1.fKind, .int .i64 x1.fMember, p1_0, p1_1], box b8390 31 [.int .i64 t8386.fCode, u8388], own kCoin 72 u8388 t8386.fCoins] := HM.call hn
          refine od rfl rfl rfl rfl (does_alloc (cs := [.int .i64 0, .slice none 0 0]) rfl tz31 rfl HM) ?_
          rintro _ w8460 ⟨b8456, rfl, HM⟩
          refine odS rfl rfl rfl (does_store (vs := [.int .i64 t8452.fCode, u8454]) (cs' := [.int .i64 t8452.fCode, u8454]) rfl rfl rfl rfl tsz31 (Ones.int (Ones.rd (HM.own_rd 1 rfl) Ones.nil)) rfl rfl HM) ?_
          rintro w8461 HM
          refine ops_nil (at_then (run_seq ?_))
          refine run_seq ?_
          obtain ⟨t8465, h8466, H⟩ := bind_some H
          refine run_region rfl ?_
          refine ox rfl rfl rfl rfl (ex_loadN (cs := [(.int .i64 t8452.fCode), u8454]) rfl rfl Tryz.underlying31 rfl tsz31 rfl ((HM.box_at 0 rfl).sub 0 2 rfl)) ?_
          refine ox rfl rfl rfl rfl (ex_loadN (cs := [(.int .i64 t8386.fCode), u8388]) rfl rfl Tryz.underlying31 rfl tsz31 rfl ((HM.box_at 8 rfl).sub 0 2 rfl)) ?_
          refine od rfl rfl rfl rfl (does_callk rfl callok10 rfl (laws_eqCoinsResult.calls (x0 := t8452) (x1 := t8386) (HM.own_rd 1 rfl) (HM.own_rd 9 rfl) h8466)) ?_
          rintro _ w8467 ⟨rfl, hn⟩
          replace HM : Mem w [] w8467 [box b8456 31 [.int .i64 t8452.fCode, u8454], own kCoin 72 u8454 t8452.fCoins, own kCoin 72 u8449 t8447, box b8441 37 [.int .i64 t8435.fKind, .int .i64 t8435.fMember, u8437, u8439], own kRef 66 u8437 t8435.fIns, own kOut 70 u8439 t8435.fOuts, own kCoin 72 u8432 t8430, box b8353 26 [.int .i64 x1.fKind, .int .i64 x1.fMember, p1_0, p1_1], box b8390 31 [.int .i64 t8386.fCode, u8388], own kCoin 72 u8388 t8386.fCoins] := HM.call hn
          refine ox rfl rfl rfl rfl (ex_not rfl rfl) ?_
          refine ops_nil (at_then ?_)
          refine run_cond (b := !t8465) rfl (fun hb8468 => ?_) (fun hb8468 => ?_)
          · replace H := cond_t hb8468 H
            refine run_seq ?_
            refine run_region rfl ?_
            refine ox rfl rfl rfl rfl (ex_assign rfl rfl) ?_
            refine ops_nil (at_then ?_)
            refine run_ret ?_
            refine at_then_ret ?_
            replace HM := (HM.front 0 rfl rfl).drop
            replace HM := (HM.front 0 rfl rfl).drop
            replace HM := (HM.front 0 rfl rfl).drop
            replace HM := (HM.front 0 rfl rfl).drop
            replace HM := (HM.front 0 rfl rfl).drop
            replace HM := (HM.front 0 rfl rfl).drop
            replace HM := (HM.front 0 rfl rfl).drop
            replace HM := (HM.front 0 rfl rfl).drop
            replace HM := (HM.front 0 rfl rfl).drop
            replace HM := (HM.front 0 rfl rfl).drop
            have hR := Option.some.inj H
            subst hR
            exact at_ret1 rfl rfl ⟨_, rfl, rfl, HM⟩
          · replace H := cond_f hb8468 H
            refine run_skip ?_
            refine at_then ?_
            refine run_seq ?_
            refine run_seq ?_
            obtain ⟨t8476, h8477, H⟩ := bind_some H
            obtain ⟨t8480, h8481, H⟩ := bind_some H
            refine run_region rfl ?_
            refine ox rfl rfl rfl rfl (ex_move rfl rfl) ?_
            refine ox rfl rfl rfl rfl (ex_move rfl rfl) ?_
            refine od rfl rfl rfl rfl (does_callk rfl callok7 rfl (laws_toCoinS.calls (x0 := x0) (HM.rd hp0) h8477)) ?_
            rintro u8478 w8482 ⟨_, rfl, hn⟩
            replace HM : Mem w [] w8482 [own kCoin 72 u8478 t8476, box b8456 31 [.int .i64 t8452.fCode, u8454], own kCoin 72 u8454 t8452.fCoins, own kCoin 72 u8449 t8447, box b8441 37 [.int .i64 t8435.fKind, .int .i64 t8435.fMember, u8437, u8439], own kRef 66 u8437 t8435.fIns, own kOut 70 u8439 t8435.fOuts, own kCoin 72 u8432 t8430, box b8353 26 [.int .i64 x1.fKind, .int .i64 x1.fMember, p1_0, p1_1], box b8390 31 [.int .i64 t8386.fCode, u8388], own kCoin 72 u8388 t8386.fCoins] := HM.call hn
            refine od rfl rfl rfl rfl (does_callk rfl callok11 rfl (laws_eqCoinS.calls (x0 := t8430) (x1 := t8476) (HM.own_rd 7 rfl) (HM.own_rd 0 rfl) h8481)) ?_
            rintro _ w8483 ⟨rfl, hn⟩
            replace HM : Mem w [] w8483 [own kCoin 72 u8478 t8476, box b8456 31 [.int .i64 t8452.fCode, u8454], own kCoin 72 u8454 t8452.fCoins, own kCoin 72 u8449 t8447, box b8441 37 [.int .i64 t8435.fKind, .int .i64 t8435.fMember, u8437, u8439], own kRef 66 u8437 t8435.fIns, own kOut 70 u8439 t8435.fOuts, own kCoin 72 u8432 t8430, box b8353 26 [.int .i64 x1.fKind, .int .i64 x1.fMember, p1_0, p1_1], box b8390 31 [.int .i64 t8386.fCode, u8388], own kCoin 72 u8388 t8386.fCoins] := HM.call hn
            refine ox rfl rfl rfl rfl (ex_not rfl rfl) ?_
            refine ops_nil (at_then ?_)
            refine run_cond (b := !t8480) rfl (fun hb8484 => ?_) (fun hb8484 => ?_)
            · replace H := cond_t hb8484 H
              refine run_seq ?_
              refine run_region rfl ?_
              refine ox rfl rfl rfl rfl (ex_assign rfl rfl) ?_
              refine ops_nil (at_then ?_)
              refine run_ret ?_
              refine at_then_ret ?_
              replace HM := (HM.front 0 rfl rfl).drop
              replace HM := (HM.front 0 rfl rfl).drop
              replace HM := (HM.front 0 rfl rfl).drop
              replace HM := (HM.front 0 rfl rfl).drop
              replace HM := (HM.front 0 rfl rfl).drop
              replace HM := (HM.front 0 rfl rfl).drop
              replace HM := (HM.front 0 rfl rfl).drop
              replace HM := (HM.front 0 rfl rfl).drop
              replace HM := (HM.front 0 rfl rfl).drop
              replace HM := (HM.front 0 rfl rfl).drop
              replace HM := (HM.front 0 rfl rfl).drop
              have hR := Option.some.inj H
              subst hR
              exact at_ret1 rfl rfl ⟨_, rfl, rfl, HM⟩
            · replace H := cond_f hb8484 H
              refine run_skip ?_
              refine at_then ?_
              refine run_seq ?_
              refine run_seq ?_
              obtain ⟨t8494, h8495, H⟩ := bind_some H
              obtain ⟨t8500, h8501, H⟩ := bind_some H
              refine run_drawf (fun w_ => Mem w [] w_ [own kCoin 72 u8478 t8476, box b8456 31 [.int .i64 t8452.fCode, u8454], own kCoin 72 u8454 t8452.fCoins, own kCoin 72 u8449 t8447, box b8441 37 [.int .i64 t8435.fKind, .int .i64 t8435.fMember, u8437, u8439], own kRef 66 u8437 t8435.fIns, own kOut 70 u8439 t8435.fOuts, own kCoin 72 u8432 t8430, box b8353 26 [.int .i64 x1.fKind, .int .i64 x1.fMember, p1_0, p1_1], box b8390 31 [.int .i64 t8386.fCode, u8388], own kCoin 72 u8388 t8386.fCoins]) [(0, true), (1, true), (2, false), (3, false), (4, true)] mixed rfl rfl (by kernel_rfl) ?_
              replace HM := HM.grow (fr_drew _)
              have hS := Mem.suf (M := []) HM
              refine drwp_take rfl (guard_none rfl) rfl rfl (fun w_ hS_ => (ex_loadN (cs := [(.int .i64 t8435.fKind), (.int .i64 t8435.fMember), u8437, u8439]) rfl rfl Tryz.underlying37 rfl tsz37 rfl ((hS_.box_at 4 rfl).sub 0 4 rfl))) hS ?_
              refine drwp_take rfl (guard_none rfl) rfl rfl (fun w_ hS_ => (ex_loadN (cs := [(.int .i64 x1.fKind), (.int .i64 x1.fMember), p1_0, p1_1]) rfl rfl Tryz.underlying26 rfl tsz26 rfl ((hS_.box_at 8 rfl).sub 0 4 rfl))) hS ?_
              refine drwp_one rfl (guard_none rfl) rfl rfl (does_callk rfl callok8 rfl (laws_toTx.calls (x0 := x1) (HM.rd hp1_0) (HM.rd hp1_1) h8495)) ?_
              rintro _ w8502 ⟨u8496, u8498, rfl, hn⟩
              replace HM : Mem w [] w8502 [own kRef 66 u8496 t8494.fIns, own kOut 70 u8498 t8494.fOuts, own kCoin 72 u8478 t8476, box b8456 31 [.int .i64 t8452.fCode, u8454], own kCoin 72 u8454 t8452.fCoins, own kCoin 72 u8449 t8447, box b8441 37 [.int .i64 t8435.fKind, .int .i64 t8435.fMember, u8437, u8439], own kRef 66 u8437 t8435.fIns, own kOut 70 u8439 t8435.fOuts, own kCoin 72 u8432 t8430, box b8353 26 [.int .i64 x1.fKind, .int .i64 x1.fMember, p1_0, p1_1], box b8390 31 [.int .i64 t8386.fCode, u8388], own kCoin 72 u8388 t8386.fCoins] := HM.call hn
              have hS := Mem.suf (M := [own kRef 66 u8496 t8494.fIns, own kOut 70 u8498 t8494.fOuts]) HM
              refine ⟨hS, ?_⟩
              refine drwp_one rfl (guard_none rfl) rfl rfl (does_callk rfl callok12 rfl (laws_eqTx.calls (x0 := t8435) (x1 := t8494) (HM.own_rd 7 rfl) (HM.own_rd 8 rfl) (HM.own_rd 0 rfl) (HM.own_rd 1 rfl) h8501)) ?_
              rintro _ w8503 ⟨rfl, hn⟩
              replace HM : Mem w [] w8503 [own kRef 66 u8496 t8494.fIns, own kOut 70 u8498 t8494.fOuts, own kCoin 72 u8478 t8476, box b8456 31 [.int .i64 t8452.fCode, u8454], own kCoin 72 u8454 t8452.fCoins, own kCoin 72 u8449 t8447, box b8441 37 [.int .i64 t8435.fKind, .int .i64 t8435.fMember, u8437, u8439], own kRef 66 u8437 t8435.fIns, own kOut 70 u8439 t8435.fOuts, own kCoin 72 u8432 t8430, box b8353 26 [.int .i64 x1.fKind, .int .i64 x1.fMember, p1_0, p1_1], box b8390 31 [.int .i64 t8386.fCode, u8388], own kCoin 72 u8388 t8386.fCoins] := HM.call hn
              have hS := Mem.suf (M := [own kRef 66 u8496 t8494.fIns, own kOut 70 u8498 t8494.fOuts]) HM
              refine ⟨hS, ?_⟩
              refine dp rfl rfl rfl rfl (ex_not rfl rfl) hS ?_
              refine drwp_done ?_
              refine at_then ?_
              refine run_cond (b := !t8500) rfl (fun hb8504 => ?_) (fun hb8504 => ?_)
              · replace H := cond_t hb8504 H
                refine run_seq ?_
                refine run_region rfl ?_
                refine ox rfl rfl rfl rfl (ex_assign rfl rfl) ?_
                refine ops_nil (at_then ?_)
                refine run_ret ?_
                refine at_then_ret ?_
                replace HM := (HM.front 0 rfl rfl).drop
                replace HM := (HM.front 0 rfl rfl).drop
                replace HM := (HM.front 0 rfl rfl).drop
                replace HM := (HM.front 0 rfl rfl).drop
                replace HM := (HM.front 0 rfl rfl).drop
                replace HM := (HM.front 0 rfl rfl).drop
                replace HM := (HM.front 0 rfl rfl).drop
                replace HM := (HM.front 0 rfl rfl).drop
                replace HM := (HM.front 0 rfl rfl).drop
                replace HM := (HM.front 0 rfl rfl).drop
                replace HM := (HM.front 0 rfl rfl).drop
                replace HM := (HM.front 0 rfl rfl).drop
                replace HM := (HM.front 0 rfl rfl).drop
                have hR := Option.some.inj H
                subst hR
                exact at_ret1 rfl rfl ⟨_, rfl, rfl, HM⟩
              · replace H := cond_f hb8504 H
                refine run_skip ?_
                refine at_then ?_
                refine run_seq ?_
                refine run_seq ?_
                obtain ⟨t8512, h8513, H⟩ := bind_some H
                obtain ⟨t8516, h8517, H⟩ := bind_some H
                refine run_region rfl ?_
                refine ox rfl rfl rfl rfl (ex_move rfl rfl) ?_
                refine ox rfl rfl rfl rfl (ex_move rfl rfl) ?_
                refine od rfl rfl rfl rfl (does_callk rfl callok7 rfl (laws_toCoinS.calls (x0 := x3) (HM.rd hp3) h8513)) ?_
                rintro u8514 w8518 ⟨_, rfl, hn⟩
                replace HM : Mem w [] w8518 [own kCoin 72 u8514 t8512, own kRef 66 u8496 t8494.fIns, own kOut 70 u8498 t8494.fOuts, own kCoin 72 u8478 t8476, box b8456 31 [.int .i64 t8452.fCode, u8454], own kCoin 72 u8454 t8452.fCoins, own kCoin 72 u8449 t8447, box b8441 37 [.int .i64 t8435.fKind, .int .i64 t8435.fMember, u8437, u8439], own kRef 66 u8437 t8435.fIns, own kOut 70 u8439 t8435.fOuts, own kCoin 72 u8432 t8430, box b8353 26 [.int .i64 x1.fKind, .int .i64 x1.fMember, p1_0, p1_1], box b8390 31 [.int .i64 t8386.fCode, u8388], own kCoin 72 u8388 t8386.fCoins] := HM.call hn
                refine od rfl rfl rfl rfl (does_callk rfl callok11 rfl (laws_eqCoinS.calls (x0 := t8447) (x1 := t8512) (HM.own_rd 6 rfl) (HM.own_rd 0 rfl) h8517)) ?_
                rintro _ w8519 ⟨rfl, hn⟩
                replace HM : Mem w [] w8519 [own kCoin 72 u8514 t8512, own kRef 66 u8496 t8494.fIns, own kOut 70 u8498 t8494.fOuts, own kCoin 72 u8478 t8476, box b8456 31 [.int .i64 t8452.fCode, u8454], own kCoin 72 u8454 t8452.fCoins, own kCoin 72 u8449 t8447, box b8441 37 [.int .i64 t8435.fKind, .int .i64 t8435.fMember, u8437, u8439], own kRef 66 u8437 t8435.fIns, own kOut 70 u8439 t8435.fOuts, own kCoin 72 u8432 t8430, box b8353 26 [.int .i64 x1.fKind, .int .i64 x1.fMember, p1_0, p1_1], box b8390 31 [.int .i64 t8386.fCode, u8388], own kCoin 72 u8388 t8386.fCoins] := HM.call hn
                refine ox rfl rfl rfl rfl (ex_not rfl rfl) ?_
                refine ops_nil (at_then ?_)
                refine run_cond (b := !t8516) rfl (fun hb8520 => ?_) (fun hb8520 => ?_)
                · replace H := cond_t hb8520 H
                  refine run_seq ?_
                  refine run_region rfl ?_
                  refine ox rfl rfl rfl rfl (ex_assign rfl rfl) ?_
                  refine ops_nil (at_then ?_)
                  refine run_ret ?_
                  refine at_then_ret ?_
                  replace HM := (HM.front 0 rfl rfl).drop
                  replace HM := (HM.front 0 rfl rfl).drop
                  replace HM := (HM.front 0 rfl rfl).drop
                  replace HM := (HM.front 0 rfl rfl).drop
                  replace HM := (HM.front 0 rfl rfl).drop
                  replace HM := (HM.front 0 rfl rfl).drop
                  replace HM := (HM.front 0 rfl rfl).drop
                  replace HM := (HM.front 0 rfl rfl).drop
                  replace HM := (HM.front 0 rfl rfl).drop
                  replace HM := (HM.front 0 rfl rfl).drop
                  replace HM := (HM.front 0 rfl rfl).drop
                  replace HM := (HM.front 0 rfl rfl).drop
                  replace HM := (HM.front 0 rfl rfl).drop
                  replace HM := (HM.front 0 rfl rfl).drop
                  have hR := Option.some.inj H
                  subst hR
                  exact at_ret1 rfl rfl ⟨_, rfl, rfl, HM⟩
                · replace H := cond_f hb8520 H
                  refine run_skip ?_
                  refine at_then ?_
                  refine run_seq ?_
                  refine run_region rfl ?_
                  refine ox rfl rfl rfl rfl (ex_assign rfl rfl) ?_
                  refine ops_nil (at_then (run_seq ?_))
                  obtain ⟨t8521, h8522, H⟩ := bind_some H
                  refine run_region rfl ?_
                  refine ox rfl rfl rfl rfl (ex_move rfl rfl) ?_
                  refine ox rfl rfl rfl rfl (ex_move rfl rfl) ?_
                  replace HM := HM.front 10 rfl rfl
                  obtain ⟨F8523, hF8524, hFn8525, hFl8526, HMh8527, hcl8528⟩ := HM.hide (Ms := [own kCoin 72 u8432 t8430])
                  refine od rfl rfl rfl rfl (does_callk rfl callok13 rfl (laws_markCoinS.calls (x0 := t8430) (x1 := 1) (hide_olds _ _) hF8524 hFn8525 hFl8526 h8522)) ?_
                  rintro _ w8529 ⟨rfl, hn⟩
                  replace HM : Mem w [] w8529 [own kCoin 72 u8432 t8521.2, own kCoin 72 u8514 t8512, own kRef 66 u8496 t8494.fIns, own kOut 70 u8498 t8494.fOuts, own kCoin 72 u8478 t8476, box b8456 31 [.int .i64 t8452.fCode, u8454], own kCoin 72 u8454 t8452.fCoins, own kCoin 72 u8449 t8447, box b8441 37 [.int .i64 t8435.fKind, .int .i64 t8435.fMember, u8437, u8439], own kRef 66 u8437 t8435.fIns, own kOut 70 u8439 t8435.fOuts, box b8353 26 [.int .i64 x1.fKind, .int .i64 x1.fMember, p1_0, p1_1], box b8390 31 [.int .i64 t8386.fCode, u8388], own kCoin 72 u8388 t8386.fCoins] := hcl8528 _ _ hn
                  refine ox rfl rfl rfl rfl (ex_assign rfl rfl) ?_
                  refine ops_nil (at_then (run_seq ?_))
                  obtain ⟨t8530, h8531, H⟩ := bind_some H
                  refine run_region rfl ?_
                  refine ox rfl rfl rfl rfl (ex_loadN (cs := [(.int .i64 t8435.fKind), (.int .i64 t8435.fMember), u8437, u8439]) rfl rfl Tryz.underlying37 rfl tsz37 rfl ((HM.box_at 8 rfl).sub 0 4 rfl)) ?_
                  refine ox rfl rfl rfl rfl (ex_move rfl rfl) ?_
                  replace HM := HM.front 10 rfl rfl
                  replace HM := HM.front 10 rfl rfl
                  obtain ⟨F8532, hF8533, hFn8534, hFl8535, HMh8536, hcl8537⟩ := HM.hide (Ms := [own kRef 66 u8437 t8435.fIns, own kOut 70 u8439 t8435.fOuts])
                  refine od rfl rfl rfl rfl (does_callk rfl callok14 rfl (laws_markTx.calls (x0 := t8435) (x1 := t8521.1) (hide_olds _ _) hF8533 hFn8534 hFl8535 h8531)) ?_
                  rintro _ w8538 ⟨rfl, hn⟩
                  replace HM : Mem w [] w8538 [own kRef 66 u8437 t8530.2.1, own kOut 70 u8439 t8530.2.2, own kCoin 72 u8432 t8521.2, own kCoin 72 u8514 t8512, own kRef 66 u8496 t8494.fIns, own kOut 70 u8498 t8494.fOuts, own kCoin 72 u8478 t8476, box b8456 31 [.int .i64 t8452.fCode, u8454], own kCoin 72 u8454 t8452.fCoins, own kCoin 72 u8449 t8447, box b8441 37 [.int .i64 t8435.fKind, .int .i64 t8435.fMember, u8437, u8439], box b8353 26 [.int .i64 x1.fKind, .int .i64 x1.fMember, p1_0, p1_1], box b8390 31 [.int .i64 t8386.fCode, u8388], own kCoin 72 u8388 t8386.fCoins] := hcl8537 _ _ hn
                  refine ox rfl rfl rfl rfl (ex_assign rfl rfl) ?_
                  refine ops_nil (at_then (run_seq ?_))
                  obtain ⟨t8539, h8540, H⟩ := bind_some H
                  refine run_region rfl ?_
                  refine ox rfl rfl rfl rfl (ex_move rfl rfl) ?_
                  refine ox rfl rfl rfl rfl (ex_move rfl rfl) ?_
                  replace HM := HM.front 9 rfl rfl
                  obtain ⟨F8541, hF8542, hFn8543, hFl8544, HMh8545, hcl8546⟩ := HM.hide (Ms := [own kCoin 72 u8449 t8447])
                  refine od rfl rfl rfl rfl (does_callk rfl callok13 rfl (laws_markCoinS.calls (x0 := t8447) (x1 := t8530.1) (hide_olds _ _) hF8542 hFn8543 hFl8544 h8540)) ?_
                  rintro _ w8547 ⟨rfl, hn⟩
                  replace HM : Mem w [] w8547 [own kCoin 72 u8449 t8539.2, own kRef 66 u8437 t8530.2.1, own kOut 70 u8439 t8530.2.2, own kCoin 72 u8432 t8521.2, own kCoin 72 u8514 t8512, own kRef 66 u8496 t8494.fIns, own kOut 70 u8498 t8494.fOuts, own kCoin 72 u8478 t8476, box b8456 31 [.int .i64 t8452.fCode, u8454], own kCoin 72 u8454 t8452.fCoins, box b8441 37 [.int .i64 t8435.fKind, .int .i64 t8435.fMember, u8437, u8439], box b8353 26 [.int .i64 x1.fKind, .int .i64 x1.fMember, p1_0, p1_1], box b8390 31 [.int .i64 t8386.fCode, u8388], own kCoin 72 u8388 t8386.fCoins] := hcl8546 _ _ hn
                  refine ox rfl rfl rfl rfl (ex_assign rfl rfl) ?_
                  refine ops_nil (at_then (run_seq ?_))
                  refine run_seq ?_
                  obtain ⟨t8551, h8552, H⟩ := bind_some H
                  refine run_meet (fun ρ_ w_ => ρ_ = [(0, p0), (2, .int .i64 x2), (3, p3), (5, .pointer (some ⟨b8353, 0, none⟩)), (10, .pointer (some ⟨b8390, 0, none⟩)), (14, .pointer (some ⟨b8456, 0, none⟩)), (88, .bool ((decide (t8539.1 < 0)) || (!t8551)))] ∧ Mem w [] w_ [box b8353 26 [.int .i64 x1.fKind, .int .i64 x1.fMember, p1_0, p1_1], box b8390 31 [.int .i64 t8386.fCode, u8388], own kCoin 72 u8388 t8386.fCoins, box b8456 31 [.int .i64 t8452.fCode, u8454], own kCoin 72 u8454 t8452.fCoins]) ?_ ?_
                  · skip
                    refine run_region rfl ?_
                    refine ox rfl rfl rfl rfl (ex_move rfl rfl) ?_
                    refine ox rfl rfl rfl rfl (ex_lss rfl rfl rfl) ?_
                    refine ox rfl rfl rfl rfl (ex_move rfl rfl) ?_
                    refine bool_cases (decide (t8539.1 < 0)) (fun hg8553 => ?_) (fun hg8553 => ?_)
                    · skip
                      refine ops_off rfl (guard_off rfl rfl rfl hg8553) rfl rfl ?_
                      refine ops_off rfl (guard_off rfl rfl rfl hg8553) rfl rfl ?_
                      refine ops_off rfl (guard_off rfl rfl rfl hg8553) rfl rfl ?_
                      refine ops_off rfl (guard_off rfl rfl rfl hg8553) rfl rfl ?_
                      have hg8554 : ((decide (t8539.1 < 0)) || (!t8551)) = true := by simp only [hg8553, Bool.and_true, Bool.true_and, Bool.and_false, Bool.false_and, Bool.or_true, Bool.true_or, Bool.or_false, Bool.false_or, Bool.not_true, Bool.not_false, Bool.not_not]
                      refine ops_ex (v := .bool ((decide (t8539.1 < 0)) || (!t8551))) rfl (guard_none rfl) rfl rfl (ex_por_t rfl rfl hg8553) ?_
                      refine ops_nil ?_
                      replace HM := (HM.front 0 rfl rfl).drop
                      replace HM := (HM.front 0 rfl rfl).drop
                      replace HM := (HM.front 0 rfl rfl).drop
                      replace HM := (HM.front 0 rfl rfl).drop
                      replace HM := (HM.front 0 rfl rfl).drop
                      replace HM := (HM.front 0 rfl rfl).drop
                      replace HM := (HM.front 0 rfl rfl).drop
                      replace HM := (HM.front 0 rfl rfl).drop
                      replace HM := (HM.front 2 rfl rfl).drop
                      replace HM := HM.front 1 rfl rfl
                      replace HM := HM.front 1 rfl rfl
                      replace HM := HM.front 4 rfl rfl
                      replace HM := HM.front 4 rfl rfl
                      replace HM := HM.front 4 rfl rfl
                      exact at_meet [(0, p0), (2, .int .i64 x2), (3, p3), (5, .pointer (some ⟨b8353, 0, none⟩)), (10, .pointer (some ⟨b8390, 0, none⟩)), (14, .pointer (some ⟨b8456, 0, none⟩)), (88, .bool ((decide (t8539.1 < 0)) || (!t8551)))] ⟨rfl, HM⟩ (Sub.cons rfl (Sub.cons rfl (Sub.cons rfl (Sub.cons rfl (Sub.cons rfl (Sub.cons rfl (Sub.cons rfl Sub.nil)))))))
                    · skip
                      refine ops_ex rfl (guard_on rfl rfl rfl hg8553) rfl rfl (ex_loadN (cs := [(.int .i64 t8452.fCode), u8454]) rfl rfl Tryz.underlying31 rfl tsz31 rfl ((HM.box_at 8 rfl).sub 0 2 rfl)) ?_
                      refine ops_ex rfl (guard_on rfl rfl rfl hg8553) rfl rfl (ex_loadN (cs := [(.int .i64 t8386.fCode), u8388]) rfl rfl Tryz.underlying31 rfl tsz31 rfl ((HM.box_at 12 rfl).sub 0 2 rfl)) ?_
                      refine ops_does rfl (guard_on rfl rfl rfl hg8553) rfl rfl (does_callk rfl callok10 rfl (laws_eqCoinsResult.calls (x0 := t8452) (x1 := t8386) (HM.own_rd 9 rfl) (HM.own_rd 13 rfl) (cond_t (not_mk hg8553) h8552))) ?_
                      rintro _ w8555 ⟨rfl, hn⟩
                      replace HM : Mem w [] w8555 [own kCoin 72 u8449 t8539.2, own kRef 66 u8437 t8530.2.1, own kOut 70 u8439 t8530.2.2, own kCoin 72 u8432 t8521.2, own kCoin 72 u8514 t8512, own kRef 66 u8496 t8494.fIns, own kOut 70 u8498 t8494.fOuts, own kCoin 72 u8478 t8476, box b8456 31 [.int .i64 t8452.fCode, u8454], own kCoin 72 u8454 t8452.fCoins, box b8441 37 [.int .i64 t8435.fKind, .int .i64 t8435.fMember, u8437, u8439], box b8353 26 [.int .i64 x1.fKind, .int .i64 x1.fMember, p1_0, p1_1], box b8390 31 [.int .i64 t8386.fCode, u8388], own kCoin 72 u8388 t8386.fCoins] := HM.call hn
                      refine ops_ex rfl (guard_on rfl rfl rfl hg8553) rfl rfl (ex_not rfl rfl) ?_
                      refine ops_ex (v := .bool ((decide (t8539.1 < 0)) || (!t8551))) rfl (guard_none rfl) rfl rfl (ex_por_f rfl rfl hg8553 rfl) ?_
                      refine ops_nil ?_
                      replace HM := (HM.front 0 rfl rfl).drop
                      replace HM := (HM.front 0 rfl rfl).drop
                      replace HM := (HM.front 0 rfl rfl).drop
                      replace HM := (HM.front 0 rfl rfl).drop
                      replace HM := (HM.front 0 rfl rfl).drop
                      replace HM := (HM.front 0 rfl rfl).drop
                      replace HM := (HM.front 0 rfl rfl).drop
                      replace HM := (HM.front 0 rfl rfl).drop
                      replace HM := (HM.front 2 rfl rfl).drop
                      replace HM := HM.front 1 rfl rfl
                      replace HM := HM.front 1 rfl rfl
                      replace HM := HM.front 4 rfl rfl
                      replace HM := HM.front 4 rfl rfl
                      replace HM := HM.front 4 rfl rfl
                      exact at_meet [(0, p0), (2, .int .i64 x2), (3, p3), (5, .pointer (some ⟨b8353, 0, none⟩)), (10, .pointer (some ⟨b8390, 0, none⟩)), (14, .pointer (some ⟨b8456, 0, none⟩)), (88, .bool ((decide (t8539.1 < 0)) || (!t8551)))] ⟨rfl, HM⟩ (Sub.cons rfl (Sub.cons rfl (Sub.cons rfl (Sub.cons rfl (Sub.cons rfl (Sub.cons rfl (Sub.cons rfl Sub.nil)))))))
                  · rintro _ w8556 ⟨rfl, HM⟩
                    refine at_then ?_
                    refine run_cond (b := ((decide (t8539.1 < 0)) || (!t8551))) rfl (fun hb8557 => ?_) (fun hb8557 => ?_)
                    · replace H := cond_t hb8557 H
                      refine run_seq ?_
                      refine run_region rfl ?_
                      refine ox rfl rfl rfl rfl (ex_assign rfl rfl) ?_
                      refine ops_nil (at_then ?_)
                      refine run_ret ?_
                      refine at_then_ret ?_
                      replace HM := (HM.front 0 rfl rfl).drop
                      replace HM := (HM.front 0 rfl rfl).drop
                      replace HM := (HM.front 0 rfl rfl).drop
                      replace HM := (HM.front 0 rfl rfl).drop
                      replace HM := (HM.front 0 rfl rfl).drop
                      have hR := Option.some.inj H
                      subst hR
                      exact at_ret1 rfl rfl ⟨_, rfl, rfl, HM⟩
                    · replace H := cond_f hb8557 H
                      refine run_skip ?_
                      refine at_then ?_
                      refine run_seq ?_
                      refine run_region rfl ?_
                      refine ox rfl rfl rfl rfl (ex_assign rfl rfl) ?_
                      refine ops_nil (at_then (run_seq ?_))
                      obtain ⟨t8558, h8559, H⟩ := bind_some H
                      refine run_region rfl ?_
                      refine ox rfl rfl rfl rfl (ex_loadN (cs := [(.int .i64 t8452.fCode), u8454]) rfl rfl Tryz.underlying31 rfl tsz31 rfl ((HM.box_at 3 rfl).sub 0 2 rfl)) ?_
                      refine ox rfl rfl rfl rfl (ex_move rfl rfl) ?_
                      replace HM := HM.front 4 rfl rfl
                      obtain ⟨F8560, hF8561, hFn8562, hFl8563, HMh8564, hcl8565⟩ := HM.hide (Ms := [own kCoin 72 u8454 t8452.fCoins])
                      refine od rfl rfl rfl rfl (does_callk rfl callok15 rfl (laws_markCoinsResult.calls (x0 := t8452) (x1 := 1) (hide_olds _ _) hF8561 hFn8562 hFl8563 h8559)) ?_
                      rintro _ w8566 ⟨rfl, hn⟩
                      replace HM : Mem w [] w8566 [own kCoin 72 u8454 t8558.2, box b8353 26 [.int .i64 x1.fKind, .int .i64 x1.fMember, p1_0, p1_1], box b8390 31 [.int .i64 t8386.fCode, u8388], own kCoin 72 u8388 t8386.fCoins, box b8456 31 [.int .i64 t8452.fCode, u8454]] := hcl8565 _ _ hn
                      refine ox rfl rfl rfl rfl (ex_assign rfl rfl) ?_
                      refine ops_nil (at_then (run_seq ?_))
                      refine run_region rfl ?_
                      refine ox rfl rfl rfl rfl (ex_assign rfl rfl) ?_
                      refine ops_nil (at_then (run_seq ?_))
                      obtain ⟨t8567, h8568, H⟩ := bind_some H
                      refine run_region rfl ?_
                      refine ox rfl rfl rfl rfl (ex_loadN (cs := [(.int .i64 t8452.fCode), u8454]) rfl rfl Tryz.underlying31 rfl tsz31 rfl ((HM.box_at 4 rfl).sub 0 2 rfl)) ?_
                      refine ox rfl rfl rfl rfl (ex_move rfl rfl) ?_
                      refine od rfl rfl rfl rfl (does_callk rfl callok16 rfl (laws_heldCoinsResult.calls (x0 := (⟨t8452.fCode, t8558.2⟩ : CoinsResult)) (x1 := 1) (HM.own_rd 0 rfl) h8568)) ?_
                      rintro _ w8569 ⟨rfl, hn⟩
                      replace HM : Mem w [] w8569 [own kCoin 72 u8454 t8558.2, box b8353 26 [.int .i64 x1.fKind, .int .i64 x1.fMember, p1_0, p1_1], box b8390 31 [.int .i64 t8386.fCode, u8388], own kCoin 72 u8388 t8386.fCoins, box b8456 31 [.int .i64 t8452.fCode, u8454]] := HM.call hn
                      refine ox rfl rfl rfl rfl (ex_assign rfl rfl) ?_
                      refine ops_nil (at_then (run_seq ?_))
                      refine run_seq ?_
                      refine run_region rfl ?_
                      refine ox rfl rfl rfl rfl (ex_move rfl rfl) ?_
                      refine ox rfl rfl rfl rfl (ex_lss rfl rfl rfl) ?_
                      refine ops_nil (at_then ?_)
                      refine run_cond (b := (decide (t8567 < 0))) rfl (fun hb8571 => ?_) (fun hb8571 => ?_)
                      · replace H := cond_t hb8571 H
                        refine run_seq ?_
                        refine run_region rfl ?_
                        refine ox rfl rfl rfl rfl (ex_assign rfl rfl) ?_
                        refine ops_nil (at_then ?_)
                        refine run_ret ?_
                        refine at_then_ret ?_
                        replace HM := (HM.front 0 rfl rfl).drop
                        replace HM := (HM.front 0 rfl rfl).drop
                        replace HM := (HM.front 0 rfl rfl).drop
                        replace HM := (HM.front 0 rfl rfl).drop
                        replace HM := (HM.front 0 rfl rfl).drop
                        have hR := Option.some.inj H
                        subst hR
                        exact at_ret1 rfl rfl ⟨_, rfl, rfl, HM⟩
                      · replace H := cond_f hb8571 H
                        refine run_skip ?_
                        refine at_then ?_
                        refine run_seq ?_
                        refine run_seq ?_
                        refine run_region rfl ?_
                        refine ox rfl rfl rfl rfl (ex_move rfl rfl) ?_
                        refine ox rfl rfl rfl rfl (ex_move rfl rfl) ?_
                        refine ox rfl rfl rfl rfl (ex_neq rfl rfl rfl) ?_
                        refine ops_nil (at_then ?_)
                        refine run_cond (b := (t8567 != t8558.1)) rfl (fun hb8573 => ?_) (fun hb8573 => ?_)
                        · replace H := cond_t hb8573 H
                          refine run_seq ?_
                          refine run_region rfl ?_
                          refine ox rfl rfl rfl rfl (ex_assign rfl rfl) ?_
                          refine ops_nil (at_then ?_)
                          refine run_ret ?_
                          refine at_then_ret ?_
                          replace HM := (HM.front 0 rfl rfl).drop
                          replace HM := (HM.front 0 rfl rfl).drop
                          replace HM := (HM.front 0 rfl rfl).drop
                          replace HM := (HM.front 0 rfl rfl).drop
                          replace HM := (HM.front 0 rfl rfl).drop
                          have hR := Option.some.inj H
                          subst hR
                          exact at_ret1 rfl rfl ⟨_, rfl, rfl, HM⟩
                        · replace H := cond_f hb8573 H
                          refine run_skip ?_
                          refine at_then ?_
                          refine run_seq ?_
                          obtain ⟨t8574, h8575, H⟩ := bind_some H
                          obtain ⟨t8578, h8579, H⟩ := bind_some H
                          obtain ⟨t8584, h8585, H⟩ := bind_some H
                          obtain ⟨t8588, h8589, H⟩ := bind_some H
                          refine run_meet (fun ρ_ w_ => ∃ u8590 : Value, ∃ b8592 : Nat, ρ_ = [(10, .pointer (some ⟨b8390, 0, none⟩)), (14, .pointer (some ⟨b8456, 0, none⟩)), (16, .int .i64 t8558.1), (18, .pointer (some ⟨b8592, 0, none⟩))] ∧ Mem w [] w_ [box b8390 31 [.int .i64 t8386.fCode, u8388], own kCoin 72 u8388 t8386.fCoins, box b8456 31 [.int .i64 t8452.fCode, u8454], own kCoin 72 u8454 t8558.2, box b8592 31 [.int .i64 t8588.fCode, u8590], own kCoin 72 u8590 t8588.fCoins]) ?_ ?_
                          · skip
                            refine run_draw (fun w_ => Mem w [] w_ [own kCoin 72 u8454 t8558.2, box b8353 26 [.int .i64 x1.fKind, .int .i64 x1.fMember, p1_0, p1_1], box b8390 31 [.int .i64 t8386.fCode, u8388], own kCoin 72 u8388 t8386.fCoins, box b8456 31 [.int .i64 t8452.fCode, u8454]]) mixed rfl (l := #[false, false, false, false, false, false, false, false, false, false]) rfl ?_
                            replace HM := HM.grow (fr_drew _)
                            have hS := Mem.suf (M := []) HM
                            refine drw_cut2 (l' := #[true, true, true, false, true, true, false, false, true, false]) (f' := 4) (fun (u8576 : Value) => fun (b8592 : Nat) => [(10, .pointer (some ⟨b8390, 0, none⟩)), (14, .pointer (some ⟨b8456, 0, none⟩)), (16, .int .i64 t8558.1), (102, .agg #[(.int .i64 x1.fKind), (.int .i64 x1.fMember), p1_0, p1_1]), (104, .int .i64 x2), (105, p3), (101, u8576), (18, .pointer (some ⟨b8592, 0, none⟩))]) (fun (u8576 : Value) => fun (b8592 : Nat) => fun w_ => Mem w [] w_ [box b8592 31 [.int .i64 0, .slice none 0 0], own kCoin 72 u8576 t8574, own kCoin 72 u8454 t8558.2, box b8353 26 [.int .i64 x1.fKind, .int .i64 x1.fMember, p1_0, p1_1], box b8390 31 [.int .i64 t8386.fCode, u8388], own kCoin 72 u8388 t8386.fCoins, box b8456 31 [.int .i64 t8452.fCode, u8454]]) ?_ (fun K8609 => ?_)
                            · rintro u8576 b8592 w8610 HM
                              replace HM : Mem w [] w8610 [box b8592 31 [.int .i64 0, .slice none 0 0], own kCoin 72 u8576 t8574, own kCoin 72 u8454 t8558.2, box b8353 26 [.int .i64 x1.fKind, .int .i64 x1.fMember, p1_0, p1_1], box b8390 31 [.int .i64 t8386.fCode, u8388], own kCoin 72 u8388 t8386.fCoins, box b8456 31 [.int .i64 t8452.fCode, u8454]] := HM
                              have hS := Mem.suf (M := [box b8592 31 [.int .i64 0, .slice none 0 0], own kCoin 72 u8576 t8574]) HM
                              refine drw_any [3] (by kernel_rfl) rfl (.cons ?_ .nil)
                              refine br_does (l' := #[true, true, true, true, true, true, false, false, true, false]) rfl (guard_none rfl) rfl rfl (by kernel_rfl) (does_callk rfl callok8 rfl (laws_toTx.calls (x0 := x1) (HM.rd hp1_0) (HM.rd hp1_1) h8579)) ?_
                              rintro _ w8611 ⟨u8580, u8582, rfl, hn⟩
                              replace HM : Mem w [] w8611 [own kRef 66 u8580 t8578.fIns, own kOut 70 u8582 t8578.fOuts, box b8592 31 [.int .i64 0, .slice none 0 0], own kCoin 72 u8576 t8574, own kCoin 72 u8454 t8558.2, box b8353 26 [.int .i64 x1.fKind, .int .i64 x1.fMember, p1_0, p1_1], box b8390 31 [.int .i64 t8386.fCode, u8388], own kCoin 72 u8388 t8386.fCoins, box b8456 31 [.int .i64 t8452.fCode, u8454]] := HM.call hn
                              have hS := Mem.suf (M := [own kRef 66 u8580 t8578.fIns, own kOut 70 u8582 t8578.fOuts, box b8592 31 [.int .i64 0, .slice none 0 0], own kCoin 72 u8576 t8574]) HM
                              refine ⟨hS, ?_⟩
                              refine drw_any [6] (by kernel_rfl) rfl (.cons ?_ .nil)
                              refine br_does (l' := #[true, true, true, true, true, true, true, false, true, false]) rfl (guard_none rfl) rfl rfl (by kernel_rfl) (does_callk rfl callok7 rfl (laws_toCoinS.calls (x0 := x3) (HM.rd hp3) h8585)) ?_
                              rintro u8586 w8612 ⟨_, rfl, hn⟩
                              replace HM : Mem w [] w8612 [own kCoin 72 u8586 t8584, own kRef 66 u8580 t8578.fIns, own kOut 70 u8582 t8578.fOuts, box b8592 31 [.int .i64 0, .slice none 0 0], own kCoin 72 u8576 t8574, own kCoin 72 u8454 t8558.2, box b8353 26 [.int .i64 x1.fKind, .int .i64 x1.fMember, p1_0, p1_1], box b8390 31 [.int .i64 t8386.fCode, u8388], own kCoin 72 u8388 t8386.fCoins, box b8456 31 [.int .i64 t8452.fCode, u8454]] := HM.call hn
                              have hS := Mem.suf (M := [own kCoin 72 u8586 t8584, own kRef 66 u8580 t8578.fIns, own kOut 70 u8582 t8578.fOuts, box b8592 31 [.int .i64 0, .slice none 0 0], own kCoin 72 u8576 t8574]) HM
                              refine ⟨hS, ?_⟩
                              refine drw_any [7] (by kernel_rfl) rfl (.cons ?_ .nil)
                              refine br_does (l' := #[true, true, true, true, true, true, true, true, true, false]) rfl (guard_none rfl) rfl rfl (by kernel_rfl) (does_callk rfl callok9 rfl (impl_UndoTx.calls (x0 := t8574) (x1 := t8578) (x2 := x2) (x3 := t8584) (HM.own_rd 4 rfl) (HM.own_rd 1 rfl) (HM.own_rd 2 rfl) (HM.own_rd 0 rfl) h8589)) ?_
                              rintro _ w8613 ⟨u8590, rfl, hn⟩
                              replace HM : Mem w [] w8613 [own kCoin 72 u8590 t8588.fCoins, own kCoin 72 u8586 t8584, own kRef 66 u8580 t8578.fIns, own kOut 70 u8582 t8578.fOuts, box b8592 31 [.int .i64 0, .slice none 0 0], own kCoin 72 u8576 t8574, own kCoin 72 u8454 t8558.2, box b8353 26 [.int .i64 x1.fKind, .int .i64 x1.fMember, p1_0, p1_1], box b8390 31 [.int .i64 t8386.fCode, u8388], own kCoin 72 u8388 t8386.fCoins, box b8456 31 [.int .i64 t8452.fCode, u8454]] := HM.call hn
                              have hS := Mem.suf (M := [own kCoin 72 u8590 t8588.fCoins, own kCoin 72 u8586 t8584, own kRef 66 u8580 t8578.fIns, own kOut 70 u8582 t8578.fOuts, box b8592 31 [.int .i64 0, .slice none 0 0], own kCoin 72 u8576 t8574]) HM
                              refine ⟨hS, ?_⟩
                              replace HM := HM.front 4 rfl rfl
                              refine drw_any [9] (by kernel_rfl) rfl (.cons ?_ .nil)
                              refine br_doesS (l' := #[true, true, true, true, true, true, true, true, true, true]) rfl (guard_none rfl) rfl (by kernel_rfl) (does_store (vs := [.int .i64 t8588.fCode, u8590]) (cs' := [.int .i64 t8588.fCode, u8590]) rfl rfl rfl rfl tsz31 (Ones.int (Ones.rd (HM.own_rd 1 rfl) Ones.nil)) rfl rfl HM) ?_
                              rintro w8614 HM
                              have hS := Mem.suf (M := [box b8592 31 [.int .i64 t8588.fCode, u8590], own kCoin 72 u8590 t8588.fCoins, own kCoin 72 u8586 t8584, own kRef 66 u8580 t8578.fIns, own kOut 70 u8582 t8578.fOuts, own kCoin 72 u8576 t8574]) HM
                              refine ⟨hS, ?_⟩
                              refine drw_done (by kernel_rfl) ?_
                              replace HM := (HM.front 2 rfl rfl).drop
                              replace HM := (HM.front 2 rfl rfl).drop
                              replace HM := (HM.front 2 rfl rfl).drop
                              replace HM := (HM.front 2 rfl rfl).drop
                              replace HM := (HM.front 3 rfl rfl).drop
                              replace HM := HM.front 1 rfl rfl
                              replace HM := HM.front 1 rfl rfl
                              replace HM := HM.front 2 rfl rfl
                              replace HM := HM.front 5 rfl rfl
                              replace HM := HM.front 5 rfl rfl
                              replace HM := HM.front 5 rfl rfl
                              exact at_meet [(10, .pointer (some ⟨b8390, 0, none⟩)), (14, .pointer (some ⟨b8456, 0, none⟩)), (16, .int .i64 t8558.1), (18, .pointer (some ⟨b8592, 0, none⟩))] ⟨_, _, rfl, HM⟩ (Sub.cons rfl (Sub.cons rfl (Sub.cons rfl (Sub.cons rfl Sub.nil))))
                            refine dt 0 #[true, false, false, false, false, false, false, false, false, false] rfl rfl rfl rfl (by kernel_rfl) (ex_move rfl rfl) hS ?_
                            refine drw_take (i := 2) (l' := #[true, false, true, false, false, false, false, false, false, false]) rfl (guard_none rfl) rfl rfl (by kernel_rfl) (fun w_ hS_ => (ex_loadN (cs := [(.int .i64 x1.fKind), (.int .i64 x1.fMember), p1_0, p1_1]) rfl rfl Tryz.underlying26 rfl tsz26 rfl ((hS_.box_at 1 rfl).sub 0 4 rfl))) hS ?_
                            refine dt 4 #[true, false, true, false, true, false, false, false, false, false] rfl rfl rfl rfl (by kernel_rfl) (ex_move rfl rfl) hS ?_
                            refine dt 5 #[true, false, true, false, true, true, false, false, false, false] rfl rfl rfl rfl (by kernel_rfl) (ex_move rfl rfl) hS ?_
                            refine drw_any [1, 8] (by kernel_rfl) rfl (.cons ?_ (.cons ?_ .nil))
                            · skip
                              refine br_does (l' := #[true, true, true, false, true, true, false, false, false, false]) rfl (guard_none rfl) rfl rfl (by kernel_rfl) (does_callk rfl callok7 rfl (laws_toCoinS.calls (x0 := x0) (HM.rd hp0) h8575)) ?_
                              rintro u8576 w8615 ⟨_, rfl, hn⟩
                              replace HM : Mem w [] w8615 [own kCoin 72 u8576 t8574, own kCoin 72 u8454 t8558.2, box b8353 26 [.int .i64 x1.fKind, .int .i64 x1.fMember, p1_0, p1_1], box b8390 31 [.int .i64 t8386.fCode, u8388], own kCoin 72 u8388 t8386.fCoins, box b8456 31 [.int .i64 t8452.fCode, u8454]] := HM.call hn
                              have hS := Mem.suf (M := [own kCoin 72 u8576 t8574]) HM
                              refine ⟨hS, ?_⟩
                              refine drw_any [3, 8] (by kernel_rfl) rfl (.cons ?_ (.cons ?_ .nil))
                              · skip
                                refine br_does (l' := #[true, true, true, true, true, true, false, false, false, false]) rfl (guard_none rfl) rfl rfl (by kernel_rfl) (does_callk rfl callok8 rfl (laws_toTx.calls (x0 := x1) (HM.rd hp1_0) (HM.rd hp1_1) h8579)) ?_
                                rintro _ w8616 ⟨u8580, u8582, rfl, hn⟩
                                replace HM : Mem w [] w8616 [own kRef 66 u8580 t8578.fIns, own kOut 70 u8582 t8578.fOuts, own kCoin 72 u8576 t8574, own kCoin 72 u8454 t8558.2, box b8353 26 [.int .i64 x1.fKind, .int .i64 x1.fMember, p1_0, p1_1], box b8390 31 [.int .i64 t8386.fCode, u8388], own kCoin 72 u8388 t8386.fCoins, box b8456 31 [.int .i64 t8452.fCode, u8454]] := HM.call hn
                                have hS := Mem.suf (M := [own kRef 66 u8580 t8578.fIns, own kOut 70 u8582 t8578.fOuts, own kCoin 72 u8576 t8574]) HM
                                refine ⟨hS, ?_⟩
                                refine drw_any [6, 8] (by kernel_rfl) rfl (.cons ?_ (.cons ?_ .nil))
                                · skip
                                  refine br_does (l' := #[true, true, true, true, true, true, true, false, false, false]) rfl (guard_none rfl) rfl rfl (by kernel_rfl) (does_callk rfl callok7 rfl (laws_toCoinS.calls (x0 := x3) (HM.rd hp3) h8585)) ?_
                                  rintro u8586 w8617 ⟨_, rfl, hn⟩
                                  replace HM : Mem w [] w8617 [own kCoin 72 u8586 t8584, own kRef 66 u8580 t8578.fIns, own kOut 70 u8582 t8578.fOuts, own kCoin 72 u8576 t8574, own kCoin 72 u8454 t8558.2, box b8353 26 [.int .i64 x1.fKind, .int .i64 x1.fMember, p1_0, p1_1], box b8390 31 [.int .i64 t8386.fCode, u8388], own kCoin 72 u8388 t8386.fCoins, box b8456 31 [.int .i64 t8452.fCode, u8454]] := HM.call hn
                                  have hS := Mem.suf (M := [own kCoin 72 u8586 t8584, own kRef 66 u8580 t8578.fIns, own kOut 70 u8582 t8578.fOuts, own kCoin 72 u8576 t8574]) HM
                                  refine ⟨hS, ?_⟩
                                  refine drw_any [7, 8] (by kernel_rfl) rfl (.cons ?_ (.cons ?_ .nil))
                                  · skip
                                    refine br_does (l' := #[true, true, true, true, true, true, true, true, false, false]) rfl (guard_none rfl) rfl rfl (by kernel_rfl) (does_callk rfl callok9 rfl (impl_UndoTx.calls (x0 := t8574) (x1 := t8578) (x2 := x2) (x3 := t8584) (HM.own_rd 3 rfl) (HM.own_rd 1 rfl) (HM.own_rd 2 rfl) (HM.own_rd 0 rfl) h8589)) ?_
                                    rintro _ w8618 ⟨u8590, rfl, hn⟩
                                    replace HM : Mem w [] w8618 [own kCoin 72 u8590 t8588.fCoins, own kCoin 72 u8586 t8584, own kRef 66 u8580 t8578.fIns, own kOut 70 u8582 t8578.fOuts, own kCoin 72 u8576 t8574, own kCoin 72 u8454 t8558.2, box b8353 26 [.int .i64 x1.fKind, .int .i64 x1.fMember, p1_0, p1_1], box b8390 31 [.int .i64 t8386.fCode, u8388], own kCoin 72 u8388 t8386.fCoins, box b8456 31 [.int .i64 t8452.fCode, u8454]] := HM.call hn
                                    have hS := Mem.suf (M := [own kCoin 72 u8590 t8588.fCoins, own kCoin 72 u8586 t8584, own kRef 66 u8580 t8578.fIns, own kOut 70 u8582 t8578.fOuts, own kCoin 72 u8576 t8574]) HM
                                    refine ⟨hS, ?_⟩
                                    refine drw_any [8] (by kernel_rfl) rfl (.cons ?_ .nil)
                                    refine br_does (l' := #[true, true, true, true, true, true, true, true, true, false]) rfl (guard_none rfl) rfl rfl (by kernel_rfl) (does_alloc (cs := [.int .i64 0, .slice none 0 0]) rfl tz31 rfl HM) ?_
                                    rintro _ w8619 ⟨b8592, rfl, HM⟩
                                    have hS := Mem.suf (M := [box b8592 31 [.int .i64 0, .slice none 0 0], own kCoin 72 u8590 t8588.fCoins, own kCoin 72 u8586 t8584, own kRef 66 u8580 t8578.fIns, own kOut 70 u8582 t8578.fOuts, own kCoin 72 u8576 t8574]) HM
                                    refine ⟨hS, ?_⟩
                                    refine drw_any [9] (by kernel_rfl) rfl (.cons ?_ .nil)
                                    refine br_doesS (l' := #[true, true, true, true, true, true, true, true, true, true]) rfl (guard_none rfl) rfl (by kernel_rfl) (does_store (vs := [.int .i64 t8588.fCode, u8590]) (cs' := [.int .i64 t8588.fCode, u8590]) rfl rfl rfl rfl tsz31 (Ones.int (Ones.rd (HM.own_rd 1 rfl) Ones.nil)) rfl rfl HM) ?_
                                    rintro w8620 HM
                                    have hS := Mem.suf (M := [box b8592 31 [.int .i64 t8588.fCode, u8590], own kCoin 72 u8590 t8588.fCoins, own kCoin 72 u8586 t8584, own kRef 66 u8580 t8578.fIns, own kOut 70 u8582 t8578.fOuts, own kCoin 72 u8576 t8574]) HM
                                    refine ⟨hS, ?_⟩
                                    refine drw_done (by kernel_rfl) ?_
                                    replace HM := (HM.front 2 rfl rfl).drop
                                    replace HM := (HM.front 2 rfl rfl).drop
                                    replace HM := (HM.front 2 rfl rfl).drop
                                    replace HM := (HM.front 2 rfl rfl).drop
                                    replace HM := (HM.front 3 rfl rfl).drop
                                    replace HM := HM.front 1 rfl rfl
                                    replace HM := HM.front 1 rfl rfl
                                    replace HM := HM.front 2 rfl rfl
                                    replace HM := HM.front 5 rfl rfl
                                    replace HM := HM.front 5 rfl rfl
                                    replace HM := HM.front 5 rfl rfl
                                    exact at_meet [(10, .pointer (some ⟨b8390, 0, none⟩)), (14, .pointer (some ⟨b8456, 0, none⟩)), (16, .int .i64 t8558.1), (18, .pointer (some ⟨b8592, 0, none⟩))] ⟨_, _, rfl, HM⟩ (Sub.cons rfl (Sub.cons rfl (Sub.cons rfl (Sub.cons rfl Sub.nil))))
                                  · skip
                                    refine br_does (l' := #[true, true, true, true, true, true, true, false, true, false]) rfl (guard_none rfl) rfl rfl (by kernel_rfl) (does_alloc (cs := [.int .i64 0, .slice none 0 0]) rfl tz31 rfl HM) ?_
                                    rintro _ w8621 ⟨b8592, rfl, HM⟩
                                    have hS := Mem.suf (M := [box b8592 31 [.int .i64 0, .slice none 0 0], own kCoin 72 u8586 t8584, own kRef 66 u8580 t8578.fIns, own kOut 70 u8582 t8578.fOuts, own kCoin 72 u8576 t8574]) HM
                                    refine ⟨hS, ?_⟩
                                    refine drw_any [7] (by kernel_rfl) rfl (.cons ?_ .nil)
                                    refine br_does (l' := #[true, true, true, true, true, true, true, true, true, false]) rfl (guard_none rfl) rfl rfl (by kernel_rfl) (does_callk rfl callok9 rfl (impl_UndoTx.calls (x0 := t8574) (x1 := t8578) (x2 := x2) (x3 := t8584) (HM.own_rd 4 rfl) (HM.own_rd 2 rfl) (HM.own_rd 3 rfl) (HM.own_rd 1 rfl) h8589)) ?_
                                    rintro _ w8622 ⟨u8590, rfl, hn⟩
                                    replace HM : Mem w [] w8622 [own kCoin 72 u8590 t8588.fCoins, box b8592 31 [.int .i64 0, .slice none 0 0], own kCoin 72 u8586 t8584, own kRef 66 u8580 t8578.fIns, own kOut 70 u8582 t8578.fOuts, own kCoin 72 u8576 t8574, own kCoin 72 u8454 t8558.2, box b8353 26 [.int .i64 x1.fKind, .int .i64 x1.fMember, p1_0, p1_1], box b8390 31 [.int .i64 t8386.fCode, u8388], own kCoin 72 u8388 t8386.fCoins, box b8456 31 [.int .i64 t8452.fCode, u8454]] := HM.call hn
                                    have hS := Mem.suf (M := [own kCoin 72 u8590 t8588.fCoins, box b8592 31 [.int .i64 0, .slice none 0 0], own kCoin 72 u8586 t8584, own kRef 66 u8580 t8578.fIns, own kOut 70 u8582 t8578.fOuts, own kCoin 72 u8576 t8574]) HM
                                    refine ⟨hS, ?_⟩
                                    replace HM := HM.front 1 rfl rfl
                                    refine drw_any [9] (by kernel_rfl) rfl (.cons ?_ .nil)
                                    refine br_doesS (l' := #[true, true, true, true, true, true, true, true, true, true]) rfl (guard_none rfl) rfl (by kernel_rfl) (does_store (vs := [.int .i64 t8588.fCode, u8590]) (cs' := [.int .i64 t8588.fCode, u8590]) rfl rfl rfl rfl tsz31 (Ones.int (Ones.rd (HM.own_rd 1 rfl) Ones.nil)) rfl rfl HM) ?_
                                    rintro w8623 HM
                                    have hS := Mem.suf (M := [box b8592 31 [.int .i64 t8588.fCode, u8590], own kCoin 72 u8590 t8588.fCoins, own kCoin 72 u8586 t8584, own kRef 66 u8580 t8578.fIns, own kOut 70 u8582 t8578.fOuts, own kCoin 72 u8576 t8574]) HM
                                    refine ⟨hS, ?_⟩
                                    refine drw_done (by kernel_rfl) ?_
                                    replace HM := (HM.front 2 rfl rfl).drop
                                    replace HM := (HM.front 2 rfl rfl).drop
                                    replace HM := (HM.front 2 rfl rfl).drop
                                    replace HM := (HM.front 2 rfl rfl).drop
                                    replace HM := (HM.front 3 rfl rfl).drop
                                    replace HM := HM.front 1 rfl rfl
                                    replace HM := HM.front 1 rfl rfl
                                    replace HM := HM.front 2 rfl rfl
                                    replace HM := HM.front 5 rfl rfl
                                    replace HM := HM.front 5 rfl rfl
                                    replace HM := HM.front 5 rfl rfl
                                    exact at_meet [(10, .pointer (some ⟨b8390, 0, none⟩)), (14, .pointer (some ⟨b8456, 0, none⟩)), (16, .int .i64 t8558.1), (18, .pointer (some ⟨b8592, 0, none⟩))] ⟨_, _, rfl, HM⟩ (Sub.cons rfl (Sub.cons rfl (Sub.cons rfl (Sub.cons rfl Sub.nil))))
                                · skip
                                  refine br_does (l' := #[true, true, true, true, true, true, false, false, true, false]) rfl (guard_none rfl) rfl rfl (by kernel_rfl) (does_alloc (cs := [.int .i64 0, .slice none 0 0]) rfl tz31 rfl HM) ?_
                                  rintro _ w8624 ⟨b8592, rfl, HM⟩
                                  have hS := Mem.suf (M := [box b8592 31 [.int .i64 0, .slice none 0 0], own kRef 66 u8580 t8578.fIns, own kOut 70 u8582 t8578.fOuts, own kCoin 72 u8576 t8574]) HM
                                  refine ⟨hS, ?_⟩
                                  refine drw_any [6] (by kernel_rfl) rfl (.cons ?_ .nil)
                                  refine br_does (l' := #[true, true, true, true, true, true, true, false, true, false]) rfl (guard_none rfl) rfl rfl (by kernel_rfl) (does_callk rfl callok7 rfl (laws_toCoinS.calls (x0 := x3) (HM.rd hp3) h8585)) ?_
                                  rintro u8586 w8625 ⟨_, rfl, hn⟩
                                  replace HM : Mem w [] w8625 [own kCoin 72 u8586 t8584, box b8592 31 [.int .i64 0, .slice none 0 0], own kRef 66 u8580 t8578.fIns, own kOut 70 u8582 t8578.fOuts, own kCoin 72 u8576 t8574, own kCoin 72 u8454 t8558.2, box b8353 26 [.int .i64 x1.fKind, .int .i64 x1.fMember, p1_0, p1_1], box b8390 31 [.int .i64 t8386.fCode, u8388], own kCoin 72 u8388 t8386.fCoins, box b8456 31 [.int .i64 t8452.fCode, u8454]] := HM.call hn
                                  have hS := Mem.suf (M := [own kCoin 72 u8586 t8584, box b8592 31 [.int .i64 0, .slice none 0 0], own kRef 66 u8580 t8578.fIns, own kOut 70 u8582 t8578.fOuts, own kCoin 72 u8576 t8574]) HM
                                  refine ⟨hS, ?_⟩
                                  refine drw_any [7] (by kernel_rfl) rfl (.cons ?_ .nil)
                                  refine br_does (l' := #[true, true, true, true, true, true, true, true, true, false]) rfl (guard_none rfl) rfl rfl (by kernel_rfl) (does_callk rfl callok9 rfl (impl_UndoTx.calls (x0 := t8574) (x1 := t8578) (x2 := x2) (x3 := t8584) (HM.own_rd 4 rfl) (HM.own_rd 2 rfl) (HM.own_rd 3 rfl) (HM.own_rd 0 rfl) h8589)) ?_
                                  rintro _ w8626 ⟨u8590, rfl, hn⟩
                                  replace HM : Mem w [] w8626 [own kCoin 72 u8590 t8588.fCoins, own kCoin 72 u8586 t8584, box b8592 31 [.int .i64 0, .slice none 0 0], own kRef 66 u8580 t8578.fIns, own kOut 70 u8582 t8578.fOuts, own kCoin 72 u8576 t8574, own kCoin 72 u8454 t8558.2, box b8353 26 [.int .i64 x1.fKind, .int .i64 x1.fMember, p1_0, p1_1], box b8390 31 [.int .i64 t8386.fCode, u8388], own kCoin 72 u8388 t8386.fCoins, box b8456 31 [.int .i64 t8452.fCode, u8454]] := HM.call hn
                                  have hS := Mem.suf (M := [own kCoin 72 u8590 t8588.fCoins, own kCoin 72 u8586 t8584, box b8592 31 [.int .i64 0, .slice none 0 0], own kRef 66 u8580 t8578.fIns, own kOut 70 u8582 t8578.fOuts, own kCoin 72 u8576 t8574]) HM
                                  refine ⟨hS, ?_⟩
                                  replace HM := HM.front 2 rfl rfl
                                  refine drw_any [9] (by kernel_rfl) rfl (.cons ?_ .nil)
                                  refine br_doesS (l' := #[true, true, true, true, true, true, true, true, true, true]) rfl (guard_none rfl) rfl (by kernel_rfl) (does_store (vs := [.int .i64 t8588.fCode, u8590]) (cs' := [.int .i64 t8588.fCode, u8590]) rfl rfl rfl rfl tsz31 (Ones.int (Ones.rd (HM.own_rd 1 rfl) Ones.nil)) rfl rfl HM) ?_
                                  rintro w8627 HM
                                  have hS := Mem.suf (M := [box b8592 31 [.int .i64 t8588.fCode, u8590], own kCoin 72 u8590 t8588.fCoins, own kCoin 72 u8586 t8584, own kRef 66 u8580 t8578.fIns, own kOut 70 u8582 t8578.fOuts, own kCoin 72 u8576 t8574]) HM
                                  refine ⟨hS, ?_⟩
                                  refine drw_done (by kernel_rfl) ?_
                                  replace HM := (HM.front 2 rfl rfl).drop
                                  replace HM := (HM.front 2 rfl rfl).drop
                                  replace HM := (HM.front 2 rfl rfl).drop
                                  replace HM := (HM.front 2 rfl rfl).drop
                                  replace HM := (HM.front 3 rfl rfl).drop
                                  replace HM := HM.front 1 rfl rfl
                                  replace HM := HM.front 1 rfl rfl
                                  replace HM := HM.front 2 rfl rfl
                                  replace HM := HM.front 5 rfl rfl
                                  replace HM := HM.front 5 rfl rfl
                                  replace HM := HM.front 5 rfl rfl
                                  exact at_meet [(10, .pointer (some ⟨b8390, 0, none⟩)), (14, .pointer (some ⟨b8456, 0, none⟩)), (16, .int .i64 t8558.1), (18, .pointer (some ⟨b8592, 0, none⟩))] ⟨_, _, rfl, HM⟩ (Sub.cons rfl (Sub.cons rfl (Sub.cons rfl (Sub.cons rfl Sub.nil))))
                              · skip
                                refine br_does (l' := #[true, true, true, false, true, true, false, false, true, false]) rfl (guard_none rfl) rfl rfl (by kernel_rfl) (does_alloc (cs := [.int .i64 0, .slice none 0 0]) rfl tz31 rfl HM) ?_
                                rintro _ w8628 ⟨b8592, rfl, HM⟩
                                have hS := Mem.suf (M := [box b8592 31 [.int .i64 0, .slice none 0 0], own kCoin 72 u8576 t8574]) HM
                                refine ⟨hS, ?_⟩
                                exact drw_sub (K8609 u8576 b8592 _ HM) (Sub.cons rfl (Sub.cons rfl (Sub.cons rfl (Sub.cons rfl (Sub.cons rfl (Sub.cons rfl (Sub.cons rfl (Sub.cons rfl Sub.nil))))))))
                            · skip
                              refine br_does (l' := #[true, false, true, false, true, true, false, false, true, false]) rfl (guard_none rfl) rfl rfl (by kernel_rfl) (does_alloc (cs := [.int .i64 0, .slice none 0 0]) rfl tz31 rfl HM) ?_
                              rintro _ w8629 ⟨b8592, rfl, HM⟩
                              have hS := Mem.suf (M := [box b8592 31 [.int .i64 0, .slice none 0 0]]) HM
                              refine ⟨hS, ?_⟩
                              refine drw_any [1] (by kernel_rfl) rfl (.cons ?_ .nil)
                              refine br_does (l' := #[true, true, true, false, true, true, false, false, true, false]) rfl (guard_none rfl) rfl rfl (by kernel_rfl) (does_callk rfl callok7 rfl (laws_toCoinS.calls (x0 := x0) (HM.rd hp0) h8575)) ?_
                              rintro u8576 w8630 ⟨_, rfl, hn⟩
                              replace HM : Mem w [] w8630 [own kCoin 72 u8576 t8574, box b8592 31 [.int .i64 0, .slice none 0 0], own kCoin 72 u8454 t8558.2, box b8353 26 [.int .i64 x1.fKind, .int .i64 x1.fMember, p1_0, p1_1], box b8390 31 [.int .i64 t8386.fCode, u8388], own kCoin 72 u8388 t8386.fCoins, box b8456 31 [.int .i64 t8452.fCode, u8454]] := HM.call hn
                              have hS := Mem.suf (M := [own kCoin 72 u8576 t8574, box b8592 31 [.int .i64 0, .slice none 0 0]]) HM
                              refine ⟨hS, ?_⟩
                              replace HM := HM.front 6 rfl rfl
                              replace HM := HM.front 6 rfl rfl
                              replace HM := HM.front 6 rfl rfl
                              replace HM := HM.front 6 rfl rfl
                              replace HM := HM.front 6 rfl rfl
                              replace HM := HM.front 5 rfl rfl
                              replace HM := HM.front 6 rfl rfl
                              exact drw_sub (K8609 u8576 b8592 _ HM) (Sub.cons rfl (Sub.cons rfl (Sub.cons rfl (Sub.cons rfl (Sub.cons rfl (Sub.cons rfl (Sub.cons rfl (Sub.cons rfl Sub.nil))))))))
                          · rintro _ w8631 ⟨u8590, b8592, rfl, HM⟩
                            refine at_then ?_
                            refine run_seq ?_
                            refine run_seq ?_
                            obtain ⟨t8635, h8636, H⟩ := bind_some H
                            refine run_region rfl ?_
                            refine ox rfl rfl rfl rfl (ex_loadN (cs := [(.int .i64 t8588.fCode), u8590]) rfl rfl Tryz.underlying31 rfl tsz31 rfl ((HM.box_at 4 rfl).sub 0 2 rfl)) ?_
                            refine ox rfl rfl rfl rfl (ex_loadN (cs := [(.int .i64 t8386.fCode), u8388]) rfl rfl Tryz.underlying31 rfl tsz31 rfl ((HM.box_at 0 rfl).sub 0 2 rfl)) ?_
                            refine od rfl rfl rfl rfl (does_callk rfl callok10 rfl (laws_eqCoinsResult.calls (x0 := t8588) (x1 := t8386) (HM.own_rd 5 rfl) (HM.own_rd 1 rfl) h8636)) ?_
                            rintro _ w8637 ⟨rfl, hn⟩
                            replace HM : Mem w [] w8637 [box b8390 31 [.int .i64 t8386.fCode, u8388], own kCoin 72 u8388 t8386.fCoins, box b8456 31 [.int .i64 t8452.fCode, u8454], own kCoin 72 u8454 t8558.2, box b8592 31 [.int .i64 t8588.fCode, u8590], own kCoin 72 u8590 t8588.fCoins] := HM.call hn
                            refine ox rfl rfl rfl rfl (ex_not rfl rfl) ?_
                            refine ops_nil (at_then ?_)
                            refine run_cond (b := !t8635) rfl (fun hb8638 => ?_) (fun hb8638 => ?_)
                            · replace H := cond_t hb8638 H
                              refine run_seq ?_
                              refine run_region rfl ?_
                              refine ox rfl rfl rfl rfl (ex_assign rfl rfl) ?_
                              refine ops_nil (at_then ?_)
                              refine run_ret ?_
                              refine at_then_ret ?_
                              replace HM := (HM.front 0 rfl rfl).drop
                              replace HM := (HM.front 0 rfl rfl).drop
                              replace HM := (HM.front 0 rfl rfl).drop
                              replace HM := (HM.front 0 rfl rfl).drop
                              replace HM := (HM.front 0 rfl rfl).drop
                              replace HM := (HM.front 0 rfl rfl).drop
                              have hR := Option.some.inj H
                              subst hR
                              exact at_ret1 rfl rfl ⟨_, rfl, rfl, HM⟩
                            · replace H := cond_f hb8638 H
                              refine run_skip ?_
                              refine at_then ?_
                              refine run_seq ?_
                              refine run_region rfl ?_
                              refine ox rfl rfl rfl rfl (ex_assign rfl rfl) ?_
                              refine ops_nil (at_then (run_seq ?_))
                              obtain ⟨t8639, h8640, H⟩ := bind_some H
                              refine run_region rfl ?_
                              refine ox rfl rfl rfl rfl (ex_loadN (cs := [(.int .i64 t8452.fCode), u8454]) rfl rfl Tryz.underlying31 rfl tsz31 rfl ((HM.box_at 2 rfl).sub 0 2 rfl)) ?_
                              refine ox rfl rfl rfl rfl (ex_move rfl rfl) ?_
                              refine od rfl rfl rfl rfl (does_callk rfl callok16 rfl (laws_heldCoinsResult.calls (x0 := (⟨t8452.fCode, t8558.2⟩ : CoinsResult)) (x1 := 1) (HM.own_rd 3 rfl) h8640)) ?_
                              rintro _ w8641 ⟨rfl, hn⟩
                              replace HM : Mem w [] w8641 [box b8390 31 [.int .i64 t8386.fCode, u8388], own kCoin 72 u8388 t8386.fCoins, box b8456 31 [.int .i64 t8452.fCode, u8454], own kCoin 72 u8454 t8558.2, box b8592 31 [.int .i64 t8588.fCode, u8590], own kCoin 72 u8590 t8588.fCoins] := HM.call hn
                              refine ox rfl rfl rfl rfl (ex_assign rfl rfl) ?_
                              refine ops_nil (at_then (run_seq ?_))
                              refine run_seq ?_
                              refine run_region rfl ?_
                              refine ox rfl rfl rfl rfl (ex_move rfl rfl) ?_
                              refine ox rfl rfl rfl rfl (ex_lss rfl rfl rfl) ?_
                              refine ops_nil (at_then ?_)
                              refine run_cond (b := (decide (t8639 < 0))) rfl (fun hb8643 => ?_) (fun hb8643 => ?_)
                              · replace H := cond_t hb8643 H
                                refine run_seq ?_
                                refine run_region rfl ?_
                                refine ox rfl rfl rfl rfl (ex_assign rfl rfl) ?_
                                refine ops_nil (at_then ?_)
                                refine run_ret ?_
                                refine at_then_ret ?_
                                replace HM := (HM.front 0 rfl rfl).drop
                                replace HM := (HM.front 0 rfl rfl).drop
                                replace HM := (HM.front 0 rfl rfl).drop
                                replace HM := (HM.front 0 rfl rfl).drop
                                replace HM := (HM.front 0 rfl rfl).drop
                                replace HM := (HM.front 0 rfl rfl).drop
                                have hR := Option.some.inj H
                                subst hR
                                exact at_ret1 rfl rfl ⟨_, rfl, rfl, HM⟩
                              · replace H := cond_f hb8643 H
                                refine run_skip ?_
                                refine at_then ?_
                                refine run_seq ?_
                                refine run_seq ?_
                                refine run_region rfl ?_
                                refine ox rfl rfl rfl rfl (ex_move rfl rfl) ?_
                                refine ox rfl rfl rfl rfl (ex_move rfl rfl) ?_
                                refine ox rfl rfl rfl rfl (ex_neq rfl rfl rfl) ?_
                                refine ops_nil (at_then ?_)
                                refine run_cond (b := (t8639 != t8558.1)) rfl (fun hb8644 => ?_) (fun hb8644 => ?_)
                                · replace H := cond_t hb8644 H
                                  refine run_seq ?_
                                  refine run_region rfl ?_
                                  refine ox rfl rfl rfl rfl (ex_assign rfl rfl) ?_
                                  refine ops_nil (at_then ?_)
                                  refine run_ret ?_
                                  refine at_then_ret ?_
                                  replace HM := (HM.front 0 rfl rfl).drop
                                  replace HM := (HM.front 0 rfl rfl).drop
                                  replace HM := (HM.front 0 rfl rfl).drop
                                  replace HM := (HM.front 0 rfl rfl).drop
                                  replace HM := (HM.front 0 rfl rfl).drop
                                  replace HM := (HM.front 0 rfl rfl).drop
                                  have hR := Option.some.inj H
                                  subst hR
                                  exact at_ret1 rfl rfl ⟨_, rfl, rfl, HM⟩
                                · replace H := cond_f hb8644 H
                                  refine run_skip ?_
                                  refine at_then ?_
                                  refine run_seq ?_
                                  refine run_region rfl ?_
                                  refine ox rfl rfl rfl rfl (ex_assign rfl rfl) ?_
                                  refine ops_nil (at_then ?_)
                                  refine run_ret ?_
                                  replace HM := (HM.front 0 rfl rfl).drop
                                  replace HM := (HM.front 0 rfl rfl).drop
                                  replace HM := (HM.front 0 rfl rfl).drop
                                  replace HM := (HM.front 0 rfl rfl).drop
                                  replace HM := (HM.front 0 rfl rfl).drop
                                  replace HM := (HM.front 0 rfl rfl).drop
                                  have hR := Option.some.inj H
                                  subst hR
                                  exact at_ret1 rfl rfl ⟨_, rfl, rfl, HM⟩
end Go.Proofs.YtecgbhfgkkpmhabGreat.Zk
