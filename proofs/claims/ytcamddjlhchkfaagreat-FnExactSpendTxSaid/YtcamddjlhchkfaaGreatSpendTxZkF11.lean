/- What functions of the program compute, each as a plain function, and that they do. Conditions: as each theorem states them. -/
import Derived.Test.YtcamddjlhchkfaaGreatSpendTxZkF10
namespace Go.Proofs.YtcamddjlhchkfaaGreat.Zk
open Go Go.RowKit Go.IntWalk Go.Proofs
set_option linter.unusedVariables false
set_option linter.unusedSimpArgs false
set_option maxRecDepth 100000
set_option maxHeartbeats 4000000
def laws_heldInt64S.l0 (x0 : List Int) : Nat → Int → Int → Option (Int ⊕ Int)
  | 0, _, _ => none
  | k + 1, a7724, a7725 => (bif (decide (a7725 < (x0.length : Int))) then (chk (idxOk a7725 x0.length) (bif ((gt x0 a7725) != a7724) then some (.inl (-1)) else laws_heldInt64S.l0 x0 k (wrap64 (a7724 + 1)) (wrap64 (a7725 + 1)))) else some (.inr a7724))
theorem laws_heldInt64S.l0_z (x0 : List Int) (a7724 : Int) (a7725 : Int) : laws_heldInt64S.l0 x0 0 a7724 a7725 = none := rfl
theorem laws_heldInt64S.l0_s (x0 : List Int) (k : Nat) (a7724 : Int) (a7725 : Int) : laws_heldInt64S.l0 x0 (k + 1) a7724 a7725 = (bif (decide (a7725 < (x0.length : Int))) then (chk (idxOk a7725 x0.length) (bif ((gt x0 a7725) != a7724) then some (.inl (-1)) else laws_heldInt64S.l0 x0 k (wrap64 (a7724 + 1)) (wrap64 (a7725 + 1)))) else some (.inr a7724)) := rfl
def laws_heldInt64S.f (k : Nat) (x0 : List Int) (x1 : Int) : Option Int := ((laws_heldInt64S.l0 x0 k x1 0).bind fun o7718 => thn o7718 (fun r => some r) (fun a7717 => some a7717))
theorem laws_heldInt64S.calls {k : Nat} {x0 : List Int} {x1 : Int} {p0 : Value} {w : World} (hp0 : RdS kInt w p0 x0) {r : Int} (H : laws_heldInt64S.f k x0 x1 = some r) :
    Calls Tryz.prog 87 ([p0, .int .i64 x1] : List Value).toArray w (fun e w_ => ∃ v, e = .returned v ∧ v = (.int .i64 r) ∧ Mem w [] w_ []) := by
  have HM := Mem.start w
  refine calls_run (N := 21) Tryz.func87 rfl rfl rfl rfl ?_
  unfold laws_heldInt64S.f at H
  refine run_seq ?_
  refine run_region rfl ?_
  refine ops_ex rfl (guard_none rfl) rfl rfl (ex_assign rfl rfl) ?_
  refine ops_nil ?_
  refine at_then ?_
  obtain ⟨o7718, ho7719, H⟩ := bind_some H
  refine run_mid (fun ρ_ w_ => ∃ a7717 : Int, Sum.inr a7717 = o7718 ∧ ρ_ = [(1, .int .i64 a7717)] ∧ Mem w [] w_ []) ?_ ?_
  · skip
    refine run_seq ?_
    refine run_region rfl ?_
    refine ops_ex rfl (guard_none rfl) rfl rfl (ex_assign rfl rfl) ?_
    refine ops_nil ?_
    refine at_then ?_
    refine run_block ?_
    refine run_loop (fun k_ ρ_ w_ => ∃ a7724 : Int, ∃ a7725 : Int, laws_heldInt64S.l0 x0 k_ a7724 a7725 = some o7718 ∧ ρ_ = [(0, p0), (1, .int .i64 a7724), (5, .int .i64 a7725)] ∧ Mem w [] w_ []) k (ρ1 := [(0, p0), (1, .int .i64 x1), (5, .int .i64 0)]) ⟨_, _, ho7719, rfl, HM⟩ (Sub.cons rfl (Sub.cons rfl (Sub.cons rfl Sub.nil))) ?_
    clear HM ho7719
    rintro k7730 _ w7731 ⟨a7724, a7725, ho7719, rfl, HM⟩
    obtain _ | k7730 := k7730
    · exact nomatch ((laws_heldInt64S.l0_z x0 a7724 a7725).symm.trans ho7719)
    replace ho7719 := (laws_heldInt64S.l0_s x0 k7730 a7724 a7725).symm.trans ho7719
    refine run_seq ?_
    refine run_seq ?_
    refine run_region rfl ?_
    refine ops_ex rfl (guard_none rfl) rfl rfl (ex_move rfl rfl) ?_
    refine ops_ex rfl (guard_none rfl) rfl rfl (ex_move rfl rfl) ?_
    refine ops_ex rfl (guard_none rfl) rfl rfl (ex_len (d := kInt) (xs := x0) rfl rfl Tryz.underlying60 hp0) ?_
    refine ops_ex rfl (guard_none rfl) rfl rfl (ex_lss rfl rfl rfl) ?_
    refine ops_nil ?_
    refine at_then ?_
    refine run_cond (b := (decide (a7725 < (x0.length : Int)))) rfl (fun hb7732 => ?_) (fun hb7732 => ?_)
    · replace ho7719 := cond_t hb7732 ho7719
      refine run_skip ?_
      refine at_then ?_
      refine run_seq ?_
      refine run_block ?_
      refine run_seq ?_
      refine run_seq ?_
      obtain ⟨e7733, ho7719⟩ := chk_some ho7719
      refine run_region rfl ?_
      refine ops_ex rfl (guard_none rfl) rfl rfl (ex_move rfl rfl) ?_
      refine ops_ex rfl (guard_none rfl) rfl rfl (ex_move rfl rfl) ?_
      have hc7734 : CellsAt _ (sb p0) (so p0 + (a7725).toNat * 1) [(.int .i64 (gt x0 a7725))] := rd_plain hp0 e7733
      refine ops_ex rfl (guard_none rfl) rfl rfl (ex_indexAddr (d := kInt) rfl rfl rfl Tryz.underlying60 tsz2 hp0 (idx_lo e7733) (idx_hi e7733)) ?_
      refine ops_ex rfl (guard_none rfl) rfl rfl (ex_load1 rfl rfl Tryz.underlying2 rfl ((HM.at_ hc7734) 0 _ rfl)) ?_
      refine ops_ex rfl (guard_none rfl) rfl rfl (ex_move rfl rfl) ?_
      refine ops_ex rfl (guard_none rfl) rfl rfl (ex_neq rfl rfl rfl) ?_
      refine ops_nil ?_
      refine at_then ?_
      refine run_cond (b := ((gt x0 a7725) != a7724)) rfl (fun hb7735 => ?_) (fun hb7735 => ?_)
      · replace ho7719 := cond_t hb7735 ho7719
        refine run_seq ?_
        refine run_region rfl ?_
        refine ops_ex rfl (guard_none rfl) rfl rfl (ex_assign rfl rfl) ?_
        refine ops_nil ?_
        refine at_then ?_
        refine run_ret ?_
        refine at_then_ret ?_
        refine at_block_ret ?_
        refine at_then_ret ?_
        refine at_then_ret ?_
        refine at_block_ret ?_
        refine at_then_ret ?_
        have hR := Option.some.inj ho7719
        subst hR
        have hT := thn_inl H
        have hR := Option.some.inj hT
        subst hR
        exact at_ret1 rfl rfl ⟨_, rfl, rfl, HM⟩
      · replace ho7719 := cond_f hb7735 ho7719
        refine run_skip ?_
        refine at_then ?_
        refine run_region rfl ?_
        refine ops_ex rfl (guard_none rfl) rfl rfl (ex_move rfl rfl) ?_
        refine ops_ex rfl (guard_none rfl) rfl rfl (ex_add rfl rfl rfl) ?_
        refine ops_ex rfl (guard_none rfl) rfl rfl (ex_assign rfl rfl) ?_
        refine ops_nil ?_
        refine at_block ?_
        refine at_then ?_
        refine run_region rfl ?_
        refine ops_ex rfl (guard_none rfl) rfl rfl (ex_move rfl rfl) ?_
        refine ops_ex rfl (guard_none rfl) rfl rfl (ex_add rfl rfl rfl) ?_
        refine ops_ex rfl (guard_none rfl) rfl rfl (ex_assign rfl rfl) ?_
        refine ops_nil ?_
        exact at_again k7730 (ρ1 := [(0, p0), (1, .int .i64 (wrap64 (a7724 + 1))), (5, .int .i64 (wrap64 (a7725 + 1)))]) (Nat.lt_succ_self _) ⟨_, _, ho7719, rfl, HM⟩ (Sub.cons rfl (Sub.cons rfl (Sub.cons rfl Sub.nil)))
    · replace ho7719 := cond_f hb7732 ho7719
      refine run_exit ?_
      refine at_then_exit ?_
      refine at_then_exit ?_
      refine at_block_exit ?_
      exact at_mid (ρ' := [(1, .int .i64 a7724)]) ⟨_, (Option.some.inj ho7719), rfl, HM⟩ (Sub.cons rfl Sub.nil)
  · rintro _ w7736 ⟨a7717, rfl, rfl, HM⟩
    replace H := (thn_inr H)
    refine run_seq ?_
    refine run_region rfl ?_
    refine ops_ex rfl (guard_none rfl) rfl rfl (ex_move rfl rfl) ?_
    refine ops_ex rfl (guard_none rfl) rfl rfl (ex_assign rfl rfl) ?_
    refine ops_nil ?_
    refine at_then ?_
    refine run_ret ?_
    have hR := Option.some.inj H
    subst hR
    exact at_ret1 rfl rfl ⟨_, rfl, rfl, HM⟩

def laws_heldCoinS.l0 (x0 : List Coin) : Nat → Int → Int → Option (Int ⊕ Int)
  | 0, _, _ => none
  | k + 1, a8237, a8238 => (bif (decide (a8238 < (x0.length : Int))) then (chk (idxOk a8238 x0.length) (bif (((gt x0 a8238).fRef.fTx) != a8237) then some (.inl (-1)) else (chk (idxOk a8238 x0.length) (bif (((gt x0 a8238).fRef.fAt) != (wrap64 (a8237 + 1))) then some (.inl (-1)) else (chk (idxOk a8238 x0.length) (bif (((gt x0 a8238).fOut.fValue) != (wrap64 ((wrap64 (a8237 + 1)) + 1))) then some (.inl (-1)) else (chk (idxOk a8238 x0.length) ((laws_heldInt64S.f k ((gt x0 a8238).fOut.fRule.fKeys) (wrap64 ((wrap64 ((wrap64 (a8237 + 1)) + 1)) + 1))).bind fun t8351 => (bif (decide (t8351 < 0)) then some (.inl (-1)) else (chk (idxOk a8238 x0.length) (bif (((gt x0 a8238).fOut.fRule.fNeed) != t8351) then some (.inl (-1)) else (chk (idxOk a8238 x0.length) (bif (((gt x0 a8238).fOut.fRule.fAfter) != (wrap64 (t8351 + 1))) then some (.inl (-1)) else (chk (idxOk a8238 x0.length) (bif (((gt x0 a8238).fHeight) != (wrap64 ((wrap64 (t8351 + 1)) + 1))) then some (.inl (-1)) else (chk (idxOk a8238 x0.length) (chk ((3 : Int) != 0) (bif (((gt x0 a8238).fMined) != ((Int.tmod (wrap64 ((wrap64 ((wrap64 (t8351 + 1)) + 1)) + 1)) (3 : Int)) == 0)) then some (.inl (-1)) else laws_heldCoinS.l0 x0 k (wrap64 ((wrap64 ((wrap64 ((wrap64 (t8351 + 1)) + 1)) + 1)) + 1)) (wrap64 (a8238 + 1)))))))))))))))))))) else some (.inr a8237))
theorem laws_heldCoinS.l0_z (x0 : List Coin) (a8237 : Int) (a8238 : Int) : laws_heldCoinS.l0 x0 0 a8237 a8238 = none := rfl
theorem laws_heldCoinS.l0_s (x0 : List Coin) (k : Nat) (a8237 : Int) (a8238 : Int) : laws_heldCoinS.l0 x0 (k + 1) a8237 a8238 = (bif (decide (a8238 < (x0.length : Int))) then (chk (idxOk a8238 x0.length) (bif (((gt x0 a8238).fRef.fTx) != a8237) then some (.inl (-1)) else (chk (idxOk a8238 x0.length) (bif (((gt x0 a8238).fRef.fAt) != (wrap64 (a8237 + 1))) then some (.inl (-1)) else (chk (idxOk a8238 x0.length) (bif (((gt x0 a8238).fOut.fValue) != (wrap64 ((wrap64 (a8237 + 1)) + 1))) then some (.inl (-1)) else (chk (idxOk a8238 x0.length) ((laws_heldInt64S.f k ((gt x0 a8238).fOut.fRule.fKeys) (wrap64 ((wrap64 ((wrap64 (a8237 + 1)) + 1)) + 1))).bind fun t8351 => (bif (decide (t8351 < 0)) then some (.inl (-1)) else (chk (idxOk a8238 x0.length) (bif (((gt x0 a8238).fOut.fRule.fNeed) != t8351) then some (.inl (-1)) else (chk (idxOk a8238 x0.length) (bif (((gt x0 a8238).fOut.fRule.fAfter) != (wrap64 (t8351 + 1))) then some (.inl (-1)) else (chk (idxOk a8238 x0.length) (bif (((gt x0 a8238).fHeight) != (wrap64 ((wrap64 (t8351 + 1)) + 1))) then some (.inl (-1)) else (chk (idxOk a8238 x0.length) (chk ((3 : Int) != 0) (bif (((gt x0 a8238).fMined) != ((Int.tmod (wrap64 ((wrap64 ((wrap64 (t8351 + 1)) + 1)) + 1)) (3 : Int)) == 0)) then some (.inl (-1)) else laws_heldCoinS.l0 x0 k (wrap64 ((wrap64 ((wrap64 ((wrap64 (t8351 + 1)) + 1)) + 1)) + 1)) (wrap64 (a8238 + 1)))))))))))))))))))) else some (.inr a8237)) := rfl
def laws_heldCoinS.f (k : Nat) (x0 : List Coin) (x1 : Int) : Option Int := ((laws_heldCoinS.l0 x0 k x1 0).bind fun o8160 => thn o8160 (fun r => some r) (fun a8159 => some a8159))
theorem laws_heldCoinS.calls {k : Nat} {x0 : List Coin} {x1 : Int} {p0 : Value} {w : World} (hp0 : RdS kCoin w p0 x0) {r : Int} (H : laws_heldCoinS.f k x0 x1 = some r) :
    Calls Tryz.prog 46 ([p0, .int .i64 x1] : List Value).toArray w (fun e w_ => ∃ v, e = .returned v ∧ v = (.int .i64 r) ∧ Mem w [] w_ []) := by
  have HM := Mem.start w
  refine calls_run (N := 96) Tryz.func46 rfl rfl rfl rfl ?_
  unfold laws_heldCoinS.f at H
  refine run_seq ?_
  refine run_region rfl ?_
  refine ops_ex rfl (guard_none rfl) rfl rfl (ex_assign rfl rfl) ?_
  refine ops_nil ?_
  refine at_then ?_
  obtain ⟨o8160, ho8161, H⟩ := bind_some H
  refine run_mid (fun ρ_ w_ => ∃ a8159 : Int, Sum.inr a8159 = o8160 ∧ ρ_ = [(1, .int .i64 a8159)] ∧ Mem w [] w_ []) ?_ ?_
  · skip
    refine run_seq ?_
    refine run_region rfl ?_
    refine ops_ex rfl (guard_none rfl) rfl rfl (ex_assign rfl rfl) ?_
    refine ops_nil ?_
    refine at_then ?_
    refine run_block ?_
    refine run_loop (fun k_ ρ_ w_ => ∃ a8237 : Int, ∃ a8238 : Int, laws_heldCoinS.l0 x0 k_ a8237 a8238 = some o8160 ∧ ρ_ = [(0, p0), (1, .int .i64 a8237), (5, .int .i64 a8238)] ∧ Mem w [] w_ []) k (ρ1 := [(0, p0), (1, .int .i64 x1), (5, .int .i64 0)]) ⟨_, _, ho8161, rfl, HM⟩ (Sub.cons rfl (Sub.cons rfl (Sub.cons rfl Sub.nil))) ?_
    clear HM ho8161
    rintro k8314 _ w8315 ⟨a8237, a8238, ho8161, rfl, HM⟩
    obtain _ | k8314 := k8314
    · exact nomatch ((laws_heldCoinS.l0_z x0 a8237 a8238).symm.trans ho8161)
    replace ho8161 := (laws_heldCoinS.l0_s x0 k8314 a8237 a8238).symm.trans ho8161
    refine run_seq ?_
    refine run_seq ?_
    refine run_region rfl ?_
    refine ops_ex rfl (guard_none rfl) rfl rfl (ex_move rfl rfl) ?_
    refine ops_ex rfl (guard_none rfl) rfl rfl (ex_move rfl rfl) ?_
    refine ops_ex rfl (guard_none rfl) rfl rfl (ex_len (d := kCoin) (xs := x0) rfl rfl Tryz.underlying29 hp0) ?_
    refine ops_ex rfl (guard_none rfl) rfl rfl (ex_lss rfl rfl rfl) ?_
    refine ops_nil ?_
    refine at_then ?_
    refine run_cond (b := (decide (a8238 < (x0.length : Int)))) rfl (fun hb8316 => ?_) (fun hb8316 => ?_)
    · replace ho8161 := cond_t hb8316 ho8161
      refine run_skip ?_
      refine at_then ?_
      refine run_seq ?_
      refine run_block ?_
      refine run_seq ?_
      refine run_seq ?_
      obtain ⟨e8322, ho8161⟩ := chk_some ho8161
      refine run_region rfl ?_
      refine ops_ex rfl (guard_none rfl) rfl rfl (ex_move rfl rfl) ?_
      refine ops_ex rfl (guard_none rfl) rfl rfl (ex_move rfl rfl) ?_
      obtain ⟨kv8324, hc8323, hk8325⟩ : ∃ u, CellsAt _ (sb p0) (so p0 + (a8238).toNat * 8) [(.int .i64 ((gt x0 a8238).fRef.fTx)), (.int .i64 ((gt x0 a8238).fRef.fAt)), (.int .i64 ((gt x0 a8238).fOut.fValue)), u, (.int .i64 ((gt x0 a8238).fOut.fRule.fNeed)), (.int .i64 ((gt x0 a8238).fOut.fRule.fAfter)), (.int .i64 ((gt x0 a8238).fHeight)), (.bool ((gt x0 a8238).fMined))] ∧ RdS kInt _ u ((gt x0 a8238).fOut.fRule.fKeys) := rd_with1 hp0 e8322
      refine ops_ex rfl (guard_none rfl) rfl rfl (ex_indexAddr (d := kCoin) rfl rfl rfl Tryz.underlying29 tsz77 hp0 (idx_lo e8322) (idx_hi e8322)) ?_
      refine ops_ex rfl (guard_none rfl) rfl rfl (ex_fieldAddr (off' := so p0 + (a8238).toNat * 8) rfl rfl Tryz.underlying77 rfl tsz56 rfl) ?_
      refine ops_ex rfl (guard_none rfl) rfl rfl (ex_fieldAddr (off' := so p0 + (a8238).toNat * 8) rfl rfl Tryz.underlying56 rfl tsz2 rfl) ?_
      refine ops_ex rfl (guard_none rfl) rfl rfl (ex_load1 rfl rfl Tryz.underlying2 rfl ((HM.at_ hc8323) 0 _ rfl)) ?_
      refine ops_ex rfl (guard_none rfl) rfl rfl (ex_move rfl rfl) ?_
      refine ops_ex rfl (guard_none rfl) rfl rfl (ex_neq rfl rfl rfl) ?_
      refine ops_nil ?_
      refine at_then ?_
      refine run_cond (b := (((gt x0 a8238).fRef.fTx) != a8237)) rfl (fun hb8326 => ?_) (fun hb8326 => ?_)
      · replace ho8161 := cond_t hb8326 ho8161
        refine run_seq ?_
        refine run_region rfl ?_
        refine ops_ex rfl (guard_none rfl) rfl rfl (ex_assign rfl rfl) ?_
        refine ops_nil ?_
        refine at_then ?_
        refine run_ret ?_
        refine at_then_ret ?_
        refine at_block_ret ?_
        refine at_then_ret ?_
        refine at_then_ret ?_
        refine at_block_ret ?_
        refine at_then_ret ?_
        have hR := Option.some.inj ho8161
        subst hR
        have hT := thn_inl H
        have hR := Option.some.inj hT
        subst hR
        exact at_ret1 rfl rfl ⟨_, rfl, rfl, HM⟩
      · replace ho8161 := cond_f hb8326 ho8161
        refine run_skip ?_
        refine at_then ?_
        refine run_seq ?_
        refine run_region rfl ?_
        refine ops_ex rfl (guard_none rfl) rfl rfl (ex_move rfl rfl) ?_
        refine ops_ex rfl (guard_none rfl) rfl rfl (ex_add rfl rfl rfl) ?_
        refine ops_ex rfl (guard_none rfl) rfl rfl (ex_assign rfl rfl) ?_
        refine ops_nil ?_
        refine at_then ?_
        refine run_seq ?_
        refine run_seq ?_
        obtain ⟨e8332, ho8161⟩ := chk_some ho8161
        refine run_region rfl ?_
        refine ops_ex rfl (guard_none rfl) rfl rfl (ex_move rfl rfl) ?_
        refine ops_ex rfl (guard_none rfl) rfl rfl (ex_move rfl rfl) ?_
        obtain ⟨kv8334, hc8333, hk8335⟩ : ∃ u, CellsAt _ (sb p0) (so p0 + (a8238).toNat * 8) [(.int .i64 ((gt x0 a8238).fRef.fTx)), (.int .i64 ((gt x0 a8238).fRef.fAt)), (.int .i64 ((gt x0 a8238).fOut.fValue)), u, (.int .i64 ((gt x0 a8238).fOut.fRule.fNeed)), (.int .i64 ((gt x0 a8238).fOut.fRule.fAfter)), (.int .i64 ((gt x0 a8238).fHeight)), (.bool ((gt x0 a8238).fMined))] ∧ RdS kInt _ u ((gt x0 a8238).fOut.fRule.fKeys) := rd_with1 hp0 e8332
        refine ops_ex rfl (guard_none rfl) rfl rfl (ex_indexAddr (d := kCoin) rfl rfl rfl Tryz.underlying29 tsz77 hp0 (idx_lo e8332) (idx_hi e8332)) ?_
        refine ops_ex rfl (guard_none rfl) rfl rfl (ex_fieldAddr (off' := so p0 + (a8238).toNat * 8) rfl rfl Tryz.underlying77 rfl tsz56 rfl) ?_
        refine ops_ex rfl (guard_none rfl) rfl rfl (ex_fieldAddr (off' := so p0 + (a8238).toNat * 8 + 1) rfl rfl Tryz.underlying56 rfl tsz2 rfl) ?_
        refine ops_ex rfl (guard_none rfl) rfl rfl (ex_load1 rfl rfl Tryz.underlying2 rfl ((HM.at_ hc8333) 1 _ rfl)) ?_
        refine ops_ex rfl (guard_none rfl) rfl rfl (ex_move rfl rfl) ?_
        refine ops_ex rfl (guard_none rfl) rfl rfl (ex_neq rfl rfl rfl) ?_
        refine ops_nil ?_
        refine at_then ?_
        refine run_cond (b := (((gt x0 a8238).fRef.fAt) != (wrap64 (a8237 + 1)))) rfl (fun hb8336 => ?_) (fun hb8336 => ?_)
        · replace ho8161 := cond_t hb8336 ho8161
          refine run_seq ?_
          refine run_region rfl ?_
          refine ops_ex rfl (guard_none rfl) rfl rfl (ex_assign rfl rfl) ?_
          refine ops_nil ?_
          refine at_then ?_
          refine run_ret ?_
          refine at_then_ret ?_
          refine at_block_ret ?_
          refine at_then_ret ?_
          refine at_then_ret ?_
          refine at_block_ret ?_
          refine at_then_ret ?_
          have hR := Option.some.inj ho8161
          subst hR
          have hT := thn_inl H
          have hR := Option.some.inj hT
          subst hR
          exact at_ret1 rfl rfl ⟨_, rfl, rfl, HM⟩
        · replace ho8161 := cond_f hb8336 ho8161
          refine run_skip ?_
          refine at_then ?_
          refine run_seq ?_
          refine run_region rfl ?_
          refine ops_ex rfl (guard_none rfl) rfl rfl (ex_move rfl rfl) ?_
          refine ops_ex rfl (guard_none rfl) rfl rfl (ex_add rfl rfl rfl) ?_
          refine ops_ex rfl (guard_none rfl) rfl rfl (ex_assign rfl rfl) ?_
          refine ops_nil ?_
          refine at_then ?_
          refine run_seq ?_
          refine run_seq ?_
          obtain ⟨e8342, ho8161⟩ := chk_some ho8161
          refine run_region rfl ?_
          refine ops_ex rfl (guard_none rfl) rfl rfl (ex_move rfl rfl) ?_
          refine ops_ex rfl (guard_none rfl) rfl rfl (ex_move rfl rfl) ?_
          obtain ⟨kv8344, hc8343, hk8345⟩ : ∃ u, CellsAt _ (sb p0) (so p0 + (a8238).toNat * 8) [(.int .i64 ((gt x0 a8238).fRef.fTx)), (.int .i64 ((gt x0 a8238).fRef.fAt)), (.int .i64 ((gt x0 a8238).fOut.fValue)), u, (.int .i64 ((gt x0 a8238).fOut.fRule.fNeed)), (.int .i64 ((gt x0 a8238).fOut.fRule.fAfter)), (.int .i64 ((gt x0 a8238).fHeight)), (.bool ((gt x0 a8238).fMined))] ∧ RdS kInt _ u ((gt x0 a8238).fOut.fRule.fKeys) := rd_with1 hp0 e8342
          refine ops_ex rfl (guard_none rfl) rfl rfl (ex_indexAddr (d := kCoin) rfl rfl rfl Tryz.underlying29 tsz77 hp0 (idx_lo e8342) (idx_hi e8342)) ?_
          refine ops_ex rfl (guard_none rfl) rfl rfl (ex_fieldAddr (off' := so p0 + (a8238).toNat * 8 + 2) rfl rfl Tryz.underlying77 rfl tsz75 rfl) ?_
          refine ops_ex rfl (guard_none rfl) rfl rfl (ex_fieldAddr (off' := so p0 + (a8238).toNat * 8 + 2) rfl rfl Tryz.underlying75 rfl tsz2 rfl) ?_
          refine ops_ex rfl (guard_none rfl) rfl rfl (ex_load1 rfl rfl Tryz.underlying2 rfl ((HM.at_ hc8343) 2 _ rfl)) ?_
          refine ops_ex rfl (guard_none rfl) rfl rfl (ex_move rfl rfl) ?_
          refine ops_ex rfl (guard_none rfl) rfl rfl (ex_neq rfl rfl rfl) ?_
          refine ops_nil ?_
          refine at_then ?_
          refine run_cond (b := (((gt x0 a8238).fOut.fValue) != (wrap64 ((wrap64 (a8237 + 1)) + 1)))) rfl (fun hb8346 => ?_) (fun hb8346 => ?_)
          · replace ho8161 := cond_t hb8346 ho8161
            refine run_seq ?_
            refine run_region rfl ?_
            refine ops_ex rfl (guard_none rfl) rfl rfl (ex_assign rfl rfl) ?_
            refine ops_nil ?_
            refine at_then ?_
            refine run_ret ?_
            refine at_then_ret ?_
            refine at_block_ret ?_
            refine at_then_ret ?_
            refine at_then_ret ?_
            refine at_block_ret ?_
            refine at_then_ret ?_
            have hR := Option.some.inj ho8161
            subst hR
            have hT := thn_inl H
            have hR := Option.some.inj hT
            subst hR
            exact at_ret1 rfl rfl ⟨_, rfl, rfl, HM⟩
          · replace ho8161 := cond_f hb8346 ho8161
            refine run_skip ?_
            refine at_then ?_
            refine run_seq ?_
            refine run_region rfl ?_
            refine ops_ex rfl (guard_none rfl) rfl rfl (ex_move rfl rfl) ?_
            refine ops_ex rfl (guard_none rfl) rfl rfl (ex_add rfl rfl rfl) ?_
            refine ops_ex rfl (guard_none rfl) rfl rfl (ex_assign rfl rfl) ?_
            refine ops_nil ?_
            refine at_then ?_
            refine run_seq ?_
            obtain ⟨e8347, ho8161⟩ := chk_some ho8161
            obtain ⟨t8351, h8352, ho8161⟩ := bind_some ho8161
            refine run_region rfl ?_
            refine ops_ex rfl (guard_none rfl) rfl rfl (ex_move rfl rfl) ?_
            refine ops_ex rfl (guard_none rfl) rfl rfl (ex_move rfl rfl) ?_
            obtain ⟨kv8349, hc8348, hk8350⟩ : ∃ u, CellsAt _ (sb p0) (so p0 + (a8238).toNat * 8) [(.int .i64 ((gt x0 a8238).fRef.fTx)), (.int .i64 ((gt x0 a8238).fRef.fAt)), (.int .i64 ((gt x0 a8238).fOut.fValue)), u, (.int .i64 ((gt x0 a8238).fOut.fRule.fNeed)), (.int .i64 ((gt x0 a8238).fOut.fRule.fAfter)), (.int .i64 ((gt x0 a8238).fHeight)), (.bool ((gt x0 a8238).fMined))] ∧ RdS kInt _ u ((gt x0 a8238).fOut.fRule.fKeys) := rd_with1 hp0 e8347
            refine ops_ex rfl (guard_none rfl) rfl rfl (ex_indexAddr (d := kCoin) rfl rfl rfl Tryz.underlying29 tsz77 hp0 (idx_lo e8347) (idx_hi e8347)) ?_
            refine ops_ex rfl (guard_none rfl) rfl rfl (ex_fieldAddr (off' := so p0 + (a8238).toNat * 8 + 2) rfl rfl Tryz.underlying77 rfl tsz75 rfl) ?_
            refine ops_ex rfl (guard_none rfl) rfl rfl (ex_fieldAddr (off' := so p0 + (a8238).toNat * 8 + 3) rfl rfl Tryz.underlying75 rfl tsz73 rfl) ?_
            refine ops_ex rfl (guard_none rfl) rfl rfl (ex_fieldAddr (off' := so p0 + (a8238).toNat * 8 + 3) rfl rfl Tryz.underlying73 rfl tsz60 rfl) ?_
            refine ops_ex rfl (guard_none rfl) rfl rfl (ex_load1 rfl rfl Tryz.underlying60 rfl ((HM.at_ hc8348) 3 _ rfl)) ?_
            refine ops_ex rfl (guard_none rfl) rfl rfl (ex_move rfl rfl) ?_
            refine ops_does rfl (guard_none rfl) rfl rfl (does_callk rfl callok87 rfl (laws_heldInt64S.calls (x0 := (gt x0 a8238).fOut.fRule.fKeys) (x1 := wrap64 ((wrap64 ((wrap64 (a8237 + 1)) + 1)) + 1)) (HM.rd hk8350) h8352)) ?_
            rintro _ w8353 ⟨rfl, hn⟩
            replace HM : Mem w [] w8353 [] := HM.call hn
            refine ops_ex rfl (guard_none rfl) rfl rfl (ex_assign rfl rfl) ?_
            refine ops_nil ?_
            refine at_then ?_
            refine run_seq ?_
            refine run_seq ?_
            refine run_region rfl ?_
            refine ops_ex rfl (guard_none rfl) rfl rfl (ex_move rfl rfl) ?_
            refine ops_ex rfl (guard_none rfl) rfl rfl (ex_lss rfl rfl rfl) ?_
            refine ops_nil ?_
            refine at_then ?_
            refine run_cond (b := (decide (t8351 < 0))) rfl (fun hb8355 => ?_) (fun hb8355 => ?_)
            · replace ho8161 := cond_t hb8355 ho8161
              refine run_seq ?_
              refine run_region rfl ?_
              refine ops_ex rfl (guard_none rfl) rfl rfl (ex_assign rfl rfl) ?_
              refine ops_nil ?_
              refine at_then ?_
              refine run_ret ?_
              refine at_then_ret ?_
              refine at_block_ret ?_
              refine at_then_ret ?_
              refine at_then_ret ?_
              refine at_block_ret ?_
              refine at_then_ret ?_
              have hR := Option.some.inj ho8161
              subst hR
              have hT := thn_inl H
              have hR := Option.some.inj hT
              subst hR
              exact at_ret1 rfl rfl ⟨_, rfl, rfl, HM⟩
            · replace ho8161 := cond_f hb8355 ho8161
              refine run_skip ?_
              refine at_then ?_
              refine run_seq ?_
              refine run_seq ?_
              obtain ⟨e8361, ho8161⟩ := chk_some ho8161
              refine run_region rfl ?_
              refine ops_ex rfl (guard_none rfl) rfl rfl (ex_move rfl rfl) ?_
              refine ops_ex rfl (guard_none rfl) rfl rfl (ex_move rfl rfl) ?_
              obtain ⟨kv8363, hc8362, hk8364⟩ : ∃ u, CellsAt _ (sb p0) (so p0 + (a8238).toNat * 8) [(.int .i64 ((gt x0 a8238).fRef.fTx)), (.int .i64 ((gt x0 a8238).fRef.fAt)), (.int .i64 ((gt x0 a8238).fOut.fValue)), u, (.int .i64 ((gt x0 a8238).fOut.fRule.fNeed)), (.int .i64 ((gt x0 a8238).fOut.fRule.fAfter)), (.int .i64 ((gt x0 a8238).fHeight)), (.bool ((gt x0 a8238).fMined))] ∧ RdS kInt _ u ((gt x0 a8238).fOut.fRule.fKeys) := rd_with1 hp0 e8361
              refine ops_ex rfl (guard_none rfl) rfl rfl (ex_indexAddr (d := kCoin) rfl rfl rfl Tryz.underlying29 tsz77 hp0 (idx_lo e8361) (idx_hi e8361)) ?_
              refine ops_ex rfl (guard_none rfl) rfl rfl (ex_fieldAddr (off' := so p0 + (a8238).toNat * 8 + 2) rfl rfl Tryz.underlying77 rfl tsz75 rfl) ?_
              refine ops_ex rfl (guard_none rfl) rfl rfl (ex_fieldAddr (off' := so p0 + (a8238).toNat * 8 + 3) rfl rfl Tryz.underlying75 rfl tsz73 rfl) ?_
              refine ops_ex rfl (guard_none rfl) rfl rfl (ex_fieldAddr (off' := so p0 + (a8238).toNat * 8 + 4) rfl rfl Tryz.underlying73 rfl tsz2 rfl) ?_
              refine ops_ex rfl (guard_none rfl) rfl rfl (ex_load1 rfl rfl Tryz.underlying2 rfl ((HM.at_ hc8362) 4 _ rfl)) ?_
              refine ops_ex rfl (guard_none rfl) rfl rfl (ex_move rfl rfl) ?_
              refine ops_ex rfl (guard_none rfl) rfl rfl (ex_neq rfl rfl rfl) ?_
              refine ops_nil ?_
              refine at_then ?_
              refine run_cond (b := (((gt x0 a8238).fOut.fRule.fNeed) != t8351)) rfl (fun hb8365 => ?_) (fun hb8365 => ?_)
              · replace ho8161 := cond_t hb8365 ho8161
                refine run_seq ?_
                refine run_region rfl ?_
                refine ops_ex rfl (guard_none rfl) rfl rfl (ex_assign rfl rfl) ?_
                refine ops_nil ?_
                refine at_then ?_
                refine run_ret ?_
                refine at_then_ret ?_
                refine at_block_ret ?_
                refine at_then_ret ?_
                refine at_then_ret ?_
                refine at_block_ret ?_
                refine at_then_ret ?_
                have hR := Option.some.inj ho8161
                subst hR
                have hT := thn_inl H
                have hR := Option.some.inj hT
                subst hR
                exact at_ret1 rfl rfl ⟨_, rfl, rfl, HM⟩
              · replace ho8161 := cond_f hb8365 ho8161
                refine run_skip ?_
                refine at_then ?_
                refine run_seq ?_
                refine run_region rfl ?_
                refine ops_ex rfl (guard_none rfl) rfl rfl (ex_move rfl rfl) ?_
                refine ops_ex rfl (guard_none rfl) rfl rfl (ex_add rfl rfl rfl) ?_
                refine ops_ex rfl (guard_none rfl) rfl rfl (ex_assign rfl rfl) ?_
                refine ops_nil ?_
                refine at_then ?_
                refine run_seq ?_
                refine run_seq ?_
                obtain ⟨e8371, ho8161⟩ := chk_some ho8161
                refine run_region rfl ?_
                refine ops_ex rfl (guard_none rfl) rfl rfl (ex_move rfl rfl) ?_
                refine ops_ex rfl (guard_none rfl) rfl rfl (ex_move rfl rfl) ?_
                obtain ⟨kv8373, hc8372, hk8374⟩ : ∃ u, CellsAt _ (sb p0) (so p0 + (a8238).toNat * 8) [(.int .i64 ((gt x0 a8238).fRef.fTx)), (.int .i64 ((gt x0 a8238).fRef.fAt)), (.int .i64 ((gt x0 a8238).fOut.fValue)), u, (.int .i64 ((gt x0 a8238).fOut.fRule.fNeed)), (.int .i64 ((gt x0 a8238).fOut.fRule.fAfter)), (.int .i64 ((gt x0 a8238).fHeight)), (.bool ((gt x0 a8238).fMined))] ∧ RdS kInt _ u ((gt x0 a8238).fOut.fRule.fKeys) := rd_with1 hp0 e8371
                refine ops_ex rfl (guard_none rfl) rfl rfl (ex_indexAddr (d := kCoin) rfl rfl rfl Tryz.underlying29 tsz77 hp0 (idx_lo e8371) (idx_hi e8371)) ?_
                refine ops_ex rfl (guard_none rfl) rfl rfl (ex_fieldAddr (off' := so p0 + (a8238).toNat * 8 + 2) rfl rfl Tryz.underlying77 rfl tsz75 rfl) ?_
                refine ops_ex rfl (guard_none rfl) rfl rfl (ex_fieldAddr (off' := so p0 + (a8238).toNat * 8 + 3) rfl rfl Tryz.underlying75 rfl tsz73 rfl) ?_
                refine ops_ex rfl (guard_none rfl) rfl rfl (ex_fieldAddr (off' := so p0 + (a8238).toNat * 8 + 5) rfl rfl Tryz.underlying73 rfl tsz2 rfl) ?_
                refine ops_ex rfl (guard_none rfl) rfl rfl (ex_load1 rfl rfl Tryz.underlying2 rfl ((HM.at_ hc8372) 5 _ rfl)) ?_
                refine ops_ex rfl (guard_none rfl) rfl rfl (ex_move rfl rfl) ?_
                refine ops_ex rfl (guard_none rfl) rfl rfl (ex_neq rfl rfl rfl) ?_
                refine ops_nil ?_
                refine at_then ?_
                refine run_cond (b := (((gt x0 a8238).fOut.fRule.fAfter) != (wrap64 (t8351 + 1)))) rfl (fun hb8375 => ?_) (fun hb8375 => ?_)
                · replace ho8161 := cond_t hb8375 ho8161
                  refine run_seq ?_
                  refine run_region rfl ?_
                  refine ops_ex rfl (guard_none rfl) rfl rfl (ex_assign rfl rfl) ?_
                  refine ops_nil ?_
                  refine at_then ?_
                  refine run_ret ?_
                  refine at_then_ret ?_
                  refine at_block_ret ?_
                  refine at_then_ret ?_
                  refine at_then_ret ?_
                  refine at_block_ret ?_
                  refine at_then_ret ?_
                  have hR := Option.some.inj ho8161
                  subst hR
                  have hT := thn_inl H
                  have hR := Option.some.inj hT
                  subst hR
                  exact at_ret1 rfl rfl ⟨_, rfl, rfl, HM⟩
                · replace ho8161 := cond_f hb8375 ho8161
                  refine run_skip ?_
                  refine at_then ?_
                  refine run_seq ?_
                  refine run_region rfl ?_
                  refine ops_ex rfl (guard_none rfl) rfl rfl (ex_move rfl rfl) ?_
                  refine ops_ex rfl (guard_none rfl) rfl rfl (ex_add rfl rfl rfl) ?_
                  refine ops_ex rfl (guard_none rfl) rfl rfl (ex_assign rfl rfl) ?_
                  refine ops_nil ?_
                  refine at_then ?_
                  refine run_seq ?_
                  refine run_seq ?_
                  obtain ⟨e8381, ho8161⟩ := chk_some ho8161
                  refine run_region rfl ?_
                  refine ops_ex rfl (guard_none rfl) rfl rfl (ex_move rfl rfl) ?_
                  refine ops_ex rfl (guard_none rfl) rfl rfl (ex_move rfl rfl) ?_
                  obtain ⟨kv8383, hc8382, hk8384⟩ : ∃ u, CellsAt _ (sb p0) (so p0 + (a8238).toNat * 8) [(.int .i64 ((gt x0 a8238).fRef.fTx)), (.int .i64 ((gt x0 a8238).fRef.fAt)), (.int .i64 ((gt x0 a8238).fOut.fValue)), u, (.int .i64 ((gt x0 a8238).fOut.fRule.fNeed)), (.int .i64 ((gt x0 a8238).fOut.fRule.fAfter)), (.int .i64 ((gt x0 a8238).fHeight)), (.bool ((gt x0 a8238).fMined))] ∧ RdS kInt _ u ((gt x0 a8238).fOut.fRule.fKeys) := rd_with1 hp0 e8381
                  refine ops_ex rfl (guard_none rfl) rfl rfl (ex_indexAddr (d := kCoin) rfl rfl rfl Tryz.underlying29 tsz77 hp0 (idx_lo e8381) (idx_hi e8381)) ?_
                  refine ops_ex rfl (guard_none rfl) rfl rfl (ex_fieldAddr (off' := so p0 + (a8238).toNat * 8 + 6) rfl rfl Tryz.underlying77 rfl tsz2 rfl) ?_
                  refine ops_ex rfl (guard_none rfl) rfl rfl (ex_load1 rfl rfl Tryz.underlying2 rfl ((HM.at_ hc8382) 6 _ rfl)) ?_
                  refine ops_ex rfl (guard_none rfl) rfl rfl (ex_move rfl rfl) ?_
                  refine ops_ex rfl (guard_none rfl) rfl rfl (ex_neq rfl rfl rfl) ?_
                  refine ops_nil ?_
                  refine at_then ?_
                  refine run_cond (b := (((gt x0 a8238).fHeight) != (wrap64 ((wrap64 (t8351 + 1)) + 1)))) rfl (fun hb8385 => ?_) (fun hb8385 => ?_)
                  · replace ho8161 := cond_t hb8385 ho8161
                    refine run_seq ?_
                    refine run_region rfl ?_
                    refine ops_ex rfl (guard_none rfl) rfl rfl (ex_assign rfl rfl) ?_
                    refine ops_nil ?_
                    refine at_then ?_
                    refine run_ret ?_
                    refine at_then_ret ?_
                    refine at_block_ret ?_
                    refine at_then_ret ?_
                    refine at_then_ret ?_
                    refine at_block_ret ?_
                    refine at_then_ret ?_
                    have hR := Option.some.inj ho8161
                    subst hR
                    have hT := thn_inl H
                    have hR := Option.some.inj hT
                    subst hR
                    exact at_ret1 rfl rfl ⟨_, rfl, rfl, HM⟩
                  · replace ho8161 := cond_f hb8385 ho8161
                    refine run_skip ?_
                    refine at_then ?_
                    refine run_seq ?_
                    refine run_region rfl ?_
                    refine ops_ex rfl (guard_none rfl) rfl rfl (ex_move rfl rfl) ?_
                    refine ops_ex rfl (guard_none rfl) rfl rfl (ex_add rfl rfl rfl) ?_
                    refine ops_ex rfl (guard_none rfl) rfl rfl (ex_assign rfl rfl) ?_
                    refine ops_nil ?_
                    refine at_then ?_
                    refine run_seq ?_
                    refine run_seq ?_
                    obtain ⟨e8386, ho8161⟩ := chk_some ho8161
                    obtain ⟨e8390, ho8161⟩ := chk_some ho8161
                    refine run_region rfl ?_
                    refine ops_ex rfl (guard_none rfl) rfl rfl (ex_move rfl rfl) ?_
                    refine ops_ex rfl (guard_none rfl) rfl rfl (ex_move rfl rfl) ?_
                    obtain ⟨kv8388, hc8387, hk8389⟩ : ∃ u, CellsAt _ (sb p0) (so p0 + (a8238).toNat * 8) [(.int .i64 ((gt x0 a8238).fRef.fTx)), (.int .i64 ((gt x0 a8238).fRef.fAt)), (.int .i64 ((gt x0 a8238).fOut.fValue)), u, (.int .i64 ((gt x0 a8238).fOut.fRule.fNeed)), (.int .i64 ((gt x0 a8238).fOut.fRule.fAfter)), (.int .i64 ((gt x0 a8238).fHeight)), (.bool ((gt x0 a8238).fMined))] ∧ RdS kInt _ u ((gt x0 a8238).fOut.fRule.fKeys) := rd_with1 hp0 e8386
                    refine ops_ex rfl (guard_none rfl) rfl rfl (ex_indexAddr (d := kCoin) rfl rfl rfl Tryz.underlying29 tsz77 hp0 (idx_lo e8386) (idx_hi e8386)) ?_
                    refine ops_ex rfl (guard_none rfl) rfl rfl (ex_fieldAddr (off' := so p0 + (a8238).toNat * 8 + 7) rfl rfl Tryz.underlying77 rfl tsz4 rfl) ?_
                    refine ops_ex rfl (guard_none rfl) rfl rfl (ex_load1 rfl rfl Tryz.underlying4 rfl ((HM.at_ hc8387) 7 _ rfl)) ?_
                    refine ops_ex rfl (guard_none rfl) rfl rfl (ex_move rfl rfl) ?_
                    refine ops_ex rfl (guard_none rfl) rfl rfl (ex_remk rfl rfl rfl e8390) ?_
                    refine ops_ex rfl (guard_none rfl) rfl rfl (ex_eql rfl rfl rfl) ?_
                    refine ops_ex rfl (guard_none rfl) rfl rfl (ex_bneq rfl rfl rfl Tryz.underlying4) ?_
                    refine ops_nil ?_
                    refine at_then ?_
                    refine run_cond (b := (((gt x0 a8238).fMined) != ((Int.tmod (wrap64 ((wrap64 ((wrap64 (t8351 + 1)) + 1)) + 1)) (3 : Int)) == 0))) rfl (fun hb8391 => ?_) (fun hb8391 => ?_)
                    · replace ho8161 := cond_t hb8391 ho8161
                      refine run_seq ?_
                      refine run_region rfl ?_
                      refine ops_ex rfl (guard_none rfl) rfl rfl (ex_assign rfl rfl) ?_
                      refine ops_nil ?_
                      refine at_then ?_
                      refine run_ret ?_
                      refine at_then_ret ?_
                      refine at_block_ret ?_
                      refine at_then_ret ?_
                      refine at_then_ret ?_
                      refine at_block_ret ?_
                      refine at_then_ret ?_
                      have hR := Option.some.inj ho8161
                      subst hR
                      have hT := thn_inl H
                      have hR := Option.some.inj hT
                      subst hR
                      exact at_ret1 rfl rfl ⟨_, rfl, rfl, HM⟩
                    · replace ho8161 := cond_f hb8391 ho8161
                      refine run_skip ?_
                      refine at_then ?_
                      refine run_region rfl ?_
                      refine ops_ex rfl (guard_none rfl) rfl rfl (ex_move rfl rfl) ?_
                      refine ops_ex rfl (guard_none rfl) rfl rfl (ex_add rfl rfl rfl) ?_
                      refine ops_ex rfl (guard_none rfl) rfl rfl (ex_assign rfl rfl) ?_
                      refine ops_nil ?_
                      refine at_block ?_
                      refine at_then ?_
                      refine run_region rfl ?_
                      refine ops_ex rfl (guard_none rfl) rfl rfl (ex_move rfl rfl) ?_
                      refine ops_ex rfl (guard_none rfl) rfl rfl (ex_add rfl rfl rfl) ?_
                      refine ops_ex rfl (guard_none rfl) rfl rfl (ex_assign rfl rfl) ?_
                      refine ops_nil ?_
                      exact at_again k8314 (ρ1 := [(0, p0), (1, .int .i64 (wrap64 ((wrap64 ((wrap64 ((wrap64 (t8351 + 1)) + 1)) + 1)) + 1))), (5, .int .i64 (wrap64 (a8238 + 1)))]) (Nat.lt_succ_self _) ⟨_, _, ho8161, rfl, HM⟩ (Sub.cons rfl (Sub.cons rfl (Sub.cons rfl Sub.nil)))
    · replace ho8161 := cond_f hb8316 ho8161
      refine run_exit ?_
      refine at_then_exit ?_
      refine at_then_exit ?_
      refine at_block_exit ?_
      exact at_mid (ρ' := [(1, .int .i64 a8237)]) ⟨_, (Option.some.inj ho8161), rfl, HM⟩ (Sub.cons rfl Sub.nil)
  · rintro _ w8392 ⟨a8159, rfl, rfl, HM⟩
    replace H := (thn_inr H)
    refine run_seq ?_
    refine run_region rfl ?_
    refine ops_ex rfl (guard_none rfl) rfl rfl (ex_move rfl rfl) ?_
    refine ops_ex rfl (guard_none rfl) rfl rfl (ex_assign rfl rfl) ?_
    refine ops_nil ?_
    refine at_then ?_
    refine run_ret ?_
    have hR := Option.some.inj H
    subst hR
    exact at_ret1 rfl rfl ⟨_, rfl, rfl, HM⟩

def laws_heldCoinsResult.f (k : Nat) (x0 : CoinsResult) (x1 : Int) : Option Int := ((laws_heldCoinS.f k x0.fCoins x1).bind fun t8400 => (bif (decide (t8400 < 0)) then some (-1) else some t8400))
theorem laws_heldCoinsResult.calls {k : Nat} {x0 : CoinsResult} {x1 : Int} {p0_0 : Value} {w : World} (hp0_0 : RdS kCoin w p0_0 x0.fCoins) {r : Int} (H : laws_heldCoinsResult.f k x0 x1 = some r) :
    Calls Tryz.prog 19 ([.agg #[(.int .i64 x0.fCode), p0_0], .int .i64 x1] : List Value).toArray w (fun e w_ => ∃ v, e = .returned v ∧ v = (.int .i64 r) ∧ Mem w [] w_ []) := by
  have HM := Mem.start w
  refine calls_run (N := 12) Tryz.func19 rfl rfl rfl rfl ?_
  unfold laws_heldCoinsResult.f at H
  refine run_seq ?_
  refine run_region rfl ?_
  refine ops_does rfl (guard_none rfl) rfl rfl (does_box (cs := [.int .i64 x0.fCode, p0_0]) rfl rfl rfl HM) ?_
  rintro _ w8399 ⟨b8396, rfl, HM⟩
  refine ops_ex rfl (guard_none rfl) rfl rfl (ex_assign rfl rfl) ?_
  refine ops_nil ?_
  refine at_then ?_
  refine run_seq ?_
  obtain ⟨t8400, h8401, H⟩ := bind_some H
  refine run_region rfl ?_
  refine ops_ex rfl (guard_none rfl) rfl rfl (ex_fieldAddr (off' := 1) rfl rfl Tryz.underlying31 rfl tsz29 rfl) ?_
  refine ops_ex rfl (guard_none rfl) rfl rfl (ex_load1 rfl rfl Tryz.underlying29 rfl ((HM.box_at 0 rfl) 1 _ rfl)) ?_
  refine ops_ex rfl (guard_none rfl) rfl rfl (ex_move rfl rfl) ?_
  refine ops_does rfl (guard_none rfl) rfl rfl (does_callk rfl callok46 rfl (laws_heldCoinS.calls (x0 := x0.fCoins) (x1 := x1) (HM.rd hp0_0) h8401)) ?_
  rintro _ w8402 ⟨rfl, hn⟩
  replace HM : Mem w [] w8402 [box b8396 31 [.int .i64 x0.fCode, p0_0]] := HM.call hn
  refine ops_ex rfl (guard_none rfl) rfl rfl (ex_assign rfl rfl) ?_
  refine ops_nil ?_
  refine at_then ?_
  refine run_seq ?_
  refine run_seq ?_
  refine run_region rfl ?_
  refine ops_ex rfl (guard_none rfl) rfl rfl (ex_move rfl rfl) ?_
  refine ops_ex rfl (guard_none rfl) rfl rfl (ex_lss rfl rfl rfl) ?_
  refine ops_nil ?_
  refine at_then ?_
  refine run_cond (b := (decide (t8400 < 0))) rfl (fun hb8403 => ?_) (fun hb8403 => ?_)
  · replace H := cond_t hb8403 H
    refine run_seq ?_
    refine run_region rfl ?_
    refine ops_ex rfl (guard_none rfl) rfl rfl (ex_assign rfl rfl) ?_
    refine ops_nil ?_
    refine at_then ?_
    refine run_ret ?_
    refine at_then_ret ?_
    replace HM := (HM.front 0 rfl rfl).drop
    have hR := Option.some.inj H
    subst hR
    exact at_ret1 rfl rfl ⟨_, rfl, rfl, HM⟩
  · replace H := cond_f hb8403 H
    refine run_skip ?_
    refine at_then ?_
    refine run_seq ?_
    refine run_region rfl ?_
    refine ops_ex rfl (guard_none rfl) rfl rfl (ex_move rfl rfl) ?_
    refine ops_ex rfl (guard_none rfl) rfl rfl (ex_assign rfl rfl) ?_
    refine ops_nil ?_
    refine at_then ?_
    refine run_ret ?_
    replace HM := (HM.front 0 rfl rfl).drop
    have hR := Option.some.inj H
    subst hR
    exact at_ret1 rfl rfl ⟨_, rfl, rfl, HM⟩

def laws_FnExactSpendTx.f (k : Nat) (x0 : List Coin) (x1 : Tx) (x2 : Int) (x3 : Int) : Option Bool := ((laws_szCoinS.f k x0 1048576).bind fun t8442 => (bif (decide (t8442 < 0)) then some true else ((laws_szTx.f k x1 t8442).bind fun t8447 => (bif (decide (t8447 < 0)) then some true else ((laws_toCoinS.f k x0).bind fun t8452 => ((laws_toTx.f k x1).bind fun t8456 => ((spec_SpendTx.f k t8452 t8456 x2 x3).bind fun t8462 => ((laws_toCoinS.f k x0).bind fun t8487 => ((laws_toTx.f k x1).bind fun t8492 => ((impl_SpendTx.f k t8487 t8492 x2 x3).bind fun t8504 => ((laws_eqCoinsResult.f k t8504 t8462).bind fun t8517 => (bif !t8517 then some false else ((laws_toCoinS.f k x0).bind fun t8528 => ((laws_eqCoinS.f k t8487 t8528).bind fun t8532 => (bif !t8532 then some false else ((laws_toTx.f k x1).bind fun t8546 => ((laws_eqTx.f k t8492 t8546).bind fun t8552 => (bif !t8552 then some false else ((laws_markCoinS.f k t8487 1).bind fun t8557 => ((laws_markTx.f k t8492 t8557.1).bind fun t8566 => ((bif (!(decide (t8566.1 < 0))) then laws_eqCoinsResult.f k t8504 t8462 else some default).bind fun t8578 => (bif ((decide (t8566.1 < 0)) || (!t8578)) then some false else ((laws_markCoinsResult.f k t8504 1).bind fun t8585 => ((laws_heldCoinsResult.f k (⟨t8504.fCode, t8585.2⟩ : CoinsResult) 1).bind fun t8594 => (bif (decide (t8594 < 0)) then some false else (bif (t8594 != t8585.1) then some false else ((laws_toCoinS.f k x0).bind fun t8601 => ((laws_toTx.f k x1).bind fun t8605 => ((impl_SpendTx.f k t8601 t8605 x2 x3).bind fun t8611 => ((laws_eqCoinsResult.f k t8611 t8462).bind fun t8639 => (bif !t8639 then some false else ((laws_heldCoinsResult.f k (⟨t8504.fCode, t8585.2⟩ : CoinsResult) 1).bind fun t8643 => (bif (decide (t8643 < 0)) then some false else (bif (t8643 != t8585.1) then some false else some true))))))))))))))))))))))))))))))))))
theorem laws_FnExactSpendTx.calls {k : Nat} {x0 : List Coin} {x1 : Tx} {x2 : Int} {x3 : Int} {p0 : Value} {p1_0 : Value} {p1_1 : Value} {w : World} (hp0 : RdS kCoin w p0 x0) (hp1_0 : RdS kRef w p1_0 x1.fIns) (hp1_1 : RdS kOut w p1_1 x1.fOuts) {r : Bool} (H : laws_FnExactSpendTx.f k x0 x1 x2 x3 = some r) :
    Calls Tryz.prog 5 ([p0, .agg #[(.int .i64 x1.fKind), (.int .i64 x1.fMember), p1_0, p1_1], .int .i64 x2, .int .i64 x3] : List Value).toArray w (fun e w_ => ∃ v, e = .returned v ∧ v = (.bool r) ∧ Mem w [] w_ []) := by
  have HM := Mem.start w
  refine calls_run (N := 102) Tryz.func5 rfl rfl rfl rfl ?_
  unfold laws_FnExactSpendTx.f at H
  refine run_seq ?_
  refine run_region rfl ?_
  refine ops_does rfl (guard_none rfl) rfl rfl (does_box (cs := [.int .i64 x1.fKind, .int .i64 x1.fMember, p1_0, p1_1]) rfl rfl rfl HM) ?_
  rintro _ w8441 ⟨b8438, rfl, HM⟩
  refine ops_ex rfl (guard_none rfl) rfl rfl (ex_assign rfl rfl) ?_
  refine ops_nil ?_
  refine at_then ?_
  refine run_seq ?_
  refine run_region rfl ?_
  refine ops_ex rfl (guard_none rfl) rfl rfl (ex_assign rfl rfl) ?_
  refine ops_nil ?_
  refine at_then ?_
  refine run_seq ?_
  obtain ⟨t8442, h8443, H⟩ := bind_some H
  refine run_region rfl ?_
  refine ops_ex rfl (guard_none rfl) rfl rfl (ex_move rfl rfl) ?_
  refine ops_ex rfl (guard_none rfl) rfl rfl (ex_move rfl rfl) ?_
  refine ops_does rfl (guard_none rfl) rfl rfl (does_callk rfl callok7 rfl (laws_szCoinS.calls (x0 := x0) (x1 := 1048576) (HM.rd hp0) h8443)) ?_
  rintro _ w8444 ⟨rfl, hn⟩
  replace HM : Mem w [] w8444 [box b8438 26 [.int .i64 x1.fKind, .int .i64 x1.fMember, p1_0, p1_1]] := HM.call hn
  refine ops_ex rfl (guard_none rfl) rfl rfl (ex_assign rfl rfl) ?_
  refine ops_nil ?_
  refine at_then ?_
  refine run_seq ?_
  refine run_seq ?_
  refine run_region rfl ?_
  refine ops_ex rfl (guard_none rfl) rfl rfl (ex_move rfl rfl) ?_
  refine ops_ex rfl (guard_none rfl) rfl rfl (ex_lss rfl rfl rfl) ?_
  refine ops_nil ?_
  refine at_then ?_
  refine run_cond (b := (decide (t8442 < 0))) rfl (fun hb8446 => ?_) (fun hb8446 => ?_)
  · replace H := cond_t hb8446 H
    refine run_seq ?_
    refine run_region rfl ?_
    refine ops_ex rfl (guard_none rfl) rfl rfl (ex_assign rfl rfl) ?_
    refine ops_nil ?_
    refine at_then ?_
    refine run_ret ?_
    refine at_then_ret ?_
    replace HM := (HM.front 0 rfl rfl).drop
    have hR := Option.some.inj H
    subst hR
    exact at_ret1 rfl rfl ⟨_, rfl, rfl, HM⟩
  · replace H := cond_f hb8446 H
    refine run_skip ?_
    refine at_then ?_
    refine run_seq ?_
    obtain ⟨t8447, h8448, H⟩ := bind_some H
    refine run_region rfl ?_
    refine ops_ex rfl (guard_none rfl) rfl rfl (ex_loadN (cs := [(.int .i64 x1.fKind), (.int .i64 x1.fMember), p1_0, p1_1]) rfl rfl Tryz.underlying26 rfl tsz26 rfl ((HM.box_at 0 rfl).sub 0 4 rfl)) ?_
    refine ops_ex rfl (guard_none rfl) rfl rfl (ex_move rfl rfl) ?_
    refine ops_does rfl (guard_none rfl) rfl rfl (does_callk rfl callok8 rfl (laws_szTx.calls (x0 := x1) (x1 := t8442) (HM.rd hp1_0) (HM.rd hp1_1) h8448)) ?_
    rintro _ w8449 ⟨rfl, hn⟩
    replace HM : Mem w [] w8449 [box b8438 26 [.int .i64 x1.fKind, .int .i64 x1.fMember, p1_0, p1_1]] := HM.call hn
    refine ops_ex rfl (guard_none rfl) rfl rfl (ex_assign rfl rfl) ?_
    refine ops_nil ?_
    refine at_then ?_
    refine run_seq ?_
    refine run_seq ?_
    refine run_region rfl ?_
    refine ops_ex rfl (guard_none rfl) rfl rfl (ex_move rfl rfl) ?_
    refine ops_ex rfl (guard_none rfl) rfl rfl (ex_lss rfl rfl rfl) ?_
    refine ops_nil ?_
    refine at_then ?_
    refine run_cond (b := (decide (t8447 < 0))) rfl (fun hb8451 => ?_) (fun hb8451 => ?_)
    · replace H := cond_t hb8451 H
      refine run_seq ?_
      refine run_region rfl ?_
      refine ops_ex rfl (guard_none rfl) rfl rfl (ex_assign rfl rfl) ?_
      refine ops_nil ?_
      refine at_then ?_
      refine run_ret ?_
      refine at_then_ret ?_
      replace HM := (HM.front 0 rfl rfl).drop
      have hR := Option.some.inj H
      subst hR
      exact at_ret1 rfl rfl ⟨_, rfl, rfl, HM⟩
    · replace H := cond_f hb8451 H
      refine run_skip ?_
      refine at_then ?_
      refine run_seq ?_
      obtain ⟨t8452, h8453, H⟩ := bind_some H
      obtain ⟨t8456, h8457, H⟩ := bind_some H
      obtain ⟨t8462, h8463, H⟩ := bind_some H
      refine run_meet (fun ρ_ w_ => ∃ u8464 : Value, ∃ b8466 : Nat, ρ_ = [(0, p0), (2, .int .i64 x2), (3, .int .i64 x3), (5, .pointer (some ⟨b8438, 0, none⟩)), (10, .pointer (some ⟨b8466, 0, none⟩))] ∧ Mem w [] w_ [box b8438 26 [.int .i64 x1.fKind, .int .i64 x1.fMember, p1_0, p1_1], box b8466 31 [.int .i64 t8462.fCode, u8464], own kCoin 77 u8464 t8462.fCoins]) ?_ ?_
      · skip
        refine run_draw (fun w_ => Mem w [] w_ [box b8438 26 [.int .i64 x1.fKind, .int .i64 x1.fMember, p1_0, p1_1]]) mixed rfl (l := #[false, false, false, false, false, false, false, false, false]) rfl ?_
        replace HM := HM.grow (fr_drew _)
        have hS := Mem.suf (M := []) HM
        refine drw_take (i := 0) (l' := #[true, false, false, false, false, false, false, false, false]) rfl (guard_none rfl) rfl rfl (by kernel_rfl) (fun w_ hS_ => (ex_move rfl rfl)) hS ?_
        refine drw_take (i := 2) (l' := #[true, false, true, false, false, false, false, false, false]) rfl (guard_none rfl) rfl rfl (by kernel_rfl) (fun w_ hS_ => (ex_loadN (cs := [(.int .i64 x1.fKind), (.int .i64 x1.fMember), p1_0, p1_1]) rfl rfl Tryz.underlying26 rfl tsz26 rfl ((hS_.box_at 0 rfl).sub 0 4 rfl))) hS ?_
        refine drw_take (i := 4) (l' := #[true, false, true, false, true, false, false, false, false]) rfl (guard_none rfl) rfl rfl (by kernel_rfl) (fun w_ hS_ => (ex_move rfl rfl)) hS ?_
        refine drw_take (i := 5) (l' := #[true, false, true, false, true, true, false, false, false]) rfl (guard_none rfl) rfl rfl (by kernel_rfl) (fun w_ hS_ => (ex_move rfl rfl)) hS ?_
        refine drw_any [1, 7] (by kernel_rfl) rfl (.cons ?_ (.cons ?_ .nil))
        · skip
          refine br_does (l' := #[true, true, true, false, true, true, false, false, false]) rfl (guard_none rfl) rfl rfl (by kernel_rfl) (does_callk rfl callok10 rfl (laws_toCoinS.calls (x0 := x0) (HM.rd hp0) h8453)) ?_
          rintro u8454 w8469 ⟨_, rfl, hn⟩
          replace HM : Mem w [] w8469 [own kCoin 77 u8454 t8452, box b8438 26 [.int .i64 x1.fKind, .int .i64 x1.fMember, p1_0, p1_1]] := HM.call hn
          refine ⟨Mem.suf (M := [own kCoin 77 u8454 t8452]) HM, ?_⟩
          have hS := Mem.suf (M := [own kCoin 77 u8454 t8452]) HM
          refine drw_any [3, 7] (by kernel_rfl) rfl (.cons ?_ (.cons ?_ .nil))
          · skip
            refine br_does (l' := #[true, true, true, true, true, true, false, false, false]) rfl (guard_none rfl) rfl rfl (by kernel_rfl) (does_callk rfl callok11 rfl (laws_toTx.calls (x0 := x1) (HM.rd hp1_0) (HM.rd hp1_1) h8457)) ?_
            rintro _ w8470 ⟨u8458, u8460, rfl, hn⟩
            replace HM : Mem w [] w8470 [own kRef 56 u8458 t8456.fIns, own kOut 75 u8460 t8456.fOuts, own kCoin 77 u8454 t8452, box b8438 26 [.int .i64 x1.fKind, .int .i64 x1.fMember, p1_0, p1_1]] := HM.call hn
            refine ⟨Mem.suf (M := [own kRef 56 u8458 t8456.fIns, own kOut 75 u8460 t8456.fOuts, own kCoin 77 u8454 t8452]) HM, ?_⟩
            have hS := Mem.suf (M := [own kRef 56 u8458 t8456.fIns, own kOut 75 u8460 t8456.fOuts, own kCoin 77 u8454 t8452]) HM
            refine drw_any [6, 7] (by kernel_rfl) rfl (.cons ?_ (.cons ?_ .nil))
            · skip
              refine br_does (l' := #[true, true, true, true, true, true, true, false, false]) rfl (guard_none rfl) rfl rfl (by kernel_rfl) (does_callk rfl callok22 rfl (spec_SpendTx.calls (x0 := t8452) (x1 := t8456) (x2 := x2) (x3 := x3) (HM.own_rd 2 rfl) (HM.own_rd 0 rfl) (HM.own_rd 1 rfl) h8463)) ?_
              rintro _ w8471 ⟨u8464, rfl, hn⟩
              replace HM : Mem w [] w8471 [own kCoin 77 u8464 t8462.fCoins, own kRef 56 u8458 t8456.fIns, own kOut 75 u8460 t8456.fOuts, own kCoin 77 u8454 t8452, box b8438 26 [.int .i64 x1.fKind, .int .i64 x1.fMember, p1_0, p1_1]] := HM.call hn
              refine ⟨Mem.suf (M := [own kCoin 77 u8464 t8462.fCoins, own kRef 56 u8458 t8456.fIns, own kOut 75 u8460 t8456.fOuts, own kCoin 77 u8454 t8452]) HM, ?_⟩
              have hS := Mem.suf (M := [own kCoin 77 u8464 t8462.fCoins, own kRef 56 u8458 t8456.fIns, own kOut 75 u8460 t8456.fOuts, own kCoin 77 u8454 t8452]) HM
              refine drw_any [7] (by kernel_rfl) rfl (.cons ?_ .nil)
              refine br_does (l' := #[true, true, true, true, true, true, true, true, false]) rfl (guard_none rfl) rfl rfl (by kernel_rfl) (does_alloc (cs := [.int .i64 0, .slice none 0 0]) rfl tz31 rfl HM) ?_
              rintro _ w8472 ⟨b8466, rfl, HM⟩
              refine ⟨Mem.suf (M := [box b8466 31 [.int .i64 0, .slice none 0 0], own kCoin 77 u8464 t8462.fCoins, own kRef 56 u8458 t8456.fIns, own kOut 75 u8460 t8456.fOuts, own kCoin 77 u8454 t8452]) HM, ?_⟩
              have hS := Mem.suf (M := [box b8466 31 [.int .i64 0, .slice none 0 0], own kCoin 77 u8464 t8462.fCoins, own kRef 56 u8458 t8456.fIns, own kOut 75 u8460 t8456.fOuts, own kCoin 77 u8454 t8452]) HM
              refine drw_any [8] (by kernel_rfl) rfl (.cons ?_ .nil)
              refine br_doesS (l' := #[true, true, true, true, true, true, true, true, true]) rfl (guard_none rfl) rfl (by kernel_rfl) (does_store (vs := [.int .i64 t8462.fCode, u8464]) (cs' := [.int .i64 t8462.fCode, u8464]) rfl rfl rfl rfl tsz31 (Ones.int (Ones.rd (HM.own_rd 1 rfl) Ones.nil)) rfl rfl HM) ?_
              rintro w8473 HM
              refine ⟨Mem.suf (M := [box b8466 31 [.int .i64 t8462.fCode, u8464], own kCoin 77 u8464 t8462.fCoins, own kRef 56 u8458 t8456.fIns, own kOut 75 u8460 t8456.fOuts, own kCoin 77 u8454 t8452]) HM, ?_⟩
              have hS := Mem.suf (M := [box b8466 31 [.int .i64 t8462.fCode, u8464], own kCoin 77 u8464 t8462.fCoins, own kRef 56 u8458 t8456.fIns, own kOut 75 u8460 t8456.fOuts, own kCoin 77 u8454 t8452]) HM
              refine drw_done (by kernel_rfl) ?_
              replace HM := (HM.front 2 rfl rfl).drop
              replace HM := (HM.front 2 rfl rfl).drop
              replace HM := (HM.front 2 rfl rfl).drop
              replace HM := HM.front 1 rfl rfl
              replace HM := HM.front 1 rfl rfl
              replace HM := HM.front 2 rfl rfl
              exact at_meet [(0, p0), (2, .int .i64 x2), (3, .int .i64 x3), (5, .pointer (some ⟨b8438, 0, none⟩)), (10, .pointer (some ⟨b8466, 0, none⟩))] ⟨_, _, rfl, HM⟩ (Sub.cons rfl (Sub.cons rfl (Sub.cons rfl (Sub.cons rfl (Sub.cons rfl Sub.nil)))))
            · skip
              refine br_does (l' := #[true, true, true, true, true, true, false, true, false]) rfl (guard_none rfl) rfl rfl (by kernel_rfl) (does_alloc (cs := [.int .i64 0, .slice none 0 0]) rfl tz31 rfl HM) ?_
              rintro _ w8474 ⟨b8466, rfl, HM⟩
              refine ⟨Mem.suf (M := [box b8466 31 [.int .i64 0, .slice none 0 0], own kRef 56 u8458 t8456.fIns, own kOut 75 u8460 t8456.fOuts, own kCoin 77 u8454 t8452]) HM, ?_⟩
              have hS := Mem.suf (M := [box b8466 31 [.int .i64 0, .slice none 0 0], own kRef 56 u8458 t8456.fIns, own kOut 75 u8460 t8456.fOuts, own kCoin 77 u8454 t8452]) HM
              refine drw_any [6] (by kernel_rfl) rfl (.cons ?_ .nil)
              refine br_does (l' := #[true, true, true, true, true, true, true, true, false]) rfl (guard_none rfl) rfl rfl (by kernel_rfl) (does_callk rfl callok22 rfl (spec_SpendTx.calls (x0 := t8452) (x1 := t8456) (x2 := x2) (x3 := x3) (HM.own_rd 3 rfl) (HM.own_rd 1 rfl) (HM.own_rd 2 rfl) h8463)) ?_
              rintro _ w8475 ⟨u8464, rfl, hn⟩
              replace HM : Mem w [] w8475 [own kCoin 77 u8464 t8462.fCoins, box b8466 31 [.int .i64 0, .slice none 0 0], own kRef 56 u8458 t8456.fIns, own kOut 75 u8460 t8456.fOuts, own kCoin 77 u8454 t8452, box b8438 26 [.int .i64 x1.fKind, .int .i64 x1.fMember, p1_0, p1_1]] := HM.call hn
              refine ⟨Mem.suf (M := [own kCoin 77 u8464 t8462.fCoins, box b8466 31 [.int .i64 0, .slice none 0 0], own kRef 56 u8458 t8456.fIns, own kOut 75 u8460 t8456.fOuts, own kCoin 77 u8454 t8452]) HM, ?_⟩
              have hS := Mem.suf (M := [own kCoin 77 u8464 t8462.fCoins, box b8466 31 [.int .i64 0, .slice none 0 0], own kRef 56 u8458 t8456.fIns, own kOut 75 u8460 t8456.fOuts, own kCoin 77 u8454 t8452]) HM
              replace HM := HM.front 1 rfl rfl
              refine drw_any [8] (by kernel_rfl) rfl (.cons ?_ .nil)
              refine br_doesS (l' := #[true, true, true, true, true, true, true, true, true]) rfl (guard_none rfl) rfl (by kernel_rfl) (does_store (vs := [.int .i64 t8462.fCode, u8464]) (cs' := [.int .i64 t8462.fCode, u8464]) rfl rfl rfl rfl tsz31 (Ones.int (Ones.rd (HM.own_rd 1 rfl) Ones.nil)) rfl rfl HM) ?_
              rintro w8476 HM
              refine ⟨Mem.suf (M := [box b8466 31 [.int .i64 t8462.fCode, u8464], own kCoin 77 u8464 t8462.fCoins, own kRef 56 u8458 t8456.fIns, own kOut 75 u8460 t8456.fOuts, own kCoin 77 u8454 t8452]) HM, ?_⟩
              have hS := Mem.suf (M := [box b8466 31 [.int .i64 t8462.fCode, u8464], own kCoin 77 u8464 t8462.fCoins, own kRef 56 u8458 t8456.fIns, own kOut 75 u8460 t8456.fOuts, own kCoin 77 u8454 t8452]) HM
              refine drw_done (by kernel_rfl) ?_
              replace HM := (HM.front 2 rfl rfl).drop
              replace HM := (HM.front 2 rfl rfl).drop
              replace HM := (HM.front 2 rfl rfl).drop
              replace HM := HM.front 1 rfl rfl
              replace HM := HM.front 1 rfl rfl
              replace HM := HM.front 2 rfl rfl
              exact at_meet [(0, p0), (2, .int .i64 x2), (3, .int .i64 x3), (5, .pointer (some ⟨b8438, 0, none⟩)), (10, .pointer (some ⟨b8466, 0, none⟩))] ⟨_, _, rfl, HM⟩ (Sub.cons rfl (Sub.cons rfl (Sub.cons rfl (Sub.cons rfl (Sub.cons rfl Sub.nil)))))
          · skip
            refine br_does (l' := #[true, true, true, false, true, true, false, true, false]) rfl (guard_none rfl) rfl rfl (by kernel_rfl) (does_alloc (cs := [.int .i64 0, .slice none 0 0]) rfl tz31 rfl HM) ?_
            rintro _ w8477 ⟨b8466, rfl, HM⟩
            refine ⟨Mem.suf (M := [box b8466 31 [.int .i64 0, .slice none 0 0], own kCoin 77 u8454 t8452]) HM, ?_⟩
            have hS := Mem.suf (M := [box b8466 31 [.int .i64 0, .slice none 0 0], own kCoin 77 u8454 t8452]) HM
            refine drw_any [3] (by kernel_rfl) rfl (.cons ?_ .nil)
            refine br_does (l' := #[true, true, true, true, true, true, false, true, false]) rfl (guard_none rfl) rfl rfl (by kernel_rfl) (does_callk rfl callok11 rfl (laws_toTx.calls (x0 := x1) (HM.rd hp1_0) (HM.rd hp1_1) h8457)) ?_
            rintro _ w8478 ⟨u8458, u8460, rfl, hn⟩
            replace HM : Mem w [] w8478 [own kRef 56 u8458 t8456.fIns, own kOut 75 u8460 t8456.fOuts, box b8466 31 [.int .i64 0, .slice none 0 0], own kCoin 77 u8454 t8452, box b8438 26 [.int .i64 x1.fKind, .int .i64 x1.fMember, p1_0, p1_1]] := HM.call hn
            refine ⟨Mem.suf (M := [own kRef 56 u8458 t8456.fIns, own kOut 75 u8460 t8456.fOuts, box b8466 31 [.int .i64 0, .slice none 0 0], own kCoin 77 u8454 t8452]) HM, ?_⟩
            have hS := Mem.suf (M := [own kRef 56 u8458 t8456.fIns, own kOut 75 u8460 t8456.fOuts, box b8466 31 [.int .i64 0, .slice none 0 0], own kCoin 77 u8454 t8452]) HM
            refine drw_any [6] (by kernel_rfl) rfl (.cons ?_ .nil)
            refine br_does (l' := #[true, true, true, true, true, true, true, true, false]) rfl (guard_none rfl) rfl rfl (by kernel_rfl) (does_callk rfl callok22 rfl (spec_SpendTx.calls (x0 := t8452) (x1 := t8456) (x2 := x2) (x3 := x3) (HM.own_rd 3 rfl) (HM.own_rd 0 rfl) (HM.own_rd 1 rfl) h8463)) ?_
            rintro _ w8479 ⟨u8464, rfl, hn⟩
            replace HM : Mem w [] w8479 [own kCoin 77 u8464 t8462.fCoins, own kRef 56 u8458 t8456.fIns, own kOut 75 u8460 t8456.fOuts, box b8466 31 [.int .i64 0, .slice none 0 0], own kCoin 77 u8454 t8452, box b8438 26 [.int .i64 x1.fKind, .int .i64 x1.fMember, p1_0, p1_1]] := HM.call hn
            refine ⟨Mem.suf (M := [own kCoin 77 u8464 t8462.fCoins, own kRef 56 u8458 t8456.fIns, own kOut 75 u8460 t8456.fOuts, box b8466 31 [.int .i64 0, .slice none 0 0], own kCoin 77 u8454 t8452]) HM, ?_⟩
            have hS := Mem.suf (M := [own kCoin 77 u8464 t8462.fCoins, own kRef 56 u8458 t8456.fIns, own kOut 75 u8460 t8456.fOuts, box b8466 31 [.int .i64 0, .slice none 0 0], own kCoin 77 u8454 t8452]) HM
            replace HM := HM.front 3 rfl rfl
            refine drw_any [8] (by kernel_rfl) rfl (.cons ?_ .nil)
            refine br_doesS (l' := #[true, true, true, true, true, true, true, true, true]) rfl (guard_none rfl) rfl (by kernel_rfl) (does_store (vs := [.int .i64 t8462.fCode, u8464]) (cs' := [.int .i64 t8462.fCode, u8464]) rfl rfl rfl rfl tsz31 (Ones.int (Ones.rd (HM.own_rd 1 rfl) Ones.nil)) rfl rfl HM) ?_
            rintro w8480 HM
            refine ⟨Mem.suf (M := [box b8466 31 [.int .i64 t8462.fCode, u8464], own kCoin 77 u8464 t8462.fCoins, own kRef 56 u8458 t8456.fIns, own kOut 75 u8460 t8456.fOuts, own kCoin 77 u8454 t8452]) HM, ?_⟩
            have hS := Mem.suf (M := [box b8466 31 [.int .i64 t8462.fCode, u8464], own kCoin 77 u8464 t8462.fCoins, own kRef 56 u8458 t8456.fIns, own kOut 75 u8460 t8456.fOuts, own kCoin 77 u8454 t8452]) HM
            refine drw_done (by kernel_rfl) ?_
            replace HM := (HM.front 2 rfl rfl).drop
            replace HM := (HM.front 2 rfl rfl).drop
            replace HM := (HM.front 2 rfl rfl).drop
            replace HM := HM.front 1 rfl rfl
            replace HM := HM.front 1 rfl rfl
            replace HM := HM.front 2 rfl rfl
            exact at_meet [(0, p0), (2, .int .i64 x2), (3, .int .i64 x3), (5, .pointer (some ⟨b8438, 0, none⟩)), (10, .pointer (some ⟨b8466, 0, none⟩))] ⟨_, _, rfl, HM⟩ (Sub.cons rfl (Sub.cons rfl (Sub.cons rfl (Sub.cons rfl (Sub.cons rfl Sub.nil)))))
        · skip
          refine br_does (l' := #[true, false, true, false, true, true, false, true, false]) rfl (guard_none rfl) rfl rfl (by kernel_rfl) (does_alloc (cs := [.int .i64 0, .slice none 0 0]) rfl tz31 rfl HM) ?_
          rintro _ w8481 ⟨b8466, rfl, HM⟩
          refine ⟨Mem.suf (M := [box b8466 31 [.int .i64 0, .slice none 0 0]]) HM, ?_⟩
          have hS := Mem.suf (M := [box b8466 31 [.int .i64 0, .slice none 0 0]]) HM
          refine drw_any [1] (by kernel_rfl) rfl (.cons ?_ .nil)
          refine br_does (l' := #[true, true, true, false, true, true, false, true, false]) rfl (guard_none rfl) rfl rfl (by kernel_rfl) (does_callk rfl callok10 rfl (laws_toCoinS.calls (x0 := x0) (HM.rd hp0) h8453)) ?_
          rintro u8454 w8482 ⟨_, rfl, hn⟩
          replace HM : Mem w [] w8482 [own kCoin 77 u8454 t8452, box b8466 31 [.int .i64 0, .slice none 0 0], box b8438 26 [.int .i64 x1.fKind, .int .i64 x1.fMember, p1_0, p1_1]] := HM.call hn
          refine ⟨Mem.suf (M := [own kCoin 77 u8454 t8452, box b8466 31 [.int .i64 0, .slice none 0 0]]) HM, ?_⟩
          have hS := Mem.suf (M := [own kCoin 77 u8454 t8452, box b8466 31 [.int .i64 0, .slice none 0 0]]) HM
          refine drw_any [3] (by kernel_rfl) rfl (.cons ?_ .nil)
          refine br_does (l' := #[true, true, true, true, true, true, false, true, false]) rfl (guard_none rfl) rfl rfl (by kernel_rfl) (does_callk rfl callok11 rfl (laws_toTx.calls (x0 := x1) (HM.rd hp1_0) (HM.rd hp1_1) h8457)) ?_
          rintro _ w8483 ⟨u8458, u8460, rfl, hn⟩
          replace HM : Mem w [] w8483 [own kRef 56 u8458 t8456.fIns, own kOut 75 u8460 t8456.fOuts, own kCoin 77 u8454 t8452, box b8466 31 [.int .i64 0, .slice none 0 0], box b8438 26 [.int .i64 x1.fKind, .int .i64 x1.fMember, p1_0, p1_1]] := HM.call hn
          refine ⟨Mem.suf (M := [own kRef 56 u8458 t8456.fIns, own kOut 75 u8460 t8456.fOuts, own kCoin 77 u8454 t8452, box b8466 31 [.int .i64 0, .slice none 0 0]]) HM, ?_⟩
          have hS := Mem.suf (M := [own kRef 56 u8458 t8456.fIns, own kOut 75 u8460 t8456.fOuts, own kCoin 77 u8454 t8452, box b8466 31 [.int .i64 0, .slice none 0 0]]) HM
          refine drw_any [6] (by kernel_rfl) rfl (.cons ?_ .nil)
          refine br_does (l' := #[true, true, true, true, true, true, true, true, false]) rfl (guard_none rfl) rfl rfl (by kernel_rfl) (does_callk rfl callok22 rfl (spec_SpendTx.calls (x0 := t8452) (x1 := t8456) (x2 := x2) (x3 := x3) (HM.own_rd 2 rfl) (HM.own_rd 0 rfl) (HM.own_rd 1 rfl) h8463)) ?_
          rintro _ w8484 ⟨u8464, rfl, hn⟩
          replace HM : Mem w [] w8484 [own kCoin 77 u8464 t8462.fCoins, own kRef 56 u8458 t8456.fIns, own kOut 75 u8460 t8456.fOuts, own kCoin 77 u8454 t8452, box b8466 31 [.int .i64 0, .slice none 0 0], box b8438 26 [.int .i64 x1.fKind, .int .i64 x1.fMember, p1_0, p1_1]] := HM.call hn
          refine ⟨Mem.suf (M := [own kCoin 77 u8464 t8462.fCoins, own kRef 56 u8458 t8456.fIns, own kOut 75 u8460 t8456.fOuts, own kCoin 77 u8454 t8452, box b8466 31 [.int .i64 0, .slice none 0 0]]) HM, ?_⟩
          have hS := Mem.suf (M := [own kCoin 77 u8464 t8462.fCoins, own kRef 56 u8458 t8456.fIns, own kOut 75 u8460 t8456.fOuts, own kCoin 77 u8454 t8452, box b8466 31 [.int .i64 0, .slice none 0 0]]) HM
          replace HM := HM.front 4 rfl rfl
          refine drw_any [8] (by kernel_rfl) rfl (.cons ?_ .nil)
          refine br_doesS (l' := #[true, true, true, true, true, true, true, true, true]) rfl (guard_none rfl) rfl (by kernel_rfl) (does_store (vs := [.int .i64 t8462.fCode, u8464]) (cs' := [.int .i64 t8462.fCode, u8464]) rfl rfl rfl rfl tsz31 (Ones.int (Ones.rd (HM.own_rd 1 rfl) Ones.nil)) rfl rfl HM) ?_
          rintro w8485 HM
          refine ⟨Mem.suf (M := [box b8466 31 [.int .i64 t8462.fCode, u8464], own kCoin 77 u8464 t8462.fCoins, own kRef 56 u8458 t8456.fIns, own kOut 75 u8460 t8456.fOuts, own kCoin 77 u8454 t8452]) HM, ?_⟩
          have hS := Mem.suf (M := [box b8466 31 [.int .i64 t8462.fCode, u8464], own kCoin 77 u8464 t8462.fCoins, own kRef 56 u8458 t8456.fIns, own kOut 75 u8460 t8456.fOuts, own kCoin 77 u8454 t8452]) HM
          refine drw_done (by kernel_rfl) ?_
          replace HM := (HM.front 2 rfl rfl).drop
          replace HM := (HM.front 2 rfl rfl).drop
          replace HM := (HM.front 2 rfl rfl).drop
          replace HM := HM.front 1 rfl rfl
          replace HM := HM.front 1 rfl rfl
          replace HM := HM.front 2 rfl rfl
          exact at_meet [(0, p0), (2, .int .i64 x2), (3, .int .i64 x3), (5, .pointer (some ⟨b8438, 0, none⟩)), (10, .pointer (some ⟨b8466, 0, none⟩))] ⟨_, _, rfl, HM⟩ (Sub.cons rfl (Sub.cons rfl (Sub.cons rfl (Sub.cons rfl (Sub.cons rfl Sub.nil)))))
      · rintro _ w8486 ⟨u8464, b8466, rfl, HM⟩
        refine at_then ?_
        refine run_seq ?_
        obtain ⟨t8487, h8488, H⟩ := bind_some H
        refine run_region rfl ?_
        refine ops_ex rfl (guard_none rfl) rfl rfl (ex_move rfl rfl) ?_
        refine ops_does rfl (guard_none rfl) rfl rfl (does_callk rfl callok10 rfl (laws_toCoinS.calls (x0 := x0) (HM.rd hp0) h8488)) ?_
        rintro u8489 w8491 ⟨_, rfl, hn⟩
        replace HM : Mem w [] w8491 [own kCoin 77 u8489 t8487, box b8438 26 [.int .i64 x1.fKind, .int .i64 x1.fMember, p1_0, p1_1], box b8466 31 [.int .i64 t8462.fCode, u8464], own kCoin 77 u8464 t8462.fCoins] := HM.call hn
        refine ops_ex rfl (guard_none rfl) rfl rfl (ex_assign rfl rfl) ?_
        refine ops_nil ?_
        refine at_then ?_
        refine run_seq ?_
        obtain ⟨t8492, h8493, H⟩ := bind_some H
        refine run_region rfl ?_
        refine ops_ex rfl (guard_none rfl) rfl rfl (ex_loadN (cs := [(.int .i64 x1.fKind), (.int .i64 x1.fMember), p1_0, p1_1]) rfl rfl Tryz.underlying26 rfl tsz26 rfl ((HM.box_at 1 rfl).sub 0 4 rfl)) ?_
        refine ops_does rfl (guard_none rfl) rfl rfl (does_callk rfl callok11 rfl (laws_toTx.calls (x0 := x1) (HM.rd hp1_0) (HM.rd hp1_1) h8493)) ?_
        rintro _ w8501 ⟨u8494, u8496, rfl, hn⟩
        replace HM : Mem w [] w8501 [own kRef 56 u8494 t8492.fIns, own kOut 75 u8496 t8492.fOuts, own kCoin 77 u8489 t8487, box b8438 26 [.int .i64 x1.fKind, .int .i64 x1.fMember, p1_0, p1_1], box b8466 31 [.int .i64 t8462.fCode, u8464], own kCoin 77 u8464 t8462.fCoins] := HM.call hn
        refine ops_does rfl (guard_none rfl) rfl rfl (does_alloc (cs := [.int .i64 0, .int .i64 0, .slice none 0 0, .slice none 0 0]) rfl tz37 rfl HM) ?_
        rintro _ w8502 ⟨b8498, rfl, HM⟩
        refine ops_doesS rfl (guard_none rfl) rfl (does_store (vs := [.int .i64 t8492.fKind, .int .i64 t8492.fMember, u8494, u8496]) (cs' := [.int .i64 t8492.fKind, .int .i64 t8492.fMember, u8494, u8496]) rfl rfl rfl rfl tsz37 (Ones.int (Ones.int (Ones.rd (HM.own_rd 1 rfl) (Ones.rd (HM.own_rd 2 rfl) Ones.nil)))) rfl rfl HM) ?_
        rintro w8503 HM
        refine ops_nil ?_
        refine at_then ?_
        refine run_seq ?_
        obtain ⟨t8504, h8505, H⟩ := bind_some H
        refine run_region rfl ?_
        refine ops_ex rfl (guard_none rfl) rfl rfl (ex_move rfl rfl) ?_
        refine ops_ex rfl (guard_none rfl) rfl rfl (ex_loadN (cs := [(.int .i64 t8492.fKind), (.int .i64 t8492.fMember), u8494, u8496]) rfl rfl Tryz.underlying37 rfl tsz37 rfl ((HM.box_at 0 rfl).sub 0 4 rfl)) ?_
        refine ops_ex rfl (guard_none rfl) rfl rfl (ex_move rfl rfl) ?_
        refine ops_ex rfl (guard_none rfl) rfl rfl (ex_move rfl rfl) ?_
        refine ops_does rfl (guard_none rfl) rfl rfl (does_callk rfl callok23 rfl (impl_SpendTx.calls (x0 := t8487) (x1 := t8492) (x2 := x2) (x3 := x3) (HM.own_rd 3 rfl) (HM.own_rd 1 rfl) (HM.own_rd 2 rfl) h8505)) ?_
        rintro _ w8511 ⟨u8506, rfl, hn⟩
        replace HM : Mem w [] w8511 [own kCoin 77 u8506 t8504.fCoins, box b8498 37 [.int .i64 t8492.fKind, .int .i64 t8492.fMember, u8494, u8496], own kRef 56 u8494 t8492.fIns, own kOut 75 u8496 t8492.fOuts, own kCoin 77 u8489 t8487, box b8438 26 [.int .i64 x1.fKind, .int .i64 x1.fMember, p1_0, p1_1], box b8466 31 [.int .i64 t8462.fCode, u8464], own kCoin 77 u8464 t8462.fCoins] := HM.call hn
        refine ops_does rfl (guard_none rfl) rfl rfl (does_alloc (cs := [.int .i64 0, .slice none 0 0]) rfl tz31 rfl HM) ?_
        rintro _ w8512 ⟨b8508, rfl, HM⟩
        refine ops_doesS rfl (guard_none rfl) rfl (does_store (vs := [.int .i64 t8504.fCode, u8506]) (cs' := [.int .i64 t8504.fCode, u8506]) rfl rfl rfl rfl tsz31 (Ones.int (Ones.rd (HM.own_rd 1 rfl) Ones.nil)) rfl rfl HM) ?_
        rintro w8513 HM
        refine ops_nil ?_
        refine at_then ?_
        refine run_seq ?_
        refine run_seq ?_
        obtain ⟨t8517, h8518, H⟩ := bind_some H
        refine run_region rfl ?_
        refine ops_ex rfl (guard_none rfl) rfl rfl (ex_loadN (cs := [(.int .i64 t8504.fCode), u8506]) rfl rfl Tryz.underlying31 rfl tsz31 rfl ((HM.box_at 0 rfl).sub 0 2 rfl)) ?_
        refine ops_ex rfl (guard_none rfl) rfl rfl (ex_loadN (cs := [(.int .i64 t8462.fCode), u8464]) rfl rfl Tryz.underlying31 rfl tsz31 rfl ((HM.box_at 7 rfl).sub 0 2 rfl)) ?_
        refine ops_does rfl (guard_none rfl) rfl rfl (does_callk rfl callok13 rfl (laws_eqCoinsResult.calls (x0 := t8504) (x1 := t8462) (HM.own_rd 1 rfl) (HM.own_rd 8 rfl) h8518)) ?_
        rintro _ w8519 ⟨rfl, hn⟩
        replace HM : Mem w [] w8519 [box b8508 31 [.int .i64 t8504.fCode, u8506], own kCoin 77 u8506 t8504.fCoins, box b8498 37 [.int .i64 t8492.fKind, .int .i64 t8492.fMember, u8494, u8496], own kRef 56 u8494 t8492.fIns, own kOut 75 u8496 t8492.fOuts, own kCoin 77 u8489 t8487, box b8438 26 [.int .i64 x1.fKind, .int .i64 x1.fMember, p1_0, p1_1], box b8466 31 [.int .i64 t8462.fCode, u8464], own kCoin 77 u8464 t8462.fCoins] := HM.call hn
        refine ops_ex rfl (guard_none rfl) rfl rfl (ex_not rfl rfl) ?_
        refine ops_nil ?_
        refine at_then ?_
        refine run_cond (b := !t8517) rfl (fun hb8520 => ?_) (fun hb8520 => ?_)
        · replace H := cond_t hb8520 H
          refine run_seq ?_
          refine run_region rfl ?_
          refine ops_ex rfl (guard_none rfl) rfl rfl (ex_assign rfl rfl) ?_
          refine ops_nil ?_
          refine at_then ?_
          refine run_ret ?_
          refine at_then_ret ?_
          replace HM := (HM.front 0 rfl rfl).drop
          replace HM := (HM.front 0 rfl rfl).drop
          replace HM := (HM.front 0 rfl rfl).drop
          replace HM := (HM.front 0 rfl rfl).drop
          replace HM := (HM.front 0 rfl rfl).drop
          replace HM := (HM.front 0 rfl rfl).drop
          replace HM := (HM.front 0 rfl rfl).drop
          replace HM := (HM.front 0 rfl rfl).drop
          replace HM := (HM.front 0 rfl rfl).drop
          have hR := Option.some.inj H
          subst hR
          exact at_ret1 rfl rfl ⟨_, rfl, rfl, HM⟩
        · replace H := cond_f hb8520 H
          refine run_skip ?_
          refine at_then ?_
          refine run_seq ?_
          refine run_seq ?_
          obtain ⟨t8528, h8529, H⟩ := bind_some H
          obtain ⟨t8532, h8533, H⟩ := bind_some H
          refine run_region rfl ?_
          refine ops_ex rfl (guard_none rfl) rfl rfl (ex_move rfl rfl) ?_
          refine ops_ex rfl (guard_none rfl) rfl rfl (ex_move rfl rfl) ?_
          refine ops_does rfl (guard_none rfl) rfl rfl (does_callk rfl callok10 rfl (laws_toCoinS.calls (x0 := x0) (HM.rd hp0) h8529)) ?_
          rintro u8530 w8534 ⟨_, rfl, hn⟩
          replace HM : Mem w [] w8534 [own kCoin 77 u8530 t8528, box b8508 31 [.int .i64 t8504.fCode, u8506], own kCoin 77 u8506 t8504.fCoins, box b8498 37 [.int .i64 t8492.fKind, .int .i64 t8492.fMember, u8494, u8496], own kRef 56 u8494 t8492.fIns, own kOut 75 u8496 t8492.fOuts, own kCoin 77 u8489 t8487, box b8438 26 [.int .i64 x1.fKind, .int .i64 x1.fMember, p1_0, p1_1], box b8466 31 [.int .i64 t8462.fCode, u8464], own kCoin 77 u8464 t8462.fCoins] := HM.call hn
          refine ops_does rfl (guard_none rfl) rfl rfl (does_callk rfl callok14 rfl (laws_eqCoinS.calls (x0 := t8487) (x1 := t8528) (HM.own_rd 6 rfl) (HM.own_rd 0 rfl) h8533)) ?_
          rintro _ w8535 ⟨rfl, hn⟩
          replace HM : Mem w [] w8535 [own kCoin 77 u8530 t8528, box b8508 31 [.int .i64 t8504.fCode, u8506], own kCoin 77 u8506 t8504.fCoins, box b8498 37 [.int .i64 t8492.fKind, .int .i64 t8492.fMember, u8494, u8496], own kRef 56 u8494 t8492.fIns, own kOut 75 u8496 t8492.fOuts, own kCoin 77 u8489 t8487, box b8438 26 [.int .i64 x1.fKind, .int .i64 x1.fMember, p1_0, p1_1], box b8466 31 [.int .i64 t8462.fCode, u8464], own kCoin 77 u8464 t8462.fCoins] := HM.call hn
          refine ops_ex rfl (guard_none rfl) rfl rfl (ex_not rfl rfl) ?_
          refine ops_nil ?_
          refine at_then ?_
          refine run_cond (b := !t8532) rfl (fun hb8536 => ?_) (fun hb8536 => ?_)
          · replace H := cond_t hb8536 H
            refine run_seq ?_
            refine run_region rfl ?_
            refine ops_ex rfl (guard_none rfl) rfl rfl (ex_assign rfl rfl) ?_
            refine ops_nil ?_
            refine at_then ?_
            refine run_ret ?_
            refine at_then_ret ?_
            replace HM := (HM.front 0 rfl rfl).drop
            replace HM := (HM.front 0 rfl rfl).drop
            replace HM := (HM.front 0 rfl rfl).drop
            replace HM := (HM.front 0 rfl rfl).drop
            replace HM := (HM.front 0 rfl rfl).drop
            replace HM := (HM.front 0 rfl rfl).drop
            replace HM := (HM.front 0 rfl rfl).drop
            replace HM := (HM.front 0 rfl rfl).drop
            replace HM := (HM.front 0 rfl rfl).drop
            replace HM := (HM.front 0 rfl rfl).drop
            have hR := Option.some.inj H
            subst hR
            exact at_ret1 rfl rfl ⟨_, rfl, rfl, HM⟩
          · replace H := cond_f hb8536 H
            refine run_skip ?_
            refine at_then ?_
            refine run_seq ?_
            refine run_seq ?_
            obtain ⟨t8546, h8547, H⟩ := bind_some H
            obtain ⟨t8552, h8553, H⟩ := bind_some H
            refine run_drawf (fun w_ => Mem w [] w_ [own kCoin 77 u8530 t8528, box b8508 31 [.int .i64 t8504.fCode, u8506], own kCoin 77 u8506 t8504.fCoins, box b8498 37 [.int .i64 t8492.fKind, .int .i64 t8492.fMember, u8494, u8496], own kRef 56 u8494 t8492.fIns, own kOut 75 u8496 t8492.fOuts, own kCoin 77 u8489 t8487, box b8438 26 [.int .i64 x1.fKind, .int .i64 x1.fMember, p1_0, p1_1], box b8466 31 [.int .i64 t8462.fCode, u8464], own kCoin 77 u8464 t8462.fCoins]) [(0, true), (1, true), (2, false), (3, false), (4, true)] mixed rfl rfl (by kernel_rfl) ?_
            replace HM := HM.grow (fr_drew _)
            have hS := Mem.suf (M := []) HM
            refine drwp_take rfl (guard_none rfl) rfl rfl (fun w_ hS_ => (ex_loadN (cs := [(.int .i64 t8492.fKind), (.int .i64 t8492.fMember), u8494, u8496]) rfl rfl Tryz.underlying37 rfl tsz37 rfl ((hS_.box_at 3 rfl).sub 0 4 rfl))) hS ?_
            refine drwp_take rfl (guard_none rfl) rfl rfl (fun w_ hS_ => (ex_loadN (cs := [(.int .i64 x1.fKind), (.int .i64 x1.fMember), p1_0, p1_1]) rfl rfl Tryz.underlying26 rfl tsz26 rfl ((hS_.box_at 7 rfl).sub 0 4 rfl))) hS ?_
            refine drwp_one rfl (guard_none rfl) rfl rfl (does_callk rfl callok11 rfl (laws_toTx.calls (x0 := x1) (HM.rd hp1_0) (HM.rd hp1_1) h8547)) ?_
            rintro _ w8554 ⟨u8548, u8550, rfl, hn⟩
            replace HM : Mem w [] w8554 [own kRef 56 u8548 t8546.fIns, own kOut 75 u8550 t8546.fOuts, own kCoin 77 u8530 t8528, box b8508 31 [.int .i64 t8504.fCode, u8506], own kCoin 77 u8506 t8504.fCoins, box b8498 37 [.int .i64 t8492.fKind, .int .i64 t8492.fMember, u8494, u8496], own kRef 56 u8494 t8492.fIns, own kOut 75 u8496 t8492.fOuts, own kCoin 77 u8489 t8487, box b8438 26 [.int .i64 x1.fKind, .int .i64 x1.fMember, p1_0, p1_1], box b8466 31 [.int .i64 t8462.fCode, u8464], own kCoin 77 u8464 t8462.fCoins] := HM.call hn
            refine ⟨Mem.suf (M := [own kRef 56 u8548 t8546.fIns, own kOut 75 u8550 t8546.fOuts]) HM, ?_⟩
            have hS := Mem.suf (M := [own kRef 56 u8548 t8546.fIns, own kOut 75 u8550 t8546.fOuts]) HM
            refine drwp_one rfl (guard_none rfl) rfl rfl (does_callk rfl callok15 rfl (laws_eqTx.calls (x0 := t8492) (x1 := t8546) (HM.own_rd 6 rfl) (HM.own_rd 7 rfl) (HM.own_rd 0 rfl) (HM.own_rd 1 rfl) h8553)) ?_
            rintro _ w8555 ⟨rfl, hn⟩
            replace HM : Mem w [] w8555 [own kRef 56 u8548 t8546.fIns, own kOut 75 u8550 t8546.fOuts, own kCoin 77 u8530 t8528, box b8508 31 [.int .i64 t8504.fCode, u8506], own kCoin 77 u8506 t8504.fCoins, box b8498 37 [.int .i64 t8492.fKind, .int .i64 t8492.fMember, u8494, u8496], own kRef 56 u8494 t8492.fIns, own kOut 75 u8496 t8492.fOuts, own kCoin 77 u8489 t8487, box b8438 26 [.int .i64 x1.fKind, .int .i64 x1.fMember, p1_0, p1_1], box b8466 31 [.int .i64 t8462.fCode, u8464], own kCoin 77 u8464 t8462.fCoins] := HM.call hn
            refine ⟨Mem.suf (M := [own kRef 56 u8548 t8546.fIns, own kOut 75 u8550 t8546.fOuts]) HM, ?_⟩
            have hS := Mem.suf (M := [own kRef 56 u8548 t8546.fIns, own kOut 75 u8550 t8546.fOuts]) HM
            refine drwp_take rfl (guard_none rfl) rfl rfl (fun w_ hS_ => (ex_not rfl rfl)) hS ?_
            refine drwp_done ?_
            refine at_then ?_
            refine run_cond (b := !t8552) rfl (fun hb8556 => ?_) (fun hb8556 => ?_)
            · replace H := cond_t hb8556 H
              refine run_seq ?_
              refine run_region rfl ?_
              refine ops_ex rfl (guard_none rfl) rfl rfl (ex_assign rfl rfl) ?_
              refine ops_nil ?_
              refine at_then ?_
              refine run_ret ?_
              refine at_then_ret ?_
              replace HM := (HM.front 0 rfl rfl).drop
              replace HM := (HM.front 0 rfl rfl).drop
              replace HM := (HM.front 0 rfl rfl).drop
              replace HM := (HM.front 0 rfl rfl).drop
              replace HM := (HM.front 0 rfl rfl).drop
              replace HM := (HM.front 0 rfl rfl).drop
              replace HM := (HM.front 0 rfl rfl).drop
              replace HM := (HM.front 0 rfl rfl).drop
              replace HM := (HM.front 0 rfl rfl).drop
              replace HM := (HM.front 0 rfl rfl).drop
              replace HM := (HM.front 0 rfl rfl).drop
              replace HM := (HM.front 0 rfl rfl).drop
              have hR := Option.some.inj H
              subst hR
              exact at_ret1 rfl rfl ⟨_, rfl, rfl, HM⟩
            · replace H := cond_f hb8556 H
              refine run_skip ?_
              refine at_then ?_
              refine run_seq ?_
              refine run_region rfl ?_
              refine ops_ex rfl (guard_none rfl) rfl rfl (ex_assign rfl rfl) ?_
              refine ops_nil ?_
              refine at_then ?_
              refine run_seq ?_
              obtain ⟨t8557, h8558, H⟩ := bind_some H
              refine run_region rfl ?_
              refine ops_ex rfl (guard_none rfl) rfl rfl (ex_move rfl rfl) ?_
              refine ops_ex rfl (guard_none rfl) rfl rfl (ex_move rfl rfl) ?_
              replace HM := HM.front 8 rfl rfl
              obtain ⟨F8559, hF8560, hFn8561, hFl8562, HMh8563, hcl8564⟩ := HM.hide (Ms := [own kCoin 77 u8489 t8487])
              refine ops_does rfl (guard_none rfl) rfl rfl (does_callk rfl callok16 rfl (laws_markCoinS.calls (x0 := t8487) (x1 := 1) (hide_olds _ _) hF8560 hFn8561 hFl8562 h8558)) ?_
              rintro _ w8565 ⟨rfl, hn⟩
              replace HM : Mem w [] w8565 [own kCoin 77 u8489 t8557.2, own kRef 56 u8548 t8546.fIns, own kOut 75 u8550 t8546.fOuts, own kCoin 77 u8530 t8528, box b8508 31 [.int .i64 t8504.fCode, u8506], own kCoin 77 u8506 t8504.fCoins, box b8498 37 [.int .i64 t8492.fKind, .int .i64 t8492.fMember, u8494, u8496], own kRef 56 u8494 t8492.fIns, own kOut 75 u8496 t8492.fOuts, box b8438 26 [.int .i64 x1.fKind, .int .i64 x1.fMember, p1_0, p1_1], box b8466 31 [.int .i64 t8462.fCode, u8464], own kCoin 77 u8464 t8462.fCoins] := hcl8564 _ _ hn
              refine ops_ex rfl (guard_none rfl) rfl rfl (ex_assign rfl rfl) ?_
              refine ops_nil ?_
              refine at_then ?_
              refine run_seq ?_
              obtain ⟨t8566, h8567, H⟩ := bind_some H
              refine run_region rfl ?_
              refine ops_ex rfl (guard_none rfl) rfl rfl (ex_loadN (cs := [(.int .i64 t8492.fKind), (.int .i64 t8492.fMember), u8494, u8496]) rfl rfl Tryz.underlying37 rfl tsz37 rfl ((HM.box_at 6 rfl).sub 0 4 rfl)) ?_
              refine ops_ex rfl (guard_none rfl) rfl rfl (ex_move rfl rfl) ?_
              replace HM := HM.front 8 rfl rfl
              replace HM := HM.front 8 rfl rfl
              obtain ⟨F8568, hF8569, hFn8570, hFl8571, HMh8572, hcl8573⟩ := HM.hide (Ms := [own kRef 56 u8494 t8492.fIns, own kOut 75 u8496 t8492.fOuts])
              refine ops_does rfl (guard_none rfl) rfl rfl (does_callk rfl callok17 rfl (laws_markTx.calls (x0 := t8492) (x1 := t8557.1) (hide_olds _ _) hF8569 hFn8570 hFl8571 h8567)) ?_
              rintro _ w8574 ⟨rfl, hn⟩
              replace HM : Mem w [] w8574 [own kRef 56 u8494 t8566.2.1, own kOut 75 u8496 t8566.2.2, own kCoin 77 u8489 t8557.2, own kRef 56 u8548 t8546.fIns, own kOut 75 u8550 t8546.fOuts, own kCoin 77 u8530 t8528, box b8508 31 [.int .i64 t8504.fCode, u8506], own kCoin 77 u8506 t8504.fCoins, box b8498 37 [.int .i64 t8492.fKind, .int .i64 t8492.fMember, u8494, u8496], box b8438 26 [.int .i64 x1.fKind, .int .i64 x1.fMember, p1_0, p1_1], box b8466 31 [.int .i64 t8462.fCode, u8464], own kCoin 77 u8464 t8462.fCoins] := hcl8573 _ _ hn
              refine ops_ex rfl (guard_none rfl) rfl rfl (ex_assign rfl rfl) ?_
              refine ops_nil ?_
              refine at_then ?_
              refine run_seq ?_
              refine run_seq ?_
              obtain ⟨t8578, h8579, H⟩ := bind_some H
              refine run_meet (fun ρ_ w_ => ρ_ = [(0, p0), (2, .int .i64 x2), (3, .int .i64 x3), (5, .pointer (some ⟨b8438, 0, none⟩)), (10, .pointer (some ⟨b8466, 0, none⟩)), (13, .pointer (some ⟨b8508, 0, none⟩)), (71, .bool ((decide (t8566.1 < 0)) || (!t8578)))] ∧ Mem w [] w_ [box b8438 26 [.int .i64 x1.fKind, .int .i64 x1.fMember, p1_0, p1_1], box b8466 31 [.int .i64 t8462.fCode, u8464], own kCoin 77 u8464 t8462.fCoins, box b8508 31 [.int .i64 t8504.fCode, u8506], own kCoin 77 u8506 t8504.fCoins]) ?_ ?_
              · skip
                refine run_region rfl ?_
                refine ops_ex rfl (guard_none rfl) rfl rfl (ex_move rfl rfl) ?_
                refine ops_ex rfl (guard_none rfl) rfl rfl (ex_lss rfl rfl rfl) ?_
                refine ops_ex rfl (guard_none rfl) rfl rfl (ex_move rfl rfl) ?_
                refine bool_cases (decide (t8566.1 < 0)) (fun hg8580 => ?_) (fun hg8580 => ?_)
                · skip
                  refine ops_off rfl (guard_off rfl rfl rfl hg8580) rfl rfl ?_
                  refine ops_off rfl (guard_off rfl rfl rfl hg8580) rfl rfl ?_
                  refine ops_off rfl (guard_off rfl rfl rfl hg8580) rfl rfl ?_
                  refine ops_off rfl (guard_off rfl rfl rfl hg8580) rfl rfl ?_
                  have hg8581 : ((decide (t8566.1 < 0)) || (!t8578)) = true := by simp only [hg8580, Bool.and_true, Bool.true_and, Bool.and_false, Bool.false_and, Bool.or_true, Bool.true_or, Bool.or_false, Bool.false_or, Bool.not_true, Bool.not_false, Bool.not_not]
                  refine ops_ex (v := .bool ((decide (t8566.1 < 0)) || (!t8578))) rfl (guard_none rfl) rfl rfl (ex_por_t rfl rfl hg8580) ?_
                  refine ops_nil ?_
                  replace HM := (HM.front 0 rfl rfl).drop
                  replace HM := (HM.front 0 rfl rfl).drop
                  replace HM := (HM.front 0 rfl rfl).drop
                  replace HM := (HM.front 0 rfl rfl).drop
                  replace HM := (HM.front 0 rfl rfl).drop
                  replace HM := (HM.front 0 rfl rfl).drop
                  replace HM := (HM.front 2 rfl rfl).drop
                  replace HM := HM.front 1 rfl rfl
                  replace HM := HM.front 1 rfl rfl
                  replace HM := HM.front 4 rfl rfl
                  replace HM := HM.front 4 rfl rfl
                  replace HM := HM.front 4 rfl rfl
                  exact at_meet [(0, p0), (2, .int .i64 x2), (3, .int .i64 x3), (5, .pointer (some ⟨b8438, 0, none⟩)), (10, .pointer (some ⟨b8466, 0, none⟩)), (13, .pointer (some ⟨b8508, 0, none⟩)), (71, .bool ((decide (t8566.1 < 0)) || (!t8578)))] ⟨rfl, HM⟩ (Sub.cons rfl (Sub.cons rfl (Sub.cons rfl (Sub.cons rfl (Sub.cons rfl (Sub.cons rfl (Sub.cons rfl Sub.nil)))))))
                · skip
                  refine ops_ex rfl (guard_on rfl rfl rfl hg8580) rfl rfl (ex_loadN (cs := [(.int .i64 t8504.fCode), u8506]) rfl rfl Tryz.underlying31 rfl tsz31 rfl ((HM.box_at 6 rfl).sub 0 2 rfl)) ?_
                  refine ops_ex rfl (guard_on rfl rfl rfl hg8580) rfl rfl (ex_loadN (cs := [(.int .i64 t8462.fCode), u8464]) rfl rfl Tryz.underlying31 rfl tsz31 rfl ((HM.box_at 10 rfl).sub 0 2 rfl)) ?_
                  refine ops_does rfl (guard_on rfl rfl rfl hg8580) rfl rfl (does_callk rfl callok13 rfl (laws_eqCoinsResult.calls (x0 := t8504) (x1 := t8462) (HM.own_rd 7 rfl) (HM.own_rd 11 rfl) (cond_t (not_mk hg8580) h8579))) ?_
                  rintro _ w8582 ⟨rfl, hn⟩
                  replace HM : Mem w [] w8582 [own kRef 56 u8494 t8566.2.1, own kOut 75 u8496 t8566.2.2, own kCoin 77 u8489 t8557.2, own kRef 56 u8548 t8546.fIns, own kOut 75 u8550 t8546.fOuts, own kCoin 77 u8530 t8528, box b8508 31 [.int .i64 t8504.fCode, u8506], own kCoin 77 u8506 t8504.fCoins, box b8498 37 [.int .i64 t8492.fKind, .int .i64 t8492.fMember, u8494, u8496], box b8438 26 [.int .i64 x1.fKind, .int .i64 x1.fMember, p1_0, p1_1], box b8466 31 [.int .i64 t8462.fCode, u8464], own kCoin 77 u8464 t8462.fCoins] := HM.call hn
                  refine ops_ex rfl (guard_on rfl rfl rfl hg8580) rfl rfl (ex_not rfl rfl) ?_
                  refine ops_ex (v := .bool ((decide (t8566.1 < 0)) || (!t8578))) rfl (guard_none rfl) rfl rfl (ex_por_f rfl rfl hg8580 rfl) ?_
                  refine ops_nil ?_
                  replace HM := (HM.front 0 rfl rfl).drop
                  replace HM := (HM.front 0 rfl rfl).drop
                  replace HM := (HM.front 0 rfl rfl).drop
                  replace HM := (HM.front 0 rfl rfl).drop
                  replace HM := (HM.front 0 rfl rfl).drop
                  replace HM := (HM.front 0 rfl rfl).drop
                  replace HM := (HM.front 2 rfl rfl).drop
                  replace HM := HM.front 1 rfl rfl
                  replace HM := HM.front 1 rfl rfl
                  replace HM := HM.front 4 rfl rfl
                  replace HM := HM.front 4 rfl rfl
                  replace HM := HM.front 4 rfl rfl
                  exact at_meet [(0, p0), (2, .int .i64 x2), (3, .int .i64 x3), (5, .pointer (some ⟨b8438, 0, none⟩)), (10, .pointer (some ⟨b8466, 0, none⟩)), (13, .pointer (some ⟨b8508, 0, none⟩)), (71, .bool ((decide (t8566.1 < 0)) || (!t8578)))] ⟨rfl, HM⟩ (Sub.cons rfl (Sub.cons rfl (Sub.cons rfl (Sub.cons rfl (Sub.cons rfl (Sub.cons rfl (Sub.cons rfl Sub.nil)))))))
              · rintro _ w8583 ⟨rfl, HM⟩
                refine at_then ?_
                refine run_cond (b := ((decide (t8566.1 < 0)) || (!t8578))) rfl (fun hb8584 => ?_) (fun hb8584 => ?_)
                · replace H := cond_t hb8584 H
                  refine run_seq ?_
                  refine run_region rfl ?_
                  refine ops_ex rfl (guard_none rfl) rfl rfl (ex_assign rfl rfl) ?_
                  refine ops_nil ?_
                  refine at_then ?_
                  refine run_ret ?_
                  refine at_then_ret ?_
                  replace HM := (HM.front 0 rfl rfl).drop
                  replace HM := (HM.front 0 rfl rfl).drop
                  replace HM := (HM.front 0 rfl rfl).drop
                  replace HM := (HM.front 0 rfl rfl).drop
                  replace HM := (HM.front 0 rfl rfl).drop
                  have hR := Option.some.inj H
                  subst hR
                  exact at_ret1 rfl rfl ⟨_, rfl, rfl, HM⟩
                · replace H := cond_f hb8584 H
                  refine run_skip ?_
                  refine at_then ?_
                  refine run_seq ?_
                  refine run_region rfl ?_
                  refine ops_ex rfl (guard_none rfl) rfl rfl (ex_assign rfl rfl) ?_
                  refine ops_nil ?_
                  refine at_then ?_
                  refine run_seq ?_
                  obtain ⟨t8585, h8586, H⟩ := bind_some H
                  refine run_region rfl ?_
                  refine ops_ex rfl (guard_none rfl) rfl rfl (ex_loadN (cs := [(.int .i64 t8504.fCode), u8506]) rfl rfl Tryz.underlying31 rfl tsz31 rfl ((HM.box_at 3 rfl).sub 0 2 rfl)) ?_
                  refine ops_ex rfl (guard_none rfl) rfl rfl (ex_move rfl rfl) ?_
                  replace HM := HM.front 4 rfl rfl
                  obtain ⟨F8587, hF8588, hFn8589, hFl8590, HMh8591, hcl8592⟩ := HM.hide (Ms := [own kCoin 77 u8506 t8504.fCoins])
                  refine ops_does rfl (guard_none rfl) rfl rfl (does_callk rfl callok18 rfl (laws_markCoinsResult.calls (x0 := t8504) (x1 := 1) (hide_olds _ _) hF8588 hFn8589 hFl8590 h8586)) ?_
                  rintro _ w8593 ⟨rfl, hn⟩
                  replace HM : Mem w [] w8593 [own kCoin 77 u8506 t8585.2, box b8438 26 [.int .i64 x1.fKind, .int .i64 x1.fMember, p1_0, p1_1], box b8466 31 [.int .i64 t8462.fCode, u8464], own kCoin 77 u8464 t8462.fCoins, box b8508 31 [.int .i64 t8504.fCode, u8506]] := hcl8592 _ _ hn
                  refine ops_ex rfl (guard_none rfl) rfl rfl (ex_assign rfl rfl) ?_
                  refine ops_nil ?_
                  refine at_then ?_
                  refine run_seq ?_
                  refine run_region rfl ?_
                  refine ops_ex rfl (guard_none rfl) rfl rfl (ex_assign rfl rfl) ?_
                  refine ops_nil ?_
                  refine at_then ?_
                  refine run_seq ?_
                  obtain ⟨t8594, h8595, H⟩ := bind_some H
                  refine run_region rfl ?_
                  refine ops_ex rfl (guard_none rfl) rfl rfl (ex_loadN (cs := [(.int .i64 t8504.fCode), u8506]) rfl rfl Tryz.underlying31 rfl tsz31 rfl ((HM.box_at 4 rfl).sub 0 2 rfl)) ?_
                  refine ops_ex rfl (guard_none rfl) rfl rfl (ex_move rfl rfl) ?_
                  refine ops_does rfl (guard_none rfl) rfl rfl (does_callk rfl callok19 rfl (laws_heldCoinsResult.calls (x0 := (⟨t8504.fCode, t8585.2⟩ : CoinsResult)) (x1 := 1) (HM.own_rd 0 rfl) h8595)) ?_
                  rintro _ w8596 ⟨rfl, hn⟩
                  replace HM : Mem w [] w8596 [own kCoin 77 u8506 t8585.2, box b8438 26 [.int .i64 x1.fKind, .int .i64 x1.fMember, p1_0, p1_1], box b8466 31 [.int .i64 t8462.fCode, u8464], own kCoin 77 u8464 t8462.fCoins, box b8508 31 [.int .i64 t8504.fCode, u8506]] := HM.call hn
                  refine ops_ex rfl (guard_none rfl) rfl rfl (ex_assign rfl rfl) ?_
                  refine ops_nil ?_
                  refine at_then ?_
                  refine run_seq ?_
                  refine run_seq ?_
                  refine run_region rfl ?_
                  refine ops_ex rfl (guard_none rfl) rfl rfl (ex_move rfl rfl) ?_
                  refine ops_ex rfl (guard_none rfl) rfl rfl (ex_lss rfl rfl rfl) ?_
                  refine ops_nil ?_
                  refine at_then ?_
                  refine run_cond (b := (decide (t8594 < 0))) rfl (fun hb8598 => ?_) (fun hb8598 => ?_)
                  · replace H := cond_t hb8598 H
                    refine run_seq ?_
                    refine run_region rfl ?_
                    refine ops_ex rfl (guard_none rfl) rfl rfl (ex_assign rfl rfl) ?_
                    refine ops_nil ?_
                    refine at_then ?_
                    refine run_ret ?_
                    refine at_then_ret ?_
                    replace HM := (HM.front 0 rfl rfl).drop
                    replace HM := (HM.front 0 rfl rfl).drop
                    replace HM := (HM.front 0 rfl rfl).drop
                    replace HM := (HM.front 0 rfl rfl).drop
                    replace HM := (HM.front 0 rfl rfl).drop
                    have hR := Option.some.inj H
                    subst hR
                    exact at_ret1 rfl rfl ⟨_, rfl, rfl, HM⟩
                  · replace H := cond_f hb8598 H
                    refine run_skip ?_
                    refine at_then ?_
                    refine run_seq ?_
                    refine run_seq ?_
                    refine run_region rfl ?_
                    refine ops_ex rfl (guard_none rfl) rfl rfl (ex_move rfl rfl) ?_
                    refine ops_ex rfl (guard_none rfl) rfl rfl (ex_move rfl rfl) ?_
                    refine ops_ex rfl (guard_none rfl) rfl rfl (ex_neq rfl rfl rfl) ?_
                    refine ops_nil ?_
                    refine at_then ?_
                    refine run_cond (b := (t8594 != t8585.1)) rfl (fun hb8600 => ?_) (fun hb8600 => ?_)
                    · replace H := cond_t hb8600 H
                      refine run_seq ?_
                      refine run_region rfl ?_
                      refine ops_ex rfl (guard_none rfl) rfl rfl (ex_assign rfl rfl) ?_
                      refine ops_nil ?_
                      refine at_then ?_
                      refine run_ret ?_
                      refine at_then_ret ?_
                      replace HM := (HM.front 0 rfl rfl).drop
                      replace HM := (HM.front 0 rfl rfl).drop
                      replace HM := (HM.front 0 rfl rfl).drop
                      replace HM := (HM.front 0 rfl rfl).drop
                      replace HM := (HM.front 0 rfl rfl).drop
                      have hR := Option.some.inj H
                      subst hR
                      exact at_ret1 rfl rfl ⟨_, rfl, rfl, HM⟩
                    · replace H := cond_f hb8600 H
                      refine run_skip ?_
                      refine at_then ?_
                      refine run_seq ?_
                      obtain ⟨t8601, h8602, H⟩ := bind_some H
                      obtain ⟨t8605, h8606, H⟩ := bind_some H
                      obtain ⟨t8611, h8612, H⟩ := bind_some H
                      refine run_meet (fun ρ_ w_ => ∃ u8613 : Value, ∃ b8615 : Nat, ρ_ = [(10, .pointer (some ⟨b8466, 0, none⟩)), (13, .pointer (some ⟨b8508, 0, none⟩)), (15, .int .i64 t8585.1), (17, .pointer (some ⟨b8615, 0, none⟩))] ∧ Mem w [] w_ [box b8466 31 [.int .i64 t8462.fCode, u8464], own kCoin 77 u8464 t8462.fCoins, box b8508 31 [.int .i64 t8504.fCode, u8506], own kCoin 77 u8506 t8585.2, box b8615 31 [.int .i64 t8611.fCode, u8613], own kCoin 77 u8613 t8611.fCoins]) ?_ ?_
                      · skip
                        refine run_draw (fun w_ => Mem w [] w_ [own kCoin 77 u8506 t8585.2, box b8438 26 [.int .i64 x1.fKind, .int .i64 x1.fMember, p1_0, p1_1], box b8466 31 [.int .i64 t8462.fCode, u8464], own kCoin 77 u8464 t8462.fCoins, box b8508 31 [.int .i64 t8504.fCode, u8506]]) mixed rfl (l := #[false, false, false, false, false, false, false, false, false]) rfl ?_
                        replace HM := HM.grow (fr_drew _)
                        have hS := Mem.suf (M := []) HM
                        refine drw_take (i := 0) (l' := #[true, false, false, false, false, false, false, false, false]) rfl (guard_none rfl) rfl rfl (by kernel_rfl) (fun w_ hS_ => (ex_move rfl rfl)) hS ?_
                        refine drw_take (i := 2) (l' := #[true, false, true, false, false, false, false, false, false]) rfl (guard_none rfl) rfl rfl (by kernel_rfl) (fun w_ hS_ => (ex_loadN (cs := [(.int .i64 x1.fKind), (.int .i64 x1.fMember), p1_0, p1_1]) rfl rfl Tryz.underlying26 rfl tsz26 rfl ((hS_.box_at 1 rfl).sub 0 4 rfl))) hS ?_
                        refine drw_take (i := 4) (l' := #[true, false, true, false, true, false, false, false, false]) rfl (guard_none rfl) rfl rfl (by kernel_rfl) (fun w_ hS_ => (ex_move rfl rfl)) hS ?_
                        refine drw_take (i := 5) (l' := #[true, false, true, false, true, true, false, false, false]) rfl (guard_none rfl) rfl rfl (by kernel_rfl) (fun w_ hS_ => (ex_move rfl rfl)) hS ?_
                        refine drw_any [1, 7] (by kernel_rfl) rfl (.cons ?_ (.cons ?_ .nil))
                        · skip
                          refine br_does (l' := #[true, true, true, false, true, true, false, false, false]) rfl (guard_none rfl) rfl rfl (by kernel_rfl) (does_callk rfl callok10 rfl (laws_toCoinS.calls (x0 := x0) (HM.rd hp0) h8602)) ?_
                          rintro u8603 w8618 ⟨_, rfl, hn⟩
                          replace HM : Mem w [] w8618 [own kCoin 77 u8603 t8601, own kCoin 77 u8506 t8585.2, box b8438 26 [.int .i64 x1.fKind, .int .i64 x1.fMember, p1_0, p1_1], box b8466 31 [.int .i64 t8462.fCode, u8464], own kCoin 77 u8464 t8462.fCoins, box b8508 31 [.int .i64 t8504.fCode, u8506]] := HM.call hn
                          refine ⟨Mem.suf (M := [own kCoin 77 u8603 t8601]) HM, ?_⟩
                          have hS := Mem.suf (M := [own kCoin 77 u8603 t8601]) HM
                          refine drw_any [3, 7] (by kernel_rfl) rfl (.cons ?_ (.cons ?_ .nil))
                          · skip
                            refine br_does (l' := #[true, true, true, true, true, true, false, false, false]) rfl (guard_none rfl) rfl rfl (by kernel_rfl) (does_callk rfl callok11 rfl (laws_toTx.calls (x0 := x1) (HM.rd hp1_0) (HM.rd hp1_1) h8606)) ?_
                            rintro _ w8619 ⟨u8607, u8609, rfl, hn⟩
                            replace HM : Mem w [] w8619 [own kRef 56 u8607 t8605.fIns, own kOut 75 u8609 t8605.fOuts, own kCoin 77 u8603 t8601, own kCoin 77 u8506 t8585.2, box b8438 26 [.int .i64 x1.fKind, .int .i64 x1.fMember, p1_0, p1_1], box b8466 31 [.int .i64 t8462.fCode, u8464], own kCoin 77 u8464 t8462.fCoins, box b8508 31 [.int .i64 t8504.fCode, u8506]] := HM.call hn
                            refine ⟨Mem.suf (M := [own kRef 56 u8607 t8605.fIns, own kOut 75 u8609 t8605.fOuts, own kCoin 77 u8603 t8601]) HM, ?_⟩
                            have hS := Mem.suf (M := [own kRef 56 u8607 t8605.fIns, own kOut 75 u8609 t8605.fOuts, own kCoin 77 u8603 t8601]) HM
                            refine drw_any [6, 7] (by kernel_rfl) rfl (.cons ?_ (.cons ?_ .nil))
                            · skip
                              refine br_does (l' := #[true, true, true, true, true, true, true, false, false]) rfl (guard_none rfl) rfl rfl (by kernel_rfl) (does_callk rfl callok23 rfl (impl_SpendTx.calls (x0 := t8601) (x1 := t8605) (x2 := x2) (x3 := x3) (HM.own_rd 2 rfl) (HM.own_rd 0 rfl) (HM.own_rd 1 rfl) h8612)) ?_
                              rintro _ w8620 ⟨u8613, rfl, hn⟩
                              replace HM : Mem w [] w8620 [own kCoin 77 u8613 t8611.fCoins, own kRef 56 u8607 t8605.fIns, own kOut 75 u8609 t8605.fOuts, own kCoin 77 u8603 t8601, own kCoin 77 u8506 t8585.2, box b8438 26 [.int .i64 x1.fKind, .int .i64 x1.fMember, p1_0, p1_1], box b8466 31 [.int .i64 t8462.fCode, u8464], own kCoin 77 u8464 t8462.fCoins, box b8508 31 [.int .i64 t8504.fCode, u8506]] := HM.call hn
                              refine ⟨Mem.suf (M := [own kCoin 77 u8613 t8611.fCoins, own kRef 56 u8607 t8605.fIns, own kOut 75 u8609 t8605.fOuts, own kCoin 77 u8603 t8601]) HM, ?_⟩
                              have hS := Mem.suf (M := [own kCoin 77 u8613 t8611.fCoins, own kRef 56 u8607 t8605.fIns, own kOut 75 u8609 t8605.fOuts, own kCoin 77 u8603 t8601]) HM
                              refine drw_any [7] (by kernel_rfl) rfl (.cons ?_ .nil)
                              refine br_does (l' := #[true, true, true, true, true, true, true, true, false]) rfl (guard_none rfl) rfl rfl (by kernel_rfl) (does_alloc (cs := [.int .i64 0, .slice none 0 0]) rfl tz31 rfl HM) ?_
                              rintro _ w8621 ⟨b8615, rfl, HM⟩
                              refine ⟨Mem.suf (M := [box b8615 31 [.int .i64 0, .slice none 0 0], own kCoin 77 u8613 t8611.fCoins, own kRef 56 u8607 t8605.fIns, own kOut 75 u8609 t8605.fOuts, own kCoin 77 u8603 t8601]) HM, ?_⟩
                              have hS := Mem.suf (M := [box b8615 31 [.int .i64 0, .slice none 0 0], own kCoin 77 u8613 t8611.fCoins, own kRef 56 u8607 t8605.fIns, own kOut 75 u8609 t8605.fOuts, own kCoin 77 u8603 t8601]) HM
                              refine drw_any [8] (by kernel_rfl) rfl (.cons ?_ .nil)
                              refine br_doesS (l' := #[true, true, true, true, true, true, true, true, true]) rfl (guard_none rfl) rfl (by kernel_rfl) (does_store (vs := [.int .i64 t8611.fCode, u8613]) (cs' := [.int .i64 t8611.fCode, u8613]) rfl rfl rfl rfl tsz31 (Ones.int (Ones.rd (HM.own_rd 1 rfl) Ones.nil)) rfl rfl HM) ?_
                              rintro w8622 HM
                              refine ⟨Mem.suf (M := [box b8615 31 [.int .i64 t8611.fCode, u8613], own kCoin 77 u8613 t8611.fCoins, own kRef 56 u8607 t8605.fIns, own kOut 75 u8609 t8605.fOuts, own kCoin 77 u8603 t8601]) HM, ?_⟩
                              have hS := Mem.suf (M := [box b8615 31 [.int .i64 t8611.fCode, u8613], own kCoin 77 u8613 t8611.fCoins, own kRef 56 u8607 t8605.fIns, own kOut 75 u8609 t8605.fOuts, own kCoin 77 u8603 t8601]) HM
                              refine drw_done (by kernel_rfl) ?_
                              replace HM := (HM.front 2 rfl rfl).drop
                              replace HM := (HM.front 2 rfl rfl).drop
                              replace HM := (HM.front 2 rfl rfl).drop
                              replace HM := (HM.front 3 rfl rfl).drop
                              replace HM := HM.front 1 rfl rfl
                              replace HM := HM.front 1 rfl rfl
                              replace HM := HM.front 2 rfl rfl
                              replace HM := HM.front 5 rfl rfl
                              replace HM := HM.front 5 rfl rfl
                              replace HM := HM.front 5 rfl rfl
                              exact at_meet [(10, .pointer (some ⟨b8466, 0, none⟩)), (13, .pointer (some ⟨b8508, 0, none⟩)), (15, .int .i64 t8585.1), (17, .pointer (some ⟨b8615, 0, none⟩))] ⟨_, _, rfl, HM⟩ (Sub.cons rfl (Sub.cons rfl (Sub.cons rfl (Sub.cons rfl Sub.nil))))
                            · skip
                              refine br_does (l' := #[true, true, true, true, true, true, false, true, false]) rfl (guard_none rfl) rfl rfl (by kernel_rfl) (does_alloc (cs := [.int .i64 0, .slice none 0 0]) rfl tz31 rfl HM) ?_
                              rintro _ w8623 ⟨b8615, rfl, HM⟩
                              refine ⟨Mem.suf (M := [box b8615 31 [.int .i64 0, .slice none 0 0], own kRef 56 u8607 t8605.fIns, own kOut 75 u8609 t8605.fOuts, own kCoin 77 u8603 t8601]) HM, ?_⟩
                              have hS := Mem.suf (M := [box b8615 31 [.int .i64 0, .slice none 0 0], own kRef 56 u8607 t8605.fIns, own kOut 75 u8609 t8605.fOuts, own kCoin 77 u8603 t8601]) HM
                              refine drw_any [6] (by kernel_rfl) rfl (.cons ?_ .nil)
                              refine br_does (l' := #[true, true, true, true, true, true, true, true, false]) rfl (guard_none rfl) rfl rfl (by kernel_rfl) (does_callk rfl callok23 rfl (impl_SpendTx.calls (x0 := t8601) (x1 := t8605) (x2 := x2) (x3 := x3) (HM.own_rd 3 rfl) (HM.own_rd 1 rfl) (HM.own_rd 2 rfl) h8612)) ?_
                              rintro _ w8624 ⟨u8613, rfl, hn⟩
                              replace HM : Mem w [] w8624 [own kCoin 77 u8613 t8611.fCoins, box b8615 31 [.int .i64 0, .slice none 0 0], own kRef 56 u8607 t8605.fIns, own kOut 75 u8609 t8605.fOuts, own kCoin 77 u8603 t8601, own kCoin 77 u8506 t8585.2, box b8438 26 [.int .i64 x1.fKind, .int .i64 x1.fMember, p1_0, p1_1], box b8466 31 [.int .i64 t8462.fCode, u8464], own kCoin 77 u8464 t8462.fCoins, box b8508 31 [.int .i64 t8504.fCode, u8506]] := HM.call hn
                              refine ⟨Mem.suf (M := [own kCoin 77 u8613 t8611.fCoins, box b8615 31 [.int .i64 0, .slice none 0 0], own kRef 56 u8607 t8605.fIns, own kOut 75 u8609 t8605.fOuts, own kCoin 77 u8603 t8601]) HM, ?_⟩
                              have hS := Mem.suf (M := [own kCoin 77 u8613 t8611.fCoins, box b8615 31 [.int .i64 0, .slice none 0 0], own kRef 56 u8607 t8605.fIns, own kOut 75 u8609 t8605.fOuts, own kCoin 77 u8603 t8601]) HM
                              replace HM := HM.front 1 rfl rfl
                              refine drw_any [8] (by kernel_rfl) rfl (.cons ?_ .nil)
                              refine br_doesS (l' := #[true, true, true, true, true, true, true, true, true]) rfl (guard_none rfl) rfl (by kernel_rfl) (does_store (vs := [.int .i64 t8611.fCode, u8613]) (cs' := [.int .i64 t8611.fCode, u8613]) rfl rfl rfl rfl tsz31 (Ones.int (Ones.rd (HM.own_rd 1 rfl) Ones.nil)) rfl rfl HM) ?_
                              rintro w8625 HM
                              refine ⟨Mem.suf (M := [box b8615 31 [.int .i64 t8611.fCode, u8613], own kCoin 77 u8613 t8611.fCoins, own kRef 56 u8607 t8605.fIns, own kOut 75 u8609 t8605.fOuts, own kCoin 77 u8603 t8601]) HM, ?_⟩
                              have hS := Mem.suf (M := [box b8615 31 [.int .i64 t8611.fCode, u8613], own kCoin 77 u8613 t8611.fCoins, own kRef 56 u8607 t8605.fIns, own kOut 75 u8609 t8605.fOuts, own kCoin 77 u8603 t8601]) HM
                              refine drw_done (by kernel_rfl) ?_
                              replace HM := (HM.front 2 rfl rfl).drop
                              replace HM := (HM.front 2 rfl rfl).drop
                              replace HM := (HM.front 2 rfl rfl).drop
                              replace HM := (HM.front 3 rfl rfl).drop
                              replace HM := HM.front 1 rfl rfl
                              replace HM := HM.front 1 rfl rfl
                              replace HM := HM.front 2 rfl rfl
                              replace HM := HM.front 5 rfl rfl
                              replace HM := HM.front 5 rfl rfl
                              replace HM := HM.front 5 rfl rfl
                              exact at_meet [(10, .pointer (some ⟨b8466, 0, none⟩)), (13, .pointer (some ⟨b8508, 0, none⟩)), (15, .int .i64 t8585.1), (17, .pointer (some ⟨b8615, 0, none⟩))] ⟨_, _, rfl, HM⟩ (Sub.cons rfl (Sub.cons rfl (Sub.cons rfl (Sub.cons rfl Sub.nil))))
                          · skip
                            refine br_does (l' := #[true, true, true, false, true, true, false, true, false]) rfl (guard_none rfl) rfl rfl (by kernel_rfl) (does_alloc (cs := [.int .i64 0, .slice none 0 0]) rfl tz31 rfl HM) ?_
                            rintro _ w8626 ⟨b8615, rfl, HM⟩
                            refine ⟨Mem.suf (M := [box b8615 31 [.int .i64 0, .slice none 0 0], own kCoin 77 u8603 t8601]) HM, ?_⟩
                            have hS := Mem.suf (M := [box b8615 31 [.int .i64 0, .slice none 0 0], own kCoin 77 u8603 t8601]) HM
                            refine drw_any [3] (by kernel_rfl) rfl (.cons ?_ .nil)
                            refine br_does (l' := #[true, true, true, true, true, true, false, true, false]) rfl (guard_none rfl) rfl rfl (by kernel_rfl) (does_callk rfl callok11 rfl (laws_toTx.calls (x0 := x1) (HM.rd hp1_0) (HM.rd hp1_1) h8606)) ?_
                            rintro _ w8627 ⟨u8607, u8609, rfl, hn⟩
                            replace HM : Mem w [] w8627 [own kRef 56 u8607 t8605.fIns, own kOut 75 u8609 t8605.fOuts, box b8615 31 [.int .i64 0, .slice none 0 0], own kCoin 77 u8603 t8601, own kCoin 77 u8506 t8585.2, box b8438 26 [.int .i64 x1.fKind, .int .i64 x1.fMember, p1_0, p1_1], box b8466 31 [.int .i64 t8462.fCode, u8464], own kCoin 77 u8464 t8462.fCoins, box b8508 31 [.int .i64 t8504.fCode, u8506]] := HM.call hn
                            refine ⟨Mem.suf (M := [own kRef 56 u8607 t8605.fIns, own kOut 75 u8609 t8605.fOuts, box b8615 31 [.int .i64 0, .slice none 0 0], own kCoin 77 u8603 t8601]) HM, ?_⟩
                            have hS := Mem.suf (M := [own kRef 56 u8607 t8605.fIns, own kOut 75 u8609 t8605.fOuts, box b8615 31 [.int .i64 0, .slice none 0 0], own kCoin 77 u8603 t8601]) HM
                            refine drw_any [6] (by kernel_rfl) rfl (.cons ?_ .nil)
                            refine br_does (l' := #[true, true, true, true, true, true, true, true, false]) rfl (guard_none rfl) rfl rfl (by kernel_rfl) (does_callk rfl callok23 rfl (impl_SpendTx.calls (x0 := t8601) (x1 := t8605) (x2 := x2) (x3 := x3) (HM.own_rd 3 rfl) (HM.own_rd 0 rfl) (HM.own_rd 1 rfl) h8612)) ?_
                            rintro _ w8628 ⟨u8613, rfl, hn⟩
                            replace HM : Mem w [] w8628 [own kCoin 77 u8613 t8611.fCoins, own kRef 56 u8607 t8605.fIns, own kOut 75 u8609 t8605.fOuts, box b8615 31 [.int .i64 0, .slice none 0 0], own kCoin 77 u8603 t8601, own kCoin 77 u8506 t8585.2, box b8438 26 [.int .i64 x1.fKind, .int .i64 x1.fMember, p1_0, p1_1], box b8466 31 [.int .i64 t8462.fCode, u8464], own kCoin 77 u8464 t8462.fCoins, box b8508 31 [.int .i64 t8504.fCode, u8506]] := HM.call hn
                            refine ⟨Mem.suf (M := [own kCoin 77 u8613 t8611.fCoins, own kRef 56 u8607 t8605.fIns, own kOut 75 u8609 t8605.fOuts, box b8615 31 [.int .i64 0, .slice none 0 0], own kCoin 77 u8603 t8601]) HM, ?_⟩
                            have hS := Mem.suf (M := [own kCoin 77 u8613 t8611.fCoins, own kRef 56 u8607 t8605.fIns, own kOut 75 u8609 t8605.fOuts, box b8615 31 [.int .i64 0, .slice none 0 0], own kCoin 77 u8603 t8601]) HM
                            replace HM := HM.front 3 rfl rfl
                            refine drw_any [8] (by kernel_rfl) rfl (.cons ?_ .nil)
                            refine br_doesS (l' := #[true, true, true, true, true, true, true, true, true]) rfl (guard_none rfl) rfl (by kernel_rfl) (does_store (vs := [.int .i64 t8611.fCode, u8613]) (cs' := [.int .i64 t8611.fCode, u8613]) rfl rfl rfl rfl tsz31 (Ones.int (Ones.rd (HM.own_rd 1 rfl) Ones.nil)) rfl rfl HM) ?_
                            rintro w8629 HM
                            refine ⟨Mem.suf (M := [box b8615 31 [.int .i64 t8611.fCode, u8613], own kCoin 77 u8613 t8611.fCoins, own kRef 56 u8607 t8605.fIns, own kOut 75 u8609 t8605.fOuts, own kCoin 77 u8603 t8601]) HM, ?_⟩
                            have hS := Mem.suf (M := [box b8615 31 [.int .i64 t8611.fCode, u8613], own kCoin 77 u8613 t8611.fCoins, own kRef 56 u8607 t8605.fIns, own kOut 75 u8609 t8605.fOuts, own kCoin 77 u8603 t8601]) HM
                            refine drw_done (by kernel_rfl) ?_
                            replace HM := (HM.front 2 rfl rfl).drop
                            replace HM := (HM.front 2 rfl rfl).drop
                            replace HM := (HM.front 2 rfl rfl).drop
                            replace HM := (HM.front 3 rfl rfl).drop
                            replace HM := HM.front 1 rfl rfl
                            replace HM := HM.front 1 rfl rfl
                            replace HM := HM.front 2 rfl rfl
                            replace HM := HM.front 5 rfl rfl
                            replace HM := HM.front 5 rfl rfl
                            replace HM := HM.front 5 rfl rfl
                            exact at_meet [(10, .pointer (some ⟨b8466, 0, none⟩)), (13, .pointer (some ⟨b8508, 0, none⟩)), (15, .int .i64 t8585.1), (17, .pointer (some ⟨b8615, 0, none⟩))] ⟨_, _, rfl, HM⟩ (Sub.cons rfl (Sub.cons rfl (Sub.cons rfl (Sub.cons rfl Sub.nil))))
                        · skip
                          refine br_does (l' := #[true, false, true, false, true, true, false, true, false]) rfl (guard_none rfl) rfl rfl (by kernel_rfl) (does_alloc (cs := [.int .i64 0, .slice none 0 0]) rfl tz31 rfl HM) ?_
                          rintro _ w8630 ⟨b8615, rfl, HM⟩
                          refine ⟨Mem.suf (M := [box b8615 31 [.int .i64 0, .slice none 0 0]]) HM, ?_⟩
                          have hS := Mem.suf (M := [box b8615 31 [.int .i64 0, .slice none 0 0]]) HM
                          refine drw_any [1] (by kernel_rfl) rfl (.cons ?_ .nil)
                          refine br_does (l' := #[true, true, true, false, true, true, false, true, false]) rfl (guard_none rfl) rfl rfl (by kernel_rfl) (does_callk rfl callok10 rfl (laws_toCoinS.calls (x0 := x0) (HM.rd hp0) h8602)) ?_
                          rintro u8603 w8631 ⟨_, rfl, hn⟩
                          replace HM : Mem w [] w8631 [own kCoin 77 u8603 t8601, box b8615 31 [.int .i64 0, .slice none 0 0], own kCoin 77 u8506 t8585.2, box b8438 26 [.int .i64 x1.fKind, .int .i64 x1.fMember, p1_0, p1_1], box b8466 31 [.int .i64 t8462.fCode, u8464], own kCoin 77 u8464 t8462.fCoins, box b8508 31 [.int .i64 t8504.fCode, u8506]] := HM.call hn
                          refine ⟨Mem.suf (M := [own kCoin 77 u8603 t8601, box b8615 31 [.int .i64 0, .slice none 0 0]]) HM, ?_⟩
                          have hS := Mem.suf (M := [own kCoin 77 u8603 t8601, box b8615 31 [.int .i64 0, .slice none 0 0]]) HM
                          refine drw_any [3] (by kernel_rfl) rfl (.cons ?_ .nil)
                          refine br_does (l' := #[true, true, true, true, true, true, false, true, false]) rfl (guard_none rfl) rfl rfl (by kernel_rfl) (does_callk rfl callok11 rfl (laws_toTx.calls (x0 := x1) (HM.rd hp1_0) (HM.rd hp1_1) h8606)) ?_
                          rintro _ w8632 ⟨u8607, u8609, rfl, hn⟩
                          replace HM : Mem w [] w8632 [own kRef 56 u8607 t8605.fIns, own kOut 75 u8609 t8605.fOuts, own kCoin 77 u8603 t8601, box b8615 31 [.int .i64 0, .slice none 0 0], own kCoin 77 u8506 t8585.2, box b8438 26 [.int .i64 x1.fKind, .int .i64 x1.fMember, p1_0, p1_1], box b8466 31 [.int .i64 t8462.fCode, u8464], own kCoin 77 u8464 t8462.fCoins, box b8508 31 [.int .i64 t8504.fCode, u8506]] := HM.call hn
                          refine ⟨Mem.suf (M := [own kRef 56 u8607 t8605.fIns, own kOut 75 u8609 t8605.fOuts, own kCoin 77 u8603 t8601, box b8615 31 [.int .i64 0, .slice none 0 0]]) HM, ?_⟩
                          have hS := Mem.suf (M := [own kRef 56 u8607 t8605.fIns, own kOut 75 u8609 t8605.fOuts, own kCoin 77 u8603 t8601, box b8615 31 [.int .i64 0, .slice none 0 0]]) HM
                          refine drw_any [6] (by kernel_rfl) rfl (.cons ?_ .nil)
                          refine br_does (l' := #[true, true, true, true, true, true, true, true, false]) rfl (guard_none rfl) rfl rfl (by kernel_rfl) (does_callk rfl callok23 rfl (impl_SpendTx.calls (x0 := t8601) (x1 := t8605) (x2 := x2) (x3 := x3) (HM.own_rd 2 rfl) (HM.own_rd 0 rfl) (HM.own_rd 1 rfl) h8612)) ?_
                          rintro _ w8633 ⟨u8613, rfl, hn⟩
                          replace HM : Mem w [] w8633 [own kCoin 77 u8613 t8611.fCoins, own kRef 56 u8607 t8605.fIns, own kOut 75 u8609 t8605.fOuts, own kCoin 77 u8603 t8601, box b8615 31 [.int .i64 0, .slice none 0 0], own kCoin 77 u8506 t8585.2, box b8438 26 [.int .i64 x1.fKind, .int .i64 x1.fMember, p1_0, p1_1], box b8466 31 [.int .i64 t8462.fCode, u8464], own kCoin 77 u8464 t8462.fCoins, box b8508 31 [.int .i64 t8504.fCode, u8506]] := HM.call hn
                          refine ⟨Mem.suf (M := [own kCoin 77 u8613 t8611.fCoins, own kRef 56 u8607 t8605.fIns, own kOut 75 u8609 t8605.fOuts, own kCoin 77 u8603 t8601, box b8615 31 [.int .i64 0, .slice none 0 0]]) HM, ?_⟩
                          have hS := Mem.suf (M := [own kCoin 77 u8613 t8611.fCoins, own kRef 56 u8607 t8605.fIns, own kOut 75 u8609 t8605.fOuts, own kCoin 77 u8603 t8601, box b8615 31 [.int .i64 0, .slice none 0 0]]) HM
                          replace HM := HM.front 4 rfl rfl
                          refine drw_any [8] (by kernel_rfl) rfl (.cons ?_ .nil)
                          refine br_doesS (l' := #[true, true, true, true, true, true, true, true, true]) rfl (guard_none rfl) rfl (by kernel_rfl) (does_store (vs := [.int .i64 t8611.fCode, u8613]) (cs' := [.int .i64 t8611.fCode, u8613]) rfl rfl rfl rfl tsz31 (Ones.int (Ones.rd (HM.own_rd 1 rfl) Ones.nil)) rfl rfl HM) ?_
                          rintro w8634 HM
                          refine ⟨Mem.suf (M := [box b8615 31 [.int .i64 t8611.fCode, u8613], own kCoin 77 u8613 t8611.fCoins, own kRef 56 u8607 t8605.fIns, own kOut 75 u8609 t8605.fOuts, own kCoin 77 u8603 t8601]) HM, ?_⟩
                          have hS := Mem.suf (M := [box b8615 31 [.int .i64 t8611.fCode, u8613], own kCoin 77 u8613 t8611.fCoins, own kRef 56 u8607 t8605.fIns, own kOut 75 u8609 t8605.fOuts, own kCoin 77 u8603 t8601]) HM
                          refine drw_done (by kernel_rfl) ?_
                          replace HM := (HM.front 2 rfl rfl).drop
                          replace HM := (HM.front 2 rfl rfl).drop
                          replace HM := (HM.front 2 rfl rfl).drop
                          replace HM := (HM.front 3 rfl rfl).drop
                          replace HM := HM.front 1 rfl rfl
                          replace HM := HM.front 1 rfl rfl
                          replace HM := HM.front 2 rfl rfl
                          replace HM := HM.front 5 rfl rfl
                          replace HM := HM.front 5 rfl rfl
                          replace HM := HM.front 5 rfl rfl
                          exact at_meet [(10, .pointer (some ⟨b8466, 0, none⟩)), (13, .pointer (some ⟨b8508, 0, none⟩)), (15, .int .i64 t8585.1), (17, .pointer (some ⟨b8615, 0, none⟩))] ⟨_, _, rfl, HM⟩ (Sub.cons rfl (Sub.cons rfl (Sub.cons rfl (Sub.cons rfl Sub.nil))))
                      · rintro _ w8635 ⟨u8613, b8615, rfl, HM⟩
                        refine at_then ?_
                        refine run_seq ?_
                        refine run_seq ?_
                        obtain ⟨t8639, h8640, H⟩ := bind_some H
                        refine run_region rfl ?_
                        refine ops_ex rfl (guard_none rfl) rfl rfl (ex_loadN (cs := [(.int .i64 t8611.fCode), u8613]) rfl rfl Tryz.underlying31 rfl tsz31 rfl ((HM.box_at 4 rfl).sub 0 2 rfl)) ?_
                        refine ops_ex rfl (guard_none rfl) rfl rfl (ex_loadN (cs := [(.int .i64 t8462.fCode), u8464]) rfl rfl Tryz.underlying31 rfl tsz31 rfl ((HM.box_at 0 rfl).sub 0 2 rfl)) ?_
                        refine ops_does rfl (guard_none rfl) rfl rfl (does_callk rfl callok13 rfl (laws_eqCoinsResult.calls (x0 := t8611) (x1 := t8462) (HM.own_rd 5 rfl) (HM.own_rd 1 rfl) h8640)) ?_
                        rintro _ w8641 ⟨rfl, hn⟩
                        replace HM : Mem w [] w8641 [box b8466 31 [.int .i64 t8462.fCode, u8464], own kCoin 77 u8464 t8462.fCoins, box b8508 31 [.int .i64 t8504.fCode, u8506], own kCoin 77 u8506 t8585.2, box b8615 31 [.int .i64 t8611.fCode, u8613], own kCoin 77 u8613 t8611.fCoins] := HM.call hn
                        refine ops_ex rfl (guard_none rfl) rfl rfl (ex_not rfl rfl) ?_
                        refine ops_nil ?_
                        refine at_then ?_
                        refine run_cond (b := !t8639) rfl (fun hb8642 => ?_) (fun hb8642 => ?_)
                        · replace H := cond_t hb8642 H
                          refine run_seq ?_
                          refine run_region rfl ?_
                          refine ops_ex rfl (guard_none rfl) rfl rfl (ex_assign rfl rfl) ?_
                          refine ops_nil ?_
                          refine at_then ?_
                          refine run_ret ?_
                          refine at_then_ret ?_
                          replace HM := (HM.front 0 rfl rfl).drop
                          replace HM := (HM.front 0 rfl rfl).drop
                          replace HM := (HM.front 0 rfl rfl).drop
                          replace HM := (HM.front 0 rfl rfl).drop
                          replace HM := (HM.front 0 rfl rfl).drop
                          replace HM := (HM.front 0 rfl rfl).drop
                          have hR := Option.some.inj H
                          subst hR
                          exact at_ret1 rfl rfl ⟨_, rfl, rfl, HM⟩
                        · replace H := cond_f hb8642 H
                          refine run_skip ?_
                          refine at_then ?_
                          refine run_seq ?_
                          refine run_region rfl ?_
                          refine ops_ex rfl (guard_none rfl) rfl rfl (ex_assign rfl rfl) ?_
                          refine ops_nil ?_
                          refine at_then ?_
                          refine run_seq ?_
                          obtain ⟨t8643, h8644, H⟩ := bind_some H
                          refine run_region rfl ?_
                          refine ops_ex rfl (guard_none rfl) rfl rfl (ex_loadN (cs := [(.int .i64 t8504.fCode), u8506]) rfl rfl Tryz.underlying31 rfl tsz31 rfl ((HM.box_at 2 rfl).sub 0 2 rfl)) ?_
                          refine ops_ex rfl (guard_none rfl) rfl rfl (ex_move rfl rfl) ?_
                          refine ops_does rfl (guard_none rfl) rfl rfl (does_callk rfl callok19 rfl (laws_heldCoinsResult.calls (x0 := (⟨t8504.fCode, t8585.2⟩ : CoinsResult)) (x1 := 1) (HM.own_rd 3 rfl) h8644)) ?_
                          rintro _ w8645 ⟨rfl, hn⟩
                          replace HM : Mem w [] w8645 [box b8466 31 [.int .i64 t8462.fCode, u8464], own kCoin 77 u8464 t8462.fCoins, box b8508 31 [.int .i64 t8504.fCode, u8506], own kCoin 77 u8506 t8585.2, box b8615 31 [.int .i64 t8611.fCode, u8613], own kCoin 77 u8613 t8611.fCoins] := HM.call hn
                          refine ops_ex rfl (guard_none rfl) rfl rfl (ex_assign rfl rfl) ?_
                          refine ops_nil ?_
                          refine at_then ?_
                          refine run_seq ?_
                          refine run_seq ?_
                          refine run_region rfl ?_
                          refine ops_ex rfl (guard_none rfl) rfl rfl (ex_move rfl rfl) ?_
                          refine ops_ex rfl (guard_none rfl) rfl rfl (ex_lss rfl rfl rfl) ?_
                          refine ops_nil ?_
                          refine at_then ?_
                          refine run_cond (b := (decide (t8643 < 0))) rfl (fun hb8647 => ?_) (fun hb8647 => ?_)
                          · replace H := cond_t hb8647 H
                            refine run_seq ?_
                            refine run_region rfl ?_
                            refine ops_ex rfl (guard_none rfl) rfl rfl (ex_assign rfl rfl) ?_
                            refine ops_nil ?_
                            refine at_then ?_
                            refine run_ret ?_
                            refine at_then_ret ?_
                            replace HM := (HM.front 0 rfl rfl).drop
                            replace HM := (HM.front 0 rfl rfl).drop
                            replace HM := (HM.front 0 rfl rfl).drop
                            replace HM := (HM.front 0 rfl rfl).drop
                            replace HM := (HM.front 0 rfl rfl).drop
                            replace HM := (HM.front 0 rfl rfl).drop
                            have hR := Option.some.inj H
                            subst hR
                            exact at_ret1 rfl rfl ⟨_, rfl, rfl, HM⟩
                          · replace H := cond_f hb8647 H
                            refine run_skip ?_
                            refine at_then ?_
                            refine run_seq ?_
                            refine run_seq ?_
                            refine run_region rfl ?_
                            refine ops_ex rfl (guard_none rfl) rfl rfl (ex_move rfl rfl) ?_
                            refine ops_ex rfl (guard_none rfl) rfl rfl (ex_move rfl rfl) ?_
                            refine ops_ex rfl (guard_none rfl) rfl rfl (ex_neq rfl rfl rfl) ?_
                            refine ops_nil ?_
                            refine at_then ?_
                            refine run_cond (b := (t8643 != t8585.1)) rfl (fun hb8648 => ?_) (fun hb8648 => ?_)
                            · replace H := cond_t hb8648 H
                              refine run_seq ?_
                              refine run_region rfl ?_
                              refine ops_ex rfl (guard_none rfl) rfl rfl (ex_assign rfl rfl) ?_
                              refine ops_nil ?_
                              refine at_then ?_
                              refine run_ret ?_
                              refine at_then_ret ?_
                              replace HM := (HM.front 0 rfl rfl).drop
                              replace HM := (HM.front 0 rfl rfl).drop
                              replace HM := (HM.front 0 rfl rfl).drop
                              replace HM := (HM.front 0 rfl rfl).drop
                              replace HM := (HM.front 0 rfl rfl).drop
                              replace HM := (HM.front 0 rfl rfl).drop
                              have hR := Option.some.inj H
                              subst hR
                              exact at_ret1 rfl rfl ⟨_, rfl, rfl, HM⟩
                            · replace H := cond_f hb8648 H
                              refine run_skip ?_
                              refine at_then ?_
                              refine run_seq ?_
                              refine run_region rfl ?_
                              refine ops_ex rfl (guard_none rfl) rfl rfl (ex_assign rfl rfl) ?_
                              refine ops_nil ?_
                              refine at_then ?_
                              refine run_ret ?_
                              replace HM := (HM.front 0 rfl rfl).drop
                              replace HM := (HM.front 0 rfl rfl).drop
                              replace HM := (HM.front 0 rfl rfl).drop
                              replace HM := (HM.front 0 rfl rfl).drop
                              replace HM := (HM.front 0 rfl rfl).drop
                              replace HM := (HM.front 0 rfl rfl).drop
                              have hR := Option.some.inj H
                              subst hR
                              exact at_ret1 rfl rfl ⟨_, rfl, rfl, HM⟩
end Go.Proofs.YtcamddjlhchkfaaGreat.Zk
