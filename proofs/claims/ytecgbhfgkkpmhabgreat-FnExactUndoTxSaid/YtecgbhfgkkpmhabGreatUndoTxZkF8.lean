/- What functions of the program compute, each as a plain function, and that they do. Conditions: as each theorem states them. -/
import Derived.Test.YtecgbhfgkkpmhabGreatUndoTxZkF7
namespace Go.Proofs.YtecgbhfgkkpmhabGreat.Zk
open Go Go.RowKit Go.IntWalk Go.Proofs
set_option linter.unusedVariables false
set_option linter.unusedSimpArgs false
set_option maxRecDepth 100000
set_option maxHeartbeats 4000000
def impl_areMade.l0 (x2 : List Out) (t5395 : List Coin) : Nat → Int → Option (Bool ⊕ Unit)
  | 0, _ => none
  | k + 1, a5480 => (bif (decide (a5480 < (t5395.length : Int))) then (chk (idxOk a5480 t5395.length) (chk (!(!(((gt t5395 a5480).fRef.fAt) != a5480)) || (idxOk a5480 x2.length)) ((bif (!(((gt t5395 a5480).fRef.fAt) != a5480)) then impl_sameOuts.f k ((gt t5395 a5480).fOut) (gt x2 a5480) else some default).bind fun t5512 => (bif ((((gt t5395 a5480).fRef.fAt) != a5480) || (!t5512)) then some (.inl false) else impl_areMade.l0 x2 t5395 k (wrap64 (a5480 + 1)))))) else some (.inr ()))
theorem impl_areMade.l0_z (x2 : List Out) (t5395 : List Coin) (a5480 : Int) : impl_areMade.l0 x2 t5395 0 a5480 = none := rfl
theorem impl_areMade.l0_s (x2 : List Out) (t5395 : List Coin) (k : Nat) (a5480 : Int) : impl_areMade.l0 x2 t5395 (k + 1) a5480 = (bif (decide (a5480 < (t5395.length : Int))) then (chk (idxOk a5480 t5395.length) (chk (!(!(((gt t5395 a5480).fRef.fAt) != a5480)) || (idxOk a5480 x2.length)) ((bif (!(((gt t5395 a5480).fRef.fAt) != a5480)) then impl_sameOuts.f k ((gt t5395 a5480).fOut) (gt x2 a5480) else some default).bind fun t5512 => (bif ((((gt t5395 a5480).fRef.fAt) != a5480) || (!t5512)) then some (.inl false) else impl_areMade.l0 x2 t5395 k (wrap64 (a5480 + 1)))))) else some (.inr ())) := rfl
def impl_areMade.f (k : Nat) (x0 : List Coin) (x1 : Int) (x2 : List Out) : Option Bool := ((slices_Clone_impl_Coin.f k x0).bind fun t5385 => ((slices_DeleteFunc_Coin.f k t5385 x1).bind fun t5395 => (bif ((t5395.length : Int) != (x2.length : Int)) then some false else ((impl_areMade.l0 x2 t5395 k 0).bind fun o5463 => thn o5463 (fun r => some r) (fun _ => some true)))))
theorem impl_areMade.calls {k : Nat} {x0 : List Coin} {x1 : Int} {x2 : List Out} {p0 : Value} {p2 : Value} {w : World} (hp0 : RdS kCoin w p0 x0) (hp2 : RdS kOut w p2 x2) {r : Bool} (H : impl_areMade.f k x0 x1 x2 = some r) :
    Calls Tryz.prog 64 ([p0, .int .i64 x1, p2] : List Value).toArray w (fun e w_ => ∃ v, e = .returned v ∧ v = (.bool r) ∧ Mem w [] w_ []) := by
  have HM := Mem.start w
  refine calls_run (N := 42) Tryz.func64 rfl rfl rfl rfl ?_
  unfold impl_areMade.f at H
  refine run_seq ?_
  refine run_region rfl ?_
  refine od rfl rfl rfl rfl (does_box (cs := [.int .i64 x1]) rfl rfl rfl HM) ?_
  rintro _ w5384 ⟨b5381, rfl, HM⟩
  refine ox rfl rfl rfl rfl (ex_assign rfl rfl) ?_
  refine ops_nil (at_then (run_seq ?_))
  obtain ⟨t5385, h5386, H⟩ := bind_some H
  obtain ⟨t5395, h5396, H⟩ := bind_some H
  refine run_region rfl ?_
  refine ox rfl rfl rfl rfl (ex_move rfl rfl) ?_
  obtain ⟨F5389, hF5390, hFn5391, hFl5392, HMh5393, hcl5394⟩ := HM.hideO (Ms := []) (olds_refl _)
  refine od rfl rfl rfl rfl (does_callk rfl callok87 rfl (slices_Clone_impl_Coin.calls (x0 := x0) HMh5393 hF5390 hFn5391 hFl5392 hp0 h5386)) ?_
  rintro u5387 w5405 ⟨_, rfl, hn⟩
  replace HM : Mem w [] w5405 [own (Kd.lent w kCoin with1_one) 72 u5387 t5385, box b5381 2 [.int .i64 x1]] := hcl5394 _ _ hn
  refine ox rfl rfl rfl rfl (ex_func rfl rfl) ?_
  obtain ⟨F5399, hF5400, hFn5401, hFl5402, HMh5403, hcl5404⟩ := HM.hide (Ms := [own (Kd.lent w kCoin with1_one) 72 u5387 t5385])
  refine od rfl rfl rfl rfl (does_callk rfl callok68 rfl (slices_DeleteFunc_Coin.calls (x0 := t5385) (x1_0 := x1) (hide_olds _ _) hF5400 hFn5401 hFl5402 (HMh5403.box_at 0 rfl) coinK_lent h5396)) ?_
  rintro u5397 w5406 ⟨_, rfl, hn⟩
  replace HM : Mem w [] w5406 [own (Kd.lent w kCoin with1_one) 72 u5397 t5395, box b5381 2 [.int .i64 x1]] := hcl5404 _ _ hn
  refine ox rfl rfl rfl rfl (ex_assign rfl rfl) ?_
  refine ops_nil ?_
  replace HM := HM.front 1 rfl rfl
  obtain ⟨F5407, hF5408, hFn5409, hFl5410, HMh5411, hcl5412⟩ := HM.hide (Ms := [box b5381 2 [.int .i64 x1]])
  replace hp0 := (HMh5411.rd hp0)
  replace hp2 := (HMh5411.rd hp2)
  have hz13 := ((HMh5411.own_rd 0 rfl).unlent (HMh5411.old))
  have hwo := hide_olds w5406 F5407
  generalize hideB w5406 F5407 = wz5413 at *
  have HM := Mem.startX hF5408 hFn5409 hFl5410
  refine at_then ?_
  refine run_seq ?_
  refine run_seq ?_
  refine run_region rfl ?_
  refine ox rfl rfl rfl rfl (ex_move rfl rfl) ?_
  refine ox rfl rfl rfl rfl (ex_len (d := kCoin) (xs := t5395) rfl rfl Tryz.underlying29 hz13) ?_
  refine ox rfl rfl rfl rfl (ex_move rfl rfl) ?_
  refine ox rfl rfl rfl rfl (ex_len (d := kOut) (xs := x2) rfl rfl Tryz.underlying35 hp2) ?_
  refine ox rfl rfl rfl rfl (ex_neq rfl rfl rfl) ?_
  refine ops_nil (at_then ?_)
  refine run_cond (b := ((t5395.length : Int) != (x2.length : Int))) rfl (fun hb5416 => ?_) (fun hb5416 => ?_)
  · replace H := cond_t hb5416 H
    refine run_seq ?_
    refine run_region rfl ?_
    refine ox rfl rfl rfl rfl (ex_assign rfl rfl) ?_
    refine ops_nil (at_then ?_)
    refine run_ret ?_
    refine at_then_ret ?_
    replace HM := hcl5412 _ _ HM
    replace HM := (HM.front 0 rfl rfl).drop
    replace HM := (HM.front 0 rfl rfl).drop
    have hR := Option.some.inj H
    subst hR
    exact at_ret1 rfl rfl ⟨_, rfl, rfl, HM⟩
  · replace H := cond_f hb5416 H
    refine run_skip ?_
    refine at_then ?_
    obtain ⟨o5463, ho5464, H⟩ := bind_some H
    refine run_mid (fun ρ_ w_ => Sum.inr () = o5463 ∧ ρ_ = [] ∧ Mem w5406 F5407 w_ []) ?_ ?_
    · skip
      refine run_seq ?_
      refine run_region rfl ?_
      refine ox rfl rfl rfl rfl (ex_move rfl rfl) ?_
      refine ox rfl rfl rfl rfl (ex_len (d := kCoin) (xs := t5395) rfl rfl Tryz.underlying29 hz13) ?_
      refine ox rfl rfl rfl rfl (ex_move rfl rfl) ?_
      refine ops_nil (at_then ?_)
      refine run_block ?_
      replace HM := (HM.front 0 rfl rfl).drop
      refine run_loop (fun k_ ρ_ w_ => ∃ a5480 : Int, impl_areMade.l0 x2 t5395 k_ a5480 = some o5463 ∧ ρ_ = [(2, p2), (19, u5397), (20, .int .i64 (t5395.length : Int)), (21, .int .i64 a5480)] ∧ Mem w5406 F5407 w_ []) k (ρ1 := [(2, p2), (19, u5397), (20, .int .i64 (t5395.length : Int)), (21, .int .i64 0)]) ⟨_, ho5464, rfl, HM⟩ (Sub.cons rfl (Sub.cons rfl (Sub.cons rfl (Sub.cons rfl Sub.nil)))) ?_
      clear HM ho5464
      rintro k5496 _ w5497 ⟨a5480, ho5464, rfl, HM⟩
      obtain _ | k5496 := k5496
      · exact nomatch ((impl_areMade.l0_z x2 t5395 a5480).symm.trans ho5464)
      replace ho5464 := (impl_areMade.l0_s x2 t5395 k5496 a5480).symm.trans ho5464
      refine run_seq ?_
      refine run_region rfl ?_
      refine ox rfl rfl rfl rfl (ex_lss rfl rfl rfl) ?_
      refine ops_nil (at_then (run_seq ?_))
      refine run_cond (b := (decide (a5480 < (t5395.length : Int)))) rfl (fun hb5498 => ?_) (fun hb5498 => ?_)
      · replace ho5464 := cond_t hb5498 ho5464
        refine run_skip ?_
        refine at_then ?_
        refine run_seq ?_
        refine run_block ?_
        refine run_seq ?_
        obtain ⟨e5499, ho5464⟩ := chk_some ho5464
        refine run_region rfl ?_
        refine ox rfl rfl rfl rfl (ex_move rfl rfl) ?_
        obtain ⟨kv5501, hc5500, hk5502⟩ : ∃ u, CellsAt _ (sb u5397) (so u5397 + (a5480).toNat * 8) [(.int .i64 ((gt t5395 a5480).fRef.fTx)), (.int .i64 ((gt t5395 a5480).fRef.fAt)), (.int .i64 ((gt t5395 a5480).fOut.fValue)), u, (.int .i64 ((gt t5395 a5480).fOut.fRule.fNeed)), (.int .i64 ((gt t5395 a5480).fOut.fRule.fAfter)), (.int .i64 ((gt t5395 a5480).fHeight)), (.bool ((gt t5395 a5480).fMined))] ∧ RdS kInt _ u ((gt t5395 a5480).fOut.fRule.fKeys) := rd_with1 hz13 e5499
        refine ox rfl rfl rfl rfl (ex_indexAddr (d := kCoin) rfl rfl rfl Tryz.underlying29 tsz72 hz13 (idx_lo e5499) (idx_hi e5499)) ?_
        refine ox rfl rfl rfl rfl (ex_loadN (cs := [(.int .i64 ((gt t5395 a5480).fRef.fTx)), (.int .i64 ((gt t5395 a5480).fRef.fAt)), (.int .i64 ((gt t5395 a5480).fOut.fValue)), kv5501, (.int .i64 ((gt t5395 a5480).fOut.fRule.fNeed)), (.int .i64 ((gt t5395 a5480).fOut.fRule.fAfter)), (.int .i64 ((gt t5395 a5480).fHeight)), (.bool ((gt t5395 a5480).fMined))]) rfl rfl Tryz.underlying72 rfl tsz72 rfl ((HM.ato hwo hc5500).sub 0 8 rfl)) ?_
        refine od rfl rfl rfl rfl (does_alloc (cs := [.int .i64 0, .int .i64 0, .int .i64 0, .slice none 0 0, .int .i64 0, .int .i64 0, .int .i64 0, .bool false]) rfl tz72 rfl HM) ?_
        rintro _ w5506 ⟨b5503, rfl, HM⟩
        refine ox rfl rfl rfl rfl (ex_assign rfl rfl) ?_
        refine odS rfl rfl rfl (does_store (vs := [.int .i64 ((gt t5395 a5480).fRef.fTx), .int .i64 ((gt t5395 a5480).fRef.fAt), .int .i64 ((gt t5395 a5480).fOut.fValue), kv5501, .int .i64 ((gt t5395 a5480).fOut.fRule.fNeed), .int .i64 ((gt t5395 a5480).fOut.fRule.fAfter), .int .i64 ((gt t5395 a5480).fHeight), .bool ((gt t5395 a5480).fMined)]) (cs' := [.int .i64 ((gt t5395 a5480).fRef.fTx), .int .i64 ((gt t5395 a5480).fRef.fAt), .int .i64 ((gt t5395 a5480).fOut.fValue), kv5501, .int .i64 ((gt t5395 a5480).fOut.fRule.fNeed), .int .i64 ((gt t5395 a5480).fOut.fRule.fAfter), .int .i64 ((gt t5395 a5480).fHeight), .bool ((gt t5395 a5480).fMined)]) rfl rfl rfl rfl tsz72 (Ones.int (Ones.int (Ones.int (Ones.rd hk5502 (Ones.int (Ones.int (Ones.int (Ones.bool Ones.nil)))))))) rfl rfl HM) ?_
        rintro w5507 HM
        refine ops_nil (at_then (run_seq ?_))
        obtain ⟨e5508, ho5464⟩ := chk_some ho5464
        obtain ⟨t5512, h5513, ho5464⟩ := bind_some ho5464
        refine run_meet (fun ρ_ w_ => ρ_ = [(2, p2), (19, u5397), (20, .int .i64 (t5395.length : Int)), (21, .int .i64 a5480), (40, .bool ((((gt t5395 a5480).fRef.fAt) != a5480) || (!t5512)))] ∧ Mem w5406 F5407 w_ []) ?_ ?_
        · skip
          refine run_drawf (fun w_ => Mem w5406 F5407 w_ [box b5503 72 [.int .i64 ((gt t5395 a5480).fRef.fTx), .int .i64 ((gt t5395 a5480).fRef.fAt), .int .i64 ((gt t5395 a5480).fOut.fValue), kv5501, .int .i64 ((gt t5395 a5480).fOut.fRule.fNeed), .int .i64 ((gt t5395 a5480).fOut.fRule.fAfter), .int .i64 ((gt t5395 a5480).fHeight), .bool ((gt t5395 a5480).fMined)]]) [(0, true), (1, true), (2, true), (3, true), (4, true), (5, true), (6, true), (7, true), (8, true), (9, true), (10, true), (11, true), (12, false), (13, true), (14, true)] mixed rfl rfl (by kernel_rfl) ?_
          replace HM := HM.grow (fr_drew _)
          have hS := Mem.suf (M := []) HM
          refine dp rfl rfl rfl rfl (ex_fieldAddr (off' := 0) rfl rfl Tryz.underlying72 rfl tsz66 rfl) hS ?_
          refine dp rfl rfl rfl rfl (ex_fieldAddr (off' := 1) rfl rfl Tryz.underlying66 rfl tsz2 rfl) hS ?_
          refine drwp_take rfl (guard_none rfl) rfl rfl (fun w_ hS_ => (ex_load1 rfl rfl Tryz.underlying2 rfl ((hS_.box_at 0 rfl) 1 _ rfl))) hS ?_
          refine dp rfl rfl rfl rfl (ex_move rfl rfl) hS ?_
          refine dp rfl rfl rfl rfl (ex_neq rfl rfl rfl) hS ?_
          refine dp rfl rfl rfl rfl (ex_move rfl rfl) hS ?_
          refine bool_cases (((gt t5395 a5480).fRef.fAt) != a5480) (fun hg5514 => ?_) (fun hg5514 => ?_)
          · skip
            refine drwp_off rfl (guard_off rfl rfl rfl hg5514) rfl rfl hS ?_
            refine drwp_off rfl (guard_off rfl rfl rfl hg5514) rfl rfl hS ?_
            refine drwp_off rfl (guard_off rfl rfl rfl hg5514) rfl rfl hS ?_
            refine drwp_off rfl (guard_off rfl rfl rfl hg5514) rfl rfl hS ?_
            refine drwp_off rfl (guard_off rfl rfl rfl hg5514) rfl rfl hS ?_
            refine drwp_off rfl (guard_off rfl rfl rfl hg5514) rfl rfl hS ?_
            refine drwp_off1 rfl (guard_off rfl rfl rfl hg5514) rfl rfl ⟨hS, ?_⟩
            refine drwp_off rfl (guard_off rfl rfl rfl hg5514) rfl rfl hS ?_
            have hg5515 : ((((gt t5395 a5480).fRef.fAt) != a5480) || (!t5512)) = true := by simp only [hg5514, Bool.and_true, Bool.true_and, Bool.and_false, Bool.false_and, Bool.or_true, Bool.true_or, Bool.or_false, Bool.false_or, Bool.not_true, Bool.not_false, Bool.not_not]
            refine drwp_take (v := .bool ((((gt t5395 a5480).fRef.fAt) != a5480) || (!t5512))) rfl (guard_none rfl) rfl rfl (fun w_ hS_ => (ex_por_t rfl rfl hg5514)) hS ?_
            refine drwp_done ?_
            replace HM := (HM.front 0 rfl rfl).drop
            exact at_meet [(2, p2), (19, u5397), (20, .int .i64 (t5395.length : Int)), (21, .int .i64 a5480), (40, .bool ((((gt t5395 a5480).fRef.fAt) != a5480) || (!t5512)))] ⟨rfl, HM⟩ (Sub.cons rfl (Sub.cons rfl (Sub.cons rfl (Sub.cons rfl (Sub.cons rfl Sub.nil)))))
          · skip
            refine drwp_take rfl (guard_on rfl rfl rfl hg5514) rfl rfl (fun w_ hS_ => (ex_fieldAddr (off' := 2) rfl rfl Tryz.underlying72 rfl tsz70 rfl)) hS ?_
            refine drwp_take rfl (guard_on rfl rfl rfl hg5514) rfl rfl (fun w_ hS_ => (ex_loadN (cs := [(.int .i64 ((gt t5395 a5480).fOut.fValue)), kv5501, (.int .i64 ((gt t5395 a5480).fOut.fRule.fNeed)), (.int .i64 ((gt t5395 a5480).fOut.fRule.fAfter))]) rfl rfl Tryz.underlying70 rfl tsz70 rfl ((hS_.box_at 0 rfl).sub 2 4 rfl))) hS ?_
            refine drwp_take rfl (guard_on rfl rfl rfl hg5514) rfl rfl (fun w_ hS_ => (ex_move rfl rfl)) hS ?_
            refine drwp_take rfl (guard_on rfl rfl rfl hg5514) rfl rfl (fun w_ hS_ => (ex_move rfl rfl)) hS ?_
            obtain ⟨kv5510, hc5509, hk5511⟩ : ∃ u, CellsAt _ (sb p2) (so p2 + (a5480).toNat * 4) [(.int .i64 ((gt x2 a5480).fValue)), u, (.int .i64 ((gt x2 a5480).fRule.fNeed)), (.int .i64 ((gt x2 a5480).fRule.fAfter))] ∧ RdS kInt _ u ((gt x2 a5480).fRule.fKeys) := rd_with1 hp2 (or_t e5508 (not_mk hg5514))
            refine drwp_take rfl (guard_on rfl rfl rfl hg5514) rfl rfl (fun w_ hS_ => (ex_indexAddr (d := kOut) rfl rfl rfl Tryz.underlying35 tsz70 hp2 (idx_lo (or_t e5508 (not_mk hg5514))) (idx_hi (or_t e5508 (not_mk hg5514))))) hS ?_
            refine drwp_take rfl (guard_on rfl rfl rfl hg5514) rfl rfl (fun w_ hS_ => (ex_loadN (cs := [(.int .i64 ((gt x2 a5480).fValue)), kv5510, (.int .i64 ((gt x2 a5480).fRule.fNeed)), (.int .i64 ((gt x2 a5480).fRule.fAfter))]) rfl rfl Tryz.underlying70 rfl tsz70 rfl ((hS_.ato hwo hc5509).sub 0 4 rfl))) hS ?_
            refine drwp_one rfl (guard_on rfl rfl rfl hg5514) rfl rfl (does_callk rfl callok89 rfl (impl_sameOuts.calls (x0 := (gt t5395 a5480).fOut) (x1 := (gt x2 a5480)) (HM.rdo hwo hk5502) (HM.rdo hwo hk5511) (cond_t (not_mk hg5514) h5513))) ?_
            rintro _ w5516 ⟨rfl, hn⟩
            replace HM : Mem w5406 F5407 w5516 [box b5503 72 [.int .i64 ((gt t5395 a5480).fRef.fTx), .int .i64 ((gt t5395 a5480).fRef.fAt), .int .i64 ((gt t5395 a5480).fOut.fValue), kv5501, .int .i64 ((gt t5395 a5480).fOut.fRule.fNeed), .int .i64 ((gt t5395 a5480).fOut.fRule.fAfter), .int .i64 ((gt t5395 a5480).fHeight), .bool ((gt t5395 a5480).fMined)]] := HM.call hn
            have hS := Mem.suf (M := []) HM
            refine ⟨hS, ?_⟩
            refine drwp_take rfl (guard_on rfl rfl rfl hg5514) rfl rfl (fun w_ hS_ => (ex_not rfl rfl)) hS ?_
            refine drwp_take (v := .bool ((((gt t5395 a5480).fRef.fAt) != a5480) || (!t5512))) rfl (guard_none rfl) rfl rfl (fun w_ hS_ => (ex_por_f rfl rfl hg5514 rfl)) hS ?_
            refine drwp_done ?_
            replace HM := (HM.front 0 rfl rfl).drop
            exact at_meet [(2, p2), (19, u5397), (20, .int .i64 (t5395.length : Int)), (21, .int .i64 a5480), (40, .bool ((((gt t5395 a5480).fRef.fAt) != a5480) || (!t5512)))] ⟨rfl, HM⟩ (Sub.cons rfl (Sub.cons rfl (Sub.cons rfl (Sub.cons rfl (Sub.cons rfl Sub.nil)))))
        · rintro _ w5517 ⟨rfl, HM⟩
          refine at_then ?_
          refine run_cond (b := ((((gt t5395 a5480).fRef.fAt) != a5480) || (!t5512))) rfl (fun hb5518 => ?_) (fun hb5518 => ?_)
          · replace ho5464 := cond_t hb5518 ho5464
            refine run_seq ?_
            refine run_region rfl ?_
            refine ox rfl rfl rfl rfl (ex_assign rfl rfl) ?_
            refine ops_nil (at_then ?_)
            refine run_ret ?_
            refine at_block_ret ?_
            refine at_then_ret ?_
            refine at_then_ret ?_
            refine at_block_ret ?_
            refine at_then_ret ?_
            replace HM := hcl5412 _ _ HM
            replace HM := (HM.front 0 rfl rfl).drop
            have hR := Option.some.inj ho5464
            subst hR
            have hT := thn_inl H
            have hR := Option.some.inj hT
            subst hR
            exact at_ret1 rfl rfl ⟨_, rfl, rfl, HM⟩
          · replace ho5464 := cond_f hb5518 ho5464
            refine run_skip ?_
            refine at_block ?_
            refine at_then ?_
            refine run_region rfl ?_
            refine ox rfl rfl rfl rfl (ex_add rfl rfl rfl) ?_
            refine ox rfl rfl rfl rfl (ex_move rfl rfl) ?_
            refine ops_nil ?_
            exact at_again k5496 (ρ1 := [(2, p2), (19, u5397), (20, .int .i64 (t5395.length : Int)), (21, .int .i64 (wrap64 (a5480 + 1)))]) (Nat.lt_succ_self _) ⟨_, ho5464, rfl, HM⟩ (Sub.cons rfl (Sub.cons rfl (Sub.cons rfl (Sub.cons rfl Sub.nil))))
      · replace ho5464 := cond_f hb5498 ho5464
        refine run_exit ?_
        refine at_then_exit ?_
        refine at_then_exit ?_
        refine at_block_exit ?_
        exact at_mid (ρ' := []) ⟨(Option.some.inj ho5464), rfl, HM⟩ Sub.nil
    · rintro _ w5519 ⟨rfl, rfl, HM⟩
      replace H := (thn_inr H)
      refine run_seq ?_
      refine run_region rfl ?_
      refine ox rfl rfl rfl rfl (ex_assign rfl rfl) ?_
      refine ops_nil (at_then ?_)
      refine run_ret ?_
      replace HM := hcl5412 _ _ HM
      replace HM := (HM.front 0 rfl rfl).drop
      have hR := Option.some.inj H
      subst hR
      exact at_ret1 rfl rfl ⟨_, rfl, rfl, HM⟩

def impl_findCoin_1.f (k : Nat) (x0 : Coin) (x1 : Ref) : Option Int := ((impl_compareRefs.f k x0.fRef x1).bind fun t5557 => some t5557)
theorem impl_findCoin_1.calls {k : Nat} {x0 : Coin} {x1 : Ref} {p0_0 : Value} {w : World} (hp0_0 : RdS kInt w p0_0 x0.fOut.fRule.fKeys) {r : Int} (H : impl_findCoin_1.f k x0 x1 = some r) :
    Calls Tryz.prog 92 ([.agg #[(.int .i64 x0.fRef.fTx), (.int .i64 x0.fRef.fAt), (.int .i64 x0.fOut.fValue), p0_0, (.int .i64 x0.fOut.fRule.fNeed), (.int .i64 x0.fOut.fRule.fAfter), (.int .i64 x0.fHeight), (.bool x0.fMined)], .agg #[(.int .i64 x1.fTx), (.int .i64 x1.fAt)]] : List Value).toArray w (fun e w_ => ∃ v, e = .returned v ∧ v = (.int .i64 r) ∧ Mem w [] w_ []) := by
  have HM := Mem.start w
  refine calls_run (N := 9) Tryz.func92 rfl rfl rfl rfl ?_
  unfold impl_findCoin_1.f at H
  refine run_seq ?_
  refine run_region rfl ?_
  refine od rfl rfl rfl rfl (does_box (cs := [.int .i64 x0.fRef.fTx, .int .i64 x0.fRef.fAt, .int .i64 x0.fOut.fValue, p0_0, .int .i64 x0.fOut.fRule.fNeed, .int .i64 x0.fOut.fRule.fAfter, .int .i64 x0.fHeight, .bool x0.fMined]) rfl rfl rfl HM) ?_
  rintro _ w5555 ⟨b5549, rfl, HM⟩
  refine od rfl rfl rfl rfl (does_box (cs := [.int .i64 x1.fTx, .int .i64 x1.fAt]) rfl rfl rfl HM) ?_
  rintro _ w5556 ⟨b5552, rfl, HM⟩
  refine ox rfl rfl rfl rfl (ex_assign rfl rfl) ?_
  refine ops_nil (at_then (run_seq ?_))
  obtain ⟨t5557, h5558, H⟩ := bind_some H
  refine run_region rfl ?_
  refine ox rfl rfl rfl rfl (ex_fieldAddr (off' := 0) rfl rfl Tryz.underlying72 rfl tsz66 rfl) ?_
  refine ox rfl rfl rfl rfl (ex_loadN (cs := [(.int .i64 x0.fRef.fTx), (.int .i64 x0.fRef.fAt)]) rfl rfl Tryz.underlying66 rfl tsz66 rfl ((HM.box_at 1 rfl).sub 0 2 rfl)) ?_
  refine ox rfl rfl rfl rfl (ex_loadN (cs := [(.int .i64 x1.fTx), (.int .i64 x1.fAt)]) rfl rfl Tryz.underlying66 rfl tsz66 rfl ((HM.box_at 0 rfl).sub 0 2 rfl)) ?_
  refine od rfl rfl rfl rfl (does_callk rfl callok57 rfl (impl_compareRefs.calls (x0 := x0.fRef) (x1 := x1) h5558)) ?_
  rintro _ w5559 ⟨rfl, hn⟩
  replace HM : Mem w [] w5559 [box b5552 66 [.int .i64 x1.fTx, .int .i64 x1.fAt], box b5549 72 [.int .i64 x0.fRef.fTx, .int .i64 x0.fRef.fAt, .int .i64 x0.fOut.fValue, p0_0, .int .i64 x0.fOut.fRule.fNeed, .int .i64 x0.fOut.fRule.fAfter, .int .i64 x0.fHeight, .bool x0.fMined]] := HM.call hn
  refine ox rfl rfl rfl rfl (ex_assign rfl rfl) ?_
  refine ops_nil (at_then ?_)
  refine run_ret ?_
  replace HM := (HM.front 0 rfl rfl).drop
  replace HM := (HM.front 0 rfl rfl).drop
  have hR := Option.some.inj H
  subst hR
  exact at_ret1 rfl rfl ⟨_, rfl, rfl, HM⟩

def slices_BinarySearchFunc_impl_Coin.l0 (x0 : List Coin) (x1 : Ref) : Nat → Int → Int → Option Int
  | 0, _, _ => none
  | k + 1, a5637, a5638 => (bif (decide (a5637 < a5638)) then (chk (decide (0 ≤ (1 : Int)) && decide ((1 : Int) ≤ IntKind.u64.bits)) (chk (idxOk (wrap64 ((IntKind.u64.wrap (wrap64 (a5637 + a5638))) / 2 ^ ((1 : Int)).toNat)) x0.length) ((impl_findCoin_1.f k (gt x0 (wrap64 ((IntKind.u64.wrap (wrap64 (a5637 + a5638))) / 2 ^ ((1 : Int)).toNat))) x1).bind fun t5656 => (bif (decide (t5656 < 0)) then slices_BinarySearchFunc_impl_Coin.l0 x0 x1 k (wrap64 ((wrap64 ((IntKind.u64.wrap (wrap64 (a5637 + a5638))) / 2 ^ ((1 : Int)).toNat)) + 1)) a5638 else slices_BinarySearchFunc_impl_Coin.l0 x0 x1 k a5637 (wrap64 ((IntKind.u64.wrap (wrap64 (a5637 + a5638))) / 2 ^ ((1 : Int)).toNat)))))) else some a5637)
theorem slices_BinarySearchFunc_impl_Coin.l0_z (x0 : List Coin) (x1 : Ref) (a5637 : Int) (a5638 : Int) : slices_BinarySearchFunc_impl_Coin.l0 x0 x1 0 a5637 a5638 = none := rfl
theorem slices_BinarySearchFunc_impl_Coin.l0_s (x0 : List Coin) (x1 : Ref) (k : Nat) (a5637 : Int) (a5638 : Int) : slices_BinarySearchFunc_impl_Coin.l0 x0 x1 (k + 1) a5637 a5638 = (bif (decide (a5637 < a5638)) then (chk (decide (0 ≤ (1 : Int)) && decide ((1 : Int) ≤ IntKind.u64.bits)) (chk (idxOk (wrap64 ((IntKind.u64.wrap (wrap64 (a5637 + a5638))) / 2 ^ ((1 : Int)).toNat)) x0.length) ((impl_findCoin_1.f k (gt x0 (wrap64 ((IntKind.u64.wrap (wrap64 (a5637 + a5638))) / 2 ^ ((1 : Int)).toNat))) x1).bind fun t5656 => (bif (decide (t5656 < 0)) then slices_BinarySearchFunc_impl_Coin.l0 x0 x1 k (wrap64 ((wrap64 ((IntKind.u64.wrap (wrap64 (a5637 + a5638))) / 2 ^ ((1 : Int)).toNat)) + 1)) a5638 else slices_BinarySearchFunc_impl_Coin.l0 x0 x1 k a5637 (wrap64 ((IntKind.u64.wrap (wrap64 (a5637 + a5638))) / 2 ^ ((1 : Int)).toNat)))))) else some a5637) := rfl
def slices_BinarySearchFunc_impl_Coin.f (k : Nat) (x0 : List Coin) (x1 : Ref) : Option (Int × Bool) := ((slices_BinarySearchFunc_impl_Coin.l0 x0 x1 k 0 (x0.length : Int)).bind (fun a5625 => (chk (!(decide (a5625 < (x0.length : Int))) || (idxOk a5625 x0.length)) ((bif (decide (a5625 < (x0.length : Int))) then impl_findCoin_1.f k (gt x0 a5625) x1 else some default).bind fun t5665 => some (a5625, ((decide (a5625 < (x0.length : Int))) && (t5665 == 0)))))))
theorem slices_BinarySearchFunc_impl_Coin.calls {k : Nat} {x0 : List Coin} {x1 : Ref} {p0 : Value} {w : World} (hp0 : RdS kCoin w p0 x0) {r : Int × Bool} (H : slices_BinarySearchFunc_impl_Coin.f k x0 x1 = some r) :
    Calls Tryz.prog 91 ([p0, .agg #[(.int .i64 x1.fTx), (.int .i64 x1.fAt)], .func (.func 92) #[] #[]] : List Value).toArray w (fun e w_ => ∃ v, e = .returned v ∧ v = (.tuple #[.int .i64 r.1, .bool r.2]) ∧ Mem w [] w_ []) := by
  have HM := Mem.start w
  refine calls_run (N := 49) Tryz.func91 rfl rfl rfl rfl ?_
  unfold slices_BinarySearchFunc_impl_Coin.f at H
  refine run_seq ?_
  refine run_region rfl ?_
  refine od rfl rfl rfl rfl (does_box (cs := [.int .i64 x1.fTx, .int .i64 x1.fAt]) rfl rfl rfl HM) ?_
  rintro _ w5595 ⟨b5592, rfl, HM⟩
  refine ox rfl rfl rfl rfl (ex_assign rfl rfl) ?_
  refine ox rfl rfl rfl rfl (ex_assign rfl rfl) ?_
  refine ops_nil (at_then (run_seq ?_))
  refine run_region rfl ?_
  refine ox rfl rfl rfl rfl (ex_move rfl rfl) ?_
  refine ox rfl rfl rfl rfl (ex_len (d := kCoin) (xs := x0) rfl rfl Tryz.underlying29 hp0) ?_
  refine ox rfl rfl rfl rfl (ex_assign rfl rfl) ?_
  refine ops_nil (at_then (run_seq ?_))
  refine run_region rfl ?_
  refine ox rfl rfl rfl rfl (ex_move rfl rfl) ?_
  refine ox rfl rfl rfl rfl (ex_assign rfl rfl) ?_
  refine ox rfl rfl rfl rfl (ex_assign rfl rfl) ?_
  refine ops_nil (at_then ?_)
  obtain ⟨o5626, ho5627, H⟩ := bind_some H
  refine run_mid (fun ρ_ w_ => ∃ a5625 : Int, a5625 = o5626 ∧ ρ_ = [(0, p0), (2, .func (.func 92) #[] #[]), (4, .pointer (some ⟨b5592, 0, none⟩)), (8, .int .i64 (x0.length : Int)), (9, .int .i64 a5625)] ∧ Mem w [] w_ [box b5592 66 [.int .i64 x1.fTx, .int .i64 x1.fAt]]) ?_ ?_
  · clear H
    refine run_block ?_
    refine run_loop (fun k_ ρ_ w_ => ∃ a5637 : Int, ∃ a5638 : Int, slices_BinarySearchFunc_impl_Coin.l0 x0 x1 k_ a5637 a5638 = some o5626 ∧ ρ_ = [(0, p0), (2, .func (.func 92) #[] #[]), (4, .pointer (some ⟨b5592, 0, none⟩)), (8, .int .i64 (x0.length : Int)), (9, .int .i64 a5637), (10, .int .i64 a5638)] ∧ Mem w [] w_ [box b5592 66 [.int .i64 x1.fTx, .int .i64 x1.fAt]]) k (ρ1 := [(0, p0), (2, .func (.func 92) #[] #[]), (4, .pointer (some ⟨b5592, 0, none⟩)), (8, .int .i64 (x0.length : Int)), (9, .int .i64 0), (10, .int .i64 (x0.length : Int))]) ⟨_, _, ho5627, rfl, HM⟩ (Sub.cons rfl (Sub.cons rfl (Sub.cons rfl (Sub.cons rfl (Sub.cons rfl (Sub.cons rfl Sub.nil)))))) ?_
    clear HM ho5627
    rintro k5648 _ w5649 ⟨a5637, a5638, ho5627, rfl, HM⟩
    obtain _ | k5648 := k5648
    · exact nomatch ((slices_BinarySearchFunc_impl_Coin.l0_z x0 x1 a5637 a5638).symm.trans ho5627)
    replace ho5627 := (slices_BinarySearchFunc_impl_Coin.l0_s x0 x1 k5648 a5637 a5638).symm.trans ho5627
    refine run_seq ?_
    refine run_seq ?_
    refine run_region rfl ?_
    refine ox rfl rfl rfl rfl (ex_move rfl rfl) ?_
    refine ox rfl rfl rfl rfl (ex_move rfl rfl) ?_
    refine ox rfl rfl rfl rfl (ex_lss rfl rfl rfl) ?_
    refine ops_nil (at_then ?_)
    refine run_cond (b := (decide (a5637 < a5638))) rfl (fun hb5650 => ?_) (fun hb5650 => ?_)
    · replace ho5627 := cond_t hb5650 ho5627
      refine run_skip ?_
      refine at_then ?_
      refine run_block ?_
      refine run_seq ?_
      obtain ⟨e5651, ho5627⟩ := chk_some ho5627
      refine run_region rfl ?_
      refine ox rfl rfl rfl rfl (ex_move rfl rfl) ?_
      refine ox rfl rfl rfl rfl (ex_move rfl rfl) ?_
      refine ox rfl rfl rfl rfl (ex_add rfl rfl rfl) ?_
      refine ox rfl rfl rfl rfl (ex_conv rfl rfl (by rw [Tryz.underlying3]; rfl) Tryz.underlying131) ?_
      refine ox rfl rfl rfl rfl (ex_shr rfl rfl rfl e5651) ?_
      refine ox rfl rfl rfl rfl (ex_conv64 rfl rfl (by rw [Tryz.underlying131]; rfl) Tryz.underlying3) ?_
      refine ox rfl rfl rfl rfl (ex_assign rfl rfl) ?_
      refine ops_nil (at_then (run_seq ?_))
      obtain ⟨e5652, ho5627⟩ := chk_some ho5627
      obtain ⟨t5656, h5657, ho5627⟩ := bind_some ho5627
      refine run_drawf (fun w_ => Mem w [] w_ [box b5592 66 [.int .i64 x1.fTx, .int .i64 x1.fAt]]) [(0, true), (1, true), (2, true), (3, true), (4, true), (5, true), (6, false), (7, true)] mixed rfl rfl (by kernel_rfl) ?_
      replace HM := HM.grow (fr_drew _)
      have hS := Mem.suf (M := []) HM
      refine dp rfl rfl rfl rfl (ex_move rfl rfl) hS ?_
      refine dp rfl rfl rfl rfl (ex_move rfl rfl) hS ?_
      refine dp rfl rfl rfl rfl (ex_move rfl rfl) hS ?_
      obtain ⟨kv5654, hc5653, hk5655⟩ : ∃ u, CellsAt _ (sb p0) (so p0 + (wrap64 ((IntKind.u64.wrap (wrap64 (a5637 + a5638))) / 2 ^ ((1 : Int)).toNat)).toNat * 8) [(.int .i64 ((gt x0 (wrap64 ((IntKind.u64.wrap (wrap64 (a5637 + a5638))) / 2 ^ ((1 : Int)).toNat))).fRef.fTx)), (.int .i64 ((gt x0 (wrap64 ((IntKind.u64.wrap (wrap64 (a5637 + a5638))) / 2 ^ ((1 : Int)).toNat))).fRef.fAt)), (.int .i64 ((gt x0 (wrap64 ((IntKind.u64.wrap (wrap64 (a5637 + a5638))) / 2 ^ ((1 : Int)).toNat))).fOut.fValue)), u, (.int .i64 ((gt x0 (wrap64 ((IntKind.u64.wrap (wrap64 (a5637 + a5638))) / 2 ^ ((1 : Int)).toNat))).fOut.fRule.fNeed)), (.int .i64 ((gt x0 (wrap64 ((IntKind.u64.wrap (wrap64 (a5637 + a5638))) / 2 ^ ((1 : Int)).toNat))).fOut.fRule.fAfter)), (.int .i64 ((gt x0 (wrap64 ((IntKind.u64.wrap (wrap64 (a5637 + a5638))) / 2 ^ ((1 : Int)).toNat))).fHeight)), (.bool ((gt x0 (wrap64 ((IntKind.u64.wrap (wrap64 (a5637 + a5638))) / 2 ^ ((1 : Int)).toNat))).fMined))] ∧ RdS kInt _ u ((gt x0 (wrap64 ((IntKind.u64.wrap (wrap64 (a5637 + a5638))) / 2 ^ ((1 : Int)).toNat))).fOut.fRule.fKeys) := rd_with1 hp0 e5652
      refine dp rfl rfl rfl rfl (ex_indexAddr (d := kCoin) rfl rfl rfl Tryz.underlying29 tsz72 hp0 (idx_lo e5652) (idx_hi e5652)) hS ?_
      refine drwp_take rfl (guard_none rfl) rfl rfl (fun w_ hS_ => (ex_loadN (cs := [(.int .i64 ((gt x0 (wrap64 ((IntKind.u64.wrap (wrap64 (a5637 + a5638))) / 2 ^ ((1 : Int)).toNat))).fRef.fTx)), (.int .i64 ((gt x0 (wrap64 ((IntKind.u64.wrap (wrap64 (a5637 + a5638))) / 2 ^ ((1 : Int)).toNat))).fRef.fAt)), (.int .i64 ((gt x0 (wrap64 ((IntKind.u64.wrap (wrap64 (a5637 + a5638))) / 2 ^ ((1 : Int)).toNat))).fOut.fValue)), kv5654, (.int .i64 ((gt x0 (wrap64 ((IntKind.u64.wrap (wrap64 (a5637 + a5638))) / 2 ^ ((1 : Int)).toNat))).fOut.fRule.fNeed)), (.int .i64 ((gt x0 (wrap64 ((IntKind.u64.wrap (wrap64 (a5637 + a5638))) / 2 ^ ((1 : Int)).toNat))).fOut.fRule.fAfter)), (.int .i64 ((gt x0 (wrap64 ((IntKind.u64.wrap (wrap64 (a5637 + a5638))) / 2 ^ ((1 : Int)).toNat))).fHeight)), (.bool ((gt x0 (wrap64 ((IntKind.u64.wrap (wrap64 (a5637 + a5638))) / 2 ^ ((1 : Int)).toNat))).fMined))]) rfl rfl Tryz.underlying72 rfl tsz72 rfl ((hS_.at_ hc5653).sub 0 8 rfl))) hS ?_
      refine drwp_take rfl (guard_none rfl) rfl rfl (fun w_ hS_ => (ex_loadN (cs := [(.int .i64 x1.fTx), (.int .i64 x1.fAt)]) rfl rfl Tryz.underlying66 rfl tsz66 rfl ((hS_.box_at 0 rfl).sub 0 2 rfl))) hS ?_
      refine drwp_one rfl (guard_none rfl) rfl rfl (does_callvk rfl callok92 rfl rfl rfl (impl_findCoin_1.calls (x0 := (gt x0 (wrap64 ((IntKind.u64.wrap (wrap64 (a5637 + a5638))) / 2 ^ ((1 : Int)).toNat)))) (x1 := x1) (HM.rd hk5655) h5657)) ?_
      rintro _ w5658 ⟨rfl, hn⟩
      replace HM : Mem w [] w5658 [box b5592 66 [.int .i64 x1.fTx, .int .i64 x1.fAt]] := HM.call hn
      have hS := Mem.suf (M := []) HM
      refine ⟨hS, ?_⟩
      refine dp rfl rfl rfl rfl (ex_lss rfl rfl rfl) hS ?_
      refine drwp_done ?_
      refine at_then ?_
      refine run_cond (b := (decide (t5656 < 0))) rfl (fun hb5659 => ?_) (fun hb5659 => ?_)
      · replace ho5627 := cond_t hb5659 ho5627
        refine run_region rfl ?_
        refine ox rfl rfl rfl rfl (ex_move rfl rfl) ?_
        refine ox rfl rfl rfl rfl (ex_add rfl rfl rfl) ?_
        refine ox rfl rfl rfl rfl (ex_assign rfl rfl) ?_
        refine ops_nil ?_
        refine at_block ?_
        exact at_again k5648 (ρ1 := [(0, p0), (2, .func (.func 92) #[] #[]), (4, .pointer (some ⟨b5592, 0, none⟩)), (8, .int .i64 (x0.length : Int)), (9, .int .i64 (wrap64 ((wrap64 ((IntKind.u64.wrap (wrap64 (a5637 + a5638))) / 2 ^ ((1 : Int)).toNat)) + 1))), (10, .int .i64 a5638)]) (Nat.lt_succ_self _) ⟨_, _, ho5627, rfl, HM⟩ (Sub.cons rfl (Sub.cons rfl (Sub.cons rfl (Sub.cons rfl (Sub.cons rfl (Sub.cons rfl Sub.nil))))))
      · replace ho5627 := cond_f hb5659 ho5627
        refine run_region rfl ?_
        refine ox rfl rfl rfl rfl (ex_move rfl rfl) ?_
        refine ox rfl rfl rfl rfl (ex_assign rfl rfl) ?_
        refine ops_nil ?_
        refine at_block ?_
        exact at_again k5648 (ρ1 := [(0, p0), (2, .func (.func 92) #[] #[]), (4, .pointer (some ⟨b5592, 0, none⟩)), (8, .int .i64 (x0.length : Int)), (9, .int .i64 a5637), (10, .int .i64 (wrap64 ((IntKind.u64.wrap (wrap64 (a5637 + a5638))) / 2 ^ ((1 : Int)).toNat)))]) (Nat.lt_succ_self _) ⟨_, _, ho5627, rfl, HM⟩ (Sub.cons rfl (Sub.cons rfl (Sub.cons rfl (Sub.cons rfl (Sub.cons rfl (Sub.cons rfl Sub.nil))))))
    · replace ho5627 := cond_f hb5650 ho5627
      refine run_exit ?_
      refine at_then_exit ?_
      refine at_then_exit ?_
      refine at_block_exit ?_
      exact at_mid (ρ' := [(0, p0), (2, .func (.func 92) #[] #[]), (4, .pointer (some ⟨b5592, 0, none⟩)), (8, .int .i64 (x0.length : Int)), (9, .int .i64 a5637)]) ⟨_, (Option.some.inj ho5627), rfl, HM⟩ (Sub.cons rfl (Sub.cons rfl (Sub.cons rfl (Sub.cons rfl (Sub.cons rfl Sub.nil)))))
  · rintro _ w5660 ⟨a5625, rfl, rfl, HM⟩
    refine run_seq ?_
    obtain ⟨e5661, H⟩ := chk_some H
    obtain ⟨t5665, h5666, H⟩ := bind_some H
    refine run_meet (fun ρ_ w_ => ρ_ = [(6, .int .i64 a5625), (7, .bool ((decide (a5625 < (x0.length : Int))) && (t5665 == 0)))] ∧ Mem w [] w_ []) ?_ ?_
    · skip
      refine run_drawf (fun w_ => Mem w [] w_ [box b5592 66 [.int .i64 x1.fTx, .int .i64 x1.fAt]]) [(0, true), (1, true), (2, true), (3, true), (4, true), (5, true), (6, true), (7, true), (8, true), (9, true), (10, true), (11, false), (12, true), (13, true), (14, true), (15, true)] mixed rfl rfl (by kernel_rfl) ?_
      replace HM := HM.grow (fr_drew _)
      have hS := Mem.suf (M := []) HM
      refine dp rfl rfl rfl rfl (ex_move rfl rfl) hS ?_
      refine dp rfl rfl rfl rfl (ex_move rfl rfl) hS ?_
      refine dp rfl rfl rfl rfl (ex_move rfl rfl) hS ?_
      refine dp rfl rfl rfl rfl (ex_lss rfl rfl rfl) hS ?_
      refine dp rfl rfl rfl rfl (ex_move rfl rfl) hS ?_
      refine bool_cases (decide (a5625 < (x0.length : Int))) (fun hg5667 => ?_) (fun hg5667 => ?_)
      · skip
        refine drwp_take rfl (guard_on rfl rfl rfl hg5667) rfl rfl (fun w_ hS_ => (ex_move rfl rfl)) hS ?_
        refine drwp_take rfl (guard_on rfl rfl rfl hg5667) rfl rfl (fun w_ hS_ => (ex_move rfl rfl)) hS ?_
        refine drwp_take rfl (guard_on rfl rfl rfl hg5667) rfl rfl (fun w_ hS_ => (ex_move rfl rfl)) hS ?_
        obtain ⟨kv5663, hc5662, hk5664⟩ : ∃ u, CellsAt _ (sb p0) (so p0 + (a5625).toNat * 8) [(.int .i64 ((gt x0 a5625).fRef.fTx)), (.int .i64 ((gt x0 a5625).fRef.fAt)), (.int .i64 ((gt x0 a5625).fOut.fValue)), u, (.int .i64 ((gt x0 a5625).fOut.fRule.fNeed)), (.int .i64 ((gt x0 a5625).fOut.fRule.fAfter)), (.int .i64 ((gt x0 a5625).fHeight)), (.bool ((gt x0 a5625).fMined))] ∧ RdS kInt _ u ((gt x0 a5625).fOut.fRule.fKeys) := rd_with1 hp0 (or_t e5661 hg5667)
        refine drwp_take rfl (guard_on rfl rfl rfl hg5667) rfl rfl (fun w_ hS_ => (ex_indexAddr (d := kCoin) rfl rfl rfl Tryz.underlying29 tsz72 hp0 (idx_lo (or_t e5661 hg5667)) (idx_hi (or_t e5661 hg5667)))) hS ?_
        refine drwp_take rfl (guard_on rfl rfl rfl hg5667) rfl rfl (fun w_ hS_ => (ex_loadN (cs := [(.int .i64 ((gt x0 a5625).fRef.fTx)), (.int .i64 ((gt x0 a5625).fRef.fAt)), (.int .i64 ((gt x0 a5625).fOut.fValue)), kv5663, (.int .i64 ((gt x0 a5625).fOut.fRule.fNeed)), (.int .i64 ((gt x0 a5625).fOut.fRule.fAfter)), (.int .i64 ((gt x0 a5625).fHeight)), (.bool ((gt x0 a5625).fMined))]) rfl rfl Tryz.underlying72 rfl tsz72 rfl ((hS_.at_ hc5662).sub 0 8 rfl))) hS ?_
        refine drwp_take rfl (guard_on rfl rfl rfl hg5667) rfl rfl (fun w_ hS_ => (ex_loadN (cs := [(.int .i64 x1.fTx), (.int .i64 x1.fAt)]) rfl rfl Tryz.underlying66 rfl tsz66 rfl ((hS_.box_at 0 rfl).sub 0 2 rfl))) hS ?_
        refine drwp_one rfl (guard_on rfl rfl rfl hg5667) rfl rfl (does_callvk rfl callok92 rfl rfl rfl (impl_findCoin_1.calls (x0 := (gt x0 a5625)) (x1 := x1) (HM.rd hk5664) (cond_t hg5667 h5666))) ?_
        rintro _ w5668 ⟨rfl, hn⟩
        replace HM : Mem w [] w5668 [box b5592 66 [.int .i64 x1.fTx, .int .i64 x1.fAt]] := HM.call hn
        have hS := Mem.suf (M := []) HM
        refine ⟨hS, ?_⟩
        refine drwp_take rfl (guard_on rfl rfl rfl hg5667) rfl rfl (fun w_ hS_ => (ex_eql rfl rfl rfl)) hS ?_
        refine drwp_take (v := .bool ((decide (a5625 < (x0.length : Int))) && (t5665 == 0))) rfl (guard_none rfl) rfl rfl (fun w_ hS_ => (ex_pand_t rfl rfl hg5667 rfl)) hS ?_
        refine dp rfl rfl rfl rfl (ex_assign rfl rfl) hS ?_
        refine dp rfl rfl rfl rfl (ex_assign rfl rfl) hS ?_
        refine drwp_done ?_
        replace HM := (HM.front 0 rfl rfl).drop
        exact at_meet [(6, .int .i64 a5625), (7, .bool ((decide (a5625 < (x0.length : Int))) && (t5665 == 0)))] ⟨rfl, HM⟩ (Sub.cons rfl (Sub.cons rfl Sub.nil))
      · skip
        refine drwp_off rfl (guard_off rfl rfl rfl hg5667) rfl rfl hS ?_
        refine drwp_off rfl (guard_off rfl rfl rfl hg5667) rfl rfl hS ?_
        refine drwp_off rfl (guard_off rfl rfl rfl hg5667) rfl rfl hS ?_
        refine drwp_off rfl (guard_off rfl rfl rfl hg5667) rfl rfl hS ?_
        refine drwp_off rfl (guard_off rfl rfl rfl hg5667) rfl rfl hS ?_
        refine drwp_off rfl (guard_off rfl rfl rfl hg5667) rfl rfl hS ?_
        refine drwp_off1 rfl (guard_off rfl rfl rfl hg5667) rfl rfl ⟨hS, ?_⟩
        refine drwp_off rfl (guard_off rfl rfl rfl hg5667) rfl rfl hS ?_
        have hg5669 : ((decide (a5625 < (x0.length : Int))) && (t5665 == 0)) = false := by simp only [hg5667, Bool.and_true, Bool.true_and, Bool.and_false, Bool.false_and, Bool.or_true, Bool.true_or, Bool.or_false, Bool.false_or, Bool.not_true, Bool.not_false, Bool.not_not]
        refine drwp_take (v := .bool ((decide (a5625 < (x0.length : Int))) && (t5665 == 0))) rfl (guard_none rfl) rfl rfl (fun w_ hS_ => (ex_pand_f rfl rfl hg5667)) hS ?_
        refine dp rfl rfl rfl rfl (ex_assign rfl rfl) hS ?_
        refine dp rfl rfl rfl rfl (ex_assign rfl rfl) hS ?_
        refine drwp_done ?_
        replace HM := (HM.front 0 rfl rfl).drop
        exact at_meet [(6, .int .i64 a5625), (7, .bool ((decide (a5625 < (x0.length : Int))) && (t5665 == 0)))] ⟨rfl, HM⟩ (Sub.cons rfl (Sub.cons rfl Sub.nil))
    · rintro _ w5670 ⟨rfl, HM⟩
      refine at_then ?_
      refine run_ret ?_
      have hR := Option.some.inj H
      subst hR
      exact at_ret2 rfl rfl rfl ⟨_, rfl, rfl, HM⟩

def impl_findCoin.f (k : Nat) (x0 : List Coin) (x1 : Ref) : Option (Int × Bool) := ((slices_BinarySearchFunc_impl_Coin.f k x0 x1).bind fun t5677 => some (t5677.1, t5677.2))
theorem impl_findCoin.calls {k : Nat} {x0 : List Coin} {x1 : Ref} {p0 : Value} {w : World} (hp0 : RdS kCoin w p0 x0) {r : Int × Bool} (H : impl_findCoin.f k x0 x1 = some r) :
    Calls Tryz.prog 67 ([p0, .agg #[(.int .i64 x1.fTx), (.int .i64 x1.fAt)]] : List Value).toArray w (fun e w_ => ∃ v, e = .returned v ∧ v = (.tuple #[.int .i64 r.1, .bool r.2]) ∧ Mem w [] w_ []) := by
  have HM := Mem.start w
  refine calls_run (N := 11) Tryz.func67 rfl rfl rfl rfl ?_
  unfold impl_findCoin.f at H
  refine run_seq ?_
  refine run_region rfl ?_
  refine od rfl rfl rfl rfl (does_box (cs := [.int .i64 x1.fTx, .int .i64 x1.fAt]) rfl rfl rfl HM) ?_
  rintro _ w5676 ⟨b5673, rfl, HM⟩
  refine ox rfl rfl rfl rfl (ex_assign rfl rfl) ?_
  refine ox rfl rfl rfl rfl (ex_assign rfl rfl) ?_
  refine ops_nil (at_then (run_seq ?_))
  obtain ⟨t5677, h5678, H⟩ := bind_some H
  refine run_region rfl ?_
  refine ox rfl rfl rfl rfl (ex_move rfl rfl) ?_
  refine ox rfl rfl rfl rfl (ex_loadN (cs := [(.int .i64 x1.fTx), (.int .i64 x1.fAt)]) rfl rfl Tryz.underlying66 rfl tsz66 rfl ((HM.box_at 0 rfl).sub 0 2 rfl)) ?_
  refine od rfl rfl rfl rfl (does_callk rfl callok91 rfl (slices_BinarySearchFunc_impl_Coin.calls (x0 := x0) (x1 := x1) (HM.rd hp0) h5678)) ?_
  rintro _ w5679 ⟨rfl, hn⟩
  replace HM : Mem w [] w5679 [box b5673 66 [.int .i64 x1.fTx, .int .i64 x1.fAt]] := HM.call hn
  refine ox rfl rfl rfl rfl (ex_extract rfl rfl rfl) ?_
  refine ox rfl rfl rfl rfl (ex_extract rfl rfl rfl) ?_
  refine ox rfl rfl rfl rfl (ex_assign rfl rfl) ?_
  refine ox rfl rfl rfl rfl (ex_assign rfl rfl) ?_
  refine ops_nil (at_then ?_)
  refine run_ret ?_
  replace HM := (HM.front 0 rfl rfl).drop
  have hR := Option.some.inj H
  subst hR
  exact at_ret2 rfl rfl rfl ⟨_, rfl, rfl, HM⟩

def impl_undoTx_1.f (k : Nat) (x0 : Ref) (x1 : List Coin) : Option Bool := ((impl_findCoin.f k x1 x0).bind fun t5686 => some t5686.2)
theorem impl_undoTx_1.calls {k : Nat} {x0 : Ref} {x1 : List Coin} {b1 f1 : Nat} {p1_0 : Value} {w : World} (hc1 : CellsAt w b1 f1 [p1_0]) (hp1_0 : RdS kCoin w p1_0 x1) {r : Bool} (H : impl_undoTx_1.f k x0 x1 = some r) :
    Calls Tryz.prog 66 ([.agg #[(.int .i64 x0.fTx), (.int .i64 x0.fAt)], .pointer (some ⟨b1, f1, none⟩)] : List Value).toArray w (fun e w_ => ∃ v, e = .returned v ∧ v = (.bool r) ∧ Mem w [] w_ []) := by
  have HM := Mem.start w
  refine calls_run (N := 13) Tryz.func66 rfl rfl rfl rfl ?_
  unfold impl_undoTx_1.f at H
  refine run_seq ?_
  refine run_region rfl ?_
  refine od rfl rfl rfl rfl (does_box (cs := [.int .i64 x0.fTx, .int .i64 x0.fAt]) rfl rfl rfl HM) ?_
  rintro _ w5685 ⟨b5682, rfl, HM⟩
  refine ox rfl rfl rfl rfl (ex_assign rfl rfl) ?_
  refine ops_nil (at_then (run_seq ?_))
  obtain ⟨t5686, h5687, H⟩ := bind_some H
  refine run_region rfl ?_
  refine ox rfl rfl rfl rfl (ex_load1 rfl rfl Tryz.underlying29 rfl ((HM.at_ hc1) 0 _ rfl)) ?_
  refine ox rfl rfl rfl rfl (ex_loadN (cs := [(.int .i64 x0.fTx), (.int .i64 x0.fAt)]) rfl rfl Tryz.underlying66 rfl tsz66 rfl ((HM.box_at 0 rfl).sub 0 2 rfl)) ?_
  refine od rfl rfl rfl rfl (does_callk rfl callok67 rfl (impl_findCoin.calls (x0 := x1) (x1 := x0) (HM.rd hp1_0) h5687)) ?_
  rintro _ w5688 ⟨rfl, hn⟩
  replace HM : Mem w [] w5688 [box b5682 66 [.int .i64 x0.fTx, .int .i64 x0.fAt]] := HM.call hn
  refine ox rfl rfl rfl rfl (ex_move rfl rfl) ?_
  refine ox rfl rfl rfl rfl (ex_extract rfl rfl rfl) ?_
  refine ox rfl rfl rfl rfl (ex_extract rfl rfl rfl) ?_
  refine ox rfl rfl rfl rfl (ex_assign rfl rfl) ?_
  refine ox rfl rfl rfl rfl (ex_assign rfl rfl) ?_
  refine ops_nil (at_then (run_seq ?_))
  refine run_region rfl ?_
  refine ox rfl rfl rfl rfl (ex_move rfl rfl) ?_
  refine ox rfl rfl rfl rfl (ex_assign rfl rfl) ?_
  refine ops_nil (at_then ?_)
  refine run_ret ?_
  replace HM := (HM.front 0 rfl rfl).drop
  have hR := Option.some.inj H
  subst hR
  exact at_ret1 rfl rfl ⟨_, rfl, rfl, HM⟩

def slices_IndexFunc_impl_Ref.l0 (x0 : List Ref) (x1_0 : List Coin) : Nat → Int → Option (Int ⊕ Unit)
  | 0, _ => none
  | k + 1, a5734 => (bif (decide (a5734 < (x0.length : Int))) then (chk (idxOk a5734 x0.length) ((impl_undoTx_1.f k (gt x0 a5734) x1_0).bind fun t5746 => (bif t5746 then some (.inl a5734) else slices_IndexFunc_impl_Ref.l0 x0 x1_0 k (wrap64 (a5734 + 1))))) else some (.inr ()))
theorem slices_IndexFunc_impl_Ref.l0_z (x0 : List Ref) (x1_0 : List Coin) (a5734 : Int) : slices_IndexFunc_impl_Ref.l0 x0 x1_0 0 a5734 = none := rfl
theorem slices_IndexFunc_impl_Ref.l0_s (x0 : List Ref) (x1_0 : List Coin) (k : Nat) (a5734 : Int) : slices_IndexFunc_impl_Ref.l0 x0 x1_0 (k + 1) a5734 = (bif (decide (a5734 < (x0.length : Int))) then (chk (idxOk a5734 x0.length) ((impl_undoTx_1.f k (gt x0 a5734) x1_0).bind fun t5746 => (bif t5746 then some (.inl a5734) else slices_IndexFunc_impl_Ref.l0 x0 x1_0 k (wrap64 (a5734 + 1))))) else some (.inr ())) := rfl
def slices_IndexFunc_impl_Ref.f (k : Nat) (x0 : List Ref) (x1_0 : List Coin) : Option Int := ((slices_IndexFunc_impl_Ref.l0 x0 x1_0 k 0).bind fun o5726 => thn o5726 (fun r => some r) (fun _ => some (-1)))
theorem slices_IndexFunc_impl_Ref.calls {k : Nat} {x0 : List Ref} {x1_0 : List Coin} {p0 : Value} {b1_0 f1_0 : Nat} {p1_0_0 : Value} {w : World} (hp0 : RdS kRef w p0 x0) (hc1_0 : CellsAt w b1_0 f1_0 [p1_0_0]) (hp1_0_0 : RdS kCoin w p1_0_0 x1_0) {r : Int} (H : slices_IndexFunc_impl_Ref.f k x0 x1_0 = some r) :
    Calls Tryz.prog 90 ([p0, .func (.func 66) #[] #[(.pointer (some ⟨b1_0, f1_0, none⟩))]] : List Value).toArray w (fun e w_ => ∃ v, e = .returned v ∧ v = (.int .i64 r) ∧ Mem w [] w_ []) := by
  have HM := Mem.start w
  refine calls_run (N := 19) Tryz.func90 rfl rfl rfl rfl ?_
  unfold slices_IndexFunc_impl_Ref.f at H
  refine run_seq ?_
  refine run_region rfl ?_
  refine ox rfl rfl rfl rfl (ex_assign rfl rfl) ?_
  refine ops_nil (at_then ?_)
  obtain ⟨o5726, ho5727, H⟩ := bind_some H
  refine run_mid (fun ρ_ w_ => Sum.inr () = o5726 ∧ ρ_ = [] ∧ Mem w [] w_ []) ?_ ?_
  · skip
    refine run_seq ?_
    refine run_region rfl ?_
    refine ox rfl rfl rfl rfl (ex_move rfl rfl) ?_
    refine ox rfl rfl rfl rfl (ex_len (d := kRef) (xs := x0) rfl rfl Tryz.underlying34 hp0) ?_
    refine ox rfl rfl rfl rfl (ex_move rfl rfl) ?_
    refine ops_nil (at_then ?_)
    refine run_block ?_
    refine run_loop (fun k_ ρ_ w_ => ∃ a5734 : Int, slices_IndexFunc_impl_Ref.l0 x0 x1_0 k_ a5734 = some o5726 ∧ ρ_ = [(0, p0), (1, .func (.func 66) #[] #[(.pointer (some ⟨b1_0, f1_0, none⟩))]), (7, .int .i64 (x0.length : Int)), (8, .int .i64 a5734)] ∧ Mem w [] w_ []) k (ρ1 := [(0, p0), (1, .func (.func 66) #[] #[(.pointer (some ⟨b1_0, f1_0, none⟩))]), (7, .int .i64 (x0.length : Int)), (8, .int .i64 0)]) ⟨_, ho5727, rfl, HM⟩ (Sub.cons rfl (Sub.cons rfl (Sub.cons rfl (Sub.cons rfl Sub.nil)))) ?_
    clear HM ho5727
    rintro k5741 _ w5742 ⟨a5734, ho5727, rfl, HM⟩
    obtain _ | k5741 := k5741
    · exact nomatch ((slices_IndexFunc_impl_Ref.l0_z x0 x1_0 a5734).symm.trans ho5727)
    replace ho5727 := (slices_IndexFunc_impl_Ref.l0_s x0 x1_0 k5741 a5734).symm.trans ho5727
    refine run_seq ?_
    refine run_region rfl ?_
    refine ox rfl rfl rfl rfl (ex_lss rfl rfl rfl) ?_
    refine ops_nil (at_then (run_seq ?_))
    refine run_cond (b := (decide (a5734 < (x0.length : Int)))) rfl (fun hb5743 => ?_) (fun hb5743 => ?_)
    · replace ho5727 := cond_t hb5743 ho5727
      refine run_skip ?_
      refine at_then ?_
      refine run_seq ?_
      refine run_block ?_
      refine run_seq ?_
      refine run_region rfl ?_
      refine ox rfl rfl rfl rfl (ex_move rfl rfl) ?_
      refine ox rfl rfl rfl rfl (ex_assign rfl rfl) ?_
      refine ops_nil (at_then (run_seq ?_))
      obtain ⟨e5744, ho5727⟩ := chk_some ho5727
      obtain ⟨t5746, h5747, ho5727⟩ := bind_some ho5727
      refine run_region rfl ?_
      refine ox rfl rfl rfl rfl (ex_move rfl rfl) ?_
      refine ox rfl rfl rfl rfl (ex_move rfl rfl) ?_
      refine ox rfl rfl rfl rfl (ex_move rfl rfl) ?_
      have hc5745 : CellsAt _ (sb p0) (so p0 + (a5734).toNat * 2) [(.int .i64 ((gt x0 a5734).fTx)), (.int .i64 ((gt x0 a5734).fAt))] := rd_plain hp0 e5744
      refine ox rfl rfl rfl rfl (ex_indexAddr (d := kRef) rfl rfl rfl Tryz.underlying34 tsz66 hp0 (idx_lo e5744) (idx_hi e5744)) ?_
      refine ox rfl rfl rfl rfl (ex_loadN (cs := [(.int .i64 ((gt x0 a5734).fTx)), (.int .i64 ((gt x0 a5734).fAt))]) rfl rfl Tryz.underlying66 rfl tsz66 rfl ((HM.at_ hc5745).sub 0 2 rfl)) ?_
      refine od rfl rfl rfl rfl (does_callvk rfl callok66 rfl rfl rfl (impl_undoTx_1.calls (x0 := (gt x0 a5734)) (x1 := x1_0) (HM.at_ hc1_0) (HM.rd hp1_0_0) h5747)) ?_
      rintro _ w5748 ⟨rfl, hn⟩
      replace HM : Mem w [] w5748 [] := HM.call hn
      refine ops_nil (at_then ?_)
      refine run_cond (b := t5746) rfl (fun hb5749 => ?_) (fun hb5749 => ?_)
      · replace ho5727 := cond_t hb5749 ho5727
        refine run_seq ?_
        refine run_region rfl ?_
        refine ox rfl rfl rfl rfl (ex_move rfl rfl) ?_
        refine ox rfl rfl rfl rfl (ex_assign rfl rfl) ?_
        refine ops_nil (at_then ?_)
        refine run_ret ?_
        refine at_block_ret ?_
        refine at_then_ret ?_
        refine at_then_ret ?_
        refine at_block_ret ?_
        refine at_then_ret ?_
        have hR := Option.some.inj ho5727
        subst hR
        have hT := thn_inl H
        have hR := Option.some.inj hT
        subst hR
        exact at_ret1 rfl rfl ⟨_, rfl, rfl, HM⟩
      · replace ho5727 := cond_f hb5749 ho5727
        refine run_skip ?_
        refine at_block ?_
        refine at_then ?_
        refine run_region rfl ?_
        refine ox rfl rfl rfl rfl (ex_add rfl rfl rfl) ?_
        refine ox rfl rfl rfl rfl (ex_move rfl rfl) ?_
        refine ops_nil ?_
        exact at_again k5741 (ρ1 := [(0, p0), (1, .func (.func 66) #[] #[(.pointer (some ⟨b1_0, f1_0, none⟩))]), (7, .int .i64 (x0.length : Int)), (8, .int .i64 (wrap64 (a5734 + 1)))]) (Nat.lt_succ_self _) ⟨_, ho5727, rfl, HM⟩ (Sub.cons rfl (Sub.cons rfl (Sub.cons rfl (Sub.cons rfl Sub.nil))))
    · replace ho5727 := cond_f hb5743 ho5727
      refine run_exit ?_
      refine at_then_exit ?_
      refine at_then_exit ?_
      refine at_block_exit ?_
      exact at_mid (ρ' := []) ⟨(Option.some.inj ho5727), rfl, HM⟩ Sub.nil
  · rintro _ w5750 ⟨rfl, rfl, HM⟩
    replace H := (thn_inr H)
    refine run_seq ?_
    refine run_region rfl ?_
    refine ox rfl rfl rfl rfl (ex_assign rfl rfl) ?_
    refine ops_nil (at_then ?_)
    refine run_ret ?_
    have hR := Option.some.inj H
    subst hR
    exact at_ret1 rfl rfl ⟨_, rfl, rfl, HM⟩

def slices_ContainsFunc_impl_Ref.f (k : Nat) (x0 : List Ref) (x1_0 : List Coin) : Option Bool := ((slices_IndexFunc_impl_Ref.f k x0 x1_0).bind fun t5753 => some (decide (0 ≤ t5753)))
theorem slices_ContainsFunc_impl_Ref.calls {k : Nat} {x0 : List Ref} {x1_0 : List Coin} {p0 : Value} {b1_0 f1_0 : Nat} {p1_0_0 : Value} {w : World} (hp0 : RdS kRef w p0 x0) (hc1_0 : CellsAt w b1_0 f1_0 [p1_0_0]) (hp1_0_0 : RdS kCoin w p1_0_0 x1_0) {r : Bool} (H : slices_ContainsFunc_impl_Ref.f k x0 x1_0 = some r) :
    Calls Tryz.prog 65 ([p0, .func (.func 66) #[] #[(.pointer (some ⟨b1_0, f1_0, none⟩))]] : List Value).toArray w (fun e w_ => ∃ v, e = .returned v ∧ v = (.bool r) ∧ Mem w [] w_ []) := by
  have HM := Mem.start w
  refine calls_run (N := 9) Tryz.func65 rfl rfl rfl rfl ?_
  unfold slices_ContainsFunc_impl_Ref.f at H
  refine run_seq ?_
  refine run_region rfl ?_
  refine ox rfl rfl rfl rfl (ex_assign rfl rfl) ?_
  refine ops_nil (at_then (run_seq ?_))
  obtain ⟨t5753, h5754, H⟩ := bind_some H
  refine run_region rfl ?_
  refine ox rfl rfl rfl rfl (ex_move rfl rfl) ?_
  refine ox rfl rfl rfl rfl (ex_move rfl rfl) ?_
  refine od rfl rfl rfl rfl (does_callk rfl callok90 rfl (slices_IndexFunc_impl_Ref.calls (x0 := x0) (x1_0 := x1_0) (HM.rd hp0) (HM.at_ hc1_0) (HM.rd hp1_0_0) h5754)) ?_
  rintro _ w5755 ⟨rfl, hn⟩
  replace HM : Mem w [] w5755 [] := HM.call hn
  refine ox rfl rfl rfl rfl (ex_geq rfl rfl rfl) ?_
  refine ox rfl rfl rfl rfl (ex_assign rfl rfl) ?_
  refine ops_nil (at_then ?_)
  refine run_ret ?_
  have hR := Option.some.inj H
  subst hR
  exact at_ret1 rfl rfl ⟨_, rfl, rfl, HM⟩

def slices_Clone_int64.f (k : Nat) (x0 : List Int) : Option ((List Int)) := (chk (leB ((([] : List Int).length + x0.length) * 8) 140737488355328) (some (([] : List Int) ++ x0)))
theorem slices_Clone_int64.calls {k : Nat} {x0 : List Int} {p0 : Value} {w : World} (hp0 : RdS kInt w p0 x0) {r : (List Int)} (H : slices_Clone_int64.f k x0 = some r) :
    Calls Tryz.prog 110 ([p0] : List Value).toArray w (fun e w_ => ∃ v, e = .returned v ∧ ∃ u0 : Value, v = u0 ∧ Mem w [] w_ [own kInt 2 u0 r]) := by
  have HM := Mem.start w
  refine calls_run (N := 8) Tryz.func110 rfl rfl rfl rfl ?_
  unfold slices_Clone_int64.f at H
  refine run_seq ?_
  refine run_region rfl ?_
  refine ox rfl rfl rfl rfl (ex_assign rfl rfl) ?_
  refine ops_nil (at_then (run_seq ?_))
  refine run_seq ?_
  refine run_region rfl ?_
  refine ox rfl rfl rfl rfl (ex_move rfl rfl) ?_
  refine ops_exE rfl (guard_none rfl) rfl rfl (ex_isnil rfl rfl rfl Tryz.underlying49 hp0) ?_
  rintro _ ⟨b5803, rfl, hb5804⟩
  refine ops_nil (at_then ?_)
  refine run_cond (b := b5803) rfl (fun hb5805 => ?_) (fun hb5805 => ?_)
  · have hx_ := hb5804 hb5805
    subst hx_
    obtain ⟨_, H⟩ := chk_some H
    replace H : some ([] : List Int) = r := H
    refine run_seq ?_
    refine run_region rfl ?_
    refine ox rfl rfl rfl rfl (ex_assign rfl rfl) ?_
    refine ops_nil (at_then ?_)
    refine run_ret ?_
    refine at_then_ret ?_
    replace HM := HM.empty kInt 2 none
    have hR := Option.some.inj H
    subst hR
    exact at_ret1 rfl rfl ⟨_, rfl, _, rfl, HM⟩
  · skip
    refine run_skip ?_
    refine at_then ?_
    refine run_seq ?_
    obtain ⟨e5809, H⟩ := chk_some H
    refine run_region rfl ?_
    refine od rfl rfl rfl rfl (does_lit (e := 2) (cs := []) (xs := ([] : List Int)) kInt rfl rfl (fun _ => by kernel_rfl) rfl rfl (fun _ _ h => by have h' : _ = [] := h; subst h'; exact .nil) HM.emp) ?_
    rintro v5806 w5812 HM
    refine ox rfl rfl rfl rfl (ex_move rfl rfl) ?_
    refine od rfl rfl rfl rfl (does_appendR kInt flat_plain rfl rfl rfl Tryz.underlying49 tsz2 rfl tby2 tz2 rfl rfl (leB_le e5809) (HM.rd hp0) HM) ?_
    rintro v5810 w5813 HM
    refine ox rfl rfl rfl rfl (ex_assign rfl rfl) ?_
    refine ops_nil (at_then ?_)
    refine run_ret ?_
    have hR := Option.some.inj H
    subst hR
    exact at_ret1 rfl rfl ⟨_, rfl, _, rfl, HM⟩

def impl_ownRule.f (k : Nat) (x0 : Rule) : Option Rule := ((slices_Clone_int64.f k x0.fKeys).bind fun t5827 => some (⟨t5827, x0.fNeed, x0.fAfter⟩ : Rule))
theorem impl_ownRule.calls {k : Nat} {x0 : Rule} {p0_0 : Value} {w : World} (hp0_0 : RdS kInt w p0_0 x0.fKeys) {r : Rule} (H : impl_ownRule.f k x0 = some r) :
    Calls Tryz.prog 104 ([.agg #[p0_0, (.int .i64 x0.fNeed), (.int .i64 x0.fAfter)]] : List Value).toArray w (fun e w_ => ∃ v, e = .returned v ∧ ∃ u0 : Value, v = (.agg #[u0, .int .i64 r.fNeed, .int .i64 r.fAfter]) ∧ Mem w [] w_ [own kInt 2 u0 r.fKeys]) := by
  have HM := Mem.start w
  refine calls_run (N := 8) Tryz.func104 rfl rfl rfl rfl ?_
  unfold impl_ownRule.f at H
  refine run_seq ?_
  refine run_region rfl ?_
  refine od rfl rfl rfl rfl (does_box (cs := [p0_0, .int .i64 x0.fNeed, .int .i64 x0.fAfter]) rfl rfl rfl HM) ?_
  rintro _ w5825 ⟨b5819, rfl, HM⟩
  refine od rfl rfl rfl rfl (does_alloc (cs := [.slice none 0 0, .int .i64 0, .int .i64 0]) rfl tz68 rfl HM) ?_
  rintro _ w5826 ⟨b5822, rfl, HM⟩
  refine ops_nil (at_then (run_seq ?_))
  obtain ⟨t5827, h5828, H⟩ := bind_some H
  refine run_region rfl ?_
  refine ox rfl rfl rfl rfl (ex_fieldAddr (off' := 0) rfl rfl Tryz.underlying68 rfl tsz49 rfl) ?_
  refine ox rfl rfl rfl rfl (ex_load1 rfl rfl Tryz.underlying49 rfl ((HM.box_at 1 rfl) 0 _ rfl)) ?_
  refine od rfl rfl rfl rfl (does_callk rfl callok110 rfl (slices_Clone_int64.calls (x0 := x0.fKeys) (HM.rd hp0_0) h5828)) ?_
  rintro u5829 w5831 ⟨_, rfl, hn⟩
  replace HM : Mem w [] w5831 [own kInt 2 u5829 t5827, box b5822 68 [.slice none 0 0, .int .i64 0, .int .i64 0], box b5819 68 [p0_0, .int .i64 x0.fNeed, .int .i64 x0.fAfter]] := HM.call hn
  refine ox rfl rfl rfl rfl (ex_fieldAddr (off' := 0) rfl rfl Tryz.underlying68 rfl tsz49 rfl) ?_
  replace HM := HM.front 2 rfl rfl
  refine odS rfl rfl rfl (does_store (vs := [u5829]) (cs' := [u5829, .int .i64 x0.fNeed, .int .i64 x0.fAfter]) rfl rfl rfl (rd_cells (HM.own_rd 1 rfl)) tsz49 (Ones.rd (HM.own_rd 1 rfl) Ones.nil) rfl rfl HM) ?_
  rintro w5832 HM
  refine ops_nil (at_then (run_seq ?_))
  refine run_region rfl ?_
  refine ox rfl rfl rfl rfl (ex_loadN (cs := [u5829, (.int .i64 x0.fNeed), (.int .i64 x0.fAfter)]) rfl rfl Tryz.underlying68 rfl tsz68 rfl ((HM.box_at 0 rfl).sub 0 3 rfl)) ?_
  replace HM := HM.front 2 rfl rfl
  refine odS rfl rfl rfl (does_store (vs := [u5829, .int .i64 x0.fNeed, .int .i64 x0.fAfter]) (cs' := [u5829, .int .i64 x0.fNeed, .int .i64 x0.fAfter]) rfl rfl rfl rfl tsz68 (Ones.rd (HM.own_rd 2 rfl) (Ones.int (Ones.int Ones.nil))) rfl rfl HM) ?_
  rintro w5833 HM
  refine ops_nil (at_then ?_)
  refine run_ret ?_
  replace HM := (HM.front 1 rfl rfl).drop
  have hcb0 := HM.box_at 0 rfl
  replace HM := (HM.front 0 rfl rfl).drop
  have hR := Option.some.inj H
  subst hR
  exact at_retN rfl rfl Tryz.underlying68 rfl tsz68 rfl hcb0 ⟨_, rfl, _, rfl, HM⟩

def impl_ownOut.f (k : Nat) (x0 : Out) : Option Out := ((impl_ownRule.f k x0.fRule).bind fun t5846 => some (⟨x0.fValue, t5846⟩ : Out))
theorem impl_ownOut.calls {k : Nat} {x0 : Out} {p0_0 : Value} {w : World} (hp0_0 : RdS kInt w p0_0 x0.fRule.fKeys) {r : Out} (H : impl_ownOut.f k x0 = some r) :
    Calls Tryz.prog 94 ([.agg #[(.int .i64 x0.fValue), p0_0, (.int .i64 x0.fRule.fNeed), (.int .i64 x0.fRule.fAfter)]] : List Value).toArray w (fun e w_ => ∃ v, e = .returned v ∧ ∃ u0 : Value, v = (.agg #[.int .i64 r.fValue, u0, .int .i64 r.fRule.fNeed, .int .i64 r.fRule.fAfter]) ∧ Mem w [] w_ [own kInt 2 u0 r.fRule.fKeys]) := by
  have HM := Mem.start w
  refine calls_run (N := 9) Tryz.func94 rfl rfl rfl rfl ?_
  unfold impl_ownOut.f at H
  refine run_seq ?_
  refine run_region rfl ?_
  refine od rfl rfl rfl rfl (does_box (cs := [.int .i64 x0.fValue, p0_0, .int .i64 x0.fRule.fNeed, .int .i64 x0.fRule.fAfter]) rfl rfl rfl HM) ?_
  rintro _ w5844 ⟨b5838, rfl, HM⟩
  refine od rfl rfl rfl rfl (does_alloc (cs := [.int .i64 0, .slice none 0 0, .int .i64 0, .int .i64 0]) rfl tz70 rfl HM) ?_
  rintro _ w5845 ⟨b5841, rfl, HM⟩
  refine ops_nil (at_then (run_seq ?_))
  obtain ⟨t5846, h5847, H⟩ := bind_some H
  refine run_drawf (fun w_ => Mem w [] w_ [box b5838 70 [.int .i64 x0.fValue, p0_0, .int .i64 x0.fRule.fNeed, .int .i64 x0.fRule.fAfter]]) [(0, true), (1, true), (2, true), (3, true), (4, false), (5, true), (6, false)] mixed rfl rfl (by kernel_rfl) ?_
  replace HM := HM.grow (fr_drew _)
  have hS := Mem.suf (M := [box b5841 70 [.int .i64 0, .slice none 0 0, .int .i64 0, .int .i64 0]]) HM
  refine dp rfl rfl rfl rfl (ex_fieldAddr (off' := 0) rfl rfl Tryz.underlying70 rfl tsz2 rfl) hS ?_
  refine drwp_take rfl (guard_none rfl) rfl rfl (fun w_ hS_ => (ex_load1 rfl rfl Tryz.underlying2 rfl ((hS_.box_at 0 rfl) 0 _ rfl))) hS ?_
  refine dp rfl rfl rfl rfl (ex_fieldAddr (off' := 1) rfl rfl Tryz.underlying70 rfl tsz68 rfl) hS ?_
  refine drwp_take rfl (guard_none rfl) rfl rfl (fun w_ hS_ => (ex_loadN (cs := [p0_0, (.int .i64 x0.fRule.fNeed), (.int .i64 x0.fRule.fAfter)]) rfl rfl Tryz.underlying68 rfl tsz68 rfl ((hS_.box_at 0 rfl).sub 1 3 rfl))) hS ?_
  refine drwp_one rfl (guard_none rfl) rfl rfl (does_callk rfl callok104 rfl (impl_ownRule.calls (x0 := x0.fRule) (HM.rd hp0_0) h5847)) ?_
  rintro _ w5850 ⟨u5848, rfl, hn⟩
  replace HM : Mem w [] w5850 [own kInt 2 u5848 t5846.fKeys, box b5841 70 [.int .i64 0, .slice none 0 0, .int .i64 0, .int .i64 0], box b5838 70 [.int .i64 x0.fValue, p0_0, .int .i64 x0.fRule.fNeed, .int .i64 x0.fRule.fAfter]] := HM.call hn
  have hS := Mem.suf (M := [own kInt 2 u5848 t5846.fKeys, box b5841 70 [.int .i64 0, .slice none 0 0, .int .i64 0, .int .i64 0]]) HM
  refine ⟨hS, ?_⟩
  refine dp rfl rfl rfl rfl (ex_build1 (fun u5848 => [(0, .int .i64 x0.fValue), (1, .agg #[u5848, (.int .i64 t5846.fNeed), (.int .i64 t5846.fAfter)])]) (fun u5848 => #[.int .i64 x0.fValue, u5848, .int .i64 t5846.fNeed, .int .i64 t5846.fAfter]) rfl rfl (fun _ _ _ => by kernel_rfl) (HM.own_rd 0 rfl).isSl) hS ?_
  replace HM := HM.front 1 rfl rfl
  refine drwp_oneS rfl (guard_none rfl) rfl (does_store (vs := [.int .i64 x0.fValue, u5848, .int .i64 t5846.fNeed, .int .i64 t5846.fAfter]) (cs' := [.int .i64 x0.fValue, u5848, .int .i64 t5846.fNeed, .int .i64 t5846.fAfter]) rfl rfl rfl rfl tsz70 (Ones.int (Ones.rd (HM.own_rd 1 rfl) (Ones.int (Ones.int Ones.nil)))) rfl rfl HM) ?_
  rintro w5851 HM
  have hS := Mem.suf (M := [box b5841 70 [.int .i64 x0.fValue, u5848, .int .i64 t5846.fNeed, .int .i64 t5846.fAfter], own kInt 2 u5848 t5846.fKeys]) HM
  refine ⟨hS, ?_⟩
  refine drwp_done ?_
  refine at_then ?_
  refine run_ret ?_
  replace HM := (HM.front 2 rfl rfl).drop
  have hcb0 := HM.box_at 0 rfl
  replace HM := (HM.front 0 rfl rfl).drop
  have hR := Option.some.inj H
  subst hR
  exact at_retN rfl rfl Tryz.underlying70 rfl tsz70 rfl hcb0 ⟨_, rfl, _, rfl, HM⟩

def impl_ownCoins.l0 (x0 : List Coin) : Nat → (List Coin) → Int → Option ((List Coin))
  | 0, _, _ => none
  | k + 1, a5993, a5995 => (bif (decide (a5995 < (x0.length : Int))) then (chk (idxOk a5995 x0.length) ((impl_ownOut.f k ((gt x0 a5995).fOut)).bind fun t6026 => (chk (leB ((a5993.length + ([(⟨(gt x0 a5995).fRef, t6026, (gt x0 a5995).fHeight, (gt x0 a5995).fMined⟩ : Coin)] : List Coin).length) * 80) 140737488355328) (impl_ownCoins.l0 x0 k (a5993 ++ ([(⟨(gt x0 a5995).fRef, t6026, (gt x0 a5995).fHeight, (gt x0 a5995).fMined⟩ : Coin)] : List Coin)) (wrap64 (a5995 + 1)))))) else some a5993)
theorem impl_ownCoins.l0_z (x0 : List Coin) (a5993 : List Coin) (a5995 : Int) : impl_ownCoins.l0 x0 0 a5993 a5995 = none := rfl
theorem impl_ownCoins.l0_s (x0 : List Coin) (k : Nat) (a5993 : List Coin) (a5995 : Int) : impl_ownCoins.l0 x0 (k + 1) a5993 a5995 = (bif (decide (a5995 < (x0.length : Int))) then (chk (idxOk a5995 x0.length) ((impl_ownOut.f k ((gt x0 a5995).fOut)).bind fun t6026 => (chk (leB ((a5993.length + ([(⟨(gt x0 a5995).fRef, t6026, (gt x0 a5995).fHeight, (gt x0 a5995).fMined⟩ : Coin)] : List Coin).length) * 80) 140737488355328) (impl_ownCoins.l0 x0 k (a5993 ++ ([(⟨(gt x0 a5995).fRef, t6026, (gt x0 a5995).fHeight, (gt x0 a5995).fMined⟩ : Coin)] : List Coin)) (wrap64 (a5995 + 1)))))) else some a5993) := rfl
def impl_ownCoins.f (k : Nat) (x0 : List Coin) : Option ((List Coin)) := ((impl_ownCoins.l0 x0 k ([] : List Coin) 0).bind (fun a5970 => some a5970))
theorem impl_ownCoins.calls {k : Nat} {x0 : List Coin} {p0 : Value} {w : World} (hp0 : RdS kCoin w p0 x0) {r : (List Coin)} (H : impl_ownCoins.f k x0 = some r) :
    Calls Tryz.prog 69 ([p0] : List Value).toArray w (fun e w_ => ∃ v, e = .returned v ∧ ∃ u0 : Value, v = u0 ∧ Mem w [] w_ [own kCoin 72 u0 r]) := by
  have HM := Mem.start w
  refine calls_run (N := 23) Tryz.func69 rfl rfl rfl rfl ?_
  unfold impl_ownCoins.f at H
  refine run_seq ?_
  refine run_region rfl ?_
  refine ox rfl rfl rfl rfl (ex_assign rfl rfl) ?_
  refine ops_nil (at_then (run_seq ?_))
  refine run_region rfl ?_
  refine od rfl rfl rfl rfl (does_lit (e := 72) (cs := []) (xs := ([] : List Coin)) kCoin rfl rfl (fun _ => by kernel_rfl) rfl rfl (fun _ _ h => by have h' : _ = [] := h; subst h'; exact .nil) HM.emp) ?_
  rintro v5907 w5910 HM
  refine ox rfl rfl rfl rfl (ex_assign rfl rfl) ?_
  refine ops_nil (at_then ?_)
  obtain ⟨o5972, ho5973, H⟩ := bind_some H
  refine run_mid (fun ρ_ w_ => ∃ v5969 : Value, ∃ a5970 : List Coin, a5970 = o5972 ∧ ρ_ = [(3, v5969)] ∧ Mem w [] w_ [own kCoin 72 v5969 a5970]) ?_ ?_
  · clear H
    refine run_seq ?_
    refine run_region rfl ?_
    refine ox rfl rfl rfl rfl (ex_move rfl rfl) ?_
    refine ox rfl rfl rfl rfl (ex_len (d := kCoin) (xs := x0) rfl rfl Tryz.underlying29 hp0) ?_
    refine ox rfl rfl rfl rfl (ex_move rfl rfl) ?_
    refine ops_nil (at_then ?_)
    refine run_block ?_
    refine run_loop (fun k_ ρ_ w_ => ∃ v5992 : Value, ∃ a5993 : List Coin, ∃ a5995 : Int, impl_ownCoins.l0 x0 k_ a5993 a5995 = some o5972 ∧ ρ_ = [(3, v5992), (7, p0), (8, .int .i64 (x0.length : Int)), (9, .int .i64 a5995)] ∧ Mem w [] w_ [own kCoin 72 v5992 a5993]) k (ρ1 := [(3, v5907), (7, p0), (8, .int .i64 (x0.length : Int)), (9, .int .i64 0)]) ⟨_, _, _, ho5973, rfl, HM⟩ (Sub.cons rfl (Sub.cons rfl (Sub.cons rfl (Sub.cons rfl Sub.nil)))) ?_
    clear HM ho5973
    rintro k6014 _ w6015 ⟨v5992, a5993, a5995, ho5973, rfl, HM⟩
    obtain _ | k6014 := k6014
    · exact nomatch ((impl_ownCoins.l0_z x0 a5993 a5995).symm.trans ho5973)
    replace ho5973 := (impl_ownCoins.l0_s x0 k6014 a5993 a5995).symm.trans ho5973
    refine run_seq ?_
    refine run_region rfl ?_
    refine ox rfl rfl rfl rfl (ex_lss rfl rfl rfl) ?_
    refine ops_nil (at_then (run_seq ?_))
    refine run_cond (b := (decide (a5995 < (x0.length : Int)))) rfl (fun hb6016 => ?_) (fun hb6016 => ?_)
    · replace ho5973 := cond_t hb6016 ho5973
      refine run_skip ?_
      refine at_then ?_
      refine run_seq ?_
      refine run_block ?_
      refine run_seq ?_
      obtain ⟨e6017, ho5973⟩ := chk_some ho5973
      refine run_region rfl ?_
      obtain ⟨kv6019, hc6018, hk6020⟩ : ∃ u, CellsAt _ (sb p0) (so p0 + (a5995).toNat * 8) [(.int .i64 ((gt x0 a5995).fRef.fTx)), (.int .i64 ((gt x0 a5995).fRef.fAt)), (.int .i64 ((gt x0 a5995).fOut.fValue)), u, (.int .i64 ((gt x0 a5995).fOut.fRule.fNeed)), (.int .i64 ((gt x0 a5995).fOut.fRule.fAfter)), (.int .i64 ((gt x0 a5995).fHeight)), (.bool ((gt x0 a5995).fMined))] ∧ RdS kInt _ u ((gt x0 a5995).fOut.fRule.fKeys) := rd_with1 hp0 e6017
      refine ox rfl rfl rfl rfl (ex_indexAddr (d := kCoin) rfl rfl rfl Tryz.underlying29 tsz72 hp0 (idx_lo e6017) (idx_hi e6017)) ?_
      refine ox rfl rfl rfl rfl (ex_loadN (cs := [(.int .i64 ((gt x0 a5995).fRef.fTx)), (.int .i64 ((gt x0 a5995).fRef.fAt)), (.int .i64 ((gt x0 a5995).fOut.fValue)), kv6019, (.int .i64 ((gt x0 a5995).fOut.fRule.fNeed)), (.int .i64 ((gt x0 a5995).fOut.fRule.fAfter)), (.int .i64 ((gt x0 a5995).fHeight)), (.bool ((gt x0 a5995).fMined))]) rfl rfl Tryz.underlying72 rfl tsz72 rfl ((HM.at_ hc6018).sub 0 8 rfl)) ?_
      refine od rfl rfl rfl rfl (does_alloc (cs := [.int .i64 0, .int .i64 0, .int .i64 0, .slice none 0 0, .int .i64 0, .int .i64 0, .int .i64 0, .bool false]) rfl tz72 rfl HM) ?_
      rintro _ w6024 ⟨b6021, rfl, HM⟩
      refine odS rfl rfl rfl (does_store (vs := [.int .i64 ((gt x0 a5995).fRef.fTx), .int .i64 ((gt x0 a5995).fRef.fAt), .int .i64 ((gt x0 a5995).fOut.fValue), kv6019, .int .i64 ((gt x0 a5995).fOut.fRule.fNeed), .int .i64 ((gt x0 a5995).fOut.fRule.fAfter), .int .i64 ((gt x0 a5995).fHeight), .bool ((gt x0 a5995).fMined)]) (cs' := [.int .i64 ((gt x0 a5995).fRef.fTx), .int .i64 ((gt x0 a5995).fRef.fAt), .int .i64 ((gt x0 a5995).fOut.fValue), kv6019, .int .i64 ((gt x0 a5995).fOut.fRule.fNeed), .int .i64 ((gt x0 a5995).fOut.fRule.fAfter), .int .i64 ((gt x0 a5995).fHeight), .bool ((gt x0 a5995).fMined)]) rfl rfl rfl rfl tsz72 (Ones.int (Ones.int (Ones.int (Ones.rd hk6020 (Ones.int (Ones.int (Ones.int (Ones.bool Ones.nil)))))))) rfl rfl HM) ?_
      rintro w6025 HM
      refine ops_nil (at_then (run_seq ?_))
      obtain ⟨t6026, h6027, ho5973⟩ := bind_some ho5973
      refine run_region rfl ?_
      refine ox rfl rfl rfl rfl (ex_fieldAddr (off' := 2) rfl rfl Tryz.underlying72 rfl tsz70 rfl) ?_
      refine ox rfl rfl rfl rfl (ex_loadN (cs := [(.int .i64 ((gt x0 a5995).fOut.fValue)), kv6019, (.int .i64 ((gt x0 a5995).fOut.fRule.fNeed)), (.int .i64 ((gt x0 a5995).fOut.fRule.fAfter))]) rfl rfl Tryz.underlying70 rfl tsz70 rfl ((HM.box_at 0 rfl).sub 2 4 rfl)) ?_
      refine od rfl rfl rfl rfl (does_callk rfl callok94 rfl (impl_ownOut.calls (x0 := (gt x0 a5995).fOut) (HM.rd hk6020) h6027)) ?_
      rintro _ w6030 ⟨u6028, rfl, hn⟩
      replace HM : Mem w [] w6030 [own kInt 2 u6028 t6026.fRule.fKeys, box b6021 72 [.int .i64 ((gt x0 a5995).fRef.fTx), .int .i64 ((gt x0 a5995).fRef.fAt), .int .i64 ((gt x0 a5995).fOut.fValue), kv6019, .int .i64 ((gt x0 a5995).fOut.fRule.fNeed), .int .i64 ((gt x0 a5995).fOut.fRule.fAfter), .int .i64 ((gt x0 a5995).fHeight), .bool ((gt x0 a5995).fMined)], own kCoin 72 v5992 a5993] := HM.call hn
      refine ox rfl rfl rfl rfl (ex_fieldAddr (off' := 2) rfl rfl Tryz.underlying72 rfl tsz70 rfl) ?_
      replace HM := HM.front 1 rfl rfl
      refine odS rfl rfl rfl (does_store (vs := [.int .i64 t6026.fValue, u6028, .int .i64 t6026.fRule.fNeed, .int .i64 t6026.fRule.fAfter]) (cs' := [.int .i64 ((gt x0 a5995).fRef.fTx), .int .i64 ((gt x0 a5995).fRef.fAt), .int .i64 t6026.fValue, u6028, .int .i64 t6026.fRule.fNeed, .int .i64 t6026.fRule.fAfter, .int .i64 ((gt x0 a5995).fHeight), .bool ((gt x0 a5995).fMined)]) rfl rfl rfl rfl tsz70 (Ones.int (Ones.rd (HM.own_rd 1 rfl) (Ones.int (Ones.int Ones.nil)))) rfl rfl HM) ?_
      rintro w6031 HM
      refine ops_nil (at_then ?_)
      obtain ⟨e6035, ho5973⟩ := chk_some ho5973
      refine run_region rfl ?_
      refine ox rfl rfl rfl rfl (ex_move rfl rfl) ?_
      refine ox rfl rfl rfl rfl (ex_loadN (cs := [(.int .i64 ((gt x0 a5995).fRef.fTx)), (.int .i64 ((gt x0 a5995).fRef.fAt)), (.int .i64 t6026.fValue), u6028, (.int .i64 t6026.fRule.fNeed), (.int .i64 t6026.fRule.fAfter), (.int .i64 ((gt x0 a5995).fHeight)), (.bool ((gt x0 a5995).fMined))]) rfl rfl Tryz.underlying72 rfl tsz72 rfl ((HM.box_at 0 rfl).sub 0 8 rfl)) ?_
      replace HM := HM.front 1 rfl rfl
      refine od rfl rfl rfl rfl (does_lit (e := 72) (cs := [(.int .i64 ((gt x0 a5995).fRef.fTx)), (.int .i64 ((gt x0 a5995).fRef.fAt)), (.int .i64 t6026.fValue), u6028, (.int .i64 t6026.fRule.fNeed), (.int .i64 t6026.fRule.fAfter), (.int .i64 ((gt x0 a5995).fHeight)), (.bool ((gt x0 a5995).fMined))]) (xs := ([(⟨(gt x0 a5995).fRef, t6026, (gt x0 a5995).fHeight, (gt x0 a5995).fMined⟩ : Coin)] : List Coin)) kCoin rfl rfl (fun _ => by kernel_rfl) rfl rfl (fun _ _ h => by have := Elems.cons (d := kCoin) (x := (⟨(gt x0 a5995).fRef, t6026, (gt x0 a5995).fHeight, (gt x0 a5995).fMined⟩ : Coin)) ⟨_, rfl, h⟩ .nil; rw [List.append_nil, List.append_nil] at this; exact this) HM) ?_
      rintro v6032 w6038 HM
      replace HM := HM.front 2 rfl rfl
      refine od rfl rfl rfl rfl (does_append kCoin rfl rfl rfl Tryz.underlying29 tsz72 rfl tby72 tz72 rfl rfl (leB_le e6035) HM) ?_
      rintro v6036 w6039 HM
      refine ox rfl rfl rfl rfl (ex_assign rfl rfl) ?_
      refine ops_nil ?_
      refine at_block ?_
      refine at_then ?_
      refine run_region rfl ?_
      refine ox rfl rfl rfl rfl (ex_add rfl rfl rfl) ?_
      refine ox rfl rfl rfl rfl (ex_move rfl rfl) ?_
      refine ops_nil ?_
      replace HM := (HM.front 1 rfl rfl).drop
      exact at_again k6014 (ρ1 := [(3, v6036), (7, p0), (8, .int .i64 (x0.length : Int)), (9, .int .i64 (wrap64 (a5995 + 1)))]) (Nat.lt_succ_self _) ⟨_, _, _, ho5973, rfl, HM⟩ (Sub.cons rfl (Sub.cons rfl (Sub.cons rfl (Sub.cons rfl Sub.nil))))
    · replace ho5973 := cond_f hb6016 ho5973
      refine run_exit ?_
      refine at_then_exit ?_
      refine at_then_exit ?_
      refine at_block_exit ?_
      exact at_mid (ρ' := [(3, v5992)]) ⟨_, _, (Option.some.inj ho5973), rfl, HM⟩ (Sub.cons rfl Sub.nil)
  · rintro _ w6040 ⟨v5969, a5970, rfl, rfl, HM⟩
    refine run_seq ?_
    refine run_region rfl ?_
    refine ox rfl rfl rfl rfl (ex_move rfl rfl) ?_
    refine ox rfl rfl rfl rfl (ex_assign rfl rfl) ?_
    refine ops_nil (at_then ?_)
    refine run_ret ?_
    have hR := Option.some.inj H
    subst hR
    exact at_ret1 rfl rfl ⟨_, rfl, _, rfl, HM⟩
end Go.Proofs.YtecgbhfgkkpmhabGreat.Zk
