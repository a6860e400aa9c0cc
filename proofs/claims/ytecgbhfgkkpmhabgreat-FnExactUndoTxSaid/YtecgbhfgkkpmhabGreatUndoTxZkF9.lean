/- What functions of the program compute, each as a plain function, and that they do. Conditions: as each theorem states them. -/
import Derived.Test.YtecgbhfgkkpmhabGreatUndoTxZkF8
namespace Go.Proofs.YtecgbhfgkkpmhabGreat.Zk
open Go Go.RowKit Go.IntWalk Go.Proofs
set_option linter.unusedVariables false
set_option linter.unusedSimpArgs false
set_option maxRecDepth 100000
set_option maxHeartbeats 4000000
def impl_undoTx_2_h.f (k : Nat) (x0 : CoinH) (x1 : Int) : Option Bool := some (x0.fRef.fTx == x1)
theorem impl_undoTx_2_h.calls {k : Nat} {x0 : CoinH} {x1 : Int} {b1 f1 : Nat} {w : World} (hc1 : CellsAt w b1 f1 [.int .i64 x1]) {r : Bool} (H : impl_undoTx_2_h.f k x0 x1 = some r) :
    Calls Tryz.prog 70 ([.agg #[(.int .i64 x0.fRef.fTx), (.int .i64 x0.fRef.fAt), (.int .i64 x0.fOut.fValue), (.slice x0.fOut.fRule.fKeys.1 x0.fOut.fRule.fKeys.2.1 x0.fOut.fRule.fKeys.2.2), (.int .i64 x0.fOut.fRule.fNeed), (.int .i64 x0.fOut.fRule.fAfter), (.int .i64 x0.fHeight), (.bool x0.fMined)], .pointer (some ⟨b1, f1, none⟩)] : List Value).toArray w (fun e w_ => ∃ v, e = .returned v ∧ v = (.bool r) ∧ Mem w [] w_ []) := by
  have HM := Mem.start w
  refine calls_run (N := 9) Tryz.func70 rfl rfl rfl rfl ?_
  unfold impl_undoTx_2_h.f at H
  refine run_seq ?_
  refine run_region rfl ?_
  refine od rfl rfl rfl rfl (does_box (cs := [.int .i64 x0.fRef.fTx, .int .i64 x0.fRef.fAt, .int .i64 x0.fOut.fValue, .slice x0.fOut.fRule.fKeys.1 x0.fOut.fRule.fKeys.2.1 x0.fOut.fRule.fKeys.2.2, .int .i64 x0.fOut.fRule.fNeed, .int .i64 x0.fOut.fRule.fAfter, .int .i64 x0.fHeight, .bool x0.fMined]) rfl rfl rfl HM) ?_
  rintro _ w5386 ⟨b5383, rfl, HM⟩
  refine ox rfl rfl rfl rfl (ex_assign rfl rfl) ?_
  refine ops_nil (at_then (run_seq ?_))
  refine run_region rfl ?_
  refine ox rfl rfl rfl rfl (ex_fieldAddr (off' := 0) rfl rfl Tryz.underlying72 rfl tsz66 rfl) ?_
  refine ox rfl rfl rfl rfl (ex_fieldAddr (off' := 0) rfl rfl Tryz.underlying66 rfl tsz2 rfl) ?_
  refine ox rfl rfl rfl rfl (ex_load1 rfl rfl Tryz.underlying2 rfl ((HM.box_at 0 rfl) 0 _ rfl)) ?_
  refine ox rfl rfl rfl rfl (ex_load1 rfl rfl Tryz.underlying2 rfl ((HM.at_ hc1) 0 _ rfl)) ?_
  refine ox rfl rfl rfl rfl (ex_eql rfl rfl rfl) ?_
  refine ox rfl rfl rfl rfl (ex_assign rfl rfl) ?_
  refine ops_nil (at_then ?_)
  refine run_ret ?_
  replace HM := (HM.front 0 rfl rfl).drop
  have hR := Option.some.inj H
  subst hR
  exact at_ret1 rfl rfl ⟨_, rfl, rfl, HM⟩

def slices_IndexFunc_impl_Coin_h_v2.l0 (x0 : List CoinH) (x1_0 : Int) : Nat → Int → Option (Int ⊕ Unit)
  | 0, _ => none
  | k + 1, a5432 => (bif (decide (a5432 < (x0.length : Int))) then (chk (idxOk a5432 x0.length) ((impl_undoTx_2_h.f k (gt x0 a5432) x1_0).bind fun t5444 => (bif t5444 then some (.inl a5432) else slices_IndexFunc_impl_Coin_h_v2.l0 x0 x1_0 k (wrap64 (a5432 + 1))))) else some (.inr ()))
theorem slices_IndexFunc_impl_Coin_h_v2.l0_z (x0 : List CoinH) (x1_0 : Int) (a5432 : Int) : slices_IndexFunc_impl_Coin_h_v2.l0 x0 x1_0 0 a5432 = none := rfl
theorem slices_IndexFunc_impl_Coin_h_v2.l0_s (x0 : List CoinH) (x1_0 : Int) (k : Nat) (a5432 : Int) : slices_IndexFunc_impl_Coin_h_v2.l0 x0 x1_0 (k + 1) a5432 = (bif (decide (a5432 < (x0.length : Int))) then (chk (idxOk a5432 x0.length) ((impl_undoTx_2_h.f k (gt x0 a5432) x1_0).bind fun t5444 => (bif t5444 then some (.inl a5432) else slices_IndexFunc_impl_Coin_h_v2.l0 x0 x1_0 k (wrap64 (a5432 + 1))))) else some (.inr ())) := rfl
def slices_IndexFunc_impl_Coin_h_v2.f (k : Nat) (x0 : List CoinH) (x1_0 : Int) : Option Int := ((slices_IndexFunc_impl_Coin_h_v2.l0 x0 x1_0 k 0).bind fun o5424 => thn o5424 (fun r => some r) (fun _ => some (-1)))
theorem slices_IndexFunc_impl_Coin_h_v2.calls {k : Nat} {x0 : List CoinH} {x1_0 : Int} {p0 : Value} {b1_0 f1_0 : Nat} {w : World} (hp0 : RdS kCoinH w p0 x0) (hc1_0 : CellsAt w b1_0 f1_0 [.int .i64 x1_0]) {r : Int} (H : slices_IndexFunc_impl_Coin_h_v2.f k x0 x1_0 = some r) :
    Calls Tryz.prog 93 ([p0, .func (.func 70) #[] #[(.pointer (some ⟨b1_0, f1_0, none⟩))]] : List Value).toArray w (fun e w_ => ∃ v, e = .returned v ∧ v = (.int .i64 r) ∧ Mem w [] w_ []) := by
  have HM := Mem.start w
  refine calls_run (N := 19) Tryz.func93 rfl rfl rfl rfl ?_
  unfold slices_IndexFunc_impl_Coin_h_v2.f at H
  refine run_seq ?_
  refine run_region rfl ?_
  refine ox rfl rfl rfl rfl (ex_assign rfl rfl) ?_
  refine ops_nil (at_then ?_)
  obtain ⟨o5424, ho5425, H⟩ := bind_some H
  refine run_mid (fun ρ_ w_ => Sum.inr () = o5424 ∧ ρ_ = [] ∧ Mem w [] w_ []) ?_ ?_
  · skip
    refine run_seq ?_
    refine run_region rfl ?_
    refine ox rfl rfl rfl rfl (ex_move rfl rfl) ?_
    refine ox rfl rfl rfl rfl (ex_len (d := kCoinH) (xs := x0) rfl rfl Tryz.underlying29 hp0) ?_
    refine ox rfl rfl rfl rfl (ex_move rfl rfl) ?_
    refine ops_nil (at_then ?_)
    refine run_block ?_
    refine run_loop (fun k_ ρ_ w_ => ∃ a5432 : Int, slices_IndexFunc_impl_Coin_h_v2.l0 x0 x1_0 k_ a5432 = some o5424 ∧ ρ_ = [(0, p0), (1, .func (.func 70) #[] #[(.pointer (some ⟨b1_0, f1_0, none⟩))]), (7, .int .i64 (x0.length : Int)), (8, .int .i64 a5432)] ∧ Mem w [] w_ []) k (ρ1 := [(0, p0), (1, .func (.func 70) #[] #[(.pointer (some ⟨b1_0, f1_0, none⟩))]), (7, .int .i64 (x0.length : Int)), (8, .int .i64 0)]) ⟨_, ho5425, rfl, HM⟩ (Sub.cons rfl (Sub.cons rfl (Sub.cons rfl (Sub.cons rfl Sub.nil)))) ?_
    clear HM ho5425
    rintro k5439 _ w5440 ⟨a5432, ho5425, rfl, HM⟩
    obtain _ | k5439 := k5439
    · exact nomatch ((slices_IndexFunc_impl_Coin_h_v2.l0_z x0 x1_0 a5432).symm.trans ho5425)
    replace ho5425 := (slices_IndexFunc_impl_Coin_h_v2.l0_s x0 x1_0 k5439 a5432).symm.trans ho5425
    refine run_seq ?_
    refine run_region rfl ?_
    refine ox rfl rfl rfl rfl (ex_lss rfl rfl rfl) ?_
    refine ops_nil (at_then (run_seq ?_))
    refine run_cond (b := (decide (a5432 < (x0.length : Int)))) rfl (fun hb5441 => ?_) (fun hb5441 => ?_)
    · replace ho5425 := cond_t hb5441 ho5425
      refine run_skip ?_
      refine at_then ?_
      refine run_seq ?_
      refine run_block ?_
      refine run_seq ?_
      refine run_region rfl ?_
      refine ox rfl rfl rfl rfl (ex_move rfl rfl) ?_
      refine ox rfl rfl rfl rfl (ex_assign rfl rfl) ?_
      refine ops_nil (at_then (run_seq ?_))
      obtain ⟨e5442, ho5425⟩ := chk_some ho5425
      obtain ⟨t5444, h5445, ho5425⟩ := bind_some ho5425
      refine run_region rfl ?_
      refine ox rfl rfl rfl rfl (ex_move rfl rfl) ?_
      refine ox rfl rfl rfl rfl (ex_move rfl rfl) ?_
      refine ox rfl rfl rfl rfl (ex_move rfl rfl) ?_
      have hc5443 : CellsAt _ (sb p0) (so p0 + (a5432).toNat * 8) [(.int .i64 ((gt x0 a5432).fRef.fTx)), (.int .i64 ((gt x0 a5432).fRef.fAt)), (.int .i64 ((gt x0 a5432).fOut.fValue)), (.slice ((gt x0 a5432).fOut.fRule.fKeys).1 ((gt x0 a5432).fOut.fRule.fKeys).2.1 ((gt x0 a5432).fOut.fRule.fKeys).2.2), (.int .i64 ((gt x0 a5432).fOut.fRule.fNeed)), (.int .i64 ((gt x0 a5432).fOut.fRule.fAfter)), (.int .i64 ((gt x0 a5432).fHeight)), (.bool ((gt x0 a5432).fMined))] := rd_plain hp0 e5442
      refine ox rfl rfl rfl rfl (ex_indexAddr (d := kCoinH) rfl rfl rfl Tryz.underlying29 tsz72 hp0 (idx_lo e5442) (idx_hi e5442)) ?_
      refine ox rfl rfl rfl rfl (ex_loadN (cs := [(.int .i64 ((gt x0 a5432).fRef.fTx)), (.int .i64 ((gt x0 a5432).fRef.fAt)), (.int .i64 ((gt x0 a5432).fOut.fValue)), (.slice ((gt x0 a5432).fOut.fRule.fKeys).1 ((gt x0 a5432).fOut.fRule.fKeys).2.1 ((gt x0 a5432).fOut.fRule.fKeys).2.2), (.int .i64 ((gt x0 a5432).fOut.fRule.fNeed)), (.int .i64 ((gt x0 a5432).fOut.fRule.fAfter)), (.int .i64 ((gt x0 a5432).fHeight)), (.bool ((gt x0 a5432).fMined))]) rfl rfl Tryz.underlying72 rfl tsz72 rfl ((HM.at_ hc5443).sub 0 8 rfl)) ?_
      refine od rfl rfl rfl rfl (does_callvk rfl callok70 rfl rfl rfl (impl_undoTx_2_h.calls (x0 := (gt x0 a5432)) (x1 := x1_0) (HM.at_ hc1_0) h5445)) ?_
      rintro _ w5446 ⟨rfl, hn⟩
      replace HM : Mem w [] w5446 [] := HM.call hn
      refine ops_nil (at_then ?_)
      refine run_cond (b := t5444) rfl (fun hb5447 => ?_) (fun hb5447 => ?_)
      · replace ho5425 := cond_t hb5447 ho5425
        refine run_seq ?_
        refine run_region rfl ?_
        refine ox rfl rfl rfl rfl (ex_move rfl rfl) ?_
        refine ox rfl rfl rfl rfl (ex_assign rfl rfl) ?_
        refine ops_nil (at_then ?_)
        refine run_ret ?_
        refine at_block_ret ?_
        refine at_then_ret ?_
        refine at_then_ret ?_
        refine at_block_ret ?_
        refine at_then_ret ?_
        have hR := Option.some.inj ho5425
        subst hR
        have hT := thn_inl H
        have hR := Option.some.inj hT
        subst hR
        exact at_ret1 rfl rfl ⟨_, rfl, rfl, HM⟩
      · replace ho5425 := cond_f hb5447 ho5425
        refine run_skip ?_
        refine at_block ?_
        refine at_then ?_
        refine run_region rfl ?_
        refine ox rfl rfl rfl rfl (ex_add rfl rfl rfl) ?_
        refine ox rfl rfl rfl rfl (ex_move rfl rfl) ?_
        refine ops_nil ?_
        exact at_again k5439 (ρ1 := [(0, p0), (1, .func (.func 70) #[] #[(.pointer (some ⟨b1_0, f1_0, none⟩))]), (7, .int .i64 (x0.length : Int)), (8, .int .i64 (wrap64 (a5432 + 1)))]) (Nat.lt_succ_self _) ⟨_, ho5425, rfl, HM⟩ (Sub.cons rfl (Sub.cons rfl (Sub.cons rfl (Sub.cons rfl Sub.nil))))
    · replace ho5425 := cond_f hb5441 ho5425
      refine run_exit ?_
      refine at_then_exit ?_
      refine at_then_exit ?_
      refine at_block_exit ?_
      exact at_mid (ρ' := []) ⟨(Option.some.inj ho5425), rfl, HM⟩ Sub.nil
  · rintro _ w5448 ⟨rfl, rfl, HM⟩
    replace H := (thn_inr H)
    refine run_seq ?_
    refine run_region rfl ?_
    refine ox rfl rfl rfl rfl (ex_assign rfl rfl) ?_
    refine ops_nil (at_then ?_)
    refine run_ret ?_
    have hR := Option.some.inj H
    subst hR
    exact at_ret1 rfl rfl ⟨_, rfl, rfl, HM⟩

def slices_DeleteFunc_impl_Coin_h_v2.l0 (x1_0 : Int) : Nat → (List CoinH) → Int → Int → Option ((List CoinH) × Int)
  | 0, _, _, _ => none
  | k + 1, a5541, a5543, a5544 => (bif (decide (a5544 < (a5541.length : Int))) then (chk (idxOk a5544 a5541.length) ((impl_undoTx_2_h.f k (gt a5541 a5544) x1_0).bind fun t5563 => (bif !t5563 then (chk (idxOk a5543 a5541.length) (slices_DeleteFunc_impl_Coin_h_v2.l0 x1_0 k (a5541.set (a5543).toNat (gt a5541 a5544)) (wrap64 (a5543 + 1)) (wrap64 (a5544 + 1)))) else slices_DeleteFunc_impl_Coin_h_v2.l0 x1_0 k a5541 a5543 (wrap64 (a5544 + 1))))) else some (a5541, a5543))
theorem slices_DeleteFunc_impl_Coin_h_v2.l0_z (x1_0 : Int) (a5541 : List CoinH) (a5543 : Int) (a5544 : Int) : slices_DeleteFunc_impl_Coin_h_v2.l0 x1_0 0 a5541 a5543 a5544 = none := rfl
theorem slices_DeleteFunc_impl_Coin_h_v2.l0_s (x1_0 : Int) (k : Nat) (a5541 : List CoinH) (a5543 : Int) (a5544 : Int) : slices_DeleteFunc_impl_Coin_h_v2.l0 x1_0 (k + 1) a5541 a5543 a5544 = (bif (decide (a5544 < (a5541.length : Int))) then (chk (idxOk a5544 a5541.length) ((impl_undoTx_2_h.f k (gt a5541 a5544) x1_0).bind fun t5563 => (bif !t5563 then (chk (idxOk a5543 a5541.length) (slices_DeleteFunc_impl_Coin_h_v2.l0 x1_0 k (a5541.set (a5543).toNat (gt a5541 a5544)) (wrap64 (a5543 + 1)) (wrap64 (a5544 + 1)))) else slices_DeleteFunc_impl_Coin_h_v2.l0 x1_0 k a5541 a5543 (wrap64 (a5544 + 1))))) else some (a5541, a5543)) := rfl
def slices_DeleteFunc_impl_Coin_h_v2.f (k : Nat) (x0 : List CoinH) (x1_0 : Int) : Option ((List CoinH)) := ((slices_IndexFunc_impl_Coin_h_v2.f k x0 x1_0).bind fun t5491 => (bif (t5491 == (-1)) then some x0 else ((slices_DeleteFunc_impl_Coin_h_v2.l0 x1_0 k x0 t5491 (wrap64 (t5491 + 1))).bind (cur2 (fun a5527 a5529 => (chk (cutOk a5529 a5527.length) (some (a5527.take (a5529).toNat))))))))
theorem slices_DeleteFunc_impl_Coin_h_v2.calls {k : Nat} {x0 : List CoinH} {x1_0 : Int} {p0 : Value} {b1_0 f1_0 : Nat} {w wo : World} {X : List Nat} (hwo : Olds wo w X) (hX : Hold w [own kCoinH 72 p0 x0] X) (hXn : X.Nodup) (hXl : ∀ b ∈ X, b < w.heap.size) (hc1_0 : CellsAt wo b1_0 f1_0 [.int .i64 x1_0]) {r : (List CoinH)} (H : slices_DeleteFunc_impl_Coin_h_v2.f k x0 x1_0 = some r) :
    Calls Tryz.prog 68 ([p0, .func (.func 70) #[] #[(.pointer (some ⟨b1_0, f1_0, none⟩))]] : List Value).toArray w (fun e w_ => ∃ v, e = .returned v ∧ ∃ u0 : Value, v = u0 ∧ Mem w X w_ [own kCoinH 72 u0 r]) := by
  have HM := Mem.startX hX hXn hXl
  refine calls_run (N := 42) Tryz.func68 rfl rfl rfl rfl ?_
  unfold slices_DeleteFunc_impl_Coin_h_v2.f at H
  refine run_seq ?_
  refine run_region rfl ?_
  refine ox rfl rfl rfl rfl (ex_assign rfl rfl) ?_
  refine ops_nil (at_then (run_seq ?_))
  obtain ⟨t5491, h5492, H⟩ := bind_some H
  refine run_region rfl ?_
  refine ox rfl rfl rfl rfl (ex_move rfl rfl) ?_
  refine ox rfl rfl rfl rfl (ex_move rfl rfl) ?_
  refine od rfl rfl rfl rfl (does_callk rfl callok93 rfl (slices_IndexFunc_impl_Coin_h_v2.calls (x0 := x0) (x1_0 := x1_0) (HM.own_rd 0 rfl) (HM.ato hwo hc1_0) h5492)) ?_
  rintro _ w5493 ⟨rfl, hn⟩
  replace HM : Mem w X w5493 [own kCoinH 72 p0 x0] := HM.call hn
  refine ox rfl rfl rfl rfl (ex_assign rfl rfl) ?_
  refine ops_nil (at_then (run_seq ?_))
  refine run_seq ?_
  refine run_region rfl ?_
  refine ox rfl rfl rfl rfl (ex_move rfl rfl) ?_
  refine ox rfl rfl rfl rfl (ex_eql rfl rfl rfl) ?_
  refine ops_nil (at_then ?_)
  refine run_cond (b := (t5491 == (-1))) rfl (fun hb5495 => ?_) (fun hb5495 => ?_)
  · replace H := cond_t hb5495 H
    refine run_seq ?_
    refine run_region rfl ?_
    refine ox rfl rfl rfl rfl (ex_move rfl rfl) ?_
    refine ox rfl rfl rfl rfl (ex_assign rfl rfl) ?_
    refine ops_nil (at_then ?_)
    refine run_ret ?_
    refine at_then_ret ?_
    have hR := Option.some.inj H
    subst hR
    exact at_ret1 rfl rfl ⟨_, rfl, _, rfl, HM⟩
  · replace H := cond_f hb5495 H
    refine run_skip ?_
    refine at_then ?_
    obtain ⟨o5530, ho5531, H⟩ := bind_some H
    refine run_mid (fun ρ_ w_ => ∃ a5527 : List CoinH, ∃ a5529 : Int, (a5527, a5529) = o5530 ∧ ρ_ = [(0, p0), (5, .int .i64 a5529)] ∧ Mem w X w_ [own kCoinH 72 p0 a5527]) ?_ ?_
    · clear H
      refine run_seq ?_
      refine run_region rfl ?_
      refine ox rfl rfl rfl rfl (ex_move rfl rfl) ?_
      refine ox rfl rfl rfl rfl (ex_add rfl rfl rfl) ?_
      refine ox rfl rfl rfl rfl (ex_assign rfl rfl) ?_
      refine ops_nil (at_then ?_)
      refine run_block ?_
      refine run_loop (fun k_ ρ_ w_ => ∃ a5541 : List CoinH, ∃ a5543 : Int, ∃ a5544 : Int, slices_DeleteFunc_impl_Coin_h_v2.l0 x1_0 k_ a5541 a5543 a5544 = some o5530 ∧ ρ_ = [(0, p0), (1, .func (.func 70) #[] #[(.pointer (some ⟨b1_0, f1_0, none⟩))]), (5, .int .i64 a5543), (6, .int .i64 a5544)] ∧ Mem w X w_ [own kCoinH 72 p0 a5541]) k (ρ1 := [(0, p0), (1, .func (.func 70) #[] #[(.pointer (some ⟨b1_0, f1_0, none⟩))]), (5, .int .i64 t5491), (6, .int .i64 (wrap64 (t5491 + 1)))]) ⟨_, _, _, ho5531, rfl, HM⟩ (Sub.cons rfl (Sub.cons rfl (Sub.cons rfl (Sub.cons rfl Sub.nil)))) ?_
      clear HM ho5531
      rintro k5554 _ w5555 ⟨a5541, a5543, a5544, ho5531, rfl, HM⟩
      obtain _ | k5554 := k5554
      · exact nomatch ((slices_DeleteFunc_impl_Coin_h_v2.l0_z x1_0 a5541 a5543 a5544).symm.trans ho5531)
      replace ho5531 := (slices_DeleteFunc_impl_Coin_h_v2.l0_s x1_0 k5554 a5541 a5543 a5544).symm.trans ho5531
      refine run_seq ?_
      refine run_seq ?_
      refine run_region rfl ?_
      refine ox rfl rfl rfl rfl (ex_move rfl rfl) ?_
      refine ox rfl rfl rfl rfl (ex_move rfl rfl) ?_
      refine ox rfl rfl rfl rfl (ex_len (d := kCoinH) (xs := a5541) rfl rfl Tryz.underlying29 (HM.own_rd 0 rfl)) ?_
      refine ox rfl rfl rfl rfl (ex_lss rfl rfl rfl) ?_
      refine ops_nil (at_then ?_)
      refine run_cond (b := (decide (a5544 < (a5541.length : Int)))) rfl (fun hb5556 => ?_) (fun hb5556 => ?_)
      · replace ho5531 := cond_t hb5556 ho5531
        refine run_skip ?_
        refine at_then ?_
        refine run_seq ?_
        refine run_block ?_
        refine run_seq ?_
        obtain ⟨e5557, ho5531⟩ := chk_some ho5531
        refine run_region rfl ?_
        refine ox rfl rfl rfl rfl (ex_move rfl rfl) ?_
        refine ox rfl rfl rfl rfl (ex_move rfl rfl) ?_
        refine ox rfl rfl rfl rfl (ex_indexAddr (d := kCoinH) rfl rfl rfl Tryz.underlying29 tsz72 (HM.own_rd 0 rfl) (idx_lo e5557) (idx_hi e5557)) ?_
        refine ox rfl rfl rfl rfl (ex_loadN (cs := [(.int .i64 ((gt a5541 a5544).fRef.fTx)), (.int .i64 ((gt a5541 a5544).fRef.fAt)), (.int .i64 ((gt a5541 a5544).fOut.fValue)), (.slice ((gt a5541 a5544).fOut.fRule.fKeys).1 ((gt a5541 a5544).fOut.fRule.fKeys).2.1 ((gt a5541 a5544).fOut.fRule.fKeys).2.2), (.int .i64 ((gt a5541 a5544).fOut.fRule.fNeed)), (.int .i64 ((gt a5541 a5544).fOut.fRule.fAfter)), (.int .i64 ((gt a5541 a5544).fHeight)), (.bool ((gt a5541 a5544).fMined))]) rfl rfl Tryz.underlying72 rfl tsz72 rfl ((rd_plain (HM.own_rd 0 rfl) e5557).sub 0 8 rfl)) ?_
        refine od rfl rfl rfl rfl (does_alloc (cs := [.int .i64 0, .int .i64 0, .int .i64 0, .slice ((none, 0, 0) : Hdr).1 ((none, 0, 0) : Hdr).2.1 ((none, 0, 0) : Hdr).2.2, .int .i64 0, .int .i64 0, .int .i64 0, .bool false]) rfl tz72 rfl HM) ?_
        rintro _ w5561 ⟨b5558, rfl, HM⟩
        refine odS rfl rfl rfl (does_store (vs := [.int .i64 ((gt a5541 a5544).fRef.fTx), .int .i64 ((gt a5541 a5544).fRef.fAt), .int .i64 ((gt a5541 a5544).fOut.fValue), .slice ((gt a5541 a5544).fOut.fRule.fKeys).1 ((gt a5541 a5544).fOut.fRule.fKeys).2.1 ((gt a5541 a5544).fOut.fRule.fKeys).2.2, .int .i64 ((gt a5541 a5544).fOut.fRule.fNeed), .int .i64 ((gt a5541 a5544).fOut.fRule.fAfter), .int .i64 ((gt a5541 a5544).fHeight), .bool ((gt a5541 a5544).fMined)]) (cs' := [.int .i64 ((gt a5541 a5544).fRef.fTx), .int .i64 ((gt a5541 a5544).fRef.fAt), .int .i64 ((gt a5541 a5544).fOut.fValue), .slice ((gt a5541 a5544).fOut.fRule.fKeys).1 ((gt a5541 a5544).fOut.fRule.fKeys).2.1 ((gt a5541 a5544).fOut.fRule.fKeys).2.2, .int .i64 ((gt a5541 a5544).fOut.fRule.fNeed), .int .i64 ((gt a5541 a5544).fOut.fRule.fAfter), .int .i64 ((gt a5541 a5544).fHeight), .bool ((gt a5541 a5544).fMined)]) rfl rfl rfl rfl tsz72 (Ones.int (Ones.int (Ones.int (Ones.sl (Ones.int (Ones.int (Ones.int (Ones.bool Ones.nil)))))))) rfl rfl HM) ?_
        rintro w5562 HM
        refine ops_nil (at_then (run_seq ?_))
        obtain ⟨t5563, h5564, ho5531⟩ := bind_some ho5531
        refine run_region rfl ?_
        refine ox rfl rfl rfl rfl (ex_move rfl rfl) ?_
        refine ox rfl rfl rfl rfl (ex_loadN (cs := [(.int .i64 ((gt a5541 a5544).fRef.fTx)), (.int .i64 ((gt a5541 a5544).fRef.fAt)), (.int .i64 ((gt a5541 a5544).fOut.fValue)), (.slice ((gt a5541 a5544).fOut.fRule.fKeys).1 ((gt a5541 a5544).fOut.fRule.fKeys).2.1 ((gt a5541 a5544).fOut.fRule.fKeys).2.2), (.int .i64 ((gt a5541 a5544).fOut.fRule.fNeed)), (.int .i64 ((gt a5541 a5544).fOut.fRule.fAfter)), (.int .i64 ((gt a5541 a5544).fHeight)), (.bool ((gt a5541 a5544).fMined))]) rfl rfl Tryz.underlying72 rfl tsz72 rfl ((HM.box_at 0 rfl).sub 0 8 rfl)) ?_
        refine od rfl rfl rfl rfl (does_callvk rfl callok70 rfl rfl rfl (impl_undoTx_2_h.calls (x0 := (gt a5541 a5544)) (x1 := x1_0) (HM.ato hwo hc1_0) h5564)) ?_
        rintro _ w5565 ⟨rfl, hn⟩
        replace HM : Mem w X w5565 [box b5558 72 [.int .i64 ((gt a5541 a5544).fRef.fTx), .int .i64 ((gt a5541 a5544).fRef.fAt), .int .i64 ((gt a5541 a5544).fOut.fValue), .slice ((gt a5541 a5544).fOut.fRule.fKeys).1 ((gt a5541 a5544).fOut.fRule.fKeys).2.1 ((gt a5541 a5544).fOut.fRule.fKeys).2.2, .int .i64 ((gt a5541 a5544).fOut.fRule.fNeed), .int .i64 ((gt a5541 a5544).fOut.fRule.fAfter), .int .i64 ((gt a5541 a5544).fHeight), .bool ((gt a5541 a5544).fMined)], own kCoinH 72 p0 a5541] := HM.call hn
        refine ox rfl rfl rfl rfl (ex_not rfl rfl) ?_
        refine ops_nil (at_then ?_)
        refine run_cond (b := !t5563) rfl (fun hb5566 => ?_) (fun hb5566 => ?_)
        · replace ho5531 := cond_t hb5566 ho5531
          refine run_seq ?_
          obtain ⟨e5567, ho5531⟩ := chk_some ho5531
          refine run_region rfl ?_
          refine ox rfl rfl rfl rfl (ex_move rfl rfl) ?_
          refine ox rfl rfl rfl rfl (ex_move rfl rfl) ?_
          refine ox rfl rfl rfl rfl (ex_loadN (cs := [(.int .i64 ((gt a5541 a5544).fRef.fTx)), (.int .i64 ((gt a5541 a5544).fRef.fAt)), (.int .i64 ((gt a5541 a5544).fOut.fValue)), (.slice ((gt a5541 a5544).fOut.fRule.fKeys).1 ((gt a5541 a5544).fOut.fRule.fKeys).2.1 ((gt a5541 a5544).fOut.fRule.fKeys).2.2), (.int .i64 ((gt a5541 a5544).fOut.fRule.fNeed)), (.int .i64 ((gt a5541 a5544).fOut.fRule.fAfter)), (.int .i64 ((gt a5541 a5544).fHeight)), (.bool ((gt a5541 a5544).fMined))]) rfl rfl Tryz.underlying72 rfl tsz72 rfl ((HM.box_at 0 rfl).sub 0 8 rfl)) ?_
          refine ox rfl rfl rfl rfl (ex_indexAddr (d := kCoinH) rfl rfl rfl Tryz.underlying29 tsz72 (HM.own_rd 1 rfl) (idx_lo e5567) (idx_hi e5567)) ?_
          replace HM := HM.front 1 rfl rfl
          refine odS rfl rfl rfl (does_setElem (vs := [(.int .i64 ((gt a5541 a5544).fRef.fTx)), (.int .i64 ((gt a5541 a5544).fRef.fAt)), (.int .i64 ((gt a5541 a5544).fOut.fValue)), (.slice ((gt a5541 a5544).fOut.fRule.fKeys).1 ((gt a5541 a5544).fOut.fRule.fKeys).2.1 ((gt a5541 a5544).fOut.fRule.fKeys).2.2), (.int .i64 ((gt a5541 a5544).fOut.fRule.fNeed)), (.int .i64 ((gt a5541 a5544).fOut.fRule.fAfter)), (.int .i64 ((gt a5541 a5544).fHeight)), (.bool ((gt a5541 a5544).fMined))]) (y := (gt a5541 a5544)) kCoinH rfl rfl rfl rfl rfl tsz72 rfl rfl (idx_nat e5567) (fun _ _ h => ⟨rfl, h⟩) (HM.emp.front 1 rfl rfl)) ?_
          rintro w5568 HM
          refine ops_nil (at_then ?_)
          refine run_region rfl ?_
          refine ox rfl rfl rfl rfl (ex_move rfl rfl) ?_
          refine ox rfl rfl rfl rfl (ex_add rfl rfl rfl) ?_
          refine ox rfl rfl rfl rfl (ex_assign rfl rfl) ?_
          refine ops_nil ?_
          refine at_block ?_
          refine at_then ?_
          refine run_region rfl ?_
          refine ox rfl rfl rfl rfl (ex_move rfl rfl) ?_
          refine ox rfl rfl rfl rfl (ex_add rfl rfl rfl) ?_
          refine ox rfl rfl rfl rfl (ex_assign rfl rfl) ?_
          refine ops_nil ?_
          replace HM := (HM.front 1 rfl rfl).drop
          exact at_again k5554 (ρ1 := [(0, p0), (1, .func (.func 70) #[] #[(.pointer (some ⟨b1_0, f1_0, none⟩))]), (5, .int .i64 (wrap64 (a5543 + 1))), (6, .int .i64 (wrap64 (a5544 + 1)))]) (Nat.lt_succ_self _) ⟨_, _, _, ho5531, rfl, HM⟩ (Sub.cons rfl (Sub.cons rfl (Sub.cons rfl (Sub.cons rfl Sub.nil))))
        · replace ho5531 := cond_f hb5566 ho5531
          refine run_skip ?_
          refine at_block ?_
          refine at_then ?_
          refine run_region rfl ?_
          refine ox rfl rfl rfl rfl (ex_move rfl rfl) ?_
          refine ox rfl rfl rfl rfl (ex_add rfl rfl rfl) ?_
          refine ox rfl rfl rfl rfl (ex_assign rfl rfl) ?_
          refine ops_nil ?_
          replace HM := (HM.front 0 rfl rfl).drop
          exact at_again k5554 (ρ1 := [(0, p0), (1, .func (.func 70) #[] #[(.pointer (some ⟨b1_0, f1_0, none⟩))]), (5, .int .i64 a5543), (6, .int .i64 (wrap64 (a5544 + 1)))]) (Nat.lt_succ_self _) ⟨_, _, _, ho5531, rfl, HM⟩ (Sub.cons rfl (Sub.cons rfl (Sub.cons rfl (Sub.cons rfl Sub.nil))))
      · replace ho5531 := cond_f hb5556 ho5531
        refine run_exit ?_
        refine at_then_exit ?_
        refine at_then_exit ?_
        refine at_block_exit ?_
        exact at_mid (ρ' := [(0, p0), (5, .int .i64 a5543)]) ⟨_, _, (Option.some.inj ho5531), rfl, HM⟩ (Sub.cons rfl (Sub.cons rfl Sub.nil))
    · rintro _ w5569 ⟨a5527, a5529, rfl, rfl, HM⟩
      replace H := cur2_mk H
      refine run_seq ?_
      obtain ⟨e5570, H⟩ := chk_some H
      refine run_region rfl ?_
      refine ox rfl rfl rfl rfl (ex_move rfl rfl) ?_
      refine ox rfl rfl rfl rfl (ex_move rfl rfl) ?_
      refine ox rfl rfl rfl rfl (ex_cutvL rfl rfl rfl Tryz.underlying29 tsz72 (HM.own_rd 0 rfl) e5570) ?_
      have hcp5571 := HM.capI e5570
      refine ops_doesN rfl (guard_none rfl) rfl (does_clearL kCoinH rfl rfl Tryz.underlying29 tsz72 tz72 rfl rfl (onesC rfl (onesC rfl (onesC rfl (onesC rfl (onesC rfl (onesC rfl (onesC rfl (onesC rfl onesN)))))))) e5570 HM) ?_
      rintro _ w5572 HM
      refine ops_nil (at_then (run_seq ?_))
      refine run_region rfl ?_
      refine ox rfl rfl rfl rfl (ex_move rfl rfl) ?_
      refine ox rfl rfl rfl rfl (ex_move rfl rfl) ?_
      refine ox rfl rfl rfl rfl (ex_cutvH rfl rfl rfl Tryz.underlying29 tsz72 (cut_lo e5570) hcp5571) ?_
      refine ox rfl rfl rfl rfl (ex_assign rfl rfl) ?_
      refine ops_nil (at_then ?_)
      refine run_ret ?_
      have hR := Option.some.inj H
      subst hR
      exact at_ret1 rfl rfl ⟨_, rfl, _, rfl, HM⟩

def slices_DeleteFunc_Coin_v2_p (x1_0 : Int) (c : CoinH) : Bool := !((impl_undoTx_2_h.f 0 c x1_0).getD false)
theorem slices_DeleteFunc_Coin_v2_loop (xs : List CoinH) (x1_0 : Int) (h0 : xs.length ≤ 1048576) : ∀ (d j i : Nat) (s : List CoinH), j + d = xs.length → i ≤ j → s.length = xs.length → s.drop j = xs.drop j →
    ∃ (s' : List CoinH) (i' : Nat), Evt (fun k => slices_DeleteFunc_impl_Coin_h_v2.l0 x1_0 k s (i : Int) (j : Int)) (s', (i' : Int)) ∧ s'.length = xs.length ∧ i' ≤ xs.length ∧ s'.take i' = s.take i ++ (xs.drop j).filter (slices_DeleteFunc_Coin_v2_p x1_0)
  | 0, j, i, s, hd, hij, hs, hdr => by
    refine ⟨s, i, Evt.s ?_, hs, by omega, ?_⟩
    · simp only [slices_DeleteFunc_impl_Coin_h_v2.l0_s]
      exact Evt.f (decide_eq_false (by omega)) (Evt.self _)
    · rw [List.drop_of_length_le (by omega), List.filter_nil, List.append_nil]
  | d + 1, j, i, s, hd, hij, hs, hdr => by
    have hj : j < xs.length := by omega
    have hjs : j < s.length := by omega
    have e0 : xs.drop j = gt s (j : Int) :: xs.drop (j + 1) := by
      rw [← hdr, gt_eq (by simpa using hjs)]
      simp only [Int.toNat_natCast]
      rw [List.drop_eq_getElem_cons hjs]
      congr 1
      have := congrArg (List.drop 1) hdr
      rw [List.drop_drop, List.drop_drop] at this
      exact this
    have hdr1 : s.drop (j + 1) = xs.drop (j + 1) := by
      have := congrArg (List.drop 1) hdr
      rw [List.drop_drop, List.drop_drop] at this
      exact this
    have ew : wrap64 ((j : Int) + 1) = ((j + 1 : Nat) : Int) := by rw [wrap64_in _ (by omega)]; omega
    have ewi : wrap64 ((i : Int) + 1) = ((i + 1 : Nat) : Int) := by rw [wrap64_in _ (by omega)]; omega
    have ea : Evt (fun k => impl_undoTx_2_h.f k (gt s (j : Int)) x1_0) ((impl_undoTx_2_h.f 0 (gt s (j : Int)) x1_0).getD false) := Evt.self _
    cases hm : (impl_undoTx_2_h.f 0 (gt s (j : Int)) x1_0).getD false
    · have hk : slices_DeleteFunc_Coin_v2_p x1_0 (gt s (j : Int)) = true := by unfold slices_DeleteFunc_Coin_v2_p; rw [hm]; rfl
      obtain ⟨s', i', e, r1, r2, r3⟩ := slices_DeleteFunc_Coin_v2_loop xs x1_0 h0 d (j + 1) (i + 1) (s.set i (gt s (j : Int))) (by omega) (by omega) (by rw [List.length_set]; exact hs) (by rw [List.drop_set_of_lt (by omega)]; exact hdr1)
      refine ⟨s', i', Evt.s ?_, r1, r2, ?_⟩
      · simp only [slices_DeleteFunc_impl_Coin_h_v2.l0_s, ew, ewi, Int.toNat_natCast]
        rw [hm] at ea
        exact Evt.t (int_lt hjs) (Evt.chk (idx_ok hjs) (Evt.bind ea (Evt.t rfl (Evt.chk (idx_ok (by omega)) e))))
      · rw [r3, e0, List.filter_cons_of_pos hk, List.take_add_one, List.take_set_of_le (Nat.le_refl _), List.getElem?_set_self (by omega)]
        simp
    · have hk : ¬ slices_DeleteFunc_Coin_v2_p x1_0 (gt s (j : Int)) = true := by unfold slices_DeleteFunc_Coin_v2_p; rw [hm]; exact Bool.false_ne_true
      obtain ⟨s', i', e, r1, r2, r3⟩ := slices_DeleteFunc_Coin_v2_loop xs x1_0 h0 d (j + 1) i s (by omega) (by omega) hs hdr1
      refine ⟨s', i', Evt.s ?_, r1, r2, ?_⟩
      · simp only [slices_DeleteFunc_impl_Coin_h_v2.l0_s, ew]
        rw [hm] at ea
        exact Evt.t (int_lt hjs) (Evt.chk (idx_ok hjs) (Evt.bind ea (Evt.f rfl e)))
      · rw [r3, e0, List.filter_cons_of_neg hk]
theorem slices_DeleteFunc_Coin_v2_idx (xs : List CoinH) (x1_0 : Int) (h0 : xs.length ≤ 1048576) : ∀ (d i : Nat), i + d = xs.length → (∀ j : Nat, j < i → (impl_undoTx_2_h.f 0 (gt xs (j : Int)) x1_0).getD false = false) →
    (Evt (fun k => slices_IndexFunc_impl_Coin_h_v2.l0 xs x1_0 k (i : Int)) (.inr ()) ∧ ∀ j : Nat, j < xs.length → (impl_undoTx_2_h.f 0 (gt xs (j : Int)) x1_0).getD false = false) ∨
    ∃ m : Nat, Evt (fun k => slices_IndexFunc_impl_Coin_h_v2.l0 xs x1_0 k (i : Int)) (.inl (m : Int)) ∧ m < xs.length ∧ (impl_undoTx_2_h.f 0 (gt xs (m : Int)) x1_0).getD false = true ∧ ∀ j : Nat, j < m → (impl_undoTx_2_h.f 0 (gt xs (j : Int)) x1_0).getD false = false
  | 0, i, hd, hb => by
    refine .inl ⟨Evt.s ?_, fun j hj => hb j (by omega)⟩
    simp only [slices_IndexFunc_impl_Coin_h_v2.l0_s]
    exact Evt.f (ge_lt (by omega)) (Evt.self _)
  | d + 1, i, hd, hb => by
    have hi : i < xs.length := by omega
    have ew : wrap64 ((i : Int) + 1) = ((i + 1 : Nat) : Int) := by rw [wrap64_in _ (by omega)]; omega
    have ea : Evt (fun k => impl_undoTx_2_h.f k (gt xs (i : Int)) x1_0) ((impl_undoTx_2_h.f 0 (gt xs (i : Int)) x1_0).getD false) := Evt.self _
    cases hm : (impl_undoTx_2_h.f 0 (gt xs (i : Int)) x1_0).getD false
    · rw [hm] at ea
      have hb' : ∀ j : Nat, j < i + 1 → (impl_undoTx_2_h.f 0 (gt xs (j : Int)) x1_0).getD false = false := fun j hj => by
        rcases Nat.lt_or_eq_of_le (Nat.le_of_lt_succ hj) with h | rfl
        · exact hb j h
        · exact hm
      have st : ∀ o, Evt (fun k => slices_IndexFunc_impl_Coin_h_v2.l0 xs x1_0 k ((i + 1 : Nat) : Int)) o → Evt (fun k => slices_IndexFunc_impl_Coin_h_v2.l0 xs x1_0 k (i : Int)) o := fun o e => by
        refine Evt.s ?_
        simp only [slices_IndexFunc_impl_Coin_h_v2.l0_s, ew]
        exact Evt.t (int_lt hi) (Evt.chk (idx_ok hi) (Evt.bind ea (Evt.f rfl e)))
      rcases slices_DeleteFunc_Coin_v2_idx xs x1_0 h0 d (i + 1) (by omega) hb' with ⟨e, h⟩ | ⟨m, e, h1, h2, h3⟩
      · exact .inl ⟨st _ e, h⟩
      · exact .inr ⟨m, st _ e, h1, h2, h3⟩
    · rw [hm] at ea
      refine .inr ⟨i, Evt.s ?_, hi, hm, hb⟩
      simp only [slices_IndexFunc_impl_Coin_h_v2.l0_s]
      exact Evt.t (int_lt hi) (Evt.chk (idx_ok hi) (Evt.bind ea (Evt.t rfl (Evt.self _))))
theorem slices_DeleteFunc_Coin_v2_run (xs : List CoinH) (x1_0 : Int) (h0 : xs.length ≤ 1048576) : ∃ k, slices_DeleteFunc_impl_Coin_h_v2.f k xs x1_0 = some (xs.filter (slices_DeleteFunc_Coin_v2_p x1_0)) := by
  refine Evt.get ?_
  rcases slices_DeleteFunc_Coin_v2_idx xs x1_0 h0 xs.length 0 (by omega) (fun j hj => by omega) with ⟨e, h⟩ | ⟨i, e, hi, hp, hq⟩
  · have ef : (xs.filter (slices_DeleteFunc_Coin_v2_p x1_0)) = xs := by
      rw [List.filter_eq_self]
      intro m hm
      obtain ⟨i, hi, rfl⟩ := List.getElem_of_mem hm
      have := h i hi
      rw [gt_eq (by simpa using hi)] at this
      simp only [Int.toNat_natCast] at this
      unfold slices_DeleteFunc_Coin_v2_p
      rw [this]; rfl
    rw [ef]
    exact Evt.bind (Evt.bind e (Evt.self (-1))) (Evt.t rfl (Evt.self _))
  · have ewi : wrap64 ((i : Int) + 1) = ((i + 1 : Nat) : Int) := by rw [wrap64_in _ (by omega)]; omega
    obtain ⟨s', i', e2, r1, r2, r3⟩ := slices_DeleteFunc_Coin_v2_loop xs x1_0 h0 (xs.length - (i + 1)) (i + 1) i xs (by omega) (by omega) rfl rfl
    have ef : (xs.filter (slices_DeleteFunc_Coin_v2_p x1_0)) = s'.take i' := by
      rw [r3]
      have e1 : xs = xs.take i ++ (gt xs (i : Int) :: xs.drop (i + 1)) := by
        rw [gt_eq (by simpa using hi)]
        simp only [Int.toNat_natCast]
        rw [← List.drop_eq_getElem_cons hi, List.take_append_drop]
      have hk : ¬ slices_DeleteFunc_Coin_v2_p x1_0 (gt xs (i : Int)) = true := by unfold slices_DeleteFunc_Coin_v2_p; rw [hp]; exact Bool.false_ne_true
      have e2 : (xs.take i).filter (slices_DeleteFunc_Coin_v2_p x1_0) = xs.take i := by
        rw [List.filter_eq_self]
        intro m hm
        rw [List.mem_take_iff_getElem] at hm
        obtain ⟨j, hj, rfl⟩ := hm
        have := hq j (by omega)
        rw [gt_eq (by simp; omega)] at this
        simp only [Int.toNat_natCast] at this
        unfold slices_DeleteFunc_Coin_v2_p
        rw [this]; rfl
      conv => lhs; rw [e1, List.filter_append, List.filter_cons_of_neg hk, e2]
    rw [ef]
    have hne : ((i : Int) == -1) = false := beq_false_of_ne (by omega)
    refine Evt.bind (Evt.bind e (Evt.self (i : Int))) (Evt.f hne ?_)
    rw [ewi]
    refine Evt.bind e2 ?_
    show Evt (fun k => chk (cutOk (i' : Int) s'.length) (some (s'.take ((i' : Int)).toNat))) _
    exact Evt.chk (by unfold cutOk; simp; omega) (by simp only [Int.toNat_natCast]; exact Evt.self _)
def slices_DeleteFunc_Coin_v2.f (k : Nat) (x0 : List Coin) (x1_0 : Int) : Option (List Coin) := chk (leB x0.length 1048576) (some (x0.filter fun c => !((impl_undoTx_2_h.f 0 (coinH c (none, 0, 0)) x1_0).getD false)))
theorem slices_DeleteFunc_Coin_v2.calls {k : Nat} {x0 : List Coin} {x1_0 : Int} {p0 : Value} {b1_0 f1_0 : Nat} {w wo : World} {X : List Nat} {d : Kd Coin} (hwo : Olds wo w X) (hX : Hold w [own d 72 p0 x0] X) (hXn : X.Nodup) (hXl : ∀ b ∈ X, b < w.heap.size) (hc1_0 : CellsAt wo b1_0 f1_0 [.int .i64 x1_0]) (hd : CoinK d) {r : List Coin} (H : slices_DeleteFunc_Coin_v2.f k x0 x1_0 = some r) :
    Calls Tryz.prog 68 ([p0, .func (.func 70) #[] #[(.pointer (some ⟨b1_0, f1_0, none⟩))]] : List Value).toArray w (fun e w_ => ∃ v, e = .returned v ∧ ∃ u0 : Value, v = u0 ∧ Mem w X w_ [own d 72 u0 r]) := by
  obtain ⟨h, H⟩ := chk_some H
  have hR := Option.some.inj H
  subst hR
  obtain ⟨hs, b, hlen, h2, h3, h4, h5, h6⟩ := kept_own (enc := fun (x : CoinH) => ([.int .i64 x.fRef.fTx, .int .i64 x.fRef.fAt, .int .i64 x.fOut.fValue, .slice x.fOut.fRule.fKeys.1 x.fOut.fRule.fKeys.2.1 x.fOut.fRule.fKeys.2.2, .int .i64 x.fOut.fRule.fNeed, .int .i64 x.fOut.fRule.fAfter, .int .i64 x.fHeight, .bool x.fMined] : List Value)) hd.1 (hl := fun _ => rfl) (h1 := kCoinH_one) (R := fun s x => ∃ h, s = coinH x h) (fun w x c f ho => let ⟨h, e⟩ := hd.2 w x c f ho; ⟨coinH x h, e, h, rfl⟩)
    (p := fun c => !((impl_undoTx_2_h.f 0 (coinH c (none, 0, 0)) x1_0).getD false)) (ph := slices_DeleteFunc_Coin_v2_p x1_0) (fun s x ⟨h, e⟩ => by subst e; rfl) hwo hX hXn hXl
  obtain ⟨k', hk⟩ := slices_DeleteFunc_Coin_v2_run hs x1_0 (by rw [hlen]; exact leB_le h)
  exact (slices_DeleteFunc_impl_Coin_h_v2.calls (x1_0 := x1_0) h5 h2 h3 h4 hc1_0 hk).mono fun e w_ ⟨v, he, u0, hv, hm⟩ => ⟨v, he, u0, hv, h6 _ _ hm⟩

def impl_sorted_1.f (k : Nat) (x0 : Coin) (x1 : Coin) : Option Int := ((impl_compareRefs.f k x0.fRef x1.fRef).bind fun t6078 => some t6078)
theorem impl_sorted_1.calls {k : Nat} {x0 : Coin} {x1 : Coin} {p0_0 : Value} {p1_0 : Value} {w : World} (hp0_0 : IsSl p0_0) (hp1_0 : IsSl p1_0) {r : Int} (H : impl_sorted_1.f k x0 x1 = some r) :
    Calls Tryz.prog 96 ([.agg #[(.int .i64 x0.fRef.fTx), (.int .i64 x0.fRef.fAt), (.int .i64 x0.fOut.fValue), p0_0, (.int .i64 x0.fOut.fRule.fNeed), (.int .i64 x0.fOut.fRule.fAfter), (.int .i64 x0.fHeight), (.bool x0.fMined)], .agg #[(.int .i64 x1.fRef.fTx), (.int .i64 x1.fRef.fAt), (.int .i64 x1.fOut.fValue), p1_0, (.int .i64 x1.fOut.fRule.fNeed), (.int .i64 x1.fOut.fRule.fAfter), (.int .i64 x1.fHeight), (.bool x1.fMined)]] : List Value).toArray w (fun e w_ => ∃ v, e = .returned v ∧ v = (.int .i64 r) ∧ Mem w [] w_ []) := by
  have HM := Mem.start w
  refine calls_run (N := 10) Tryz.func96 rfl rfl rfl rfl ?_
  unfold impl_sorted_1.f at H
  refine run_seq ?_
  refine run_region rfl ?_
  refine od rfl rfl rfl rfl (does_box (cs := [.int .i64 x0.fRef.fTx, .int .i64 x0.fRef.fAt, .int .i64 x0.fOut.fValue, p0_0, .int .i64 x0.fOut.fRule.fNeed, .int .i64 x0.fOut.fRule.fAfter, .int .i64 x0.fHeight, .bool x0.fMined]) rfl rfl rfl HM) ?_
  rintro _ w6076 ⟨b6070, rfl, HM⟩
  refine od rfl rfl rfl rfl (does_box (cs := [.int .i64 x1.fRef.fTx, .int .i64 x1.fRef.fAt, .int .i64 x1.fOut.fValue, p1_0, .int .i64 x1.fOut.fRule.fNeed, .int .i64 x1.fOut.fRule.fAfter, .int .i64 x1.fHeight, .bool x1.fMined]) rfl rfl rfl HM) ?_
  rintro _ w6077 ⟨b6073, rfl, HM⟩
  refine ox rfl rfl rfl rfl (ex_assign rfl rfl) ?_
  refine ops_nil (at_then (run_seq ?_))
  obtain ⟨t6078, h6079, H⟩ := bind_some H
  refine run_region rfl ?_
  refine ox rfl rfl rfl rfl (ex_fieldAddr (off' := 0) rfl rfl Tryz.underlying72 rfl tsz66 rfl) ?_
  refine ox rfl rfl rfl rfl (ex_loadN (cs := [(.int .i64 x0.fRef.fTx), (.int .i64 x0.fRef.fAt)]) rfl rfl Tryz.underlying66 rfl tsz66 rfl ((HM.box_at 1 rfl).sub 0 2 rfl)) ?_
  refine ox rfl rfl rfl rfl (ex_fieldAddr (off' := 0) rfl rfl Tryz.underlying72 rfl tsz66 rfl) ?_
  refine ox rfl rfl rfl rfl (ex_loadN (cs := [(.int .i64 x1.fRef.fTx), (.int .i64 x1.fRef.fAt)]) rfl rfl Tryz.underlying66 rfl tsz66 rfl ((HM.box_at 0 rfl).sub 0 2 rfl)) ?_
  refine od rfl rfl rfl rfl (does_callk rfl callok57 rfl (impl_compareRefs.calls (x0 := x0.fRef) (x1 := x1.fRef) h6079)) ?_
  rintro _ w6080 ⟨rfl, hn⟩
  replace HM : Mem w [] w6080 [box b6073 72 [.int .i64 x1.fRef.fTx, .int .i64 x1.fRef.fAt, .int .i64 x1.fOut.fValue, p1_0, .int .i64 x1.fOut.fRule.fNeed, .int .i64 x1.fOut.fRule.fAfter, .int .i64 x1.fHeight, .bool x1.fMined], box b6070 72 [.int .i64 x0.fRef.fTx, .int .i64 x0.fRef.fAt, .int .i64 x0.fOut.fValue, p0_0, .int .i64 x0.fOut.fRule.fNeed, .int .i64 x0.fOut.fRule.fAfter, .int .i64 x0.fHeight, .bool x0.fMined]] := HM.call hn
  refine ox rfl rfl rfl rfl (ex_assign rfl rfl) ?_
  refine ops_nil (at_then ?_)
  refine run_ret ?_
  replace HM := (HM.front 0 rfl rfl).drop
  replace HM := (HM.front 0 rfl rfl).drop
  have hR := Option.some.inj H
  subst hR
  exact at_ret1 rfl rfl ⟨_, rfl, rfl, HM⟩

def srtI (x y : Int) : Int := bif decide (x < y) then -1 else bif decide (y < x) then 1 else 0
def srtC (a b : Ref) : Int := bif srtI a.fTx b.fTx != 0 then srtI a.fTx b.fTx else srtI a.fAt b.fAt
theorem srtI_run (x y : Int) : cmp_Compare_int64.f 3 x y = some (srtI x y) := by
  have e : ∀ z : Int, (z != z) = false := fun z => by simp
  unfold cmp_Compare_int64.f cmp_isNaN_int64.f srtI
  simp only [Option.bind_some, e, cond_false]
  cases decide (x < y) <;> cases decide (y < x) <;> rfl
theorem srtO_run (p q : Int) : cmp_Or_int.f 3 [p, q] = some (bif p != 0 then p else q) := by
  have e0 : gt [p, q] (0 : Int) = p := rfl
  have e1 : gt [p, q] (1 : Int) = q := rfl
  have w0 : wrap64 ((0 : Int) + 1) = 1 := by rw [wrap64_in _ (by omega)]; rfl
  have w1 : wrap64 ((1 : Int) + 1) = 2 := by rw [wrap64_in _ (by omega)]; rfl
  have c0 : decide ((0 : Int) < (([p, q] : List Int).length : Int)) = true := rfl
  have c1 : decide ((1 : Int) < (([p, q] : List Int).length : Int)) = true := rfl
  have c2 : decide ((2 : Int) < (([p, q] : List Int).length : Int)) = false := rfl
  have k0 : idxOk (0 : Int) ([p, q] : List Int).length = true := rfl
  have k1 : idxOk (1 : Int) ([p, q] : List Int).length = true := rfl
  unfold cmp_Or_int.f
  rw [cmp_Or_int.l0_s, c0, cond_true, k0, e0, w0]
  unfold chk
  simp only [cond_true]
  cases hp : p != 0
  · rw [cond_false, cmp_Or_int.l0_s, c1, cond_true, k1, e1, w1]
    unfold chk
    simp only [cond_true, cond_false]
    cases hq : q != 0
    · rw [cond_false, cmp_Or_int.l0_s, c2]
      have : q = 0 := by simpa using hq
      subst this; rfl
    · rfl
  · rfl
theorem srt_run (a b : Coin) : impl_sorted_1.f 3 a b = some (srtC a.fRef b.fRef) := by
  unfold impl_sorted_1.f impl_compareRefs.f
  simp only [srtI_run, Option.bind_some, srtO_run]
  rfl
theorem srtI_lt {x y : Int} : srtI x y < 0 ↔ x < y := by
  unfold srtI
  by_cases h : x < y
  · simp [h]
  · by_cases h2 : y < x <;> simp [h, h2]
theorem srtI_0 {x y : Int} : srtI x y = 0 ↔ x = y := by
  unfold srtI
  by_cases h : x < y
  · simp [h]; omega
  · by_cases h2 : y < x
    · simp [h, h2]; omega
    · simp [h, h2]; omega
theorem srtC_lt {a b : Ref} : srtC a b < 0 ↔ a.fTx < b.fTx ∨ a.fTx = b.fTx ∧ a.fAt < b.fAt := by
  unfold srtC
  cases h : srtI a.fTx b.fTx != 0
  · have h0 : srtI a.fTx b.fTx = 0 := by simpa using h
    have h1 := srtI_0.1 h0
    rw [cond_false, srtI_lt]; omega
  · have h0 : srtI a.fTx b.fTx ≠ 0 := by simpa using h
    have h1 : a.fTx ≠ b.fTx := fun e => h0 (srtI_0.2 e)
    rw [cond_true, srtI_lt]; omega
/-- A coin with its row's place. -/
abbrev SrtT := Coin × (Option Addr × Nat × Nat)
def srtEnc (s : SrtT) : List Value := [.int .i64 s.1.fRef.fTx, .int .i64 s.1.fRef.fAt, .int .i64 s.1.fOut.fValue, .slice s.2.1 s.2.2.1 s.2.2.2, .int .i64 s.1.fOut.fRule.fNeed, .int .i64 s.1.fOut.fRule.fAfter, .int .i64 s.1.fHeight, .bool s.1.fMined]
theorem srt_swo : Go.Sort.SWO (ltOf fun x y : SrtT => srtC x.1.fRef y.1.fRef) where
  irrefl x := by
    show decide _ = false
    rw [decide_eq_false_iff_not, srtC_lt]; omega
  trans x y z h1 h2 := by
    have h1' := srtC_lt.1 (of_decide_eq_true h1)
    have h2' := srtC_lt.1 (of_decide_eq_true h2)
    show decide _ = true
    rw [decide_eq_true_eq, srtC_lt]; omega
  ntrans x y z h1 h2 := by
    have h1' : ¬ srtC x.1.fRef y.1.fRef < 0 := of_decide_eq_false h1
    have h2' : ¬ srtC y.1.fRef z.1.fRef < 0 := of_decide_eq_false h2
    rw [srtC_lt] at h1' h2'
    show decide _ = false
    rw [decide_eq_false_iff_not, srtC_lt]; omega
def refLe (a b : Coin) : Bool := decide (a.fRef.fTx < b.fRef.fTx) || (decide (a.fRef.fTx = b.fRef.fTx) && decide (a.fRef.fAt ≤ b.fRef.fAt))
theorem refLe_iff {a b : Coin} : refLe a b = true ↔ a.fRef.fTx < b.fRef.fTx ∨ a.fRef.fTx = b.fRef.fTx ∧ a.fRef.fAt ≤ b.fRef.fAt := by
  unfold refLe
  rw [Bool.or_eq_true, Bool.and_eq_true, decide_eq_true_eq, decide_eq_true_eq, decide_eq_true_eq]
theorem refLe_not {a b : Coin} : ltOf (fun x y : Coin => srtC x.fRef y.fRef) b a = false → refLe a b = true := fun h => by
  have h1 : ¬ srtC b.fRef a.fRef < 0 := of_decide_eq_false h
  rw [srtC_lt] at h1
  rw [refLe_iff]; omega
def refKey (c : Coin) : Int × Int := (c.fRef.fTx, c.fRef.fAt)
theorem key_inj : ∀ {xs : List Coin}, (xs.map refKey).Nodup → ∀ a ∈ xs, ∀ b ∈ xs, refKey a = refKey b → a = b
  | [], _, a, ha, _, _, _ => by simp at ha
  | x :: xs, h, a, ha, b, hb, e => by
    rw [List.map_cons, List.nodup_cons] at h
    rcases List.mem_cons.1 ha with ha | ha <;> rcases List.mem_cons.1 hb with hb | hb
    · rw [ha, hb]
    · exact absurd (List.mem_map.2 ⟨b, hb, by rw [← e, ha]⟩) h.1
    · exact absurd (List.mem_map.2 ⟨a, ha, by rw [e, hb]⟩) h.1
    · exact key_inj h.2 a ha b hb e
theorem sorted_uniq {α : Type} {le : α → α → Bool} : ∀ {l m : List α}, l.Perm m → l.Pairwise (fun a b => le a b = true) → m.Pairwise (fun a b => le a b = true) → (∀ a ∈ l, ∀ b ∈ l, le a b = true → le b a = true → a = b) → l = m
  | [], m, h, _, _, _ => (List.nil_perm.1 h).symm
  | a :: l, [], h, _, _, _ => by have := h.length_eq; simp at this
  | a :: l, b :: m, h, h1, h2, h3 => by
    rw [List.pairwise_cons] at h1 h2
    have hb : b ∈ a :: l := h.mem_iff.2 (by simp)
    have ha : a ∈ b :: m := h.mem_iff.1 (by simp)
    have e : a = b := by
      rcases List.mem_cons.1 hb with e | hb'
      · exact e.symm
      · rcases List.mem_cons.1 ha with e | ha'
        · exact e
        · exact h3 a (by simp) b hb (h1.1 b hb') (h2.1 a ha')
    subst e
    rw [sorted_uniq ((List.perm_cons a).1 h) h1.2 h2.2 (fun x hx y hy => h3 x (by simp [hx]) y (by simp [hy]))]
def slices_SortFunc_Coin.f (k : Nat) (x0 : List Coin) : Option (List Coin) := chk (leB x0.length 1000000 && decide ((x0.map refKey).Nodup)) (some (x0.mergeSort refLe))
theorem slices_SortFunc_Coin.calls {k : Nat} {x0 : List Coin} {p0 : Value} {w wo : World} {X : List Nat} (hwo : Olds wo w X) (hX : Hold w [own kCoin 72 p0 x0] X) (hXn : X.Nodup) (hXl : ∀ b ∈ X, b < w.heap.size) {r : List Coin} (H : slices_SortFunc_Coin.f k x0 = some r) :
    Calls Tryz.prog 95 ([p0, .func (.func 96) #[] #[]] : List Value).toArray w (fun e w_ => ∃ v, e = .returned v ∧ v = (.tuple #[]) ∧ Mem w X w_ [own kCoin 72 p0 r]) := by
  obtain ⟨h, H⟩ := chk_some H
  have hR := Option.some.inj H
  subst hR
  rw [Bool.and_eq_true, decide_eq_true_eq] at h
  have hlen := leB_le h.1
  have eg : ∀ args w, (callFunc 96 args).run Tryz.prog w = .ok (.enter 96 args) w := enters_of Tryz.func96 (by kernel_rfl) rfl
  have aE : ∀ w, (isAgg 72).run Tryz.prog w = .ok true w := fun w => by simp [isAgg, run_underlying Tryz.underlying72]
  have zE : ∀ w, (Go.sizeOf 72).run Tryz.prog w = .ok 8 w := fun w => run_sizeOf tsz72
  have hk : ∀ x : SrtT, (srtEnc x).length = 8 := fun _ => rfl
  have h1 : ∀ x : SrtT, ∀ v ∈ srtEnc x, v.oneCell' = true := fun x v hv => by
    simp only [srtEnc, List.mem_cons, List.not_mem_nil, or_false] at hv
    rcases hv with rfl | rfl | rfl | rfl | rfl | rfl | rfl | rfl <;> rfl
  refine (sort_own (d := kCoin) (enc := srtEnc) hk h1 (by decide) (cf := fun x y : SrtT => srtC x.1.fRef y.1.fRef) (fun s x => s.1 = x) ?_
    (fun blk cap dd w hc hH hb hs => AnyQ.slices_SortFunc Tryz.sortCoin 8 aE zE srtEnc hk h1 _ srt_swo 96 #[] blk 0 cap dd w eg hc hH hb hs)
    (fun p cap w => AnyF.slices_SortFunc_none { Tryz.sortCoin with } p cap _ w) (fun W x y => ?_) hX hXn hXl (by omega)).mono fun e w' ⟨he, ys, hp, ⟨ps, q1, q2, q3⟩, hm⟩ => ⟨_, he, rfl, ?_⟩
  · rintro w x c f ⟨v, hv, ⟨cells, b, fs, hrow, _⟩⟩
    subst hv
    rcases hrow with ⟨A, rfl, _⟩ | ⟨g0, c0, cur, rfl, _⟩
    · exact ⟨(x, (A, 0, 0)), rfl, rfl⟩
    · exact ⟨(x, (some ⟨g0, 0, none⟩, _, c0)), rfl, rfl⟩
  · exact (impl_sorted_1.calls (w := W) (p0_0 := .slice x.2.1 x.2.2.1 x.2.2.2) (p1_0 := .slice y.2.1 y.2.2.1 y.2.2.2) ⟨_, _, _, rfl⟩ ⟨_, _, _, rfl⟩ (srt_run x.1 y.1)).mono fun e w' ⟨v, he, hv, hm⟩ => ⟨by rw [he, hv], fr_grow trivial hm.fr⟩
  · have hys : ys.Pairwise (fun a b => refLe a b = true) := by
      rw [← q1, List.pairwise_map]
      rw [List.pairwise_map] at q3
      refine q3.imp_of_mem fun {a b} ha hb hab => ?_
      rw [← q2 a ha, ← q2 b hb]
      exact refLe_not hab
    have hms : (x0.mergeSort refLe).Pairwise (fun a b => refLe a b = true) := List.pairwise_mergeSort (fun a b c h1 h2 => by rw [refLe_iff] at *; omega) (fun a b => by
      rw [Bool.or_eq_true, refLe_iff, refLe_iff]; omega) x0
    have e : ys = x0.mergeSort refLe := sorted_uniq (hp.trans (List.mergeSort_perm x0 refLe).symm) hys hms (fun a ha b hb h1 h2 => by
      refine key_inj h.2 a (hp.mem_iff.1 ha) b (hp.mem_iff.1 hb) ?_
      rw [refLe_iff] at h1 h2
      have e1 : a.fRef.fTx = b.fRef.fTx := by omega
      have e2 : a.fRef.fAt = b.fRef.fAt := by omega
      unfold refKey
      rw [e1, e2])
    rw [← e]; exact hm


def impl_sorted.f (k : Nat) (x0 : List Coin) : Option ((List Coin)) := ((slices_SortFunc_Coin.f k x0).bind fun t6092 => some t6092)
theorem impl_sorted.calls {k : Nat} {x0 : List Coin} {p0 : Value} {w wo : World} {X : List Nat} (hwo : Olds wo w X) (hX : Hold w [own kCoin 72 p0 x0] X) (hXn : X.Nodup) (hXl : ∀ b ∈ X, b < w.heap.size)  {r : (List Coin)} (H : impl_sorted.f k x0 = some r) :
    Calls Tryz.prog 71 ([p0] : List Value).toArray w (fun e w_ => ∃ v, e = .returned v ∧ ∃ u0 : Value, v = u0 ∧ Mem w X w_ [own kCoin 72 u0 r]) := by
  have HM := Mem.startX hX hXn hXl
  refine calls_run (N := 6) Tryz.func71 rfl rfl rfl rfl ?_
  unfold impl_sorted.f at H
  refine run_seq ?_
  refine run_region rfl ?_
  refine ox rfl rfl rfl rfl (ex_assign rfl rfl) ?_
  refine ops_nil (at_then (run_seq ?_))
  obtain ⟨t6092, h6093, H⟩ := bind_some H
  refine run_region rfl ?_
  refine ox rfl rfl rfl rfl (ex_move rfl rfl) ?_
  obtain ⟨F6094, hF6095, hFn6096, hFl6097, HMh6098, hcl6099⟩ := HM.hide (Ms := [own kCoin 72 p0 x0])
  refine od rfl rfl rfl rfl (does_callk rfl callok95 rfl (slices_SortFunc_Coin.calls (x0 := x0) (hide_olds _ _) hF6095 hFn6096 hFl6097 h6093)) ?_
  rintro _ w6100 ⟨rfl, hn⟩
  replace HM : Mem w X w6100 [own kCoin 72 p0 t6092] := hcl6099 _ _ hn
  refine ops_nil (at_then (run_seq ?_))
  refine run_region rfl ?_
  refine ox rfl rfl rfl rfl (ex_move rfl rfl) ?_
  refine ox rfl rfl rfl rfl (ex_assign rfl rfl) ?_
  refine ops_nil (at_then ?_)
  refine run_ret ?_
  have hR := Option.some.inj H
  subst hR
  exact at_ret1 rfl rfl ⟨_, rfl, _, rfl, HM⟩

def impl_undoTx.f (k : Nat) (x0 : List Coin) (x1 : Tx) (x2 : Int) (x3 : List Coin) : Option ((List Coin) × Int) := ((impl_isId.f k x2).bind fun t6136 => (bif !t6136 then some (([] : List Coin), 3) else ((impl_areOf.f k x3 x1.fIns).bind fun t6141 => (bif !t6141 then some (([] : List Coin), 1) else ((impl_areMade.f k x0 x2 x1.fOuts).bind fun t6146 => (bif !t6146 then some (([] : List Coin), 4) else ((slices_ContainsFunc_impl_Ref.f k x1.fIns x0).bind fun t6151 => (bif t6151 then some (([] : List Coin), 7) else ((impl_ownCoins.f k x0).bind fun t6156 => ((slices_DeleteFunc_Coin_v2.f k t6156 x2).bind fun t6160 => ((impl_ownCoins.f k x3).bind fun t6172 => (chk (leB ((t6160.length + t6172.length) * 80) 140737488355328) ((impl_sorted.f k (t6160 ++ t6172)).bind fun t6179 => (bif (decide (40 < (t6179.length : Int))) then some (([] : List Coin), 2) else some (t6179, 0)))))))))))))))
theorem impl_undoTx.calls {k : Nat} {x0 : List Coin} {x1 : Tx} {x2 : Int} {x3 : List Coin} {p0 : Value} {p1_0 : Value} {p1_1 : Value} {p3 : Value} {w : World} (hp0 : RdS kCoin w p0 x0) (hp1_0 : RdS kRef w p1_0 x1.fIns) (hp1_1 : RdS kOut w p1_1 x1.fOuts) (hp3 : RdS kCoin w p3 x3) {r : (List Coin) × Int} (H : impl_undoTx.f k x0 x1 x2 x3 = some r) :
    Calls Tryz.prog 32 ([p0, .agg #[(.int .i64 x1.fKind), (.int .i64 x1.fMember), p1_0, p1_1], .int .i64 x2, p3] : List Value).toArray w (fun e w_ => ∃ v, e = .returned v ∧ ∃ u0 : Value, v = (.tuple #[u0, .int .i64 r.2]) ∧ Mem w [] w_ [own kCoin 72 u0 r.1]) := by
  have HM := Mem.start w
  refine calls_run (N := 46) Tryz.func32 rfl rfl rfl rfl ?_
  unfold impl_undoTx.f at H
  refine run_seq ?_
  refine run_region rfl ?_
  refine od rfl rfl rfl rfl (does_box (cs := [p0]) rfl rfl (rd_cells hp0) HM) ?_
  rintro _ w6121 ⟨b6112, rfl, HM⟩
  refine od rfl rfl rfl rfl (does_box (cs := [.int .i64 x1.fKind, .int .i64 x1.fMember, p1_0, p1_1]) rfl rfl rfl HM) ?_
  rintro _ w6122 ⟨b6115, rfl, HM⟩
  refine od rfl rfl rfl rfl (does_box (cs := [.int .i64 x2]) rfl rfl rfl HM) ?_
  rintro _ w6123 ⟨b6118, rfl, HM⟩
  refine ox rfl rfl rfl rfl (ex_assign rfl rfl) ?_
  refine ox rfl rfl rfl rfl (ex_assign rfl rfl) ?_
  refine ops_nil (at_then (run_seq ?_))
  refine run_block ?_
  refine run_seq ?_
  obtain ⟨t6136, h6137, H⟩ := bind_some H
  refine run_region rfl ?_
  refine ox rfl rfl rfl rfl (ex_load1 rfl rfl Tryz.underlying2 rfl ((HM.box_at 0 rfl) 0 _ rfl)) ?_
  refine od rfl rfl rfl rfl (does_callk rfl callok62 rfl (impl_isId.calls (x0 := x2) h6137)) ?_
  rintro _ w6138 ⟨rfl, hn⟩
  replace HM : Mem w [] w6138 [box b6118 2 [.int .i64 x2], box b6115 37 [.int .i64 x1.fKind, .int .i64 x1.fMember, p1_0, p1_1], box b6112 29 [p0]] := HM.call hn
  refine ox rfl rfl rfl rfl (ex_not rfl rfl) ?_
  refine ox rfl rfl rfl rfl (ex_assign rfl rfl) ?_
  refine ops_nil (at_then ?_)
  refine run_cond (b := !t6136) rfl (fun hb6139 => ?_) (fun hb6139 => ?_)
  · replace H := cond_t hb6139 H
    refine run_seq ?_
    refine run_region rfl ?_
    refine ox rfl rfl rfl rfl (ex_assign rfl rfl) ?_
    refine ox rfl rfl rfl rfl (ex_assign rfl rfl) ?_
    refine ops_nil (at_then ?_)
    refine run_ret ?_
    refine at_block_ret ?_
    refine at_then_ret ?_
    replace HM := HM.empty kCoin 72 none
    replace HM := (HM.front 1 rfl rfl).drop
    replace HM := (HM.front 1 rfl rfl).drop
    replace HM := (HM.front 1 rfl rfl).drop
    have hR := Option.some.inj H
    subst hR
    exact at_ret2 rfl rfl rfl ⟨_, rfl, _, rfl, HM⟩
  · replace H := cond_f hb6139 H
    refine run_seq ?_
    obtain ⟨t6141, h6142, H⟩ := bind_some H
    refine run_region rfl ?_
    refine ox rfl rfl rfl rfl (ex_move rfl rfl) ?_
    refine ox rfl rfl rfl rfl (ex_fieldAddr (off' := 2) rfl rfl Tryz.underlying37 rfl tsz34 rfl) ?_
    refine ox rfl rfl rfl rfl (ex_load1 rfl rfl Tryz.underlying34 rfl ((HM.box_at 1 rfl) 2 _ rfl)) ?_
    refine od rfl rfl rfl rfl (does_callk rfl callok63 rfl (impl_areOf.calls (x0 := x3) (x1 := x1.fIns) (HM.rd hp3) (HM.rd hp1_0) h6142)) ?_
    rintro _ w6143 ⟨rfl, hn⟩
    replace HM : Mem w [] w6143 [box b6118 2 [.int .i64 x2], box b6115 37 [.int .i64 x1.fKind, .int .i64 x1.fMember, p1_0, p1_1], box b6112 29 [p0]] := HM.call hn
    refine ox rfl rfl rfl rfl (ex_not rfl rfl) ?_
    refine ox rfl rfl rfl rfl (ex_assign rfl rfl) ?_
    refine ops_nil (at_then ?_)
    refine run_cond (b := !t6141) rfl (fun hb6144 => ?_) (fun hb6144 => ?_)
    · replace H := cond_t hb6144 H
      refine run_seq ?_
      refine run_region rfl ?_
      refine ox rfl rfl rfl rfl (ex_assign rfl rfl) ?_
      refine ox rfl rfl rfl rfl (ex_assign rfl rfl) ?_
      refine ops_nil (at_then ?_)
      refine run_ret ?_
      refine at_block_ret ?_
      refine at_then_ret ?_
      replace HM := HM.empty kCoin 72 none
      replace HM := (HM.front 1 rfl rfl).drop
      replace HM := (HM.front 1 rfl rfl).drop
      replace HM := (HM.front 1 rfl rfl).drop
      have hR := Option.some.inj H
      subst hR
      exact at_ret2 rfl rfl rfl ⟨_, rfl, _, rfl, HM⟩
    · replace H := cond_f hb6144 H
      refine run_seq ?_
      obtain ⟨t6146, h6147, H⟩ := bind_some H
      refine run_region rfl ?_
      refine ox rfl rfl rfl rfl (ex_load1 rfl rfl Tryz.underlying29 rfl ((HM.box_at 2 rfl) 0 _ rfl)) ?_
      refine ox rfl rfl rfl rfl (ex_load1 rfl rfl Tryz.underlying2 rfl ((HM.box_at 0 rfl) 0 _ rfl)) ?_
      refine ox rfl rfl rfl rfl (ex_fieldAddr (off' := 3) rfl rfl Tryz.underlying37 rfl tsz35 rfl) ?_
      refine ox rfl rfl rfl rfl (ex_load1 rfl rfl Tryz.underlying35 rfl ((HM.box_at 1 rfl) 3 _ rfl)) ?_
      refine od rfl rfl rfl rfl (does_callk rfl callok64 rfl (impl_areMade.calls (x0 := x0) (x1 := x2) (x2 := x1.fOuts) (HM.rd hp0) (HM.rd hp1_1) h6147)) ?_
      rintro _ w6148 ⟨rfl, hn⟩
      replace HM : Mem w [] w6148 [box b6118 2 [.int .i64 x2], box b6115 37 [.int .i64 x1.fKind, .int .i64 x1.fMember, p1_0, p1_1], box b6112 29 [p0]] := HM.call hn
      refine ox rfl rfl rfl rfl (ex_not rfl rfl) ?_
      refine ox rfl rfl rfl rfl (ex_assign rfl rfl) ?_
      refine ops_nil (at_then ?_)
      refine run_cond (b := !t6146) rfl (fun hb6149 => ?_) (fun hb6149 => ?_)
      · replace H := cond_t hb6149 H
        refine run_seq ?_
        refine run_region rfl ?_
        refine ox rfl rfl rfl rfl (ex_assign rfl rfl) ?_
        refine ox rfl rfl rfl rfl (ex_assign rfl rfl) ?_
        refine ops_nil (at_then ?_)
        refine run_ret ?_
        refine at_block_ret ?_
        refine at_then_ret ?_
        replace HM := HM.empty kCoin 72 none
        replace HM := (HM.front 1 rfl rfl).drop
        replace HM := (HM.front 1 rfl rfl).drop
        replace HM := (HM.front 1 rfl rfl).drop
        have hR := Option.some.inj H
        subst hR
        exact at_ret2 rfl rfl rfl ⟨_, rfl, _, rfl, HM⟩
      · replace H := cond_f hb6149 H
        refine run_seq ?_
        obtain ⟨t6151, h6152, H⟩ := bind_some H
        refine run_region rfl ?_
        refine ox rfl rfl rfl rfl (ex_fieldAddr (off' := 2) rfl rfl Tryz.underlying37 rfl tsz34 rfl) ?_
        refine ox rfl rfl rfl rfl (ex_load1 rfl rfl Tryz.underlying34 rfl ((HM.box_at 1 rfl) 2 _ rfl)) ?_
        refine ox rfl rfl rfl rfl (ex_func rfl rfl) ?_
        refine od rfl rfl rfl rfl (does_callk rfl callok65 rfl (slices_ContainsFunc_impl_Ref.calls (x0 := x1.fIns) (x1_0 := x0) (HM.rd hp1_0) (HM.box_at 2 rfl) (HM.rd hp0) h6152)) ?_
        rintro _ w6153 ⟨rfl, hn⟩
        replace HM : Mem w [] w6153 [box b6118 2 [.int .i64 x2], box b6115 37 [.int .i64 x1.fKind, .int .i64 x1.fMember, p1_0, p1_1], box b6112 29 [p0]] := HM.call hn
        refine ox rfl rfl rfl rfl (ex_assign rfl rfl) ?_
        refine ops_nil (at_then ?_)
        refine run_cond (b := t6151) rfl (fun hb6154 => ?_) (fun hb6154 => ?_)
        · replace H := cond_t hb6154 H
          refine run_seq ?_
          refine run_region rfl ?_
          refine ox rfl rfl rfl rfl (ex_assign rfl rfl) ?_
          refine ox rfl rfl rfl rfl (ex_assign rfl rfl) ?_
          refine ops_nil (at_then ?_)
          refine run_ret ?_
          refine at_block_ret ?_
          refine at_then_ret ?_
          replace HM := HM.empty kCoin 72 none
          replace HM := (HM.front 1 rfl rfl).drop
          replace HM := (HM.front 1 rfl rfl).drop
          replace HM := (HM.front 1 rfl rfl).drop
          have hR := Option.some.inj H
          subst hR
          exact at_ret2 rfl rfl rfl ⟨_, rfl, _, rfl, HM⟩
        · replace H := cond_f hb6154 H
          refine run_skip ?_
          refine at_block ?_
          refine at_then ?_
          refine run_seq ?_
          obtain ⟨t6156, h6157, H⟩ := bind_some H
          obtain ⟨t6160, h6161, H⟩ := bind_some H
          refine run_region rfl ?_
          refine ox rfl rfl rfl rfl (ex_load1 rfl rfl Tryz.underlying29 rfl ((HM.box_at 2 rfl) 0 _ rfl)) ?_
          refine od rfl rfl rfl rfl (does_callk rfl callok69 rfl (impl_ownCoins.calls (x0 := x0) (HM.rd hp0) h6157)) ?_
          rintro u6158 w6170 ⟨_, rfl, hn⟩
          replace HM : Mem w [] w6170 [own kCoin 72 u6158 t6156, box b6118 2 [.int .i64 x2], box b6115 37 [.int .i64 x1.fKind, .int .i64 x1.fMember, p1_0, p1_1], box b6112 29 [p0]] := HM.call hn
          refine ox rfl rfl rfl rfl (ex_func rfl rfl) ?_
          obtain ⟨F6164, hF6165, hFn6166, hFl6167, HMh6168, hcl6169⟩ := HM.hide (Ms := [own kCoin 72 u6158 t6156])
          refine od rfl rfl rfl rfl (does_callk rfl callok68 rfl (slices_DeleteFunc_Coin_v2.calls (x0 := t6156) (x1_0 := x2) (hide_olds _ _) hF6165 hFn6166 hFl6167 (HMh6168.box_at 0 rfl) coinK_own h6161)) ?_
          rintro u6162 w6171 ⟨_, rfl, hn⟩
          replace HM : Mem w [] w6171 [own kCoin 72 u6162 t6160, box b6118 2 [.int .i64 x2], box b6115 37 [.int .i64 x1.fKind, .int .i64 x1.fMember, p1_0, p1_1], box b6112 29 [p0]] := hcl6169 _ _ hn
          refine ox rfl rfl rfl rfl (ex_assign rfl rfl) ?_
          refine ops_nil (at_then (run_seq ?_))
          obtain ⟨t6172, h6173, H⟩ := bind_some H
          obtain ⟨e6176, H⟩ := chk_some H
          obtain ⟨t6179, h6180, H⟩ := bind_some H
          refine run_region rfl ?_
          refine ox rfl rfl rfl rfl (ex_move rfl rfl) ?_
          refine ox rfl rfl rfl rfl (ex_move rfl rfl) ?_
          refine od rfl rfl rfl rfl (does_callk rfl callok69 rfl (impl_ownCoins.calls (x0 := x3) (HM.rd hp3) h6173)) ?_
          rintro u6174 w6189 ⟨_, rfl, hn⟩
          replace HM : Mem w [] w6189 [own kCoin 72 u6174 t6172, own kCoin 72 u6162 t6160, box b6118 2 [.int .i64 x2], box b6115 37 [.int .i64 x1.fKind, .int .i64 x1.fMember, p1_0, p1_1], box b6112 29 [p0]] := HM.call hn
          replace HM := HM.front 1 rfl rfl
          refine od rfl rfl rfl rfl (does_append kCoin rfl rfl rfl Tryz.underlying29 tsz72 rfl tby72 tz72 rfl rfl (leB_le e6176) HM) ?_
          rintro v6177 w6190 HM
          obtain ⟨F6183, hF6184, hFn6185, hFl6186, HMh6187, hcl6188⟩ := HM.hide (Ms := [own kCoin 72 v6177 (t6160 ++ t6172)])
          refine od rfl rfl rfl rfl (does_callk rfl callok71 rfl (impl_sorted.calls (x0 := t6160 ++ t6172) (hide_olds _ _) hF6184 hFn6185 hFl6186 h6180)) ?_
          rintro u6181 w6191 ⟨_, rfl, hn⟩
          replace HM : Mem w [] w6191 [own kCoin 72 u6181 t6179, box b6118 2 [.int .i64 x2], box b6115 37 [.int .i64 x1.fKind, .int .i64 x1.fMember, p1_0, p1_1], box b6112 29 [p0]] := hcl6188 _ _ hn
          refine ox rfl rfl rfl rfl (ex_assign rfl rfl) ?_
          refine ops_nil (at_then (run_seq ?_))
          refine run_seq ?_
          refine run_region rfl ?_
          refine ox rfl rfl rfl rfl (ex_move rfl rfl) ?_
          refine ox rfl rfl rfl rfl (ex_len (d := kCoin) (xs := t6179) rfl rfl Tryz.underlying29 (HM.own_rd 0 rfl)) ?_
          refine ox rfl rfl rfl rfl (ex_gtr rfl rfl rfl) ?_
          refine ops_nil (at_then ?_)
          refine run_cond (b := (decide (40 < (t6179.length : Int)))) rfl (fun hb6192 => ?_) (fun hb6192 => ?_)
          · replace H := cond_t hb6192 H
            refine run_seq ?_
            refine run_region rfl ?_
            refine ox rfl rfl rfl rfl (ex_assign rfl rfl) ?_
            refine ox rfl rfl rfl rfl (ex_assign rfl rfl) ?_
            refine ops_nil (at_then ?_)
            refine run_ret ?_
            refine at_then_ret ?_
            replace HM := HM.empty kCoin 72 none
            replace HM := (HM.front 1 rfl rfl).drop
            replace HM := (HM.front 1 rfl rfl).drop
            replace HM := (HM.front 1 rfl rfl).drop
            replace HM := (HM.front 1 rfl rfl).drop
            have hR := Option.some.inj H
            subst hR
            exact at_ret2 rfl rfl rfl ⟨_, rfl, _, rfl, HM⟩
          · replace H := cond_f hb6192 H
            refine run_skip ?_
            refine at_then ?_
            refine run_seq ?_
            refine run_region rfl ?_
            refine ox rfl rfl rfl rfl (ex_move rfl rfl) ?_
            refine ox rfl rfl rfl rfl (ex_assign rfl rfl) ?_
            refine ox rfl rfl rfl rfl (ex_assign rfl rfl) ?_
            refine ops_nil (at_then ?_)
            refine run_ret ?_
            replace HM := (HM.front 1 rfl rfl).drop
            replace HM := (HM.front 1 rfl rfl).drop
            replace HM := (HM.front 1 rfl rfl).drop
            have hR := Option.some.inj H
            subst hR
            exact at_ret2 rfl rfl rfl ⟨_, rfl, _, rfl, HM⟩
end Go.Proofs.YtecgbhfgkkpmhabGreat.Zk
