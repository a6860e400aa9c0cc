/- What functions of the program compute, each as a plain function, and that they do. Conditions: as each theorem states them. -/
import Derived.Test.YtecgbhfgkkpmhabGreatUndoTxZkF6
namespace Go.Proofs.YtecgbhfgkkpmhabGreat.Zk
open Go Go.RowKit Go.IntWalk Go.Proofs
set_option linter.unusedVariables false
set_option linter.unusedSimpArgs false
set_option maxRecDepth 100000
set_option maxHeartbeats 4000000
def slices_ContainsFunc_impl_Coin.f (k : Nat) (x0 : List Coin) (x1_0 : List Ref) : Option Bool := ((slices_IndexFunc_impl_Coin.f k x0 x1_0).bind fun t5118 => some (decide (0 ≤ t5118)))
theorem slices_ContainsFunc_impl_Coin.calls {k : Nat} {x0 : List Coin} {x1_0 : List Ref} {p0 : Value} {b1_0 f1_0 : Nat} {p1_0_0 : Value} {w : World} (hp0 : RdS kCoin w p0 x0) (hc1_0 : CellsAt w b1_0 f1_0 [p1_0_0]) (hp1_0_0 : RdS kRef w p1_0_0 x1_0) {r : Bool} (H : slices_ContainsFunc_impl_Coin.f k x0 x1_0 = some r) :
    Calls Tryz.prog 85 ([p0, .func (.func 86) #[] #[(.pointer (some ⟨b1_0, f1_0, none⟩))]] : List Value).toArray w (fun e w_ => ∃ v, e = .returned v ∧ v = (.bool r) ∧ Mem w [] w_ []) := by
  have HM := Mem.start w
  refine calls_run (N := 9) Tryz.func85 rfl rfl rfl rfl ?_
  unfold slices_ContainsFunc_impl_Coin.f at H
  refine run_seq ?_
  refine run_region rfl ?_
  refine ox rfl rfl rfl rfl (ex_assign rfl rfl) ?_
  refine ops_nil (at_then (run_seq ?_))
  obtain ⟨t5118, h5119, H⟩ := bind_some H
  refine run_region rfl ?_
  refine ox rfl rfl rfl rfl (ex_move rfl rfl) ?_
  refine ox rfl rfl rfl rfl (ex_move rfl rfl) ?_
  refine od rfl rfl rfl rfl (does_callk rfl callok93 rfl (slices_IndexFunc_impl_Coin.calls (x0 := x0) (x1_0 := x1_0) (HM.rd hp0) (HM.at_ hc1_0) (HM.rd hp1_0_0) h5119)) ?_
  rintro _ w5120 ⟨rfl, hn⟩
  replace HM : Mem w [] w5120 [] := HM.call hn
  refine ox rfl rfl rfl rfl (ex_geq rfl rfl rfl) ?_
  refine ox rfl rfl rfl rfl (ex_assign rfl rfl) ?_
  refine ops_nil (at_then ?_)
  refine run_ret ?_
  have hR := Option.some.inj H
  subst hR
  exact at_ret1 rfl rfl ⟨_, rfl, rfl, HM⟩

def impl_areOf.f (k : Nat) (x0 : List Coin) (x1 : List Ref) : Option Bool := ((bif ((x0.length : Int) == (x1.length : Int)) then slices_ContainsFunc_impl_Coin.f k x0 x1 else some default).bind fun t5127 => some (((x0.length : Int) == (x1.length : Int)) && (!t5127)))
theorem impl_areOf.calls {k : Nat} {x0 : List Coin} {x1 : List Ref} {p0 : Value} {p1 : Value} {w : World} (hp0 : RdS kCoin w p0 x0) (hp1 : RdS kRef w p1 x1) {r : Bool} (H : impl_areOf.f k x0 x1 = some r) :
    Calls Tryz.prog 63 ([p0, p1] : List Value).toArray w (fun e w_ => ∃ v, e = .returned v ∧ v = (.bool r) ∧ Mem w [] w_ []) := by
  have HM := Mem.start w
  refine calls_run (N := 16) Tryz.func63 rfl rfl rfl rfl ?_
  unfold impl_areOf.f at H
  refine run_seq ?_
  refine run_region rfl ?_
  refine od rfl rfl rfl rfl (does_box (cs := [p1]) rfl rfl (rd_cells hp1) HM) ?_
  rintro _ w5126 ⟨b5123, rfl, HM⟩
  refine ox rfl rfl rfl rfl (ex_assign rfl rfl) ?_
  refine ops_nil (at_then (run_seq ?_))
  obtain ⟨t5127, h5128, H⟩ := bind_some H
  refine run_meet (fun ρ_ w_ => ρ_ = [(4, .bool (((x0.length : Int) == (x1.length : Int)) && (!t5127)))] ∧ Mem w [] w_ []) ?_ ?_
  · skip
    refine run_region rfl ?_
    refine ox rfl rfl rfl rfl (ex_move rfl rfl) ?_
    refine ox rfl rfl rfl rfl (ex_len (d := kCoin) (xs := x0) rfl rfl Tryz.underlying29 hp0) ?_
    refine ox rfl rfl rfl rfl (ex_load1 rfl rfl Tryz.underlying34 rfl ((HM.box_at 0 rfl) 0 _ rfl)) ?_
    refine ox rfl rfl rfl rfl (ex_len (d := kRef) (xs := x1) rfl rfl Tryz.underlying34 hp1) ?_
    refine ox rfl rfl rfl rfl (ex_eql rfl rfl rfl) ?_
    refine ox rfl rfl rfl rfl (ex_move rfl rfl) ?_
    refine bool_cases ((x0.length : Int) == (x1.length : Int)) (fun hg5129 => ?_) (fun hg5129 => ?_)
    · skip
      refine ops_ex rfl (guard_on rfl rfl rfl hg5129) rfl rfl (ex_move rfl rfl) ?_
      refine ops_ex rfl (guard_on rfl rfl rfl hg5129) rfl rfl (ex_func rfl rfl) ?_
      refine ops_does rfl (guard_on rfl rfl rfl hg5129) rfl rfl (does_callk rfl callok85 rfl (slices_ContainsFunc_impl_Coin.calls (x0 := x0) (x1_0 := x1) (HM.rd hp0) (HM.box_at 0 rfl) (HM.rd hp1) (cond_t hg5129 h5128))) ?_
      rintro _ w5130 ⟨rfl, hn⟩
      replace HM : Mem w [] w5130 [box b5123 34 [p1]] := HM.call hn
      refine ops_ex rfl (guard_on rfl rfl rfl hg5129) rfl rfl (ex_not rfl rfl) ?_
      refine ops_ex (v := .bool (((x0.length : Int) == (x1.length : Int)) && (!t5127))) rfl (guard_none rfl) rfl rfl (ex_pand_t rfl rfl hg5129 rfl) ?_
      refine ox rfl rfl rfl rfl (ex_assign rfl rfl) ?_
      refine ops_nil ?_
      replace HM := (HM.front 0 rfl rfl).drop
      exact at_meet [(4, .bool (((x0.length : Int) == (x1.length : Int)) && (!t5127)))] ⟨rfl, HM⟩ (Sub.cons rfl Sub.nil)
    · skip
      refine ops_off rfl (guard_off rfl rfl rfl hg5129) rfl rfl ?_
      refine ops_off rfl (guard_off rfl rfl rfl hg5129) rfl rfl ?_
      refine ops_off rfl (guard_off rfl rfl rfl hg5129) rfl rfl ?_
      refine ops_off rfl (guard_off rfl rfl rfl hg5129) rfl rfl ?_
      have hg5131 : (((x0.length : Int) == (x1.length : Int)) && (!t5127)) = false := by simp only [hg5129, Bool.and_true, Bool.true_and, Bool.and_false, Bool.false_and, Bool.or_true, Bool.true_or, Bool.or_false, Bool.false_or, Bool.not_true, Bool.not_false, Bool.not_not]
      refine ops_ex (v := .bool (((x0.length : Int) == (x1.length : Int)) && (!t5127))) rfl (guard_none rfl) rfl rfl (ex_pand_f rfl rfl hg5129) ?_
      refine ox rfl rfl rfl rfl (ex_assign rfl rfl) ?_
      refine ops_nil ?_
      replace HM := (HM.front 0 rfl rfl).drop
      exact at_meet [(4, .bool (((x0.length : Int) == (x1.length : Int)) && (!t5127)))] ⟨rfl, HM⟩ (Sub.cons rfl Sub.nil)
  · rintro _ w5132 ⟨rfl, HM⟩
    refine at_then ?_
    refine run_ret ?_
    have hR := Option.some.inj H
    subst hR
    exact at_ret1 rfl rfl ⟨_, rfl, rfl, HM⟩

def slices_Clone_impl_Coin.f (k : Nat) (x0 : List Coin) : Option ((List Coin)) := (chk (leB ((([] : List Coin).length + x0.length) * 80) 140737488355328) (some (([] : List Coin) ++ x0)))
theorem slices_Clone_impl_Coin.calls {k : Nat} {x0 : List Coin} {p0 : Value} {w wo : World} {X : List Nat} (hwo : Olds wo w X) (hX : Hold w [] X) (hXn : X.Nodup) (hXl : ∀ b ∈ X, b < w.heap.size) (hp0 : RdS kCoin wo p0 x0) {r : (List Coin)} (H : slices_Clone_impl_Coin.f k x0 = some r) :
    Calls Tryz.prog 87 ([p0] : List Value).toArray w (fun e w_ => ∃ v, e = .returned v ∧ ∃ u0 : Value, v = u0 ∧ Mem w X w_ [own (Kd.lent wo kCoin with1_one) 72 u0 r]) := by
  have HM := Mem.startX hX hXn hXl
  refine calls_run (N := 8) Tryz.func87 rfl rfl rfl rfl ?_
  unfold slices_Clone_impl_Coin.f at H
  refine run_seq ?_
  refine run_region rfl ?_
  refine ox rfl rfl rfl rfl (ex_assign rfl rfl) ?_
  refine ops_nil (at_then (run_seq ?_))
  refine run_seq ?_
  refine run_region rfl ?_
  refine ox rfl rfl rfl rfl (ex_move rfl rfl) ?_
  refine ops_exE rfl (guard_none rfl) rfl rfl (ex_isnil rfl rfl rfl Tryz.underlying29 hp0) ?_
  rintro _ ⟨b5157, rfl, hb5158⟩
  refine ops_nil (at_then ?_)
  refine run_cond (b := b5157) rfl (fun hb5159 => ?_) (fun hb5159 => ?_)
  · have hx_ := hb5158 hb5159
    subst hx_
    obtain ⟨_, H⟩ := chk_some H
    replace H : some ([] : List Coin) = r := H
    refine run_seq ?_
    refine run_region rfl ?_
    refine ox rfl rfl rfl rfl (ex_assign rfl rfl) ?_
    refine ops_nil (at_then ?_)
    refine run_ret ?_
    refine at_then_ret ?_
    replace HM := HM.empty (Kd.lent wo kCoin with1_one) 72 none
    have hR := Option.some.inj H
    subst hR
    exact at_ret1 rfl rfl ⟨_, rfl, _, rfl, HM⟩
  · skip
    refine run_skip ?_
    refine at_then ?_
    refine run_seq ?_
    obtain ⟨e5163, H⟩ := chk_some H
    refine run_region rfl ?_
    refine od rfl rfl rfl rfl (does_lit (e := 72) (cs := []) (xs := ([] : List Coin)) kCoin rfl rfl (fun _ => by kernel_rfl) rfl rfl (fun _ _ h => by have h' : _ = [] := h; subst h'; exact .nil) HM.emp) ?_
    rintro v5160 w5166 HM
    refine ox rfl rfl rfl rfl (ex_move rfl rfl) ?_
    replace HM := Mem.relent (d := kCoin) (d' := (Kd.lent wo kCoin with1_one)) rfl HM
    refine od rfl rfl rfl rfl (does_appendR (Kd.lent wo kCoin with1_one) flat_lent rfl rfl rfl Tryz.underlying29 tsz72 rfl tby72 tz72 rfl rfl (leB_le e5163) (RdS.lentOf hp0 (hwo.cell _ HM.fr)) HM) ?_
    rintro v5164 w5167 HM
    refine ox rfl rfl rfl rfl (ex_assign rfl rfl) ?_
    refine ops_nil (at_then ?_)
    refine run_ret ?_
    have hR := Option.some.inj H
    subst hR
    exact at_ret1 rfl rfl ⟨_, rfl, _, rfl, HM⟩

def impl_areMade_1_h.f (k : Nat) (x0 : CoinH) (x1 : Int) : Option Bool := some (x0.fRef.fTx != x1)
theorem impl_areMade_1_h.calls {k : Nat} {x0 : CoinH} {x1 : Int} {b1 f1 : Nat} {w : World} (hc1 : CellsAt w b1 f1 [.int .i64 x1]) {r : Bool} (H : impl_areMade_1_h.f k x0 x1 = some r) :
    Calls Tryz.prog 88 ([.agg #[(.int .i64 x0.fRef.fTx), (.int .i64 x0.fRef.fAt), (.int .i64 x0.fOut.fValue), (.slice x0.fOut.fRule.fKeys.1 x0.fOut.fRule.fKeys.2.1 x0.fOut.fRule.fKeys.2.2), (.int .i64 x0.fOut.fRule.fNeed), (.int .i64 x0.fOut.fRule.fAfter), (.int .i64 x0.fHeight), (.bool x0.fMined)], .pointer (some ⟨b1, f1, none⟩)] : List Value).toArray w (fun e w_ => ∃ v, e = .returned v ∧ v = (.bool r) ∧ Mem w [] w_ []) := by
  have HM := Mem.start w
  refine calls_run (N := 9) Tryz.func88 rfl rfl rfl rfl ?_
  unfold impl_areMade_1_h.f at H
  refine run_seq ?_
  refine run_region rfl ?_
  refine od rfl rfl rfl rfl (does_box (cs := [.int .i64 x0.fRef.fTx, .int .i64 x0.fRef.fAt, .int .i64 x0.fOut.fValue, .slice x0.fOut.fRule.fKeys.1 x0.fOut.fRule.fKeys.2.1 x0.fOut.fRule.fKeys.2.2, .int .i64 x0.fOut.fRule.fNeed, .int .i64 x0.fOut.fRule.fAfter, .int .i64 x0.fHeight, .bool x0.fMined]) rfl rfl rfl HM) ?_
  rintro _ w5189 ⟨b5186, rfl, HM⟩
  refine ox rfl rfl rfl rfl (ex_assign rfl rfl) ?_
  refine ops_nil (at_then (run_seq ?_))
  refine run_region rfl ?_
  refine ox rfl rfl rfl rfl (ex_fieldAddr (off' := 0) rfl rfl Tryz.underlying72 rfl tsz66 rfl) ?_
  refine ox rfl rfl rfl rfl (ex_fieldAddr (off' := 0) rfl rfl Tryz.underlying66 rfl tsz2 rfl) ?_
  refine ox rfl rfl rfl rfl (ex_load1 rfl rfl Tryz.underlying2 rfl ((HM.box_at 0 rfl) 0 _ rfl)) ?_
  refine ox rfl rfl rfl rfl (ex_load1 rfl rfl Tryz.underlying2 rfl ((HM.at_ hc1) 0 _ rfl)) ?_
  refine ox rfl rfl rfl rfl (ex_neq rfl rfl rfl) ?_
  refine ox rfl rfl rfl rfl (ex_assign rfl rfl) ?_
  refine ops_nil (at_then ?_)
  refine run_ret ?_
  replace HM := (HM.front 0 rfl rfl).drop
  have hR := Option.some.inj H
  subst hR
  exact at_ret1 rfl rfl ⟨_, rfl, rfl, HM⟩

def slices_IndexFunc_impl_Coin_h.l0 (x0 : List CoinH) (x1_0 : Int) : Nat → Int → Option (Int ⊕ Unit)
  | 0, _ => none
  | k + 1, a5235 => (bif (decide (a5235 < (x0.length : Int))) then (chk (idxOk a5235 x0.length) ((impl_areMade_1_h.f k (gt x0 a5235) x1_0).bind fun t5247 => (bif t5247 then some (.inl a5235) else slices_IndexFunc_impl_Coin_h.l0 x0 x1_0 k (wrap64 (a5235 + 1))))) else some (.inr ()))
theorem slices_IndexFunc_impl_Coin_h.l0_z (x0 : List CoinH) (x1_0 : Int) (a5235 : Int) : slices_IndexFunc_impl_Coin_h.l0 x0 x1_0 0 a5235 = none := rfl
theorem slices_IndexFunc_impl_Coin_h.l0_s (x0 : List CoinH) (x1_0 : Int) (k : Nat) (a5235 : Int) : slices_IndexFunc_impl_Coin_h.l0 x0 x1_0 (k + 1) a5235 = (bif (decide (a5235 < (x0.length : Int))) then (chk (idxOk a5235 x0.length) ((impl_areMade_1_h.f k (gt x0 a5235) x1_0).bind fun t5247 => (bif t5247 then some (.inl a5235) else slices_IndexFunc_impl_Coin_h.l0 x0 x1_0 k (wrap64 (a5235 + 1))))) else some (.inr ())) := rfl
def slices_IndexFunc_impl_Coin_h.f (k : Nat) (x0 : List CoinH) (x1_0 : Int) : Option Int := ((slices_IndexFunc_impl_Coin_h.l0 x0 x1_0 k 0).bind fun o5227 => thn o5227 (fun r => some r) (fun _ => some (-1)))
theorem slices_IndexFunc_impl_Coin_h.calls {k : Nat} {x0 : List CoinH} {x1_0 : Int} {p0 : Value} {b1_0 f1_0 : Nat} {w : World} (hp0 : RdS kCoinH w p0 x0) (hc1_0 : CellsAt w b1_0 f1_0 [.int .i64 x1_0]) {r : Int} (H : slices_IndexFunc_impl_Coin_h.f k x0 x1_0 = some r) :
    Calls Tryz.prog 93 ([p0, .func (.func 88) #[] #[(.pointer (some ⟨b1_0, f1_0, none⟩))]] : List Value).toArray w (fun e w_ => ∃ v, e = .returned v ∧ v = (.int .i64 r) ∧ Mem w [] w_ []) := by
  have HM := Mem.start w
  refine calls_run (N := 19) Tryz.func93 rfl rfl rfl rfl ?_
  unfold slices_IndexFunc_impl_Coin_h.f at H
  refine run_seq ?_
  refine run_region rfl ?_
  refine ox rfl rfl rfl rfl (ex_assign rfl rfl) ?_
  refine ops_nil (at_then ?_)
  obtain ⟨o5227, ho5228, H⟩ := bind_some H
  refine run_mid (fun ρ_ w_ => Sum.inr () = o5227 ∧ ρ_ = [] ∧ Mem w [] w_ []) ?_ ?_
  · skip
    refine run_seq ?_
    refine run_region rfl ?_
    refine ox rfl rfl rfl rfl (ex_move rfl rfl) ?_
    refine ox rfl rfl rfl rfl (ex_len (d := kCoinH) (xs := x0) rfl rfl Tryz.underlying29 hp0) ?_
    refine ox rfl rfl rfl rfl (ex_move rfl rfl) ?_
    refine ops_nil (at_then ?_)
    refine run_block ?_
    refine run_loop (fun k_ ρ_ w_ => ∃ a5235 : Int, slices_IndexFunc_impl_Coin_h.l0 x0 x1_0 k_ a5235 = some o5227 ∧ ρ_ = [(0, p0), (1, .func (.func 88) #[] #[(.pointer (some ⟨b1_0, f1_0, none⟩))]), (7, .int .i64 (x0.length : Int)), (8, .int .i64 a5235)] ∧ Mem w [] w_ []) k (ρ1 := [(0, p0), (1, .func (.func 88) #[] #[(.pointer (some ⟨b1_0, f1_0, none⟩))]), (7, .int .i64 (x0.length : Int)), (8, .int .i64 0)]) ⟨_, ho5228, rfl, HM⟩ (Sub.cons rfl (Sub.cons rfl (Sub.cons rfl (Sub.cons rfl Sub.nil)))) ?_
    clear HM ho5228
    rintro k5242 _ w5243 ⟨a5235, ho5228, rfl, HM⟩
    obtain _ | k5242 := k5242
    · exact nomatch ((slices_IndexFunc_impl_Coin_h.l0_z x0 x1_0 a5235).symm.trans ho5228)
    replace ho5228 := (slices_IndexFunc_impl_Coin_h.l0_s x0 x1_0 k5242 a5235).symm.trans ho5228
    refine run_seq ?_
    refine run_region rfl ?_
    refine ox rfl rfl rfl rfl (ex_lss rfl rfl rfl) ?_
    refine ops_nil (at_then (run_seq ?_))
    refine run_cond (b := (decide (a5235 < (x0.length : Int)))) rfl (fun hb5244 => ?_) (fun hb5244 => ?_)
    · replace ho5228 := cond_t hb5244 ho5228
      refine run_skip ?_
      refine at_then ?_
      refine run_seq ?_
      refine run_block ?_
      refine run_seq ?_
      refine run_region rfl ?_
      refine ox rfl rfl rfl rfl (ex_move rfl rfl) ?_
      refine ox rfl rfl rfl rfl (ex_assign rfl rfl) ?_
      refine ops_nil (at_then (run_seq ?_))
      obtain ⟨e5245, ho5228⟩ := chk_some ho5228
      obtain ⟨t5247, h5248, ho5228⟩ := bind_some ho5228
      refine run_region rfl ?_
      refine ox rfl rfl rfl rfl (ex_move rfl rfl) ?_
      refine ox rfl rfl rfl rfl (ex_move rfl rfl) ?_
      refine ox rfl rfl rfl rfl (ex_move rfl rfl) ?_
      have hc5246 : CellsAt _ (sb p0) (so p0 + (a5235).toNat * 8) [(.int .i64 ((gt x0 a5235).fRef.fTx)), (.int .i64 ((gt x0 a5235).fRef.fAt)), (.int .i64 ((gt x0 a5235).fOut.fValue)), (.slice ((gt x0 a5235).fOut.fRule.fKeys).1 ((gt x0 a5235).fOut.fRule.fKeys).2.1 ((gt x0 a5235).fOut.fRule.fKeys).2.2), (.int .i64 ((gt x0 a5235).fOut.fRule.fNeed)), (.int .i64 ((gt x0 a5235).fOut.fRule.fAfter)), (.int .i64 ((gt x0 a5235).fHeight)), (.bool ((gt x0 a5235).fMined))] := rd_plain hp0 e5245
      refine ox rfl rfl rfl rfl (ex_indexAddr (d := kCoinH) rfl rfl rfl Tryz.underlying29 tsz72 hp0 (idx_lo e5245) (idx_hi e5245)) ?_
      refine ox rfl rfl rfl rfl (ex_loadN (cs := [(.int .i64 ((gt x0 a5235).fRef.fTx)), (.int .i64 ((gt x0 a5235).fRef.fAt)), (.int .i64 ((gt x0 a5235).fOut.fValue)), (.slice ((gt x0 a5235).fOut.fRule.fKeys).1 ((gt x0 a5235).fOut.fRule.fKeys).2.1 ((gt x0 a5235).fOut.fRule.fKeys).2.2), (.int .i64 ((gt x0 a5235).fOut.fRule.fNeed)), (.int .i64 ((gt x0 a5235).fOut.fRule.fAfter)), (.int .i64 ((gt x0 a5235).fHeight)), (.bool ((gt x0 a5235).fMined))]) rfl rfl Tryz.underlying72 rfl tsz72 rfl ((HM.at_ hc5246).sub 0 8 rfl)) ?_
      refine od rfl rfl rfl rfl (does_callvk rfl callok88 rfl rfl rfl (impl_areMade_1_h.calls (x0 := (gt x0 a5235)) (x1 := x1_0) (HM.at_ hc1_0) h5248)) ?_
      rintro _ w5249 ⟨rfl, hn⟩
      replace HM : Mem w [] w5249 [] := HM.call hn
      refine ops_nil (at_then ?_)
      refine run_cond (b := t5247) rfl (fun hb5250 => ?_) (fun hb5250 => ?_)
      · replace ho5228 := cond_t hb5250 ho5228
        refine run_seq ?_
        refine run_region rfl ?_
        refine ox rfl rfl rfl rfl (ex_move rfl rfl) ?_
        refine ox rfl rfl rfl rfl (ex_assign rfl rfl) ?_
        refine ops_nil (at_then ?_)
        refine run_ret ?_
        refine at_block_ret ?_
        refine at_then_ret ?_
        refine at_then_ret ?_
        refine at_block_ret ?_
        refine at_then_ret ?_
        have hR := Option.some.inj ho5228
        subst hR
        have hT := thn_inl H
        have hR := Option.some.inj hT
        subst hR
        exact at_ret1 rfl rfl ⟨_, rfl, rfl, HM⟩
      · replace ho5228 := cond_f hb5250 ho5228
        refine run_skip ?_
        refine at_block ?_
        refine at_then ?_
        refine run_region rfl ?_
        refine ox rfl rfl rfl rfl (ex_add rfl rfl rfl) ?_
        refine ox rfl rfl rfl rfl (ex_move rfl rfl) ?_
        refine ops_nil ?_
        exact at_again k5242 (ρ1 := [(0, p0), (1, .func (.func 88) #[] #[(.pointer (some ⟨b1_0, f1_0, none⟩))]), (7, .int .i64 (x0.length : Int)), (8, .int .i64 (wrap64 (a5235 + 1)))]) (Nat.lt_succ_self _) ⟨_, ho5228, rfl, HM⟩ (Sub.cons rfl (Sub.cons rfl (Sub.cons rfl (Sub.cons rfl Sub.nil))))
    · replace ho5228 := cond_f hb5244 ho5228
      refine run_exit ?_
      refine at_then_exit ?_
      refine at_then_exit ?_
      refine at_block_exit ?_
      exact at_mid (ρ' := []) ⟨(Option.some.inj ho5228), rfl, HM⟩ Sub.nil
  · rintro _ w5251 ⟨rfl, rfl, HM⟩
    replace H := (thn_inr H)
    refine run_seq ?_
    refine run_region rfl ?_
    refine ox rfl rfl rfl rfl (ex_assign rfl rfl) ?_
    refine ops_nil (at_then ?_)
    refine run_ret ?_
    have hR := Option.some.inj H
    subst hR
    exact at_ret1 rfl rfl ⟨_, rfl, rfl, HM⟩

def slices_DeleteFunc_impl_Coin_h.l0 (x1_0 : Int) : Nat → (List CoinH) → Int → Int → Option ((List CoinH) × Int)
  | 0, _, _, _ => none
  | k + 1, a5344, a5346, a5347 => (bif (decide (a5347 < (a5344.length : Int))) then (chk (idxOk a5347 a5344.length) ((impl_areMade_1_h.f k (gt a5344 a5347) x1_0).bind fun t5366 => (bif !t5366 then (chk (idxOk a5346 a5344.length) (slices_DeleteFunc_impl_Coin_h.l0 x1_0 k (a5344.set (a5346).toNat (gt a5344 a5347)) (wrap64 (a5346 + 1)) (wrap64 (a5347 + 1)))) else slices_DeleteFunc_impl_Coin_h.l0 x1_0 k a5344 a5346 (wrap64 (a5347 + 1))))) else some (a5344, a5346))
theorem slices_DeleteFunc_impl_Coin_h.l0_z (x1_0 : Int) (a5344 : List CoinH) (a5346 : Int) (a5347 : Int) : slices_DeleteFunc_impl_Coin_h.l0 x1_0 0 a5344 a5346 a5347 = none := rfl
theorem slices_DeleteFunc_impl_Coin_h.l0_s (x1_0 : Int) (k : Nat) (a5344 : List CoinH) (a5346 : Int) (a5347 : Int) : slices_DeleteFunc_impl_Coin_h.l0 x1_0 (k + 1) a5344 a5346 a5347 = (bif (decide (a5347 < (a5344.length : Int))) then (chk (idxOk a5347 a5344.length) ((impl_areMade_1_h.f k (gt a5344 a5347) x1_0).bind fun t5366 => (bif !t5366 then (chk (idxOk a5346 a5344.length) (slices_DeleteFunc_impl_Coin_h.l0 x1_0 k (a5344.set (a5346).toNat (gt a5344 a5347)) (wrap64 (a5346 + 1)) (wrap64 (a5347 + 1)))) else slices_DeleteFunc_impl_Coin_h.l0 x1_0 k a5344 a5346 (wrap64 (a5347 + 1))))) else some (a5344, a5346)) := rfl
def slices_DeleteFunc_impl_Coin_h.f (k : Nat) (x0 : List CoinH) (x1_0 : Int) : Option ((List CoinH)) := ((slices_IndexFunc_impl_Coin_h.f k x0 x1_0).bind fun t5294 => (bif (t5294 == (-1)) then some x0 else ((slices_DeleteFunc_impl_Coin_h.l0 x1_0 k x0 t5294 (wrap64 (t5294 + 1))).bind (cur2 (fun a5330 a5332 => (chk (cutOk a5332 a5330.length) (some (a5330.take (a5332).toNat))))))))
theorem slices_DeleteFunc_impl_Coin_h.calls {k : Nat} {x0 : List CoinH} {x1_0 : Int} {p0 : Value} {b1_0 f1_0 : Nat} {w wo : World} {X : List Nat} (hwo : Olds wo w X) (hX : Hold w [own kCoinH 72 p0 x0] X) (hXn : X.Nodup) (hXl : ∀ b ∈ X, b < w.heap.size) (hc1_0 : CellsAt wo b1_0 f1_0 [.int .i64 x1_0]) {r : (List CoinH)} (H : slices_DeleteFunc_impl_Coin_h.f k x0 x1_0 = some r) :
    Calls Tryz.prog 68 ([p0, .func (.func 88) #[] #[(.pointer (some ⟨b1_0, f1_0, none⟩))]] : List Value).toArray w (fun e w_ => ∃ v, e = .returned v ∧ ∃ u0 : Value, v = u0 ∧ Mem w X w_ [own kCoinH 72 u0 r]) := by
  have HM := Mem.startX hX hXn hXl
  refine calls_run (N := 42) Tryz.func68 rfl rfl rfl rfl ?_
  unfold slices_DeleteFunc_impl_Coin_h.f at H
  refine run_seq ?_
  refine run_region rfl ?_
  refine ox rfl rfl rfl rfl (ex_assign rfl rfl) ?_
  refine ops_nil (at_then (run_seq ?_))
  obtain ⟨t5294, h5295, H⟩ := bind_some H
  refine run_region rfl ?_
  refine ox rfl rfl rfl rfl (ex_move rfl rfl) ?_
  refine ox rfl rfl rfl rfl (ex_move rfl rfl) ?_
  refine od rfl rfl rfl rfl (does_callk rfl callok93 rfl (slices_IndexFunc_impl_Coin_h.calls (x0 := x0) (x1_0 := x1_0) (HM.own_rd 0 rfl) (HM.ato hwo hc1_0) h5295)) ?_
  rintro _ w5296 ⟨rfl, hn⟩
  replace HM : Mem w X w5296 [own kCoinH 72 p0 x0] := HM.call hn
  refine ox rfl rfl rfl rfl (ex_assign rfl rfl) ?_
  refine ops_nil (at_then (run_seq ?_))
  refine run_seq ?_
  refine run_region rfl ?_
  refine ox rfl rfl rfl rfl (ex_move rfl rfl) ?_
  refine ox rfl rfl rfl rfl (ex_eql rfl rfl rfl) ?_
  refine ops_nil (at_then ?_)
  refine run_cond (b := (t5294 == (-1))) rfl (fun hb5298 => ?_) (fun hb5298 => ?_)
  · replace H := cond_t hb5298 H
    refine run_seq ?_
    refine run_region rfl ?_
    refine ox rfl rfl rfl rfl (ex_move rfl rfl) ?_
    refine ox rfl rfl rfl rfl (ex_assign rfl rfl) ?_
    refine ops_nil (at_then ?_)
    refine run_ret ?_
    refine at_then_ret ?_
    have hR := Option.some.inj H
    subst hR
    exact at_ret1 rfl rfl ⟨_, rfl, _, rfl, HM⟩
  · replace H := cond_f hb5298 H
    refine run_skip ?_
    refine at_then ?_
    obtain ⟨o5333, ho5334, H⟩ := bind_some H
    refine run_mid (fun ρ_ w_ => ∃ a5330 : List CoinH, ∃ a5332 : Int, (a5330, a5332) = o5333 ∧ ρ_ = [(0, p0), (5, .int .i64 a5332)] ∧ Mem w X w_ [own kCoinH 72 p0 a5330]) ?_ ?_
    · clear H
      refine run_seq ?_
      refine run_region rfl ?_
      refine ox rfl rfl rfl rfl (ex_move rfl rfl) ?_
      refine ox rfl rfl rfl rfl (ex_add rfl rfl rfl) ?_
      refine ox rfl rfl rfl rfl (ex_assign rfl rfl) ?_
      refine ops_nil (at_then ?_)
      refine run_block ?_
      refine run_loop (fun k_ ρ_ w_ => ∃ a5344 : List CoinH, ∃ a5346 : Int, ∃ a5347 : Int, slices_DeleteFunc_impl_Coin_h.l0 x1_0 k_ a5344 a5346 a5347 = some o5333 ∧ ρ_ = [(0, p0), (1, .func (.func 88) #[] #[(.pointer (some ⟨b1_0, f1_0, none⟩))]), (5, .int .i64 a5346), (6, .int .i64 a5347)] ∧ Mem w X w_ [own kCoinH 72 p0 a5344]) k (ρ1 := [(0, p0), (1, .func (.func 88) #[] #[(.pointer (some ⟨b1_0, f1_0, none⟩))]), (5, .int .i64 t5294), (6, .int .i64 (wrap64 (t5294 + 1)))]) ⟨_, _, _, ho5334, rfl, HM⟩ (Sub.cons rfl (Sub.cons rfl (Sub.cons rfl (Sub.cons rfl Sub.nil)))) ?_
      clear HM ho5334
      rintro k5357 _ w5358 ⟨a5344, a5346, a5347, ho5334, rfl, HM⟩
      obtain _ | k5357 := k5357
      · exact nomatch ((slices_DeleteFunc_impl_Coin_h.l0_z x1_0 a5344 a5346 a5347).symm.trans ho5334)
      replace ho5334 := (slices_DeleteFunc_impl_Coin_h.l0_s x1_0 k5357 a5344 a5346 a5347).symm.trans ho5334
      refine run_seq ?_
      refine run_seq ?_
      refine run_region rfl ?_
      refine ox rfl rfl rfl rfl (ex_move rfl rfl) ?_
      refine ox rfl rfl rfl rfl (ex_move rfl rfl) ?_
      refine ox rfl rfl rfl rfl (ex_len (d := kCoinH) (xs := a5344) rfl rfl Tryz.underlying29 (HM.own_rd 0 rfl)) ?_
      refine ox rfl rfl rfl rfl (ex_lss rfl rfl rfl) ?_
      refine ops_nil (at_then ?_)
      refine run_cond (b := (decide (a5347 < (a5344.length : Int)))) rfl (fun hb5359 => ?_) (fun hb5359 => ?_)
      · replace ho5334 := cond_t hb5359 ho5334
        refine run_skip ?_
        refine at_then ?_
        refine run_seq ?_
        refine run_block ?_
        refine run_seq ?_
        obtain ⟨e5360, ho5334⟩ := chk_some ho5334
        refine run_region rfl ?_
        refine ox rfl rfl rfl rfl (ex_move rfl rfl) ?_
        refine ox rfl rfl rfl rfl (ex_move rfl rfl) ?_
        refine ox rfl rfl rfl rfl (ex_indexAddr (d := kCoinH) rfl rfl rfl Tryz.underlying29 tsz72 (HM.own_rd 0 rfl) (idx_lo e5360) (idx_hi e5360)) ?_
        refine ox rfl rfl rfl rfl (ex_loadN (cs := [(.int .i64 ((gt a5344 a5347).fRef.fTx)), (.int .i64 ((gt a5344 a5347).fRef.fAt)), (.int .i64 ((gt a5344 a5347).fOut.fValue)), (.slice ((gt a5344 a5347).fOut.fRule.fKeys).1 ((gt a5344 a5347).fOut.fRule.fKeys).2.1 ((gt a5344 a5347).fOut.fRule.fKeys).2.2), (.int .i64 ((gt a5344 a5347).fOut.fRule.fNeed)), (.int .i64 ((gt a5344 a5347).fOut.fRule.fAfter)), (.int .i64 ((gt a5344 a5347).fHeight)), (.bool ((gt a5344 a5347).fMined))]) rfl rfl Tryz.underlying72 rfl tsz72 rfl ((rd_plain (HM.own_rd 0 rfl) e5360).sub 0 8 rfl)) ?_
        refine od rfl rfl rfl rfl (does_alloc (cs := [.int .i64 0, .int .i64 0, .int .i64 0, .slice ((none, 0, 0) : Hdr).1 ((none, 0, 0) : Hdr).2.1 ((none, 0, 0) : Hdr).2.2, .int .i64 0, .int .i64 0, .int .i64 0, .bool false]) rfl tz72 rfl HM) ?_
        rintro _ w5364 ⟨b5361, rfl, HM⟩
        refine odS rfl rfl rfl (does_store (vs := [.int .i64 ((gt a5344 a5347).fRef.fTx), .int .i64 ((gt a5344 a5347).fRef.fAt), .int .i64 ((gt a5344 a5347).fOut.fValue), .slice ((gt a5344 a5347).fOut.fRule.fKeys).1 ((gt a5344 a5347).fOut.fRule.fKeys).2.1 ((gt a5344 a5347).fOut.fRule.fKeys).2.2, .int .i64 ((gt a5344 a5347).fOut.fRule.fNeed), .int .i64 ((gt a5344 a5347).fOut.fRule.fAfter), .int .i64 ((gt a5344 a5347).fHeight), .bool ((gt a5344 a5347).fMined)]) (cs' := [.int .i64 ((gt a5344 a5347).fRef.fTx), .int .i64 ((gt a5344 a5347).fRef.fAt), .int .i64 ((gt a5344 a5347).fOut.fValue), .slice ((gt a5344 a5347).fOut.fRule.fKeys).1 ((gt a5344 a5347).fOut.fRule.fKeys).2.1 ((gt a5344 a5347).fOut.fRule.fKeys).2.2, .int .i64 ((gt a5344 a5347).fOut.fRule.fNeed), .int .i64 ((gt a5344 a5347).fOut.fRule.fAfter), .int .i64 ((gt a5344 a5347).fHeight), .bool ((gt a5344 a5347).fMined)]) rfl rfl rfl rfl tsz72 (Ones.int (Ones.int (Ones.int (Ones.sl (Ones.int (Ones.int (Ones.int (Ones.bool Ones.nil)))))))) rfl rfl HM) ?_
        rintro w5365 HM
        refine ops_nil (at_then (run_seq ?_))
        obtain ⟨t5366, h5367, ho5334⟩ := bind_some ho5334
        refine run_region rfl ?_
        refine ox rfl rfl rfl rfl (ex_move rfl rfl) ?_
        refine ox rfl rfl rfl rfl (ex_loadN (cs := [(.int .i64 ((gt a5344 a5347).fRef.fTx)), (.int .i64 ((gt a5344 a5347).fRef.fAt)), (.int .i64 ((gt a5344 a5347).fOut.fValue)), (.slice ((gt a5344 a5347).fOut.fRule.fKeys).1 ((gt a5344 a5347).fOut.fRule.fKeys).2.1 ((gt a5344 a5347).fOut.fRule.fKeys).2.2), (.int .i64 ((gt a5344 a5347).fOut.fRule.fNeed)), (.int .i64 ((gt a5344 a5347).fOut.fRule.fAfter)), (.int .i64 ((gt a5344 a5347).fHeight)), (.bool ((gt a5344 a5347).fMined))]) rfl rfl Tryz.underlying72 rfl tsz72 rfl ((HM.box_at 0 rfl).sub 0 8 rfl)) ?_
        refine od rfl rfl rfl rfl (does_callvk rfl callok88 rfl rfl rfl (impl_areMade_1_h.calls (x0 := (gt a5344 a5347)) (x1 := x1_0) (HM.ato hwo hc1_0) h5367)) ?_
        rintro _ w5368 ⟨rfl, hn⟩
        replace HM : Mem w X w5368 [box b5361 72 [.int .i64 ((gt a5344 a5347).fRef.fTx), .int .i64 ((gt a5344 a5347).fRef.fAt), .int .i64 ((gt a5344 a5347).fOut.fValue), .slice ((gt a5344 a5347).fOut.fRule.fKeys).1 ((gt a5344 a5347).fOut.fRule.fKeys).2.1 ((gt a5344 a5347).fOut.fRule.fKeys).2.2, .int .i64 ((gt a5344 a5347).fOut.fRule.fNeed), .int .i64 ((gt a5344 a5347).fOut.fRule.fAfter), .int .i64 ((gt a5344 a5347).fHeight), .bool ((gt a5344 a5347).fMined)], own kCoinH 72 p0 a5344] := HM.call hn
        refine ox rfl rfl rfl rfl (ex_not rfl rfl) ?_
        refine ops_nil (at_then ?_)
        refine run_cond (b := !t5366) rfl (fun hb5369 => ?_) (fun hb5369 => ?_)
        · replace ho5334 := cond_t hb5369 ho5334
          refine run_seq ?_
          obtain ⟨e5370, ho5334⟩ := chk_some ho5334
          refine run_region rfl ?_
          refine ox rfl rfl rfl rfl (ex_move rfl rfl) ?_
          refine ox rfl rfl rfl rfl (ex_move rfl rfl) ?_
          refine ox rfl rfl rfl rfl (ex_loadN (cs := [(.int .i64 ((gt a5344 a5347).fRef.fTx)), (.int .i64 ((gt a5344 a5347).fRef.fAt)), (.int .i64 ((gt a5344 a5347).fOut.fValue)), (.slice ((gt a5344 a5347).fOut.fRule.fKeys).1 ((gt a5344 a5347).fOut.fRule.fKeys).2.1 ((gt a5344 a5347).fOut.fRule.fKeys).2.2), (.int .i64 ((gt a5344 a5347).fOut.fRule.fNeed)), (.int .i64 ((gt a5344 a5347).fOut.fRule.fAfter)), (.int .i64 ((gt a5344 a5347).fHeight)), (.bool ((gt a5344 a5347).fMined))]) rfl rfl Tryz.underlying72 rfl tsz72 rfl ((HM.box_at 0 rfl).sub 0 8 rfl)) ?_
          refine ox rfl rfl rfl rfl (ex_indexAddr (d := kCoinH) rfl rfl rfl Tryz.underlying29 tsz72 (HM.own_rd 1 rfl) (idx_lo e5370) (idx_hi e5370)) ?_
          replace HM := HM.front 1 rfl rfl
          refine odS rfl rfl rfl (does_setElem (vs := [(.int .i64 ((gt a5344 a5347).fRef.fTx)), (.int .i64 ((gt a5344 a5347).fRef.fAt)), (.int .i64 ((gt a5344 a5347).fOut.fValue)), (.slice ((gt a5344 a5347).fOut.fRule.fKeys).1 ((gt a5344 a5347).fOut.fRule.fKeys).2.1 ((gt a5344 a5347).fOut.fRule.fKeys).2.2), (.int .i64 ((gt a5344 a5347).fOut.fRule.fNeed)), (.int .i64 ((gt a5344 a5347).fOut.fRule.fAfter)), (.int .i64 ((gt a5344 a5347).fHeight)), (.bool ((gt a5344 a5347).fMined))]) (y := (gt a5344 a5347)) kCoinH rfl rfl rfl rfl rfl tsz72 rfl rfl (idx_nat e5370) (fun _ _ h => ⟨rfl, h⟩) (HM.emp.front 1 rfl rfl)) ?_
          rintro w5371 HM
          refine ops_nil (at_then ?_)
          refine run_region rfl ?_
          refine ox rfl rfl rfl rfl (ex_move rfl rfl) ?_
          refine ox rfl rfl rfl rfl (ex_add rfl rfl rfl) ?_
          refine ox rfl rfl rfl rfl (ex_assign rfl rfl) ?_
          refine ops_nil ?_
          refine at_block ?_
          refine at_then ?_
          refine run_region rfl ?_
          refine ox rfl rfl rfl rfl (ex_move rfl rfl) ?_
          refine ox rfl rfl rfl rfl (ex_add rfl rfl rfl) ?_
          refine ox rfl rfl rfl rfl (ex_assign rfl rfl) ?_
          refine ops_nil ?_
          replace HM := (HM.front 1 rfl rfl).drop
          exact at_again k5357 (ρ1 := [(0, p0), (1, .func (.func 88) #[] #[(.pointer (some ⟨b1_0, f1_0, none⟩))]), (5, .int .i64 (wrap64 (a5346 + 1))), (6, .int .i64 (wrap64 (a5347 + 1)))]) (Nat.lt_succ_self _) ⟨_, _, _, ho5334, rfl, HM⟩ (Sub.cons rfl (Sub.cons rfl (Sub.cons rfl (Sub.cons rfl Sub.nil))))
        · replace ho5334 := cond_f hb5369 ho5334
          refine run_skip ?_
          refine at_block ?_
          refine at_then ?_
          refine run_region rfl ?_
          refine ox rfl rfl rfl rfl (ex_move rfl rfl) ?_
          refine ox rfl rfl rfl rfl (ex_add rfl rfl rfl) ?_
          refine ox rfl rfl rfl rfl (ex_assign rfl rfl) ?_
          refine ops_nil ?_
          replace HM := (HM.front 0 rfl rfl).drop
          exact at_again k5357 (ρ1 := [(0, p0), (1, .func (.func 88) #[] #[(.pointer (some ⟨b1_0, f1_0, none⟩))]), (5, .int .i64 a5346), (6, .int .i64 (wrap64 (a5347 + 1)))]) (Nat.lt_succ_self _) ⟨_, _, _, ho5334, rfl, HM⟩ (Sub.cons rfl (Sub.cons rfl (Sub.cons rfl (Sub.cons rfl Sub.nil))))
      · replace ho5334 := cond_f hb5359 ho5334
        refine run_exit ?_
        refine at_then_exit ?_
        refine at_then_exit ?_
        refine at_block_exit ?_
        exact at_mid (ρ' := [(0, p0), (5, .int .i64 a5346)]) ⟨_, _, (Option.some.inj ho5334), rfl, HM⟩ (Sub.cons rfl (Sub.cons rfl Sub.nil))
    · rintro _ w5372 ⟨a5330, a5332, rfl, rfl, HM⟩
      replace H := cur2_mk H
      refine run_seq ?_
      obtain ⟨e5373, H⟩ := chk_some H
      refine run_region rfl ?_
      refine ox rfl rfl rfl rfl (ex_move rfl rfl) ?_
      refine ox rfl rfl rfl rfl (ex_move rfl rfl) ?_
      refine ox rfl rfl rfl rfl (ex_cutvL rfl rfl rfl Tryz.underlying29 tsz72 (HM.own_rd 0 rfl) e5373) ?_
      have hcp5374 := HM.capI e5373
      refine ops_doesN rfl (guard_none rfl) rfl (does_clearL kCoinH rfl rfl Tryz.underlying29 tsz72 tz72 rfl rfl (onesC rfl (onesC rfl (onesC rfl (onesC rfl (onesC rfl (onesC rfl (onesC rfl (onesC rfl onesN)))))))) e5373 HM) ?_
      rintro _ w5375 HM
      refine ops_nil (at_then (run_seq ?_))
      refine run_region rfl ?_
      refine ox rfl rfl rfl rfl (ex_move rfl rfl) ?_
      refine ox rfl rfl rfl rfl (ex_move rfl rfl) ?_
      refine ox rfl rfl rfl rfl (ex_cutvH rfl rfl rfl Tryz.underlying29 tsz72 (cut_lo e5373) hcp5374) ?_
      refine ox rfl rfl rfl rfl (ex_assign rfl rfl) ?_
      refine ops_nil (at_then ?_)
      refine run_ret ?_
      have hR := Option.some.inj H
      subst hR
      exact at_ret1 rfl rfl ⟨_, rfl, _, rfl, HM⟩

/-- A coin with its row's place. -/
def coinH (x : Coin) (h : Hdr) : CoinH := ⟨⟨x.fRef.fTx, x.fRef.fAt⟩, ⟨x.fOut.fValue, ⟨h, x.fOut.fRule.fNeed, x.fOut.fRule.fAfter⟩⟩, x.fHeight, x.fMined⟩
/-- The kinds of rows of coins: of one's own, or lent. -/
def CoinK (d : Kd Coin) : Prop := d.sz = 8 ∧ ∀ w x c f, d.O w x c f → ∃ h : Hdr, (fun (x : CoinH) => ([.int .i64 x.fRef.fTx, .int .i64 x.fRef.fAt, .int .i64 x.fOut.fValue, .slice x.fOut.fRule.fKeys.1 x.fOut.fRule.fKeys.2.1 x.fOut.fRule.fKeys.2.2, .int .i64 x.fOut.fRule.fNeed, .int .i64 x.fOut.fRule.fAfter, .int .i64 x.fHeight, .bool x.fMined] : List Value)) (coinH x h) = c
theorem coinK_own : CoinK kCoin := ⟨rfl, by
  rintro w x c f ⟨v, rfl, ho⟩
  obtain ⟨A, c0, rfl, _⟩ := OwS.rd ho
  exact ⟨(A, _, c0), rfl⟩⟩
theorem coinK_lent {wl : World} {h1 : ∀ x cs, kCoin.R wl x cs → ∀ u ∈ cs, u.oneCell' = true} : CoinK (Kd.lent wl kCoin h1) := ⟨rfl, by
  rintro w x c f ⟨⟨v, rfl, hr⟩, _⟩
  obtain ⟨A, c0, rfl, _⟩ := hr
  exact ⟨(A, _, c0), rfl⟩⟩
def slices_DeleteFunc_Coin_p (x1_0 : Int) (c : CoinH) : Bool := !((impl_areMade_1_h.f 0 c x1_0).getD false)
theorem slices_DeleteFunc_Coin_loop (xs : List CoinH) (x1_0 : Int) (h0 : xs.length ≤ 1048576) : ∀ (d j i : Nat) (s : List CoinH), j + d = xs.length → i ≤ j → s.length = xs.length → s.drop j = xs.drop j →
    ∃ (s' : List CoinH) (i' : Nat), Evt (fun k => slices_DeleteFunc_impl_Coin_h.l0 x1_0 k s (i : Int) (j : Int)) (s', (i' : Int)) ∧ s'.length = xs.length ∧ i' ≤ xs.length ∧ s'.take i' = s.take i ++ (xs.drop j).filter (slices_DeleteFunc_Coin_p x1_0)
  | 0, j, i, s, hd, hij, hs, hdr => by
    refine ⟨s, i, Evt.s ?_, hs, by omega, ?_⟩
    · simp only [slices_DeleteFunc_impl_Coin_h.l0_s]
      exact Evt.f (decide_eq_false (by omega)) (Evt.self _)
    · rw [List.drop_of_length_le (by omega), List.filter_nil, List.append_nil]
  | d + 1, j, i, s, hd, hij, hs, hdr => by
    have hj : j < xs.length := by omega
    have hjs : j < s.length := by omega
    have e0 : xs.drop j = gt s (j : Int) :: xs.drop (j + 1) := by
      rw [← hdr, gt_eq (by simpa using hjs)]
      simp only [Int.toNat_natCast]
      rw [List.drop_eq_getElem_cons hjs]
      congr 1
      have := congrArg (List.drop 1) hdr
      rw [List.drop_drop, List.drop_drop] at this
      exact this
    have hdr1 : s.drop (j + 1) = xs.drop (j + 1) := by
      have := congrArg (List.drop 1) hdr
      rw [List.drop_drop, List.drop_drop] at this
      exact this
    have ew : wrap64 ((j : Int) + 1) = ((j + 1 : Nat) : Int) := by rw [wrap64_in _ (by omega)]; omega
    have ewi : wrap64 ((i : Int) + 1) = ((i + 1 : Nat) : Int) := by rw [wrap64_in _ (by omega)]; omega
    have ea : Evt (fun k => impl_areMade_1_h.f k (gt s (j : Int)) x1_0) ((impl_areMade_1_h.f 0 (gt s (j : Int)) x1_0).getD false) := Evt.self _
    cases hm : (impl_areMade_1_h.f 0 (gt s (j : Int)) x1_0).getD false
    · have hk : slices_DeleteFunc_Coin_p x1_0 (gt s (j : Int)) = true := by unfold slices_DeleteFunc_Coin_p; rw [hm]; rfl
      obtain ⟨s', i', e, r1, r2, r3⟩ := slices_DeleteFunc_Coin_loop xs x1_0 h0 d (j + 1) (i + 1) (s.set i (gt s (j : Int))) (by omega) (by omega) (by rw [List.length_set]; exact hs) (by rw [List.drop_set_of_lt (by omega)]; exact hdr1)
      refine ⟨s', i', Evt.s ?_, r1, r2, ?_⟩
      · simp only [slices_DeleteFunc_impl_Coin_h.l0_s, ew, ewi, Int.toNat_natCast]
        rw [hm] at ea
        exact Evt.t (int_lt hjs) (Evt.chk (idx_ok hjs) (Evt.bind ea (Evt.t rfl (Evt.chk (idx_ok (by omega)) e))))
      · rw [r3, e0, List.filter_cons_of_pos hk, List.take_add_one, List.take_set_of_le (Nat.le_refl _), List.getElem?_set_self (by omega)]
        simp
    · have hk : ¬ slices_DeleteFunc_Coin_p x1_0 (gt s (j : Int)) = true := by unfold slices_DeleteFunc_Coin_p; rw [hm]; exact Bool.false_ne_true
      obtain ⟨s', i', e, r1, r2, r3⟩ := slices_DeleteFunc_Coin_loop xs x1_0 h0 d (j + 1) i s (by omega) (by omega) hs hdr1
      refine ⟨s', i', Evt.s ?_, r1, r2, ?_⟩
      · simp only [slices_DeleteFunc_impl_Coin_h.l0_s, ew]
        rw [hm] at ea
        exact Evt.t (int_lt hjs) (Evt.chk (idx_ok hjs) (Evt.bind ea (Evt.f rfl e)))
      · rw [r3, e0, List.filter_cons_of_neg hk]
theorem slices_DeleteFunc_Coin_idx (xs : List CoinH) (x1_0 : Int) (h0 : xs.length ≤ 1048576) : ∀ (d i : Nat), i + d = xs.length → (∀ j : Nat, j < i → (impl_areMade_1_h.f 0 (gt xs (j : Int)) x1_0).getD false = false) →
    (Evt (fun k => slices_IndexFunc_impl_Coin_h.l0 xs x1_0 k (i : Int)) (.inr ()) ∧ ∀ j : Nat, j < xs.length → (impl_areMade_1_h.f 0 (gt xs (j : Int)) x1_0).getD false = false) ∨
    ∃ m : Nat, Evt (fun k => slices_IndexFunc_impl_Coin_h.l0 xs x1_0 k (i : Int)) (.inl (m : Int)) ∧ m < xs.length ∧ (impl_areMade_1_h.f 0 (gt xs (m : Int)) x1_0).getD false = true ∧ ∀ j : Nat, j < m → (impl_areMade_1_h.f 0 (gt xs (j : Int)) x1_0).getD false = false
  | 0, i, hd, hb => by
    refine .inl ⟨Evt.s ?_, fun j hj => hb j (by omega)⟩
    simp only [slices_IndexFunc_impl_Coin_h.l0_s]
    exact Evt.f (ge_lt (by omega)) (Evt.self _)
  | d + 1, i, hd, hb => by
    have hi : i < xs.length := by omega
    have ew : wrap64 ((i : Int) + 1) = ((i + 1 : Nat) : Int) := by rw [wrap64_in _ (by omega)]; omega
    have ea : Evt (fun k => impl_areMade_1_h.f k (gt xs (i : Int)) x1_0) ((impl_areMade_1_h.f 0 (gt xs (i : Int)) x1_0).getD false) := Evt.self _
    cases hm : (impl_areMade_1_h.f 0 (gt xs (i : Int)) x1_0).getD false
    · rw [hm] at ea
      have hb' : ∀ j : Nat, j < i + 1 → (impl_areMade_1_h.f 0 (gt xs (j : Int)) x1_0).getD false = false := fun j hj => by
        rcases Nat.lt_or_eq_of_le (Nat.le_of_lt_succ hj) with h | rfl
        · exact hb j h
        · exact hm
      have st : ∀ o, Evt (fun k => slices_IndexFunc_impl_Coin_h.l0 xs x1_0 k ((i + 1 : Nat) : Int)) o → Evt (fun k => slices_IndexFunc_impl_Coin_h.l0 xs x1_0 k (i : Int)) o := fun o e => by
        refine Evt.s ?_
        simp only [slices_IndexFunc_impl_Coin_h.l0_s, ew]
        exact Evt.t (int_lt hi) (Evt.chk (idx_ok hi) (Evt.bind ea (Evt.f rfl e)))
      rcases slices_DeleteFunc_Coin_idx xs x1_0 h0 d (i + 1) (by omega) hb' with ⟨e, h⟩ | ⟨m, e, h1, h2, h3⟩
      · exact .inl ⟨st _ e, h⟩
      · exact .inr ⟨m, st _ e, h1, h2, h3⟩
    · rw [hm] at ea
      refine .inr ⟨i, Evt.s ?_, hi, hm, hb⟩
      simp only [slices_IndexFunc_impl_Coin_h.l0_s]
      exact Evt.t (int_lt hi) (Evt.chk (idx_ok hi) (Evt.bind ea (Evt.t rfl (Evt.self _))))
theorem slices_DeleteFunc_Coin_run (xs : List CoinH) (x1_0 : Int) (h0 : xs.length ≤ 1048576) : ∃ k, slices_DeleteFunc_impl_Coin_h.f k xs x1_0 = some (xs.filter (slices_DeleteFunc_Coin_p x1_0)) := by
  refine Evt.get ?_
  rcases slices_DeleteFunc_Coin_idx xs x1_0 h0 xs.length 0 (by omega) (fun j hj => by omega) with ⟨e, h⟩ | ⟨i, e, hi, hp, hq⟩
  · have ef : (xs.filter (slices_DeleteFunc_Coin_p x1_0)) = xs := by
      rw [List.filter_eq_self]
      intro m hm
      obtain ⟨i, hi, rfl⟩ := List.getElem_of_mem hm
      have := h i hi
      rw [gt_eq (by simpa using hi)] at this
      simp only [Int.toNat_natCast] at this
      unfold slices_DeleteFunc_Coin_p
      rw [this]; rfl
    rw [ef]
    exact Evt.bind (Evt.bind e (Evt.self (-1))) (Evt.t rfl (Evt.self _))
  · have ewi : wrap64 ((i : Int) + 1) = ((i + 1 : Nat) : Int) := by rw [wrap64_in _ (by omega)]; omega
    obtain ⟨s', i', e2, r1, r2, r3⟩ := slices_DeleteFunc_Coin_loop xs x1_0 h0 (xs.length - (i + 1)) (i + 1) i xs (by omega) (by omega) rfl rfl
    have ef : (xs.filter (slices_DeleteFunc_Coin_p x1_0)) = s'.take i' := by
      rw [r3]
      have e1 : xs = xs.take i ++ (gt xs (i : Int) :: xs.drop (i + 1)) := by
        rw [gt_eq (by simpa using hi)]
        simp only [Int.toNat_natCast]
        rw [← List.drop_eq_getElem_cons hi, List.take_append_drop]
      have hk : ¬ slices_DeleteFunc_Coin_p x1_0 (gt xs (i : Int)) = true := by unfold slices_DeleteFunc_Coin_p; rw [hp]; exact Bool.false_ne_true
      have e2 : (xs.take i).filter (slices_DeleteFunc_Coin_p x1_0) = xs.take i := by
        rw [List.filter_eq_self]
        intro m hm
        rw [List.mem_take_iff_getElem] at hm
        obtain ⟨j, hj, rfl⟩ := hm
        have := hq j (by omega)
        rw [gt_eq (by simp; omega)] at this
        simp only [Int.toNat_natCast] at this
        unfold slices_DeleteFunc_Coin_p
        rw [this]; rfl
      conv => lhs; rw [e1, List.filter_append, List.filter_cons_of_neg hk, e2]
    rw [ef]
    have hne : ((i : Int) == -1) = false := beq_false_of_ne (by omega)
    refine Evt.bind (Evt.bind e (Evt.self (i : Int))) (Evt.f hne ?_)
    rw [ewi]
    refine Evt.bind e2 ?_
    show Evt (fun k => chk (cutOk (i' : Int) s'.length) (some (s'.take ((i' : Int)).toNat))) _
    exact Evt.chk (by unfold cutOk; simp; omega) (by simp only [Int.toNat_natCast]; exact Evt.self _)
def slices_DeleteFunc_Coin.f (k : Nat) (x0 : List Coin) (x1_0 : Int) : Option (List Coin) := chk (leB x0.length 1048576) (some (x0.filter fun c => !((impl_areMade_1_h.f 0 (coinH c (none, 0, 0)) x1_0).getD false)))
theorem slices_DeleteFunc_Coin.calls {k : Nat} {x0 : List Coin} {x1_0 : Int} {p0 : Value} {b1_0 f1_0 : Nat} {w wo : World} {X : List Nat} {d : Kd Coin} (hwo : Olds wo w X) (hX : Hold w [own d 72 p0 x0] X) (hXn : X.Nodup) (hXl : ∀ b ∈ X, b < w.heap.size) (hc1_0 : CellsAt wo b1_0 f1_0 [.int .i64 x1_0]) (hd : CoinK d) {r : List Coin} (H : slices_DeleteFunc_Coin.f k x0 x1_0 = some r) :
    Calls Tryz.prog 68 ([p0, .func (.func 88) #[] #[(.pointer (some ⟨b1_0, f1_0, none⟩))]] : List Value).toArray w (fun e w_ => ∃ v, e = .returned v ∧ ∃ u0 : Value, v = u0 ∧ Mem w X w_ [own d 72 u0 r]) := by
  obtain ⟨h, H⟩ := chk_some H
  have hR := Option.some.inj H
  subst hR
  obtain ⟨hs, b, hlen, h2, h3, h4, h5, h6⟩ := kept_own (enc := fun (x : CoinH) => ([.int .i64 x.fRef.fTx, .int .i64 x.fRef.fAt, .int .i64 x.fOut.fValue, .slice x.fOut.fRule.fKeys.1 x.fOut.fRule.fKeys.2.1 x.fOut.fRule.fKeys.2.2, .int .i64 x.fOut.fRule.fNeed, .int .i64 x.fOut.fRule.fAfter, .int .i64 x.fHeight, .bool x.fMined] : List Value)) hd.1 (hl := fun _ => rfl) (h1 := kCoinH_one) (R := fun s x => ∃ h, s = coinH x h) (fun w x c f ho => let ⟨h, e⟩ := hd.2 w x c f ho; ⟨coinH x h, e, h, rfl⟩)
    (p := fun c => !((impl_areMade_1_h.f 0 (coinH c (none, 0, 0)) x1_0).getD false)) (ph := slices_DeleteFunc_Coin_p x1_0) (fun s x ⟨h, e⟩ => by subst e; rfl) hwo hX hXn hXl
  obtain ⟨k', hk⟩ := slices_DeleteFunc_Coin_run hs x1_0 (by rw [hlen]; exact leB_le h)
  exact (slices_DeleteFunc_impl_Coin_h.calls (x1_0 := x1_0) h5 h2 h3 h4 hc1_0 hk).mono fun e w_ ⟨v, he, u0, hv, hm⟩ => ⟨v, he, u0, hv, h6 _ _ hm⟩

def slices_Equal_int64.l0 (x0 : List Int) (x1 : List Int) : Nat → Int → Option (Bool ⊕ Unit)
  | 0, _ => none
  | k + 1, a5294 => (bif (decide (a5294 < (x0.length : Int))) then (chk (idxOk a5294 x0.length) (chk (idxOk a5294 x1.length) (bif ((gt x0 a5294) != (gt x1 a5294)) then some (.inl false) else slices_Equal_int64.l0 x0 x1 k (wrap64 (a5294 + 1))))) else some (.inr ()))
theorem slices_Equal_int64.l0_z (x0 : List Int) (x1 : List Int) (a5294 : Int) : slices_Equal_int64.l0 x0 x1 0 a5294 = none := rfl
theorem slices_Equal_int64.l0_s (x0 : List Int) (x1 : List Int) (k : Nat) (a5294 : Int) : slices_Equal_int64.l0 x0 x1 (k + 1) a5294 = (bif (decide (a5294 < (x0.length : Int))) then (chk (idxOk a5294 x0.length) (chk (idxOk a5294 x1.length) (bif ((gt x0 a5294) != (gt x1 a5294)) then some (.inl false) else slices_Equal_int64.l0 x0 x1 k (wrap64 (a5294 + 1))))) else some (.inr ())) := rfl
def slices_Equal_int64.f (k : Nat) (x0 : List Int) (x1 : List Int) : Option Bool := (bif ((x0.length : Int) != (x1.length : Int)) then some false else ((slices_Equal_int64.l0 x0 x1 k 0).bind fun o5286 => thn o5286 (fun r => some r) (fun _ => some true)))
theorem slices_Equal_int64.calls {k : Nat} {x0 : List Int} {x1 : List Int} {p0 : Value} {p1 : Value} {w : World} (hp0 : RdS kInt w p0 x0) (hp1 : RdS kInt w p1 x1) {r : Bool} (H : slices_Equal_int64.f k x0 x1 = some r) :
    Calls Tryz.prog 109 ([p0, p1] : List Value).toArray w (fun e w_ => ∃ v, e = .returned v ∧ v = (.bool r) ∧ Mem w [] w_ []) := by
  have HM := Mem.start w
  refine calls_run (N := 26) Tryz.func109 rfl rfl rfl rfl ?_
  unfold slices_Equal_int64.f at H
  refine run_seq ?_
  refine run_region rfl ?_
  refine ox rfl rfl rfl rfl (ex_assign rfl rfl) ?_
  refine ops_nil (at_then (run_seq ?_))
  refine run_seq ?_
  refine run_region rfl ?_
  refine ox rfl rfl rfl rfl (ex_move rfl rfl) ?_
  refine ox rfl rfl rfl rfl (ex_len (d := kInt) (xs := x0) rfl rfl Tryz.underlying49 hp0) ?_
  refine ox rfl rfl rfl rfl (ex_move rfl rfl) ?_
  refine ox rfl rfl rfl rfl (ex_len (d := kInt) (xs := x1) rfl rfl Tryz.underlying49 hp1) ?_
  refine ox rfl rfl rfl rfl (ex_neq rfl rfl rfl) ?_
  refine ops_nil (at_then ?_)
  refine run_cond (b := ((x0.length : Int) != (x1.length : Int))) rfl (fun hb5266 => ?_) (fun hb5266 => ?_)
  · replace H := cond_t hb5266 H
    refine run_seq ?_
    refine run_region rfl ?_
    refine ox rfl rfl rfl rfl (ex_assign rfl rfl) ?_
    refine ops_nil (at_then ?_)
    refine run_ret ?_
    refine at_then_ret ?_
    have hR := Option.some.inj H
    subst hR
    exact at_ret1 rfl rfl ⟨_, rfl, rfl, HM⟩
  · replace H := cond_f hb5266 H
    refine run_skip ?_
    refine at_then ?_
    obtain ⟨o5286, ho5287, H⟩ := bind_some H
    refine run_mid (fun ρ_ w_ => Sum.inr () = o5286 ∧ ρ_ = [] ∧ Mem w [] w_ []) ?_ ?_
    · skip
      refine run_seq ?_
      refine run_region rfl ?_
      refine ox rfl rfl rfl rfl (ex_move rfl rfl) ?_
      refine ox rfl rfl rfl rfl (ex_len (d := kInt) (xs := x0) rfl rfl Tryz.underlying49 hp0) ?_
      refine ox rfl rfl rfl rfl (ex_move rfl rfl) ?_
      refine ops_nil (at_then ?_)
      refine run_block ?_
      refine run_loop (fun k_ ρ_ w_ => ∃ a5294 : Int, slices_Equal_int64.l0 x0 x1 k_ a5294 = some o5286 ∧ ρ_ = [(0, p0), (1, p1), (12, .int .i64 (x0.length : Int)), (13, .int .i64 a5294)] ∧ Mem w [] w_ []) k (ρ1 := [(0, p0), (1, p1), (12, .int .i64 (x0.length : Int)), (13, .int .i64 0)]) ⟨_, ho5287, rfl, HM⟩ (Sub.cons rfl (Sub.cons rfl (Sub.cons rfl (Sub.cons rfl Sub.nil)))) ?_
      clear HM ho5287
      rintro k5301 _ w5302 ⟨a5294, ho5287, rfl, HM⟩
      obtain _ | k5301 := k5301
      · exact nomatch ((slices_Equal_int64.l0_z x0 x1 a5294).symm.trans ho5287)
      replace ho5287 := (slices_Equal_int64.l0_s x0 x1 k5301 a5294).symm.trans ho5287
      refine run_seq ?_
      refine run_region rfl ?_
      refine ox rfl rfl rfl rfl (ex_lss rfl rfl rfl) ?_
      refine ops_nil (at_then (run_seq ?_))
      refine run_cond (b := (decide (a5294 < (x0.length : Int)))) rfl (fun hb5303 => ?_) (fun hb5303 => ?_)
      · replace ho5287 := cond_t hb5303 ho5287
        refine run_skip ?_
        refine at_then ?_
        refine run_seq ?_
        refine run_block ?_
        refine run_seq ?_
        refine run_region rfl ?_
        refine ox rfl rfl rfl rfl (ex_move rfl rfl) ?_
        refine ox rfl rfl rfl rfl (ex_assign rfl rfl) ?_
        refine ops_nil (at_then (run_seq ?_))
        obtain ⟨e5304, ho5287⟩ := chk_some ho5287
        obtain ⟨e5306, ho5287⟩ := chk_some ho5287
        refine run_drawf (fun w_ => Mem w [] w_ []) [(0, true), (1, true), (2, true), (3, true), (4, true), (5, true), (6, true), (7, true), (8, true)] mixed rfl rfl (by kernel_rfl) ?_
        replace HM := HM.grow (fr_drew _)
        have hS := Mem.suf (M := []) HM
        refine dp rfl rfl rfl rfl (ex_move rfl rfl) hS ?_
        refine dp rfl rfl rfl rfl (ex_move rfl rfl) hS ?_
        have hc5305 : CellsAt _ (sb p0) (so p0 + (a5294).toNat * 1) [(.int .i64 (gt x0 a5294))] := rd_plain hp0 e5304
        refine dp rfl rfl rfl rfl (ex_indexAddr (d := kInt) rfl rfl rfl Tryz.underlying49 tsz2 hp0 (idx_lo e5304) (idx_hi e5304)) hS ?_
        refine drwp_take rfl (guard_none rfl) rfl rfl (fun w_ hS_ => (ex_load1 rfl rfl Tryz.underlying2 rfl ((hS_.at_ hc5305) 0 _ rfl))) hS ?_
        refine dp rfl rfl rfl rfl (ex_move rfl rfl) hS ?_
        refine dp rfl rfl rfl rfl (ex_move rfl rfl) hS ?_
        have hc5307 : CellsAt _ (sb p1) (so p1 + (a5294).toNat * 1) [(.int .i64 (gt x1 a5294))] := rd_plain hp1 e5306
        refine dp rfl rfl rfl rfl (ex_indexAddr (d := kInt) rfl rfl rfl Tryz.underlying49 tsz2 hp1 (idx_lo e5306) (idx_hi e5306)) hS ?_
        refine drwp_take rfl (guard_none rfl) rfl rfl (fun w_ hS_ => (ex_load1 rfl rfl Tryz.underlying2 rfl ((hS_.at_ hc5307) 0 _ rfl))) hS ?_
        refine dp rfl rfl rfl rfl (ex_neq rfl rfl rfl) hS ?_
        refine drwp_done ?_
        refine at_then ?_
        refine run_cond (b := ((gt x0 a5294) != (gt x1 a5294))) rfl (fun hb5308 => ?_) (fun hb5308 => ?_)
        · replace ho5287 := cond_t hb5308 ho5287
          refine run_seq ?_
          refine run_region rfl ?_
          refine ox rfl rfl rfl rfl (ex_assign rfl rfl) ?_
          refine ops_nil (at_then ?_)
          refine run_ret ?_
          refine at_block_ret ?_
          refine at_then_ret ?_
          refine at_then_ret ?_
          refine at_block_ret ?_
          refine at_then_ret ?_
          have hR := Option.some.inj ho5287
          subst hR
          have hT := thn_inl H
          have hR := Option.some.inj hT
          subst hR
          exact at_ret1 rfl rfl ⟨_, rfl, rfl, HM⟩
        · replace ho5287 := cond_f hb5308 ho5287
          refine run_skip ?_
          refine at_block ?_
          refine at_then ?_
          refine run_region rfl ?_
          refine ox rfl rfl rfl rfl (ex_add rfl rfl rfl) ?_
          refine ox rfl rfl rfl rfl (ex_move rfl rfl) ?_
          refine ops_nil ?_
          exact at_again k5301 (ρ1 := [(0, p0), (1, p1), (12, .int .i64 (x0.length : Int)), (13, .int .i64 (wrap64 (a5294 + 1)))]) (Nat.lt_succ_self _) ⟨_, ho5287, rfl, HM⟩ (Sub.cons rfl (Sub.cons rfl (Sub.cons rfl (Sub.cons rfl Sub.nil))))
      · replace ho5287 := cond_f hb5303 ho5287
        refine run_exit ?_
        refine at_then_exit ?_
        refine at_then_exit ?_
        refine at_block_exit ?_
        exact at_mid (ρ' := []) ⟨(Option.some.inj ho5287), rfl, HM⟩ Sub.nil
    · rintro _ w5309 ⟨rfl, rfl, HM⟩
      replace H := (thn_inr H)
      refine run_seq ?_
      refine run_region rfl ?_
      refine ox rfl rfl rfl rfl (ex_assign rfl rfl) ?_
      refine ops_nil (at_then ?_)
      refine run_ret ?_
      have hR := Option.some.inj H
      subst hR
      exact at_ret1 rfl rfl ⟨_, rfl, rfl, HM⟩

def impl_SameRules.f (k : Nat) (x0 : Rule) (x1 : Rule) : Option Bool := ((slices_Equal_int64.f k x0.fKeys x1.fKeys).bind fun t5320 => some ((t5320 && (x0.fNeed == x1.fNeed)) && (x0.fAfter == x1.fAfter)))
theorem impl_SameRules.calls {k : Nat} {x0 : Rule} {x1 : Rule} {p0_0 : Value} {p1_0 : Value} {w : World} (hp0_0 : RdS kInt w p0_0 x0.fKeys) (hp1_0 : RdS kInt w p1_0 x1.fKeys) {r : Bool} (H : impl_SameRules.f k x0 x1 = some r) :
    Calls Tryz.prog 103 ([.agg #[p0_0, (.int .i64 x0.fNeed), (.int .i64 x0.fAfter)], .agg #[p1_0, (.int .i64 x1.fNeed), (.int .i64 x1.fAfter)]] : List Value).toArray w (fun e w_ => ∃ v, e = .returned v ∧ v = (.bool r) ∧ Mem w [] w_ []) := by
  have HM := Mem.start w
  refine calls_run (N := 24) Tryz.func103 rfl rfl rfl rfl ?_
  unfold impl_SameRules.f at H
  refine run_seq ?_
  refine run_region rfl ?_
  refine od rfl rfl rfl rfl (does_box (cs := [p0_0, .int .i64 x0.fNeed, .int .i64 x0.fAfter]) rfl rfl rfl HM) ?_
  rintro _ w5318 ⟨b5312, rfl, HM⟩
  refine od rfl rfl rfl rfl (does_box (cs := [p1_0, .int .i64 x1.fNeed, .int .i64 x1.fAfter]) rfl rfl rfl HM) ?_
  rintro _ w5319 ⟨b5315, rfl, HM⟩
  refine ox rfl rfl rfl rfl (ex_assign rfl rfl) ?_
  refine ops_nil (at_then (run_seq ?_))
  obtain ⟨t5320, h5321, H⟩ := bind_some H
  refine run_meet (fun ρ_ w_ => ρ_ = [(4, .bool ((t5320 && (x0.fNeed == x1.fNeed)) && (x0.fAfter == x1.fAfter)))] ∧ Mem w [] w_ []) ?_ ?_
  · skip
    refine run_region rfl ?_
    refine ox rfl rfl rfl rfl (ex_fieldAddr (off' := 0) rfl rfl Tryz.underlying68 rfl tsz49 rfl) ?_
    refine ox rfl rfl rfl rfl (ex_load1 rfl rfl Tryz.underlying49 rfl ((HM.box_at 1 rfl) 0 _ rfl)) ?_
    refine ox rfl rfl rfl rfl (ex_fieldAddr (off' := 0) rfl rfl Tryz.underlying68 rfl tsz49 rfl) ?_
    refine ox rfl rfl rfl rfl (ex_load1 rfl rfl Tryz.underlying49 rfl ((HM.box_at 0 rfl) 0 _ rfl)) ?_
    refine od rfl rfl rfl rfl (does_callk rfl callok109 rfl (slices_Equal_int64.calls (x0 := x0.fKeys) (x1 := x1.fKeys) (HM.rd hp0_0) (HM.rd hp1_0) h5321)) ?_
    rintro _ w5322 ⟨rfl, hn⟩
    replace HM : Mem w [] w5322 [box b5315 68 [p1_0, .int .i64 x1.fNeed, .int .i64 x1.fAfter], box b5312 68 [p0_0, .int .i64 x0.fNeed, .int .i64 x0.fAfter]] := HM.call hn
    refine ox rfl rfl rfl rfl (ex_move rfl rfl) ?_
    refine bool_cases t5320 (fun hg5323 => ?_) (fun hg5323 => ?_)
    · skip
      refine ops_ex rfl (guard_on rfl rfl rfl hg5323) rfl rfl (ex_fieldAddr (off' := 1) rfl rfl Tryz.underlying68 rfl tsz2 rfl) ?_
      refine ops_ex rfl (guard_on rfl rfl rfl hg5323) rfl rfl (ex_load1 rfl rfl Tryz.underlying2 rfl ((HM.box_at 1 rfl) 1 _ rfl)) ?_
      refine ops_ex rfl (guard_on rfl rfl rfl hg5323) rfl rfl (ex_fieldAddr (off' := 1) rfl rfl Tryz.underlying68 rfl tsz2 rfl) ?_
      refine ops_ex rfl (guard_on rfl rfl rfl hg5323) rfl rfl (ex_load1 rfl rfl Tryz.underlying2 rfl ((HM.box_at 0 rfl) 1 _ rfl)) ?_
      refine ops_ex rfl (guard_on rfl rfl rfl hg5323) rfl rfl (ex_eql rfl rfl rfl) ?_
      refine ops_ex (v := .bool (t5320 && (x0.fNeed == x1.fNeed))) rfl (guard_none rfl) rfl rfl (ex_pand_t rfl rfl hg5323 rfl) ?_
      refine ox rfl rfl rfl rfl (ex_move rfl rfl) ?_
      refine bool_cases (t5320 && (x0.fNeed == x1.fNeed)) (fun hg5324 => ?_) (fun hg5324 => ?_)
      · skip
        refine ops_ex rfl (guard_on rfl rfl rfl hg5324) rfl rfl (ex_fieldAddr (off' := 2) rfl rfl Tryz.underlying68 rfl tsz2 rfl) ?_
        refine ops_ex rfl (guard_on rfl rfl rfl hg5324) rfl rfl (ex_load1 rfl rfl Tryz.underlying2 rfl ((HM.box_at 1 rfl) 2 _ rfl)) ?_
        refine ops_ex rfl (guard_on rfl rfl rfl hg5324) rfl rfl (ex_fieldAddr (off' := 2) rfl rfl Tryz.underlying68 rfl tsz2 rfl) ?_
        refine ops_ex rfl (guard_on rfl rfl rfl hg5324) rfl rfl (ex_load1 rfl rfl Tryz.underlying2 rfl ((HM.box_at 0 rfl) 2 _ rfl)) ?_
        refine ops_ex rfl (guard_on rfl rfl rfl hg5324) rfl rfl (ex_eql rfl rfl rfl) ?_
        refine ops_ex (v := .bool ((t5320 && (x0.fNeed == x1.fNeed)) && (x0.fAfter == x1.fAfter))) rfl (guard_none rfl) rfl rfl (ex_pand_t rfl rfl hg5324 rfl) ?_
        refine ox rfl rfl rfl rfl (ex_assign rfl rfl) ?_
        refine ops_nil ?_
        replace HM := (HM.front 0 rfl rfl).drop
        replace HM := (HM.front 0 rfl rfl).drop
        exact at_meet [(4, .bool ((t5320 && (x0.fNeed == x1.fNeed)) && (x0.fAfter == x1.fAfter)))] ⟨rfl, HM⟩ (Sub.cons rfl Sub.nil)
      · skip
        refine ops_off rfl (guard_off rfl rfl rfl hg5324) rfl rfl ?_
        refine ops_off rfl (guard_off rfl rfl rfl hg5324) rfl rfl ?_
        refine ops_off rfl (guard_off rfl rfl rfl hg5324) rfl rfl ?_
        refine ops_off rfl (guard_off rfl rfl rfl hg5324) rfl rfl ?_
        refine ops_off rfl (guard_off rfl rfl rfl hg5324) rfl rfl ?_
        have hg5325 : ((t5320 && (x0.fNeed == x1.fNeed)) && (x0.fAfter == x1.fAfter)) = false := by simp only [hg5324, Bool.and_true, Bool.true_and, Bool.and_false, Bool.false_and, Bool.or_true, Bool.true_or, Bool.or_false, Bool.false_or, Bool.not_true, Bool.not_false, Bool.not_not]
        refine ops_ex (v := .bool ((t5320 && (x0.fNeed == x1.fNeed)) && (x0.fAfter == x1.fAfter))) rfl (guard_none rfl) rfl rfl (ex_pand_f rfl rfl hg5324) ?_
        refine ox rfl rfl rfl rfl (ex_assign rfl rfl) ?_
        refine ops_nil ?_
        replace HM := (HM.front 0 rfl rfl).drop
        replace HM := (HM.front 0 rfl rfl).drop
        exact at_meet [(4, .bool ((t5320 && (x0.fNeed == x1.fNeed)) && (x0.fAfter == x1.fAfter)))] ⟨rfl, HM⟩ (Sub.cons rfl Sub.nil)
    · skip
      refine ops_off rfl (guard_off rfl rfl rfl hg5323) rfl rfl ?_
      refine ops_off rfl (guard_off rfl rfl rfl hg5323) rfl rfl ?_
      refine ops_off rfl (guard_off rfl rfl rfl hg5323) rfl rfl ?_
      refine ops_off rfl (guard_off rfl rfl rfl hg5323) rfl rfl ?_
      refine ops_off rfl (guard_off rfl rfl rfl hg5323) rfl rfl ?_
      have hg5326 : (t5320 && (x0.fNeed == x1.fNeed)) = false := by simp only [hg5323, Bool.and_true, Bool.true_and, Bool.and_false, Bool.false_and, Bool.or_true, Bool.true_or, Bool.or_false, Bool.false_or, Bool.not_true, Bool.not_false, Bool.not_not]
      refine ops_ex (v := .bool (t5320 && (x0.fNeed == x1.fNeed))) rfl (guard_none rfl) rfl rfl (ex_pand_f rfl rfl hg5323) ?_
      refine ox rfl rfl rfl rfl (ex_move rfl rfl) ?_
      refine ops_off rfl (guard_off rfl rfl rfl hg5326) rfl rfl ?_
      refine ops_off rfl (guard_off rfl rfl rfl hg5326) rfl rfl ?_
      refine ops_off rfl (guard_off rfl rfl rfl hg5326) rfl rfl ?_
      refine ops_off rfl (guard_off rfl rfl rfl hg5326) rfl rfl ?_
      refine ops_off rfl (guard_off rfl rfl rfl hg5326) rfl rfl ?_
      have hg5327 : ((t5320 && (x0.fNeed == x1.fNeed)) && (x0.fAfter == x1.fAfter)) = false := by simp only [hg5326, Bool.and_true, Bool.true_and, Bool.and_false, Bool.false_and, Bool.or_true, Bool.true_or, Bool.or_false, Bool.false_or, Bool.not_true, Bool.not_false, Bool.not_not]
      refine ops_ex (v := .bool ((t5320 && (x0.fNeed == x1.fNeed)) && (x0.fAfter == x1.fAfter))) rfl (guard_none rfl) rfl rfl (ex_pand_f rfl rfl hg5326) ?_
      refine ox rfl rfl rfl rfl (ex_assign rfl rfl) ?_
      refine ops_nil ?_
      replace HM := (HM.front 0 rfl rfl).drop
      replace HM := (HM.front 0 rfl rfl).drop
      exact at_meet [(4, .bool ((t5320 && (x0.fNeed == x1.fNeed)) && (x0.fAfter == x1.fAfter)))] ⟨rfl, HM⟩ (Sub.cons rfl Sub.nil)
  · rintro _ w5328 ⟨rfl, HM⟩
    refine at_then ?_
    refine run_ret ?_
    have hR := Option.some.inj H
    subst hR
    exact at_ret1 rfl rfl ⟨_, rfl, rfl, HM⟩

def impl_sameOuts.f (k : Nat) (x0 : Out) (x1 : Out) : Option Bool := ((bif (x0.fValue == x1.fValue) then impl_SameRules.f k x0.fRule x1.fRule else some default).bind fun t5339 => some ((x0.fValue == x1.fValue) && t5339))
theorem impl_sameOuts.calls {k : Nat} {x0 : Out} {x1 : Out} {p0_0 : Value} {p1_0 : Value} {w : World} (hp0_0 : RdS kInt w p0_0 x0.fRule.fKeys) (hp1_0 : RdS kInt w p1_0 x1.fRule.fKeys) {r : Bool} (H : impl_sameOuts.f k x0 x1 = some r) :
    Calls Tryz.prog 89 ([.agg #[(.int .i64 x0.fValue), p0_0, (.int .i64 x0.fRule.fNeed), (.int .i64 x0.fRule.fAfter)], .agg #[(.int .i64 x1.fValue), p1_0, (.int .i64 x1.fRule.fNeed), (.int .i64 x1.fRule.fAfter)]] : List Value).toArray w (fun e w_ => ∃ v, e = .returned v ∧ v = (.bool r) ∧ Mem w [] w_ []) := by
  have HM := Mem.start w
  refine calls_run (N := 17) Tryz.func89 rfl rfl rfl rfl ?_
  unfold impl_sameOuts.f at H
  refine run_seq ?_
  refine run_region rfl ?_
  refine od rfl rfl rfl rfl (does_box (cs := [.int .i64 x0.fValue, p0_0, .int .i64 x0.fRule.fNeed, .int .i64 x0.fRule.fAfter]) rfl rfl rfl HM) ?_
  rintro _ w5337 ⟨b5331, rfl, HM⟩
  refine od rfl rfl rfl rfl (does_box (cs := [.int .i64 x1.fValue, p1_0, .int .i64 x1.fRule.fNeed, .int .i64 x1.fRule.fAfter]) rfl rfl rfl HM) ?_
  rintro _ w5338 ⟨b5334, rfl, HM⟩
  refine ox rfl rfl rfl rfl (ex_assign rfl rfl) ?_
  refine ops_nil (at_then (run_seq ?_))
  obtain ⟨t5339, h5340, H⟩ := bind_some H
  refine run_meet (fun ρ_ w_ => ρ_ = [(4, .bool ((x0.fValue == x1.fValue) && t5339))] ∧ Mem w [] w_ []) ?_ ?_
  · skip
    refine run_region rfl ?_
    refine ox rfl rfl rfl rfl (ex_fieldAddr (off' := 0) rfl rfl Tryz.underlying70 rfl tsz2 rfl) ?_
    refine ox rfl rfl rfl rfl (ex_load1 rfl rfl Tryz.underlying2 rfl ((HM.box_at 1 rfl) 0 _ rfl)) ?_
    refine ox rfl rfl rfl rfl (ex_fieldAddr (off' := 0) rfl rfl Tryz.underlying70 rfl tsz2 rfl) ?_
    refine ox rfl rfl rfl rfl (ex_load1 rfl rfl Tryz.underlying2 rfl ((HM.box_at 0 rfl) 0 _ rfl)) ?_
    refine ox rfl rfl rfl rfl (ex_eql rfl rfl rfl) ?_
    refine ox rfl rfl rfl rfl (ex_move rfl rfl) ?_
    refine bool_cases (x0.fValue == x1.fValue) (fun hg5341 => ?_) (fun hg5341 => ?_)
    · skip
      refine ops_ex rfl (guard_on rfl rfl rfl hg5341) rfl rfl (ex_fieldAddr (off' := 1) rfl rfl Tryz.underlying70 rfl tsz68 rfl) ?_
      refine ops_ex rfl (guard_on rfl rfl rfl hg5341) rfl rfl (ex_loadN (cs := [p0_0, (.int .i64 x0.fRule.fNeed), (.int .i64 x0.fRule.fAfter)]) rfl rfl Tryz.underlying68 rfl tsz68 rfl ((HM.box_at 1 rfl).sub 1 3 rfl)) ?_
      refine ops_ex rfl (guard_on rfl rfl rfl hg5341) rfl rfl (ex_fieldAddr (off' := 1) rfl rfl Tryz.underlying70 rfl tsz68 rfl) ?_
      refine ops_ex rfl (guard_on rfl rfl rfl hg5341) rfl rfl (ex_loadN (cs := [p1_0, (.int .i64 x1.fRule.fNeed), (.int .i64 x1.fRule.fAfter)]) rfl rfl Tryz.underlying68 rfl tsz68 rfl ((HM.box_at 0 rfl).sub 1 3 rfl)) ?_
      refine ops_does rfl (guard_on rfl rfl rfl hg5341) rfl rfl (does_callk rfl callok103 rfl (impl_SameRules.calls (x0 := x0.fRule) (x1 := x1.fRule) (HM.rd hp0_0) (HM.rd hp1_0) (cond_t hg5341 h5340))) ?_
      rintro _ w5342 ⟨rfl, hn⟩
      replace HM : Mem w [] w5342 [box b5334 70 [.int .i64 x1.fValue, p1_0, .int .i64 x1.fRule.fNeed, .int .i64 x1.fRule.fAfter], box b5331 70 [.int .i64 x0.fValue, p0_0, .int .i64 x0.fRule.fNeed, .int .i64 x0.fRule.fAfter]] := HM.call hn
      refine ops_ex (v := .bool ((x0.fValue == x1.fValue) && t5339)) rfl (guard_none rfl) rfl rfl (ex_pand_t rfl rfl hg5341 rfl) ?_
      refine ox rfl rfl rfl rfl (ex_assign rfl rfl) ?_
      refine ops_nil ?_
      replace HM := (HM.front 0 rfl rfl).drop
      replace HM := (HM.front 0 rfl rfl).drop
      exact at_meet [(4, .bool ((x0.fValue == x1.fValue) && t5339))] ⟨rfl, HM⟩ (Sub.cons rfl Sub.nil)
    · skip
      refine ops_off rfl (guard_off rfl rfl rfl hg5341) rfl rfl ?_
      refine ops_off rfl (guard_off rfl rfl rfl hg5341) rfl rfl ?_
      refine ops_off rfl (guard_off rfl rfl rfl hg5341) rfl rfl ?_
      refine ops_off rfl (guard_off rfl rfl rfl hg5341) rfl rfl ?_
      refine ops_off rfl (guard_off rfl rfl rfl hg5341) rfl rfl ?_
      have hg5343 : ((x0.fValue == x1.fValue) && t5339) = false := by simp only [hg5341, Bool.and_true, Bool.true_and, Bool.and_false, Bool.false_and, Bool.or_true, Bool.true_or, Bool.or_false, Bool.false_or, Bool.not_true, Bool.not_false, Bool.not_not]
      refine ops_ex (v := .bool ((x0.fValue == x1.fValue) && t5339)) rfl (guard_none rfl) rfl rfl (ex_pand_f rfl rfl hg5341) ?_
      refine ox rfl rfl rfl rfl (ex_assign rfl rfl) ?_
      refine ops_nil ?_
      replace HM := (HM.front 0 rfl rfl).drop
      replace HM := (HM.front 0 rfl rfl).drop
      exact at_meet [(4, .bool ((x0.fValue == x1.fValue) && t5339))] ⟨rfl, HM⟩ (Sub.cons rfl Sub.nil)
  · rintro _ w5344 ⟨rfl, HM⟩
    refine at_then ?_
    refine run_ret ?_
    have hR := Option.some.inj H
    subst hR
    exact at_ret1 rfl rfl ⟨_, rfl, rfl, HM⟩
end Go.Proofs.YtecgbhfgkkpmhabGreat.Zk
