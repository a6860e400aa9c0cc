/- What functions of the program compute, each as a plain function, and that they do. Conditions: as each theorem states them. -/
import Derived.Test.YtecgbhfgkkpmhaaFnCoinsZkF4
namespace Go.Proofs.Ytecgbhfgkkpmhaa.Zk
open Go Go.RowKit Go.IntWalk Go.Proofs
set_option linter.unusedVariables false
set_option linter.unusedSimpArgs false
set_option maxRecDepth 100000
set_option maxHeartbeats 4000000
def impl_outFault.f (k : Nat) (x0 : Out) : Option Int := ((impl_within.f k x0.fValue 1 1000000).bind fun t4591 => (bif !t4591 then some 3 else ((impl_RuleFault.f k x0.fRule).bind fun t4595 => some t4595)))
theorem impl_outFault.calls {k : Nat} {x0 : Out} {p0_0 : Value} {w : World} (hp0_0 : RdS kInt w p0_0 x0.fRule.fKeys) {r : Int} (H : impl_outFault.f k x0 = some r) :
  Calls Try.prog 45 ([.agg #[(.int .i64 x0.fValue), p0_0, (.int .i64 x0.fRule.fNeed), (.int .i64 x0.fRule.fAfter)]] : List Value).toArray w (fun e w_ => ∃ v, e = .returned v ∧ v = (.int .i64 r) ∧ Mem w [] w_ []) := by
 have HM := Mem.start w
 refine calls_run (N := 10) Try.func45 rfl rfl rfl rfl ?_
 unfold impl_outFault.f at H
 refine run_seq ?_
 refine run_region rfl ?_
 refine od rfl rfl rfl rfl (does_box (cs := [.int .i64 x0.fValue, p0_0, .int .i64 x0.fRule.fNeed, .int .i64 x0.fRule.fAfter]) rfl rfl rfl HM) ?_
 rintro _ w4590 ⟨b4587, rfl, HM⟩
 refine ox rfl rfl rfl rfl (ex_assign rfl rfl) ?_
 refine ops_nil (at_then (run_seq ?_))
 refine run_seq ?_
 obtain ⟨t4591, h4592, H⟩ := bind_some H
 refine run_region rfl ?_
 refine ox rfl rfl rfl rfl (ex_fieldAddr (off' := 0) rfl rfl Try.underlying36 rfl tsz2 rfl) ?_
 refine ox rfl rfl rfl rfl (ex_load1 rfl rfl Try.underlying2 rfl ((HM.box_at 0 rfl) 0 _ rfl)) ?_
 refine od rfl rfl rfl rfl (does_callk rfl callok36 rfl (impl_within.calls (x0 := x0.fValue) (x1 := 1) (x2 := 1000000) h4592)) ?_
 rintro _ w4593 ⟨rfl, hn⟩
 replace HM : Mem w [] w4593 [box b4587 36 [.int .i64 x0.fValue, p0_0, .int .i64 x0.fRule.fNeed, .int .i64 x0.fRule.fAfter]] := HM.call hn
 refine ox rfl rfl rfl rfl (ex_not rfl rfl) ?_
 refine ops_nil (at_then ?_)
 refine run_cond (b := !t4591) rfl (fun hb4594 => ?_) (fun hb4594 => ?_)
 ·replace H := cond_t hb4594 H
  refine run_seq ?_
  refine run_region rfl ?_
  refine ox rfl rfl rfl rfl (ex_assign rfl rfl) ?_
  refine ops_nil (at_then ?_)
  refine run_ret ?_
  refine at_then_ret ?_
  replace HM := (HM.front 0 rfl rfl).drop
  have hR := Option.some.inj H
  subst hR
  exact at_ret1 rfl rfl ⟨_, rfl, rfl, HM⟩
 ·replace H := cond_f hb4594 H
  refine run_skip ?_
  refine at_then ?_
  refine run_seq ?_
  obtain ⟨t4595, h4596, H⟩ := bind_some H
  refine run_region rfl ?_
  refine ox rfl rfl rfl rfl (ex_fieldAddr (off' := 1) rfl rfl Try.underlying36 rfl tsz34 rfl) ?_
  refine ox rfl rfl rfl rfl (ex_loadN (cs := [p0_0, (.int .i64 x0.fRule.fNeed), (.int .i64 x0.fRule.fAfter)]) rfl rfl Try.underlying34 rfl tsz34 rfl ((HM.box_at 0 rfl).sub 1 3 rfl)) ?_
  refine od rfl rfl rfl rfl (does_callk rfl callok37 rfl (impl_RuleFault.calls (x0 := x0.fRule) (HM.rd hp0_0) h4596)) ?_
  rintro _ w4597 ⟨rfl, hn⟩
  replace HM : Mem w [] w4597 [box b4587 36 [.int .i64 x0.fValue, p0_0, .int .i64 x0.fRule.fNeed, .int .i64 x0.fRule.fAfter]] := HM.call hn
  refine ox rfl rfl rfl rfl (ex_assign rfl rfl) ?_
  refine ops_nil (at_then ?_)
  refine run_ret ?_
  replace HM := (HM.front 0 rfl rfl).drop
  have hR := Option.some.inj H
  subst hR
  exact at_ret1 rfl rfl ⟨_, rfl, rfl, HM⟩

def impl_hasTx_1.f (k : Nat) (x0 : Coin) (x1 : Int) : Option Bool := some (x0.fRef.fTx == x1)
theorem impl_hasTx_1.calls {k : Nat} {x0 : Coin} {x1 : Int} {p0_0 : Value} {b1 f1 : Nat} {w : World} (hp0_0 : RdS kInt w p0_0 x0.fOut.fRule.fKeys) (hc1 : CellsAt w b1 f1 [.int .i64 x1]) {r : Bool} (H : impl_hasTx_1.f k x0 x1 = some r) :
  Calls Try.prog 65 ([.agg #[(.int .i64 x0.fRef.fTx), (.int .i64 x0.fRef.fAt), (.int .i64 x0.fOut.fValue), p0_0, (.int .i64 x0.fOut.fRule.fNeed), (.int .i64 x0.fOut.fRule.fAfter), (.int .i64 x0.fHeight), (.bool x0.fMined)], .pointer (some ⟨b1, f1, none⟩)] : List Value).toArray w (fun e w_ => ∃ v, e = .returned v ∧ v = (.bool r) ∧ Mem w [] w_ []) := by
 have HM := Mem.start w
 refine calls_run (N := 9) Try.func65 rfl rfl rfl rfl ?_
 unfold impl_hasTx_1.f at H
 refine run_seq ?_
 refine run_region rfl ?_
 refine od rfl rfl rfl rfl (does_box (cs := [.int .i64 x0.fRef.fTx, .int .i64 x0.fRef.fAt, .int .i64 x0.fOut.fValue, p0_0, .int .i64 x0.fOut.fRule.fNeed, .int .i64 x0.fOut.fRule.fAfter, .int .i64 x0.fHeight, .bool x0.fMined]) rfl rfl rfl HM) ?_
 rintro _ w4640 ⟨b4637, rfl, HM⟩
 refine ox rfl rfl rfl rfl (ex_assign rfl rfl) ?_
 refine ops_nil (at_then (run_seq ?_))
 refine run_region rfl ?_
 refine ox rfl rfl rfl rfl (ex_fieldAddr (off' := 0) rfl rfl Try.underlying41 rfl tsz38 rfl) ?_
 refine ox rfl rfl rfl rfl (ex_fieldAddr (off' := 0) rfl rfl Try.underlying38 rfl tsz2 rfl) ?_
 refine ox rfl rfl rfl rfl (ex_load1 rfl rfl Try.underlying2 rfl ((HM.box_at 0 rfl) 0 _ rfl)) ?_
 refine ox rfl rfl rfl rfl (ex_load1 rfl rfl Try.underlying2 rfl ((HM.at_ hc1) 0 _ rfl)) ?_
 refine ox rfl rfl rfl rfl (ex_eql rfl rfl rfl) ?_
 refine ox rfl rfl rfl rfl (ex_assign rfl rfl) ?_
 refine ops_nil (at_then ?_)
 refine run_ret ?_
 replace HM := (HM.front 0 rfl rfl).drop
 have hR := Option.some.inj H
 subst hR
 exact at_ret1 rfl rfl ⟨_, rfl, rfl, HM⟩

def slices_IndexFunc_impl_Coin.l0 (x0 : List Coin) (x1_0 : Int) : Nat → Int → Option (Int ⊕ Unit)
 | 0, _ => none
 | k + 1, a4698 => (bif (decide (a4698 < (x0.length : Int))) then (chk (idxOk a4698 x0.length) ((impl_hasTx_1.f k (gt x0 a4698) x1_0).bind fun t4714 => (bif t4714 then some (.inl a4698) else slices_IndexFunc_impl_Coin.l0 x0 x1_0 k (wrap64 (a4698 + 1))))) else some (.inr ()))
theorem slices_IndexFunc_impl_Coin.l0_z (x0 : List Coin) (x1_0 : Int) (a4698 : Int) : slices_IndexFunc_impl_Coin.l0 x0 x1_0 0 a4698 = none := rfl
theorem slices_IndexFunc_impl_Coin.l0_s (x0 : List Coin) (x1_0 : Int) (k : Nat) (a4698 : Int) : slices_IndexFunc_impl_Coin.l0 x0 x1_0 (k + 1) a4698 = (bif (decide (a4698 < (x0.length : Int))) then (chk (idxOk a4698 x0.length) ((impl_hasTx_1.f k (gt x0 a4698) x1_0).bind fun t4714 => (bif t4714 then some (.inl a4698) else slices_IndexFunc_impl_Coin.l0 x0 x1_0 k (wrap64 (a4698 + 1))))) else some (.inr ())) := rfl
def slices_IndexFunc_impl_Coin.f (k : Nat) (x0 : List Coin) (x1_0 : Int) : Option Int := ((slices_IndexFunc_impl_Coin.l0 x0 x1_0 k 0).bind fun o4688 => thn o4688 (fun r => some r) (fun _ => some (-1)))
theorem slices_IndexFunc_impl_Coin.calls {k : Nat} {x0 : List Coin} {x1_0 : Int} {p0 : Value} {b1_0 f1_0 : Nat} {w : World} (hp0 : RdS kCoin w p0 x0) (hc1_0 : CellsAt w b1_0 f1_0 [.int .i64 x1_0]) {r : Int} (H : slices_IndexFunc_impl_Coin.f k x0 x1_0 = some r) :
  Calls Try.prog 75 ([p0, .func (.func 65) #[] #[(.pointer (some ⟨b1_0, f1_0, none⟩))]] : List Value).toArray w (fun e w_ => ∃ v, e = .returned v ∧ v = (.int .i64 r) ∧ Mem w [] w_ []) := by
 have HM := Mem.start w
 refine calls_run (N := 19) Try.func75 rfl rfl rfl rfl ?_
 unfold slices_IndexFunc_impl_Coin.f at H
 refine run_seq ?_
 refine run_region rfl ?_
 refine ox rfl rfl rfl rfl (ex_assign rfl rfl) ?_
 refine ops_nil (at_then ?_)
 obtain ⟨o4688, ho4689, H⟩ := bind_some H
 refine run_mid (fun ρ_ w_ => Sum.inr () = o4688 ∧ ρ_ = [] ∧ Mem w [] w_ []) ?_ ?_
 ·skip
  refine run_seq ?_
  refine run_region rfl ?_
  refine ox rfl rfl rfl rfl (ex_move rfl rfl) ?_
  refine ox rfl rfl rfl rfl (ex_len (d := kCoin) (xs := x0) rfl rfl Try.underlying24 hp0) ?_
  refine ox rfl rfl rfl rfl (ex_move rfl rfl) ?_
  refine ops_nil (at_then ?_)
  refine run_block ?_
  refine run_loop (fun k_ ρ_ w_ => ∃ a4698 : Int, slices_IndexFunc_impl_Coin.l0 x0 x1_0 k_ a4698 = some o4688 ∧ ρ_ = [(0, p0), (1, .func (.func 65) #[] #[(.pointer (some ⟨b1_0, f1_0, none⟩))]), (7, .int .i64 (x0.length : Int)), (8, .int .i64 a4698)] ∧ Mem w [] w_ []) k (ρ1 := [(0, p0), (1, .func (.func 65) #[] #[(.pointer (some ⟨b1_0, f1_0, none⟩))]), (7, .int .i64 (x0.length : Int)), (8, .int .i64 0)]) ⟨_, ho4689, rfl, HM⟩ (Sub.cons rfl (Sub.cons rfl (Sub.cons rfl (Sub.cons rfl Sub.nil)))) ?_
  clear HM ho4689
  rintro k4707 _ w4708 ⟨a4698, ho4689, rfl, HM⟩
  obtain _ | k4707 := k4707
  ·exact nomatch ((slices_IndexFunc_impl_Coin.l0_z x0 x1_0 a4698).symm.trans ho4689)
  replace ho4689 := (slices_IndexFunc_impl_Coin.l0_s x0 x1_0 k4707 a4698).symm.trans ho4689
  refine run_seq ?_
  refine run_region rfl ?_
  refine ox rfl rfl rfl rfl (ex_lss rfl rfl rfl) ?_
  refine ops_nil (at_then (run_seq ?_))
  refine run_cond (b := (decide (a4698 < (x0.length : Int)))) rfl (fun hb4709 => ?_) (fun hb4709 => ?_)
  ·replace ho4689 := cond_t hb4709 ho4689
   refine run_skip ?_
   refine at_then ?_
   refine run_seq ?_
   refine run_block ?_
   refine run_seq ?_
   refine run_region rfl ?_
   refine ox rfl rfl rfl rfl (ex_move rfl rfl) ?_
   refine ox rfl rfl rfl rfl (ex_assign rfl rfl) ?_
   refine ops_nil (at_then (run_seq ?_))
   obtain ⟨e4710, ho4689⟩ := chk_some ho4689
   obtain ⟨t4714, h4715, ho4689⟩ := bind_some ho4689
   refine run_region rfl ?_
   refine ox rfl rfl rfl rfl (ex_move rfl rfl) ?_
   refine ox rfl rfl rfl rfl (ex_move rfl rfl) ?_
   refine ox rfl rfl rfl rfl (ex_move rfl rfl) ?_
   obtain ⟨kv4712, hc4711, hk4713⟩ : ∃ u, CellsAt _ (sb p0) (so p0 + (a4698).toNat * 8) [(.int .i64 ((gt x0 a4698).fRef.fTx)), (.int .i64 ((gt x0 a4698).fRef.fAt)), (.int .i64 ((gt x0 a4698).fOut.fValue)), u, (.int .i64 ((gt x0 a4698).fOut.fRule.fNeed)), (.int .i64 ((gt x0 a4698).fOut.fRule.fAfter)), (.int .i64 ((gt x0 a4698).fHeight)), (.bool ((gt x0 a4698).fMined))] ∧ RdS kInt _ u ((gt x0 a4698).fOut.fRule.fKeys) := rd_with1 hp0 e4710
   refine ox rfl rfl rfl rfl (ex_indexAddr (d := kCoin) rfl rfl rfl Try.underlying24 tsz41 hp0 (idx_lo e4710) (idx_hi e4710)) ?_
   refine ox rfl rfl rfl rfl (ex_loadN (cs := [(.int .i64 ((gt x0 a4698).fRef.fTx)), (.int .i64 ((gt x0 a4698).fRef.fAt)), (.int .i64 ((gt x0 a4698).fOut.fValue)), kv4712, (.int .i64 ((gt x0 a4698).fOut.fRule.fNeed)), (.int .i64 ((gt x0 a4698).fOut.fRule.fAfter)), (.int .i64 ((gt x0 a4698).fHeight)), (.bool ((gt x0 a4698).fMined))]) rfl rfl Try.underlying41 rfl tsz41 rfl ((HM.at_ hc4711).sub 0 8 rfl)) ?_
   refine od rfl rfl rfl rfl (does_callvk rfl callok65 rfl rfl rfl (impl_hasTx_1.calls (x0 := (gt x0 a4698)) (x1 := x1_0) (HM.rd hk4713) (HM.at_ hc1_0) h4715)) ?_
   rintro _ w4716 ⟨rfl, hn⟩
   replace HM : Mem w [] w4716 [] := HM.call hn
   refine ops_nil (at_then ?_)
   refine run_cond (b := t4714) rfl (fun hb4717 => ?_) (fun hb4717 => ?_)
   ·replace ho4689 := cond_t hb4717 ho4689
    refine run_seq ?_
    refine run_region rfl ?_
    refine ox rfl rfl rfl rfl (ex_move rfl rfl) ?_
    refine ox rfl rfl rfl rfl (ex_assign rfl rfl) ?_
    refine ops_nil (at_then ?_)
    refine run_ret ?_
    refine at_block_ret ?_
    refine at_then_ret ?_
    refine at_then_ret ?_
    refine at_block_ret ?_
    refine at_then_ret ?_
    have hR := Option.some.inj ho4689
    subst hR
    have hT := thn_inl H
    have hR := Option.some.inj hT
    subst hR
    exact at_ret1 rfl rfl ⟨_, rfl, rfl, HM⟩
   ·replace ho4689 := cond_f hb4717 ho4689
    refine run_skip ?_
    refine at_block ?_
    refine at_then ?_
    refine run_region rfl ?_
    refine ox rfl rfl rfl rfl (ex_add rfl rfl rfl) ?_
    refine ox rfl rfl rfl rfl (ex_move rfl rfl) ?_
    refine ops_nil ?_
    exact at_again k4707 (ρ1 := [(0, p0), (1, .func (.func 65) #[] #[(.pointer (some ⟨b1_0, f1_0, none⟩))]), (7, .int .i64 (x0.length : Int)), (8, .int .i64 (wrap64 (a4698 + 1)))]) (Nat.lt_succ_self _) ⟨_, ho4689, rfl, HM⟩ (Sub.cons rfl (Sub.cons rfl (Sub.cons rfl (Sub.cons rfl Sub.nil))))
  ·replace ho4689 := cond_f hb4709 ho4689
   refine run_exit ?_
   refine at_then_exit ?_
   refine at_then_exit ?_
   refine at_block_exit ?_
   exact at_mid (ρ' := []) ⟨(Option.some.inj ho4689), rfl, HM⟩ Sub.nil
 ·rintro _ w4718 ⟨rfl, rfl, HM⟩
  replace H := (thn_inr H)
  refine run_seq ?_
  refine run_region rfl ?_
  refine ox rfl rfl rfl rfl (ex_assign rfl rfl) ?_
  refine ops_nil (at_then ?_)
  refine run_ret ?_
  have hR := Option.some.inj H
  subst hR
  exact at_ret1 rfl rfl ⟨_, rfl, rfl, HM⟩

def slices_ContainsFunc_impl_Coin.f (k : Nat) (x0 : List Coin) (x1_0 : Int) : Option Bool := ((slices_IndexFunc_impl_Coin.f k x0 x1_0).bind fun t4721 => some (decide (0 ≤ t4721)))
theorem slices_ContainsFunc_impl_Coin.calls {k : Nat} {x0 : List Coin} {x1_0 : Int} {p0 : Value} {b1_0 f1_0 : Nat} {w : World} (hp0 : RdS kCoin w p0 x0) (hc1_0 : CellsAt w b1_0 f1_0 [.int .i64 x1_0]) {r : Bool} (H : slices_ContainsFunc_impl_Coin.f k x0 x1_0 = some r) :
  Calls Try.prog 64 ([p0, .func (.func 65) #[] #[(.pointer (some ⟨b1_0, f1_0, none⟩))]] : List Value).toArray w (fun e w_ => ∃ v, e = .returned v ∧ v = (.bool r) ∧ Mem w [] w_ []) := by
 have HM := Mem.start w
 refine calls_run (N := 9) Try.func64 rfl rfl rfl rfl ?_
 unfold slices_ContainsFunc_impl_Coin.f at H
 refine run_seq ?_
 refine run_region rfl ?_
 refine ox rfl rfl rfl rfl (ex_assign rfl rfl) ?_
 refine ops_nil (at_then (run_seq ?_))
 obtain ⟨t4721, h4722, H⟩ := bind_some H
 refine run_region rfl ?_
 refine ox rfl rfl rfl rfl (ex_move rfl rfl) ?_
 refine ox rfl rfl rfl rfl (ex_move rfl rfl) ?_
 refine od rfl rfl rfl rfl (does_callk rfl callok75 rfl (slices_IndexFunc_impl_Coin.calls (x0 := x0) (x1_0 := x1_0) (HM.rd hp0) (HM.at_ hc1_0) h4722)) ?_
 rintro _ w4723 ⟨rfl, hn⟩
 replace HM : Mem w [] w4723 [] := HM.call hn
 refine ox rfl rfl rfl rfl (ex_geq rfl rfl rfl) ?_
 refine ox rfl rfl rfl rfl (ex_assign rfl rfl) ?_
 refine ops_nil (at_then ?_)
 refine run_ret ?_
 have hR := Option.some.inj H
 subst hR
 exact at_ret1 rfl rfl ⟨_, rfl, rfl, HM⟩

def impl_hasTx.f (k : Nat) (x0 : List Coin) (x1 : Int) : Option Bool := ((slices_ContainsFunc_impl_Coin.f k x0 x1).bind fun t4730 => some t4730)
theorem impl_hasTx.calls {k : Nat} {x0 : List Coin} {x1 : Int} {p0 : Value} {w : World} (hp0 : RdS kCoin w p0 x0) {r : Bool} (H : impl_hasTx.f k x0 x1 = some r) :
  Calls Try.prog 46 ([p0, .int .i64 x1] : List Value).toArray w (fun e w_ => ∃ v, e = .returned v ∧ v = (.bool r) ∧ Mem w [] w_ []) := by
 have HM := Mem.start w
 refine calls_run (N := 8) Try.func46 rfl rfl rfl rfl ?_
 unfold impl_hasTx.f at H
 refine run_seq ?_
 refine run_region rfl ?_
 refine od rfl rfl rfl rfl (does_box (cs := [.int .i64 x1]) rfl rfl rfl HM) ?_
 rintro _ w4729 ⟨b4726, rfl, HM⟩
 refine ox rfl rfl rfl rfl (ex_assign rfl rfl) ?_
 refine ops_nil (at_then (run_seq ?_))
 obtain ⟨t4730, h4731, H⟩ := bind_some H
 refine run_region rfl ?_
 refine ox rfl rfl rfl rfl (ex_move rfl rfl) ?_
 refine ox rfl rfl rfl rfl (ex_func rfl rfl) ?_
 refine od rfl rfl rfl rfl (does_callk rfl callok64 rfl (slices_ContainsFunc_impl_Coin.calls (x0 := x0) (x1_0 := x1) (HM.rd hp0) (HM.box_at 0 rfl) h4731)) ?_
 rintro _ w4732 ⟨rfl, hn⟩
 replace HM : Mem w [] w4732 [box b4726 2 [.int .i64 x1]] := HM.call hn
 refine ox rfl rfl rfl rfl (ex_assign rfl rfl) ?_
 refine ops_nil (at_then ?_)
 refine run_ret ?_
 replace HM := (HM.front 0 rfl rfl).drop
 have hR := Option.some.inj H
 subst hR
 exact at_ret1 rfl rfl ⟨_, rfl, rfl, HM⟩

def slices_Clone_int64.f (k : Nat) (x0 : List Int) : Option ((List Int)) := (chk (leB ((([] : List Int).length + x0.length) * 8) 140737488355328) (some (([] : List Int) ++ x0)))
theorem slices_Clone_int64.calls {k : Nat} {x0 : List Int} {p0 : Value} {w : World} (hp0 : RdS kInt w p0 x0) {r : (List Int)} (H : slices_Clone_int64.f k x0 = some r) :
  Calls Try.prog 76 ([p0] : List Value).toArray w (fun e w_ => ∃ v, e = .returned v ∧ ∃ u0 : Value, v = u0 ∧ Mem w [] w_ [own kInt 2 u0 r]) := by
 have HM := Mem.start w
 refine calls_run (N := 8) Try.func76 rfl rfl rfl rfl ?_
 unfold slices_Clone_int64.f at H
 refine run_seq ?_
 refine run_region rfl ?_
 refine ox rfl rfl rfl rfl (ex_assign rfl rfl) ?_
 refine ops_nil (at_then (run_seq ?_))
 refine run_seq ?_
 refine run_region rfl ?_
 refine ox rfl rfl rfl rfl (ex_move rfl rfl) ?_
 refine ops_exE rfl (guard_none rfl) rfl rfl (ex_isnil rfl rfl rfl Try.underlying32 hp0) ?_
 rintro _ ⟨b4773, rfl, hb4774⟩
 refine ops_nil (at_then ?_)
 refine run_cond (b := b4773) rfl (fun hb4775 => ?_) (fun hb4775 => ?_)
 ·have hx_ := hb4774 hb4775
  subst hx_
  obtain ⟨_, H⟩ := chk_some H
  replace H : some ([] : List Int) = r := H
  refine run_seq ?_
  refine run_region rfl ?_
  refine ox rfl rfl rfl rfl (ex_assign rfl rfl) ?_
  refine ops_nil (at_then ?_)
  refine run_ret ?_
  refine at_then_ret ?_
  replace HM := HM.empty kInt 2 none
  have hR := Option.some.inj H
  subst hR
  exact at_ret1 rfl rfl ⟨_, rfl, _, rfl, HM⟩
 ·skip
  refine run_skip ?_
  refine at_then ?_
  refine run_seq ?_
  obtain ⟨e4779, H⟩ := chk_some H
  refine run_region rfl ?_
  refine od rfl rfl rfl rfl (does_lit (e := 2) (cs := []) (xs := ([] : List Int)) kInt rfl rfl (fun _ => by kernel_rfl) rfl rfl (fun _ _ h => by have h' : _ = [] := h; subst h'; exact .nil) HM.emp) ?_
  rintro v4776 w4782 HM
  refine ox rfl rfl rfl rfl (ex_move rfl rfl) ?_
  refine od rfl rfl rfl rfl (does_appendR kInt flat_plain rfl rfl rfl Try.underlying32 tsz2 rfl tby2 tz2 rfl rfl (leB_le e4779) (HM.rd hp0) HM) ?_
  rintro v4780 w4783 HM
  refine ox rfl rfl rfl rfl (ex_assign rfl rfl) ?_
  refine ops_nil (at_then ?_)
  refine run_ret ?_
  have hR := Option.some.inj H
  subst hR
  exact at_ret1 rfl rfl ⟨_, rfl, _, rfl, HM⟩

def impl_ownRule.f (k : Nat) (x0 : Rule) : Option Rule := ((slices_Clone_int64.f k x0.fKeys).bind fun t4797 => some (⟨t4797, x0.fNeed, x0.fAfter⟩ : Rule))
theorem impl_ownRule.calls {k : Nat} {x0 : Rule} {p0_0 : Value} {w : World} (hp0_0 : RdS kInt w p0_0 x0.fKeys) {r : Rule} (H : impl_ownRule.f k x0 = some r) :
  Calls Try.prog 66 ([.agg #[p0_0, (.int .i64 x0.fNeed), (.int .i64 x0.fAfter)]] : List Value).toArray w (fun e w_ => ∃ v, e = .returned v ∧ ∃ u0 : Value, v = (.agg #[u0, .int .i64 r.fNeed, .int .i64 r.fAfter]) ∧ Mem w [] w_ [own kInt 2 u0 r.fKeys]) := by
 have HM := Mem.start w
 refine calls_run (N := 8) Try.func66 rfl rfl rfl rfl ?_
 unfold impl_ownRule.f at H
 refine run_seq ?_
 refine run_region rfl ?_
 refine od rfl rfl rfl rfl (does_box (cs := [p0_0, .int .i64 x0.fNeed, .int .i64 x0.fAfter]) rfl rfl rfl HM) ?_
 rintro _ w4795 ⟨b4789, rfl, HM⟩
 refine od rfl rfl rfl rfl (does_alloc (cs := [.slice none 0 0, .int .i64 0, .int .i64 0]) rfl tz34 rfl HM) ?_
 rintro _ w4796 ⟨b4792, rfl, HM⟩
 refine ops_nil (at_then (run_seq ?_))
 obtain ⟨t4797, h4798, H⟩ := bind_some H
 refine run_region rfl ?_
 refine ox rfl rfl rfl rfl (ex_fieldAddr (off' := 0) rfl rfl Try.underlying34 rfl tsz32 rfl) ?_
 refine ox rfl rfl rfl rfl (ex_load1 rfl rfl Try.underlying32 rfl ((HM.box_at 1 rfl) 0 _ rfl)) ?_
 refine od rfl rfl rfl rfl (does_callk rfl callok76 rfl (slices_Clone_int64.calls (x0 := x0.fKeys) (HM.rd hp0_0) h4798)) ?_
 rintro u4799 w4801 ⟨_, rfl, hn⟩
 replace HM : Mem w [] w4801 [own kInt 2 u4799 t4797, box b4792 34 [.slice none 0 0, .int .i64 0, .int .i64 0], box b4789 34 [p0_0, .int .i64 x0.fNeed, .int .i64 x0.fAfter]] := HM.call hn
 refine ox rfl rfl rfl rfl (ex_fieldAddr (off' := 0) rfl rfl Try.underlying34 rfl tsz32 rfl) ?_
 replace HM := HM.front 2 rfl rfl
 refine odS rfl rfl rfl (does_store (vs := [u4799]) (cs' := [u4799, .int .i64 x0.fNeed, .int .i64 x0.fAfter]) rfl rfl rfl (rd_cells (HM.own_rd 1 rfl)) tsz32 (Ones.rd (HM.own_rd 1 rfl) Ones.nil) rfl rfl HM) ?_
 rintro w4802 HM
 refine ops_nil (at_then (run_seq ?_))
 refine run_region rfl ?_
 refine ox rfl rfl rfl rfl (ex_loadN (cs := [u4799, (.int .i64 x0.fNeed), (.int .i64 x0.fAfter)]) rfl rfl Try.underlying34 rfl tsz34 rfl ((HM.box_at 0 rfl).sub 0 3 rfl)) ?_
 replace HM := HM.front 2 rfl rfl
 refine odS rfl rfl rfl (does_store (vs := [u4799, .int .i64 x0.fNeed, .int .i64 x0.fAfter]) (cs' := [u4799, .int .i64 x0.fNeed, .int .i64 x0.fAfter]) rfl rfl rfl rfl tsz34 (Ones.rd (HM.own_rd 2 rfl) (Ones.int (Ones.int Ones.nil))) rfl rfl HM) ?_
 rintro w4803 HM
 refine ops_nil (at_then ?_)
 refine run_ret ?_
 replace HM := (HM.front 1 rfl rfl).drop
 have hcb0 := HM.box_at 0 rfl
 replace HM := (HM.front 0 rfl rfl).drop
 have hR := Option.some.inj H
 subst hR
 exact at_retN rfl rfl Try.underlying34 rfl tsz34 rfl hcb0 ⟨_, rfl, _, rfl, HM⟩

def impl_ownOut.f (k : Nat) (x0 : Out) : Option Out := ((impl_ownRule.f k x0.fRule).bind fun t4816 => some (⟨x0.fValue, t4816⟩ : Out))
theorem impl_ownOut.calls {k : Nat} {x0 : Out} {p0_0 : Value} {w : World} (hp0_0 : RdS kInt w p0_0 x0.fRule.fKeys) {r : Out} (H : impl_ownOut.f k x0 = some r) :
  Calls Try.prog 47 ([.agg #[(.int .i64 x0.fValue), p0_0, (.int .i64 x0.fRule.fNeed), (.int .i64 x0.fRule.fAfter)]] : List Value).toArray w (fun e w_ => ∃ v, e = .returned v ∧ ∃ u0 : Value, v = (.agg #[.int .i64 r.fValue, u0, .int .i64 r.fRule.fNeed, .int .i64 r.fRule.fAfter]) ∧ Mem w [] w_ [own kInt 2 u0 r.fRule.fKeys]) := by
 have HM := Mem.start w
 refine calls_run (N := 9) Try.func47 rfl rfl rfl rfl ?_
 unfold impl_ownOut.f at H
 refine run_seq ?_
 refine run_region rfl ?_
 refine od rfl rfl rfl rfl (does_box (cs := [.int .i64 x0.fValue, p0_0, .int .i64 x0.fRule.fNeed, .int .i64 x0.fRule.fAfter]) rfl rfl rfl HM) ?_
 rintro _ w4814 ⟨b4808, rfl, HM⟩
 refine od rfl rfl rfl rfl (does_alloc (cs := [.int .i64 0, .slice none 0 0, .int .i64 0, .int .i64 0]) rfl tz36 rfl HM) ?_
 rintro _ w4815 ⟨b4811, rfl, HM⟩
 refine ops_nil (at_then (run_seq ?_))
 obtain ⟨t4816, h4817, H⟩ := bind_some H
 refine run_drawf (fun w_ => Mem w [] w_ [box b4808 36 [.int .i64 x0.fValue, p0_0, .int .i64 x0.fRule.fNeed, .int .i64 x0.fRule.fAfter]]) [(0, true), (1, true), (2, true), (3, true), (4, false), (5, true), (6, false)] mixed rfl rfl (by kernel_rfl) ?_
 replace HM := HM.grow (fr_drew _)
 have hS := Mem.suf (M := [box b4811 36 [.int .i64 0, .slice none 0 0, .int .i64 0, .int .i64 0]]) HM
 refine dp rfl rfl rfl rfl (ex_fieldAddr (off' := 0) rfl rfl Try.underlying36 rfl tsz2 rfl) hS ?_
 refine drwp_take rfl (guard_none rfl) rfl rfl (fun w_ hS_ => (ex_load1 rfl rfl Try.underlying2 rfl ((hS_.box_at 0 rfl) 0 _ rfl))) hS ?_
 refine dp rfl rfl rfl rfl (ex_fieldAddr (off' := 1) rfl rfl Try.underlying36 rfl tsz34 rfl) hS ?_
 refine drwp_take rfl (guard_none rfl) rfl rfl (fun w_ hS_ => (ex_loadN (cs := [p0_0, (.int .i64 x0.fRule.fNeed), (.int .i64 x0.fRule.fAfter)]) rfl rfl Try.underlying34 rfl tsz34 rfl ((hS_.box_at 0 rfl).sub 1 3 rfl))) hS ?_
 refine drwp_one rfl (guard_none rfl) rfl rfl (does_callk rfl callok66 rfl (impl_ownRule.calls (x0 := x0.fRule) (HM.rd hp0_0) h4817)) ?_
 rintro _ w4820 ⟨u4818, rfl, hn⟩
 replace HM : Mem w [] w4820 [own kInt 2 u4818 t4816.fKeys, box b4811 36 [.int .i64 0, .slice none 0 0, .int .i64 0, .int .i64 0], box b4808 36 [.int .i64 x0.fValue, p0_0, .int .i64 x0.fRule.fNeed, .int .i64 x0.fRule.fAfter]] := HM.call hn
 have hS := Mem.suf (M := [own kInt 2 u4818 t4816.fKeys, box b4811 36 [.int .i64 0, .slice none 0 0, .int .i64 0, .int .i64 0]]) HM
 refine ⟨hS, ?_⟩
 refine dp rfl rfl rfl rfl (ex_build1 (fun u4818 => [(0, .int .i64 x0.fValue), (1, .agg #[u4818, (.int .i64 t4816.fNeed), (.int .i64 t4816.fAfter)])]) (fun u4818 => #[.int .i64 x0.fValue, u4818, .int .i64 t4816.fNeed, .int .i64 t4816.fAfter]) rfl rfl (fun _ _ _ => by kernel_rfl) (HM.own_rd 0 rfl).isSl) hS ?_
 replace HM := HM.front 1 rfl rfl
 refine drwp_oneS rfl (guard_none rfl) rfl (does_store (vs := [.int .i64 x0.fValue, u4818, .int .i64 t4816.fNeed, .int .i64 t4816.fAfter]) (cs' := [.int .i64 x0.fValue, u4818, .int .i64 t4816.fNeed, .int .i64 t4816.fAfter]) rfl rfl rfl rfl tsz36 (Ones.int (Ones.rd (HM.own_rd 1 rfl) (Ones.int (Ones.int Ones.nil)))) rfl rfl HM) ?_
 rintro w4821 HM
 have hS := Mem.suf (M := [box b4811 36 [.int .i64 x0.fValue, u4818, .int .i64 t4816.fNeed, .int .i64 t4816.fAfter], own kInt 2 u4818 t4816.fKeys]) HM
 refine ⟨hS, ?_⟩
 refine drwp_done ?_
 refine at_then ?_
 refine run_ret ?_
 replace HM := (HM.front 2 rfl rfl).drop
 have hcb0 := HM.box_at 0 rfl
 replace HM := (HM.front 0 rfl rfl).drop
 have hR := Option.some.inj H
 subst hR
 exact at_retN rfl rfl Try.underlying36 rfl tsz36 rfl hcb0 ⟨_, rfl, _, rfl, HM⟩

def impl_ownCoins.l0 (x0 : List Coin) : Nat → (List Coin) → Int → Option ((List Coin))
 | 0, _, _ => none
 | k + 1, a4963, a4965 => (bif (decide (a4965 < (x0.length : Int))) then (chk (idxOk a4965 x0.length) ((impl_ownOut.f k ((gt x0 a4965).fOut)).bind fun t4996 => (chk (leB ((a4963.length + ([(⟨(gt x0 a4965).fRef, t4996, (gt x0 a4965).fHeight, (gt x0 a4965).fMined⟩ : Coin)] : List Coin).length) * 80) 140737488355328) (impl_ownCoins.l0 x0 k (a4963 ++ ([(⟨(gt x0 a4965).fRef, t4996, (gt x0 a4965).fHeight, (gt x0 a4965).fMined⟩ : Coin)] : List Coin)) (wrap64 (a4965 + 1)))))) else some a4963)
theorem impl_ownCoins.l0_z (x0 : List Coin) (a4963 : List Coin) (a4965 : Int) : impl_ownCoins.l0 x0 0 a4963 a4965 = none := rfl
theorem impl_ownCoins.l0_s (x0 : List Coin) (k : Nat) (a4963 : List Coin) (a4965 : Int) : impl_ownCoins.l0 x0 (k + 1) a4963 a4965 = (bif (decide (a4965 < (x0.length : Int))) then (chk (idxOk a4965 x0.length) ((impl_ownOut.f k ((gt x0 a4965).fOut)).bind fun t4996 => (chk (leB ((a4963.length + ([(⟨(gt x0 a4965).fRef, t4996, (gt x0 a4965).fHeight, (gt x0 a4965).fMined⟩ : Coin)] : List Coin).length) * 80) 140737488355328) (impl_ownCoins.l0 x0 k (a4963 ++ ([(⟨(gt x0 a4965).fRef, t4996, (gt x0 a4965).fHeight, (gt x0 a4965).fMined⟩ : Coin)] : List Coin)) (wrap64 (a4965 + 1)))))) else some a4963) := rfl
def impl_ownCoins.f (k : Nat) (x0 : List Coin) : Option ((List Coin)) := ((impl_ownCoins.l0 x0 k ([] : List Coin) 0).bind (fun a4940 => some a4940))
theorem impl_ownCoins.calls {k : Nat} {x0 : List Coin} {p0 : Value} {w : World} (hp0 : RdS kCoin w p0 x0) {r : (List Coin)} (H : impl_ownCoins.f k x0 = some r) :
  Calls Try.prog 30 ([p0] : List Value).toArray w (fun e w_ => ∃ v, e = .returned v ∧ ∃ u0 : Value, v = u0 ∧ Mem w [] w_ [own kCoin 41 u0 r]) := by
 have HM := Mem.start w
 refine calls_run (N := 23) Try.func30 rfl rfl rfl rfl ?_
 unfold impl_ownCoins.f at H
 refine run_seq ?_
 refine run_region rfl ?_
 refine ox rfl rfl rfl rfl (ex_assign rfl rfl) ?_
 refine ops_nil (at_then (run_seq ?_))
 refine run_region rfl ?_
 refine od rfl rfl rfl rfl (does_lit (e := 41) (cs := []) (xs := ([] : List Coin)) kCoin rfl rfl (fun _ => by kernel_rfl) rfl rfl (fun _ _ h => by have h' : _ = [] := h; subst h'; exact .nil) HM.emp) ?_
 rintro v4877 w4880 HM
 refine ox rfl rfl rfl rfl (ex_assign rfl rfl) ?_
 refine ops_nil (at_then ?_)
 obtain ⟨o4942, ho4943, H⟩ := bind_some H
 refine run_mid (fun ρ_ w_ => ∃ v4939 : Value, ∃ a4940 : List Coin, a4940 = o4942 ∧ ρ_ = [(3, v4939)] ∧ Mem w [] w_ [own kCoin 41 v4939 a4940]) ?_ ?_
 ·clear H
  refine run_seq ?_
  refine run_region rfl ?_
  refine ox rfl rfl rfl rfl (ex_move rfl rfl) ?_
  refine ox rfl rfl rfl rfl (ex_len (d := kCoin) (xs := x0) rfl rfl Try.underlying24 hp0) ?_
  refine ox rfl rfl rfl rfl (ex_move rfl rfl) ?_
  refine ops_nil (at_then ?_)
  refine run_block ?_
  refine run_loop (fun k_ ρ_ w_ => ∃ v4962 : Value, ∃ a4963 : List Coin, ∃ a4965 : Int, impl_ownCoins.l0 x0 k_ a4963 a4965 = some o4942 ∧ ρ_ = [(3, v4962), (7, p0), (8, .int .i64 (x0.length : Int)), (9, .int .i64 a4965)] ∧ Mem w [] w_ [own kCoin 41 v4962 a4963]) k (ρ1 := [(3, v4877), (7, p0), (8, .int .i64 (x0.length : Int)), (9, .int .i64 0)]) ⟨_, _, _, ho4943, rfl, HM⟩ (Sub.cons rfl (Sub.cons rfl (Sub.cons rfl (Sub.cons rfl Sub.nil)))) ?_
  clear HM ho4943
  rintro k4984 _ w4985 ⟨v4962, a4963, a4965, ho4943, rfl, HM⟩
  obtain _ | k4984 := k4984
  ·exact nomatch ((impl_ownCoins.l0_z x0 a4963 a4965).symm.trans ho4943)
  replace ho4943 := (impl_ownCoins.l0_s x0 k4984 a4963 a4965).symm.trans ho4943
  refine run_seq ?_
  refine run_region rfl ?_
  refine ox rfl rfl rfl rfl (ex_lss rfl rfl rfl) ?_
  refine ops_nil (at_then (run_seq ?_))
  refine run_cond (b := (decide (a4965 < (x0.length : Int)))) rfl (fun hb4986 => ?_) (fun hb4986 => ?_)
  ·replace ho4943 := cond_t hb4986 ho4943
   refine run_skip ?_
   refine at_then ?_
   refine run_seq ?_
   refine run_block ?_
   refine run_seq ?_
   obtain ⟨e4987, ho4943⟩ := chk_some ho4943
   refine run_region rfl ?_
   obtain ⟨kv4989, hc4988, hk4990⟩ : ∃ u, CellsAt _ (sb p0) (so p0 + (a4965).toNat * 8) [(.int .i64 ((gt x0 a4965).fRef.fTx)), (.int .i64 ((gt x0 a4965).fRef.fAt)), (.int .i64 ((gt x0 a4965).fOut.fValue)), u, (.int .i64 ((gt x0 a4965).fOut.fRule.fNeed)), (.int .i64 ((gt x0 a4965).fOut.fRule.fAfter)), (.int .i64 ((gt x0 a4965).fHeight)), (.bool ((gt x0 a4965).fMined))] ∧ RdS kInt _ u ((gt x0 a4965).fOut.fRule.fKeys) := rd_with1 hp0 e4987
   refine ox rfl rfl rfl rfl (ex_indexAddr (d := kCoin) rfl rfl rfl Try.underlying24 tsz41 hp0 (idx_lo e4987) (idx_hi e4987)) ?_
   refine ox rfl rfl rfl rfl (ex_loadN (cs := [(.int .i64 ((gt x0 a4965).fRef.fTx)), (.int .i64 ((gt x0 a4965).fRef.fAt)), (.int .i64 ((gt x0 a4965).fOut.fValue)), kv4989, (.int .i64 ((gt x0 a4965).fOut.fRule.fNeed)), (.int .i64 ((gt x0 a4965).fOut.fRule.fAfter)), (.int .i64 ((gt x0 a4965).fHeight)), (.bool ((gt x0 a4965).fMined))]) rfl rfl Try.underlying41 rfl tsz41 rfl ((HM.at_ hc4988).sub 0 8 rfl)) ?_
   refine od rfl rfl rfl rfl (does_alloc (cs := [.int .i64 0, .int .i64 0, .int .i64 0, .slice none 0 0, .int .i64 0, .int .i64 0, .int .i64 0, .bool false]) rfl tz41 rfl HM) ?_
   rintro _ w4994 ⟨b4991, rfl, HM⟩
   refine odS rfl rfl rfl (does_store (vs := [.int .i64 ((gt x0 a4965).fRef.fTx), .int .i64 ((gt x0 a4965).fRef.fAt), .int .i64 ((gt x0 a4965).fOut.fValue), kv4989, .int .i64 ((gt x0 a4965).fOut.fRule.fNeed), .int .i64 ((gt x0 a4965).fOut.fRule.fAfter), .int .i64 ((gt x0 a4965).fHeight), .bool ((gt x0 a4965).fMined)]) (cs' := [.int .i64 ((gt x0 a4965).fRef.fTx), .int .i64 ((gt x0 a4965).fRef.fAt), .int .i64 ((gt x0 a4965).fOut.fValue), kv4989, .int .i64 ((gt x0 a4965).fOut.fRule.fNeed), .int .i64 ((gt x0 a4965).fOut.fRule.fAfter), .int .i64 ((gt x0 a4965).fHeight), .bool ((gt x0 a4965).fMined)]) rfl rfl rfl rfl tsz41 (Ones.int (Ones.int (Ones.int (Ones.rd hk4990 (Ones.int (Ones.int (Ones.int (Ones.bool Ones.nil)))))))) rfl rfl HM) ?_
   rintro w4995 HM
   refine ops_nil (at_then (run_seq ?_))
   obtain ⟨t4996, h4997, ho4943⟩ := bind_some ho4943
   refine run_region rfl ?_
   refine ox rfl rfl rfl rfl (ex_fieldAddr (off' := 2) rfl rfl Try.underlying41 rfl tsz36 rfl) ?_
   refine ox rfl rfl rfl rfl (ex_loadN (cs := [(.int .i64 ((gt x0 a4965).fOut.fValue)), kv4989, (.int .i64 ((gt x0 a4965).fOut.fRule.fNeed)), (.int .i64 ((gt x0 a4965).fOut.fRule.fAfter))]) rfl rfl Try.underlying36 rfl tsz36 rfl ((HM.box_at 0 rfl).sub 2 4 rfl)) ?_
   refine od rfl rfl rfl rfl (does_callk rfl callok47 rfl (impl_ownOut.calls (x0 := (gt x0 a4965).fOut) (HM.rd hk4990) h4997)) ?_
   rintro _ w5000 ⟨u4998, rfl, hn⟩
   replace HM : Mem w [] w5000 [own kInt 2 u4998 t4996.fRule.fKeys, box b4991 41 [.int .i64 ((gt x0 a4965).fRef.fTx), .int .i64 ((gt x0 a4965).fRef.fAt), .int .i64 ((gt x0 a4965).fOut.fValue), kv4989, .int .i64 ((gt x0 a4965).fOut.fRule.fNeed), .int .i64 ((gt x0 a4965).fOut.fRule.fAfter), .int .i64 ((gt x0 a4965).fHeight), .bool ((gt x0 a4965).fMined)], own kCoin 41 v4962 a4963] := HM.call hn
   refine ox rfl rfl rfl rfl (ex_fieldAddr (off' := 2) rfl rfl Try.underlying41 rfl tsz36 rfl) ?_
   replace HM := HM.front 1 rfl rfl
   refine odS rfl rfl rfl (does_store (vs := [.int .i64 t4996.fValue, u4998, .int .i64 t4996.fRule.fNeed, .int .i64 t4996.fRule.fAfter]) (cs' := [.int .i64 ((gt x0 a4965).fRef.fTx), .int .i64 ((gt x0 a4965).fRef.fAt), .int .i64 t4996.fValue, u4998, .int .i64 t4996.fRule.fNeed, .int .i64 t4996.fRule.fAfter, .int .i64 ((gt x0 a4965).fHeight), .bool ((gt x0 a4965).fMined)]) rfl rfl rfl rfl tsz36 (Ones.int (Ones.rd (HM.own_rd 1 rfl) (Ones.int (Ones.int Ones.nil)))) rfl rfl HM) ?_
   rintro w5001 HM
   refine ops_nil (at_then ?_)
   obtain ⟨e5005, ho4943⟩ := chk_some ho4943
   refine run_region rfl ?_
   refine ox rfl rfl rfl rfl (ex_move rfl rfl) ?_
   refine ox rfl rfl rfl rfl (ex_loadN (cs := [(.int .i64 ((gt x0 a4965).fRef.fTx)), (.int .i64 ((gt x0 a4965).fRef.fAt)), (.int .i64 t4996.fValue), u4998, (.int .i64 t4996.fRule.fNeed), (.int .i64 t4996.fRule.fAfter), (.int .i64 ((gt x0 a4965).fHeight)), (.bool ((gt x0 a4965).fMined))]) rfl rfl Try.underlying41 rfl tsz41 rfl ((HM.box_at 0 rfl).sub 0 8 rfl)) ?_
   replace HM := HM.front 1 rfl rfl
   refine od rfl rfl rfl rfl (does_lit (e := 41) (cs := [(.int .i64 ((gt x0 a4965).fRef.fTx)), (.int .i64 ((gt x0 a4965).fRef.fAt)), (.int .i64 t4996.fValue), u4998, (.int .i64 t4996.fRule.fNeed), (.int .i64 t4996.fRule.fAfter), (.int .i64 ((gt x0 a4965).fHeight)), (.bool ((gt x0 a4965).fMined))]) (xs := ([(⟨(gt x0 a4965).fRef, t4996, (gt x0 a4965).fHeight, (gt x0 a4965).fMined⟩ : Coin)] : List Coin)) kCoin rfl rfl (fun _ => by kernel_rfl) rfl rfl (fun _ _ h => by have := Elems.cons (d := kCoin) (x := (⟨(gt x0 a4965).fRef, t4996, (gt x0 a4965).fHeight, (gt x0 a4965).fMined⟩ : Coin)) ⟨_, rfl, h⟩ .nil; rw [List.append_nil, List.append_nil] at this; exact this) HM) ?_
   rintro v5002 w5008 HM
   replace HM := HM.front 2 rfl rfl
   refine od rfl rfl rfl rfl (does_append kCoin rfl rfl rfl Try.underlying24 tsz41 rfl tby41 tz41 rfl rfl (leB_le e5005) HM) ?_
   rintro v5006 w5009 HM
   refine ox rfl rfl rfl rfl (ex_assign rfl rfl) ?_
   refine ops_nil ?_
   refine at_block ?_
   refine at_then ?_
   refine run_region rfl ?_
   refine ox rfl rfl rfl rfl (ex_add rfl rfl rfl) ?_
   refine ox rfl rfl rfl rfl (ex_move rfl rfl) ?_
   refine ops_nil ?_
   replace HM := (HM.front 1 rfl rfl).drop
   exact at_again k4984 (ρ1 := [(3, v5006), (7, p0), (8, .int .i64 (x0.length : Int)), (9, .int .i64 (wrap64 (a4965 + 1)))]) (Nat.lt_succ_self _) ⟨_, _, _, ho4943, rfl, HM⟩ (Sub.cons rfl (Sub.cons rfl (Sub.cons rfl (Sub.cons rfl Sub.nil))))
  ·replace ho4943 := cond_f hb4986 ho4943
   refine run_exit ?_
   refine at_then_exit ?_
   refine at_then_exit ?_
   refine at_block_exit ?_
   exact at_mid (ρ' := [(3, v4962)]) ⟨_, _, (Option.some.inj ho4943), rfl, HM⟩ (Sub.cons rfl Sub.nil)
 ·rintro _ w5010 ⟨v4939, a4940, rfl, rfl, HM⟩
  refine run_seq ?_
  refine run_region rfl ?_
  refine ox rfl rfl rfl rfl (ex_move rfl rfl) ?_
  refine ox rfl rfl rfl rfl (ex_assign rfl rfl) ?_
  refine ops_nil (at_then ?_)
  refine run_ret ?_
  have hR := Option.some.inj H
  subst hR
  exact at_ret1 rfl rfl ⟨_, rfl, _, rfl, HM⟩

def impl_sorted_1.f (k : Nat) (x0 : Coin) (x1 : Coin) : Option Int := ((impl_compareRefs.f k x0.fRef x1.fRef).bind fun t5094 => some t5094)
theorem impl_sorted_1.calls {k : Nat} {x0 : Coin} {x1 : Coin} {p0_0 : Value} {p1_0 : Value} {w : World} (hp0_0 : IsSl p0_0) (hp1_0 : IsSl p1_0) {r : Int} (H : impl_sorted_1.f k x0 x1 = some r) :
  Calls Try.prog 68 ([.agg #[(.int .i64 x0.fRef.fTx), (.int .i64 x0.fRef.fAt), (.int .i64 x0.fOut.fValue), p0_0, (.int .i64 x0.fOut.fRule.fNeed), (.int .i64 x0.fOut.fRule.fAfter), (.int .i64 x0.fHeight), (.bool x0.fMined)], .agg #[(.int .i64 x1.fRef.fTx), (.int .i64 x1.fRef.fAt), (.int .i64 x1.fOut.fValue), p1_0, (.int .i64 x1.fOut.fRule.fNeed), (.int .i64 x1.fOut.fRule.fAfter), (.int .i64 x1.fHeight), (.bool x1.fMined)]] : List Value).toArray w (fun e w_ => ∃ v, e = .returned v ∧ v = (.int .i64 r) ∧ Mem w [] w_ []) := by
 have HM := Mem.start w
 refine calls_run (N := 10) Try.func68 rfl rfl rfl rfl ?_
 unfold impl_sorted_1.f at H
 refine run_seq ?_
 refine run_region rfl ?_
 refine od rfl rfl rfl rfl (does_box (cs := [.int .i64 x0.fRef.fTx, .int .i64 x0.fRef.fAt, .int .i64 x0.fOut.fValue, p0_0, .int .i64 x0.fOut.fRule.fNeed, .int .i64 x0.fOut.fRule.fAfter, .int .i64 x0.fHeight, .bool x0.fMined]) rfl rfl rfl HM) ?_
 rintro _ w5092 ⟨b5086, rfl, HM⟩
 refine od rfl rfl rfl rfl (does_box (cs := [.int .i64 x1.fRef.fTx, .int .i64 x1.fRef.fAt, .int .i64 x1.fOut.fValue, p1_0, .int .i64 x1.fOut.fRule.fNeed, .int .i64 x1.fOut.fRule.fAfter, .int .i64 x1.fHeight, .bool x1.fMined]) rfl rfl rfl HM) ?_
 rintro _ w5093 ⟨b5089, rfl, HM⟩
 refine ox rfl rfl rfl rfl (ex_assign rfl rfl) ?_
 refine ops_nil (at_then (run_seq ?_))
 obtain ⟨t5094, h5095, H⟩ := bind_some H
 refine run_region rfl ?_
 refine ox rfl rfl rfl rfl (ex_fieldAddr (off' := 0) rfl rfl Try.underlying41 rfl tsz38 rfl) ?_
 refine ox rfl rfl rfl rfl (ex_loadN (cs := [(.int .i64 x0.fRef.fTx), (.int .i64 x0.fRef.fAt)]) rfl rfl Try.underlying38 rfl tsz38 rfl ((HM.box_at 1 rfl).sub 0 2 rfl)) ?_
 refine ox rfl rfl rfl rfl (ex_fieldAddr (off' := 0) rfl rfl Try.underlying41 rfl tsz38 rfl) ?_
 refine ox rfl rfl rfl rfl (ex_loadN (cs := [(.int .i64 x1.fRef.fTx), (.int .i64 x1.fRef.fAt)]) rfl rfl Try.underlying38 rfl tsz38 rfl ((HM.box_at 0 rfl).sub 0 2 rfl)) ?_
 refine od rfl rfl rfl rfl (does_callk rfl callok38 rfl (impl_compareRefs.calls (x0 := x0.fRef) (x1 := x1.fRef) h5095)) ?_
 rintro _ w5096 ⟨rfl, hn⟩
 replace HM : Mem w [] w5096 [box b5089 41 [.int .i64 x1.fRef.fTx, .int .i64 x1.fRef.fAt, .int .i64 x1.fOut.fValue, p1_0, .int .i64 x1.fOut.fRule.fNeed, .int .i64 x1.fOut.fRule.fAfter, .int .i64 x1.fHeight, .bool x1.fMined], box b5086 41 [.int .i64 x0.fRef.fTx, .int .i64 x0.fRef.fAt, .int .i64 x0.fOut.fValue, p0_0, .int .i64 x0.fOut.fRule.fNeed, .int .i64 x0.fOut.fRule.fAfter, .int .i64 x0.fHeight, .bool x0.fMined]] := HM.call hn
 refine ox rfl rfl rfl rfl (ex_assign rfl rfl) ?_
 refine ops_nil (at_then ?_)
 refine run_ret ?_
 replace HM := (HM.front 0 rfl rfl).drop
 replace HM := (HM.front 0 rfl rfl).drop
 have hR := Option.some.inj H
 subst hR
 exact at_ret1 rfl rfl ⟨_, rfl, rfl, HM⟩

def srtI (x y : Int) : Int := bif decide (x < y) then -1 else bif decide (y < x) then 1 else 0
def srtC (a b : Ref) : Int := bif srtI a.fTx b.fTx != 0 then srtI a.fTx b.fTx else srtI a.fAt b.fAt
theorem srtI_run (x y : Int) : cmp_Compare_int64.f 3 x y = some (srtI x y) := by
 have e : ∀ z : Int, (z != z) = false := fun z => by simp
 unfold cmp_Compare_int64.f cmp_isNaN_int64.f srtI
 simp only [Option.bind_some, e, cond_false]
 cases decide (x < y) <;> cases decide (y < x) <;> rfl
theorem srtO_run (p q : Int) : cmp_Or_int.f 3 [p, q] = some (bif p != 0 then p else q) := by
 have e0 : gt [p, q] (0 : Int) = p := rfl
 have e1 : gt [p, q] (1 : Int) = q := rfl
 have w0 : wrap64 ((0 : Int) + 1) = 1 := by rw [wrap64_in _ (by omega)]; rfl
 have w1 : wrap64 ((1 : Int) + 1) = 2 := by rw [wrap64_in _ (by omega)]; rfl
 have c0 : decide ((0 : Int) < (([p, q] : List Int).length : Int)) = true := rfl
 have c1 : decide ((1 : Int) < (([p, q] : List Int).length : Int)) = true := rfl
 have c2 : decide ((2 : Int) < (([p, q] : List Int).length : Int)) = false := rfl
 have k0 : idxOk (0 : Int) ([p, q] : List Int).length = true := rfl
 have k1 : idxOk (1 : Int) ([p, q] : List Int).length = true := rfl
 unfold cmp_Or_int.f
 rw [cmp_Or_int.l0_s, c0, cond_true, k0, e0, w0]
 unfold chk
 simp only [cond_true]
 cases hp : p != 0
 ·rw [cond_false, cmp_Or_int.l0_s, c1, cond_true, k1, e1, w1]
  unfold chk
  simp only [cond_true, cond_false]
  cases hq : q != 0
  ·rw [cond_false, cmp_Or_int.l0_s, c2]
   have : q = 0 := by simpa using hq
   subst this; rfl
  ·rfl
 ·rfl
theorem srt_run (a b : Coin) : impl_sorted_1.f 3 a b = some (srtC a.fRef b.fRef) := by
 unfold impl_sorted_1.f impl_compareRefs.f
 simp only [srtI_run, Option.bind_some, srtO_run]
 rfl
theorem srtI_lt {x y : Int} : srtI x y < 0 ↔ x < y := by
 unfold srtI
 by_cases h : x < y
 ·simp [h]
 ·by_cases h2 : y < x <;> simp [h, h2]
theorem srtI_0 {x y : Int} : srtI x y = 0 ↔ x = y := by
 unfold srtI
 by_cases h : x < y
 ·simp [h]; omega
 ·by_cases h2 : y < x
  ·simp [h, h2]; omega
  ·simp [h, h2]; omega
theorem srtC_lt {a b : Ref} : srtC a b < 0 ↔ a.fTx < b.fTx ∨ a.fTx = b.fTx ∧ a.fAt < b.fAt := by
 unfold srtC
 cases h : srtI a.fTx b.fTx != 0
 ·have h0 : srtI a.fTx b.fTx = 0 := by simpa using h
  have h1 := srtI_0.1 h0
  rw [cond_false, srtI_lt]; omega
 ·have h0 : srtI a.fTx b.fTx ≠ 0 := by simpa using h
  have h1 : a.fTx ≠ b.fTx := fun e => h0 (srtI_0.2 e)
  rw [cond_true, srtI_lt]; omega
abbrev SrtT := Coin × (Option Addr × Nat × Nat)
def srtEnc (s : SrtT) : List Value := [.int .i64 s.1.fRef.fTx, .int .i64 s.1.fRef.fAt, .int .i64 s.1.fOut.fValue, .slice s.2.1 s.2.2.1 s.2.2.2, .int .i64 s.1.fOut.fRule.fNeed, .int .i64 s.1.fOut.fRule.fAfter, .int .i64 s.1.fHeight, .bool s.1.fMined]
theorem srt_swo : Go.Sort.SWO (ltOf fun x y : SrtT => srtC x.1.fRef y.1.fRef) where
 irrefl x := by
  show decide _ = false
  rw [decide_eq_false_iff_not, srtC_lt]; omega
 trans x y z h1 h2 := by
  have h1' := srtC_lt.1 (of_decide_eq_true h1)
  have h2' := srtC_lt.1 (of_decide_eq_true h2)
  show decide _ = true
  rw [decide_eq_true_eq, srtC_lt]; omega
 ntrans x y z h1 h2 := by
  have h1' : ¬ srtC x.1.fRef y.1.fRef < 0 := of_decide_eq_false h1
  have h2' : ¬ srtC y.1.fRef z.1.fRef < 0 := of_decide_eq_false h2
  rw [srtC_lt] at h1' h2'
  show decide _ = false
  rw [decide_eq_false_iff_not, srtC_lt]; omega
def refLe (a b : Coin) : Bool := decide (a.fRef.fTx < b.fRef.fTx) || (decide (a.fRef.fTx = b.fRef.fTx) && decide (a.fRef.fAt ≤ b.fRef.fAt))
theorem refLe_iff {a b : Coin} : refLe a b = true ↔ a.fRef.fTx < b.fRef.fTx ∨ a.fRef.fTx = b.fRef.fTx ∧ a.fRef.fAt ≤ b.fRef.fAt := by
 unfold refLe
 rw [Bool.or_eq_true, Bool.and_eq_true, decide_eq_true_eq, decide_eq_true_eq, decide_eq_true_eq]
theorem refLe_not {a b : Coin} : ltOf (fun x y : Coin => srtC x.fRef y.fRef) b a = false → refLe a b = true := fun h => by
 have h1 : ¬ srtC b.fRef a.fRef < 0 := of_decide_eq_false h
 rw [srtC_lt] at h1
 rw [refLe_iff]; omega
def refKey (c : Coin) : Int × Int := (c.fRef.fTx, c.fRef.fAt)
theorem key_inj : ∀ {xs : List Coin}, (xs.map refKey).Nodup → ∀ a ∈ xs, ∀ b ∈ xs, refKey a = refKey b → a = b
 | [], _, a, ha, _, _, _ => by simp at ha
 | x :: xs, h, a, ha, b, hb, e => by
  rw [List.map_cons, List.nodup_cons] at h
  rcases List.mem_cons.1 ha with ha | ha <;> rcases List.mem_cons.1 hb with hb | hb
  ·rw [ha, hb]
  ·exact absurd (List.mem_map.2 ⟨b, hb, by rw [← e, ha]⟩) h.1
  ·exact absurd (List.mem_map.2 ⟨a, ha, by rw [e, hb]⟩) h.1
  ·exact key_inj h.2 a ha b hb e
theorem sorted_uniq {α : Type} {le : α → α → Bool} : ∀ {l m : List α}, l.Perm m → l.Pairwise (fun a b => le a b = true) → m.Pairwise (fun a b => le a b = true) → (∀ a ∈ l, ∀ b ∈ l, le a b = true → le b a = true → a = b) → l = m
 | [], m, h, _, _, _ => (List.nil_perm.1 h).symm
 | a :: l, [], h, _, _, _ => by have := h.length_eq; simp at this
 | a :: l, b :: m, h, h1, h2, h3 => by
  rw [List.pairwise_cons] at h1 h2
  have hb : b ∈ a :: l := h.mem_iff.2 (by simp)
  have ha : a ∈ b :: m := h.mem_iff.1 (by simp)
  have e : a = b := by
   rcases List.mem_cons.1 hb with e | hb'
   ·exact e.symm
   ·rcases List.mem_cons.1 ha with e | ha'
    ·exact e
    ·exact h3 a (by simp) b hb (h1.1 b hb') (h2.1 a ha')
  subst e
  rw [sorted_uniq ((List.perm_cons a).1 h) h1.2 h2.2 (fun x hx y hy => h3 x (by simp [hx]) y (by simp [hy]))]
def slices_SortFunc_Coin.f (k : Nat) (x0 : List Coin) : Option (List Coin) := chk (leB x0.length 1000000 && decide ((x0.map refKey).Nodup)) (some (x0.mergeSort refLe))
theorem slices_SortFunc_Coin.calls {k : Nat} {x0 : List Coin} {p0 : Value} {w wo : World} {X : List Nat} (hwo : Olds wo w X) (hX : Hold w [own kCoin 41 p0 x0] X) (hXn : X.Nodup) (hXl : ∀ b ∈ X, b < w.heap.size) {r : List Coin} (H : slices_SortFunc_Coin.f k x0 = some r) :
  Calls Try.prog 67 ([p0, .func (.func 68) #[] #[]] : List Value).toArray w (fun e w_ => ∃ v, e = .returned v ∧ v = (.tuple #[]) ∧ Mem w X w_ [own kCoin 41 p0 r]) := by
 obtain ⟨h, H⟩ := chk_some H
 have hR := Option.some.inj H
 subst hR
 rw [Bool.and_eq_true, decide_eq_true_eq] at h
 have hlen := leB_le h.1
 have eg : ∀ args w, (callFunc 68 args).run Try.prog w = .ok (.enter 68 args) w := enters_of Try.func68 (by kernel_rfl) rfl
 have aE : ∀ w, (isAgg 41).run Try.prog w = .ok true w := fun w => by simp [isAgg, run_underlying Try.underlying41]
 have zE : ∀ w, (Go.sizeOf 41).run Try.prog w = .ok 8 w := fun w => run_sizeOf tsz41
 have hk : ∀ x : SrtT, (srtEnc x).length = 8 := fun _ => rfl
 have h1 : ∀ x : SrtT, ∀ v ∈ srtEnc x, v.oneCell' = true := fun x v hv => by
  simp only [srtEnc, List.mem_cons, List.not_mem_nil, or_false] at hv
  rcases hv with rfl | rfl | rfl | rfl | rfl | rfl | rfl | rfl <;> rfl
 refine (sort_own (d := kCoin) (enc := srtEnc) hk h1 (by decide) (cf := fun x y : SrtT => srtC x.1.fRef y.1.fRef) (fun s x => s.1 = x) ?_
  (fun blk cap dd w hc hH hb hs => AnyQ.slices_SortFunc Try.sortCoin 8 aE zE srtEnc hk h1 _ srt_swo 68 #[] blk 0 cap dd w eg hc hH hb hs)
  (fun p cap w => AnyF.slices_SortFunc_none { Try.sortCoin with } p cap _ w) (fun W x y => ?_) hX hXn hXl (by omega)).mono fun e w' ⟨he, ys, hp, ⟨ps, q1, q2, q3⟩, hm⟩ => ⟨_, he, rfl, ?_⟩
 ·rintro w x c f ⟨v, hv, ⟨cells, b, fs, hrow, _⟩⟩
  subst hv
  rcases hrow with ⟨A, rfl, _⟩ | ⟨g0, c0, cur, rfl, _⟩
  ·exact ⟨(x, (A, 0, 0)), rfl, rfl⟩
  ·exact ⟨(x, (some ⟨g0, 0, none⟩, _, c0)), rfl, rfl⟩
 ·exact (impl_sorted_1.calls (w := W) (p0_0 := .slice x.2.1 x.2.2.1 x.2.2.2) (p1_0 := .slice y.2.1 y.2.2.1 y.2.2.2) ⟨_, _, _, rfl⟩ ⟨_, _, _, rfl⟩ (srt_run x.1 y.1)).mono fun e w' ⟨v, he, hv, hm⟩ => ⟨by rw [he, hv], fr_grow trivial hm.fr⟩
 ·have hys : ys.Pairwise (fun a b => refLe a b = true) := by
   rw [← q1, List.pairwise_map]
   rw [List.pairwise_map] at q3
   refine q3.imp_of_mem fun {a b} ha hb hab => ?_
   rw [← q2 a ha, ← q2 b hb]
   exact refLe_not hab
  have hms : (x0.mergeSort refLe).Pairwise (fun a b => refLe a b = true) := List.pairwise_mergeSort (fun a b c h1 h2 => by rw [refLe_iff] at *; omega) (fun a b => by
   rw [Bool.or_eq_true, refLe_iff, refLe_iff]; omega) x0
  have e : ys = x0.mergeSort refLe := sorted_uniq (hp.trans (List.mergeSort_perm x0 refLe).symm) hys hms (fun a ha b hb h1 h2 => by
   refine key_inj h.2 a (hp.mem_iff.1 ha) b (hp.mem_iff.1 hb) ?_
   rw [refLe_iff] at h1 h2
   have e1 : a.fRef.fTx = b.fRef.fTx := by omega
   have e2 : a.fRef.fAt = b.fRef.fAt := by omega
   unfold refKey
   rw [e1, e2])
  rw [← e]; exact hm


def impl_sorted.f (k : Nat) (x0 : List Coin) : Option ((List Coin)) := ((slices_SortFunc_Coin.f k x0).bind fun t5108 => some t5108)
theorem impl_sorted.calls {k : Nat} {x0 : List Coin} {p0 : Value} {w wo : World} {X : List Nat} (hwo : Olds wo w X) (hX : Hold w [own kCoin 41 p0 x0] X) (hXn : X.Nodup) (hXl : ∀ b ∈ X, b < w.heap.size)  {r : (List Coin)} (H : impl_sorted.f k x0 = some r) :
  Calls Try.prog 48 ([p0] : List Value).toArray w (fun e w_ => ∃ v, e = .returned v ∧ ∃ u0 : Value, v = u0 ∧ Mem w X w_ [own kCoin 41 u0 r]) := by
 have HM := Mem.startX hX hXn hXl
 refine calls_run (N := 6) Try.func48 rfl rfl rfl rfl ?_
 unfold impl_sorted.f at H
 refine run_seq ?_
 refine run_region rfl ?_
 refine ox rfl rfl rfl rfl (ex_assign rfl rfl) ?_
 refine ops_nil (at_then (run_seq ?_))
 obtain ⟨t5108, h5109, H⟩ := bind_some H
 refine run_region rfl ?_
 refine ox rfl rfl rfl rfl (ex_move rfl rfl) ?_
 obtain ⟨F5110, hF5111, hFn5112, hFl5113, HMh5114, hcl5115⟩ := HM.hide (Ms := [own kCoin 41 p0 x0])
 refine od rfl rfl rfl rfl (does_callk rfl callok67 rfl (slices_SortFunc_Coin.calls (x0 := x0) (hide_olds _ _) hF5111 hFn5112 hFl5113 h5109)) ?_
 rintro _ w5116 ⟨rfl, hn⟩
 replace HM : Mem w X w5116 [own kCoin 41 p0 t5108] := hcl5115 _ _ hn
 refine ops_nil (at_then (run_seq ?_))
 refine run_region rfl ?_
 refine ox rfl rfl rfl rfl (ex_move rfl rfl) ?_
 refine ox rfl rfl rfl rfl (ex_assign rfl rfl) ?_
 refine ops_nil (at_then ?_)
 refine run_ret ?_
 have hR := Option.some.inj H
 subst hR
 exact at_ret1 rfl rfl ⟨_, rfl, _, rfl, HM⟩

def impl_putCoins.l0 (x2 : List Out) : Nat → Int → Option (((List Coin) × Int) ⊕ Unit)
 | 0, _ => none
 | k + 1, a5193 => (bif (decide (a5193 < (x2.length : Int))) then (chk (idxOk a5193 x2.length) ((impl_outFault.f k (gt x2 a5193)).bind fun t5217 => (bif (t5217 != 0) then some (.inl (([] : List Coin), t5217)) else impl_putCoins.l0 x2 k (wrap64 (a5193 + 1))))) else some (.inr ()))
theorem impl_putCoins.l0_z (x2 : List Out) (a5193 : Int) : impl_putCoins.l0 x2 0 a5193 = none := rfl
theorem impl_putCoins.l0_s (x2 : List Out) (k : Nat) (a5193 : Int) : impl_putCoins.l0 x2 (k + 1) a5193 = (bif (decide (a5193 < (x2.length : Int))) then (chk (idxOk a5193 x2.length) ((impl_outFault.f k (gt x2 a5193)).bind fun t5217 => (bif (t5217 != 0) then some (.inl (([] : List Coin), t5217)) else impl_putCoins.l0 x2 k (wrap64 (a5193 + 1))))) else some (.inr ())) := rfl
def impl_putCoins.l1 (x1 : Int) (x2 : List Out) (x3 : Int) (x4 : Bool) : Nat → (List Coin) → Int → Option ((List Coin))
 | 0, _, _ => none
 | k + 1, a5321, a5323 => (bif (decide (a5323 < (x2.length : Int))) then (chk (idxOk a5323 x2.length) ((impl_ownOut.f k (gt x2 a5323)).bind fun t5354 => (chk (leB ((a5321.length + ([(⟨(⟨x1, a5323⟩ : Ref), t5354, x3, x4⟩ : Coin)] : List Coin).length) * 80) 140737488355328) (impl_putCoins.l1 x1 x2 x3 x4 k (a5321 ++ ([(⟨(⟨x1, a5323⟩ : Ref), t5354, x3, x4⟩ : Coin)] : List Coin)) (wrap64 (a5323 + 1)))))) else some a5321)
theorem impl_putCoins.l1_z (x1 : Int) (x2 : List Out) (x3 : Int) (x4 : Bool) (a5321 : List Coin) (a5323 : Int) : impl_putCoins.l1 x1 x2 x3 x4 0 a5321 a5323 = none := rfl
theorem impl_putCoins.l1_s (x1 : Int) (x2 : List Out) (x3 : Int) (x4 : Bool) (k : Nat) (a5321 : List Coin) (a5323 : Int) : impl_putCoins.l1 x1 x2 x3 x4 (k + 1) a5321 a5323 = (bif (decide (a5323 < (x2.length : Int))) then (chk (idxOk a5323 x2.length) ((impl_ownOut.f k (gt x2 a5323)).bind fun t5354 => (chk (leB ((a5321.length + ([(⟨(⟨x1, a5323⟩ : Ref), t5354, x3, x4⟩ : Coin)] : List Coin).length) * 80) 140737488355328) (impl_putCoins.l1 x1 x2 x3 x4 k (a5321 ++ ([(⟨(⟨x1, a5323⟩ : Ref), t5354, x3, x4⟩ : Coin)] : List Coin)) (wrap64 (a5323 + 1)))))) else some a5321) := rfl
def impl_putCoins.f (k : Nat) (x0 : List Coin) (x1 : Int) (x2 : List Out) (x3 : Int) (x4 : Bool) : Option ((List Coin) × Int) := ((impl_isId.f k x1).bind fun t5133 => ((bif (!(!t5133)) then impl_isHeight.f k x3 else some default).bind fun t5135 => (bif ((!t5133) || (!t5135)) then some (([] : List Coin), 3) else (bif (decide (4 < (x2.length : Int))) then some (([] : List Coin), 2) else ((impl_putCoins.l0 x2 k 0).bind fun o5180 => thn o5180 (fun r => some r) (fun _ => ((impl_hasTx.f k x0 x1).bind fun t5227 => (bif t5227 then some (([] : List Coin), 7) else (bif (decide (40 < (wrap64 ((x0.length : Int) + (x2.length : Int))))) then some (([] : List Coin), 2) else ((impl_ownCoins.f k x0).bind fun t5234 => ((impl_putCoins.l1 x1 x2 x3 x4 k t5234 0).bind (fun a5298 => ((impl_sorted.f k a5298).bind fun t5368 => some (t5368, 0))))))))))))))
theorem impl_putCoins.calls {k : Nat} {x0 : List Coin} {x1 : Int} {x2 : List Out} {x3 : Int} {x4 : Bool} {p0 : Value} {p2 : Value} {w : World} (hp0 : RdS kCoin w p0 x0) (hp2 : RdS kOut w p2 x2) {r : (List Coin) × Int} (H : impl_putCoins.f k x0 x1 x2 x3 x4 = some r) :
  Calls Try.prog 22 ([p0, .int .i64 x1, p2, .int .i64 x3, .bool x4] : List Value).toArray w (fun e w_ => ∃ v, e = .returned v ∧ ∃ u0 : Value, v = (.tuple #[u0, .int .i64 r.2]) ∧ Mem w [] w_ [own kCoin 41 u0 r.1]) := by
 have HM := Mem.start w
 refine calls_run (N := 77) Try.func22 rfl rfl rfl rfl ?_
 unfold impl_putCoins.f at H
 refine run_seq ?_
 refine run_region rfl ?_
 refine ox rfl rfl rfl rfl (ex_assign rfl rfl) ?_
 refine ox rfl rfl rfl rfl (ex_assign rfl rfl) ?_
 refine ops_nil (at_then (run_seq ?_))
 refine run_block ?_
 refine run_seq ?_
 obtain ⟨t5133, h5134, H⟩ := bind_some H
 obtain ⟨t5135, h5136, H⟩ := bind_some H
 refine run_meet (fun ρ_ w_ => ρ_ = [(0, p0), (1, .int .i64 x1), (2, p2), (3, .int .i64 x3), (4, .bool x4), (18, .bool ((!t5133) || (!t5135)))] ∧ Mem w [] w_ []) ?_ ?_
 ·skip
  refine run_region rfl ?_
  refine ox rfl rfl rfl rfl (ex_move rfl rfl) ?_
  refine od rfl rfl rfl rfl (does_callk rfl callok44 rfl (impl_isId.calls (x0 := x1) h5134)) ?_
  rintro _ w5137 ⟨rfl, hn⟩
  replace HM : Mem w [] w5137 [] := HM.call hn
  refine ox rfl rfl rfl rfl (ex_not rfl rfl) ?_
  refine ox rfl rfl rfl rfl (ex_move rfl rfl) ?_
  refine bool_cases (!t5133) (fun hg5138 => ?_) (fun hg5138 => ?_)
  ·skip
   refine ops_off rfl (guard_off rfl rfl rfl hg5138) rfl rfl ?_
   refine ops_off rfl (guard_off rfl rfl rfl hg5138) rfl rfl ?_
   refine ops_off rfl (guard_off rfl rfl rfl hg5138) rfl rfl ?_
   have hg5139 : ((!t5133) || (!t5135)) = true := by simp only [hg5138, Bool.and_true, Bool.true_and, Bool.and_false, Bool.false_and, Bool.or_true, Bool.true_or, Bool.or_false, Bool.false_or, Bool.not_true, Bool.not_false, Bool.not_not]
   refine ops_ex (v := .bool ((!t5133) || (!t5135))) rfl (guard_none rfl) rfl rfl (ex_por_t rfl rfl hg5138) ?_
   refine ox rfl rfl rfl rfl (ex_assign rfl rfl) ?_
   refine ops_nil ?_
   exact at_meet [(0, p0), (1, .int .i64 x1), (2, p2), (3, .int .i64 x3), (4, .bool x4), (18, .bool ((!t5133) || (!t5135)))] ⟨rfl, HM⟩ (Sub.cons rfl (Sub.cons rfl (Sub.cons rfl (Sub.cons rfl (Sub.cons rfl (Sub.cons rfl Sub.nil))))))
  ·skip
   refine ops_ex rfl (guard_on rfl rfl rfl hg5138) rfl rfl (ex_move rfl rfl) ?_
   refine ops_does rfl (guard_on rfl rfl rfl hg5138) rfl rfl (does_callk rfl callok35 rfl (impl_isHeight.calls (x0 := x3) (cond_t (not_mk hg5138) h5136))) ?_
   rintro _ w5140 ⟨rfl, hn⟩
   replace HM : Mem w [] w5140 [] := HM.call hn
   refine ops_ex rfl (guard_on rfl rfl rfl hg5138) rfl rfl (ex_not rfl rfl) ?_
   refine ops_ex (v := .bool ((!t5133) || (!t5135))) rfl (guard_none rfl) rfl rfl (ex_por_f rfl rfl hg5138 rfl) ?_
   refine ox rfl rfl rfl rfl (ex_assign rfl rfl) ?_
   refine ops_nil ?_
   exact at_meet [(0, p0), (1, .int .i64 x1), (2, p2), (3, .int .i64 x3), (4, .bool x4), (18, .bool ((!t5133) || (!t5135)))] ⟨rfl, HM⟩ (Sub.cons rfl (Sub.cons rfl (Sub.cons rfl (Sub.cons rfl (Sub.cons rfl (Sub.cons rfl Sub.nil))))))
 ·rintro _ w5141 ⟨rfl, HM⟩
  refine at_then ?_
  refine run_cond (b := ((!t5133) || (!t5135))) rfl (fun hb5142 => ?_) (fun hb5142 => ?_)
  ·replace H := cond_t hb5142 H
   refine run_seq ?_
   refine run_region rfl ?_
   refine ox rfl rfl rfl rfl (ex_assign rfl rfl) ?_
   refine ox rfl rfl rfl rfl (ex_assign rfl rfl) ?_
   refine ops_nil (at_then ?_)
   refine run_ret ?_
   refine at_block_ret ?_
   refine at_then_ret ?_
   replace HM := HM.empty kCoin 41 none
   have hR := Option.some.inj H
   subst hR
   exact at_ret2 rfl rfl rfl ⟨_, rfl, _, rfl, HM⟩
  ·replace H := cond_f hb5142 H
   refine run_seq ?_
   refine run_region rfl ?_
   refine ox rfl rfl rfl rfl (ex_move rfl rfl) ?_
   refine ox rfl rfl rfl rfl (ex_len (d := kOut) (xs := x2) rfl rfl Try.underlying25 hp2) ?_
   refine ox rfl rfl rfl rfl (ex_gtr rfl rfl rfl) ?_
   refine ox rfl rfl rfl rfl (ex_assign rfl rfl) ?_
   refine ops_nil (at_then ?_)
   refine run_cond (b := (decide (4 < (x2.length : Int)))) rfl (fun hb5144 => ?_) (fun hb5144 => ?_)
   ·replace H := cond_t hb5144 H
    refine run_seq ?_
    refine run_region rfl ?_
    refine ox rfl rfl rfl rfl (ex_assign rfl rfl) ?_
    refine ox rfl rfl rfl rfl (ex_assign rfl rfl) ?_
    refine ops_nil (at_then ?_)
    refine run_ret ?_
    refine at_block_ret ?_
    refine at_then_ret ?_
    replace HM := HM.empty kCoin 41 none
    have hR := Option.some.inj H
    subst hR
    exact at_ret2 rfl rfl rfl ⟨_, rfl, _, rfl, HM⟩
   ·replace H := cond_f hb5144 H
    refine run_skip ?_
    refine at_block ?_
    refine at_then ?_
    obtain ⟨o5180, ho5181, H⟩ := bind_some H
    refine run_mid (fun ρ_ w_ => Sum.inr () = o5180 ∧ ρ_ = [(0, p0), (1, .int .i64 x1), (2, p2), (3, .int .i64 x3), (4, .bool x4)] ∧ Mem w [] w_ []) ?_ ?_
    ·skip
     refine run_seq ?_
     refine run_region rfl ?_
     refine ox rfl rfl rfl rfl (ex_move rfl rfl) ?_
     refine ox rfl rfl rfl rfl (ex_len (d := kOut) (xs := x2) rfl rfl Try.underlying25 hp2) ?_
     refine ox rfl rfl rfl rfl (ex_move rfl rfl) ?_
     refine ops_nil (at_then ?_)
     refine run_block ?_
     refine run_loop (fun k_ ρ_ w_ => ∃ a5193 : Int, impl_putCoins.l0 x2 k_ a5193 = some o5180 ∧ ρ_ = [(0, p0), (1, .int .i64 x1), (2, p2), (3, .int .i64 x3), (4, .bool x4), (31, p2), (32, .int .i64 (x2.length : Int)), (33, .int .i64 a5193)] ∧ Mem w [] w_ []) k (ρ1 := [(0, p0), (1, .int .i64 x1), (2, p2), (3, .int .i64 x3), (4, .bool x4), (31, p2), (32, .int .i64 (x2.length : Int)), (33, .int .i64 0)]) ⟨_, ho5181, rfl, HM⟩ (Sub.cons rfl (Sub.cons rfl (Sub.cons rfl (Sub.cons rfl (Sub.cons rfl (Sub.cons rfl (Sub.cons rfl (Sub.cons rfl Sub.nil)))))))) ?_
     clear HM ho5181
     rintro k5205 _ w5206 ⟨a5193, ho5181, rfl, HM⟩
     obtain _ | k5205 := k5205
     ·exact nomatch ((impl_putCoins.l0_z x2 a5193).symm.trans ho5181)
     replace ho5181 := (impl_putCoins.l0_s x2 k5205 a5193).symm.trans ho5181
     refine run_seq ?_
     refine run_region rfl ?_
     refine ox rfl rfl rfl rfl (ex_lss rfl rfl rfl) ?_
     refine ops_nil (at_then (run_seq ?_))
     refine run_cond (b := (decide (a5193 < (x2.length : Int)))) rfl (fun hb5207 => ?_) (fun hb5207 => ?_)
     ·replace ho5181 := cond_t hb5207 ho5181
      refine run_skip ?_
      refine at_then ?_
      refine run_seq ?_
      refine run_block ?_
      refine run_seq ?_
      obtain ⟨e5208, ho5181⟩ := chk_some ho5181
      refine run_region rfl ?_
      obtain ⟨kv5210, hc5209, hk5211⟩ : ∃ u, CellsAt _ (sb p2) (so p2 + (a5193).toNat * 4) [(.int .i64 ((gt x2 a5193).fValue)), u, (.int .i64 ((gt x2 a5193).fRule.fNeed)), (.int .i64 ((gt x2 a5193).fRule.fAfter))] ∧ RdS kInt _ u ((gt x2 a5193).fRule.fKeys) := rd_with1 hp2 e5208
      refine ox rfl rfl rfl rfl (ex_indexAddr (d := kOut) rfl rfl rfl Try.underlying25 tsz36 hp2 (idx_lo e5208) (idx_hi e5208)) ?_
      refine ox rfl rfl rfl rfl (ex_loadN (cs := [(.int .i64 ((gt x2 a5193).fValue)), kv5210, (.int .i64 ((gt x2 a5193).fRule.fNeed)), (.int .i64 ((gt x2 a5193).fRule.fAfter))]) rfl rfl Try.underlying36 rfl tsz36 rfl ((HM.at_ hc5209).sub 0 4 rfl)) ?_
      refine od rfl rfl rfl rfl (does_alloc (cs := [.int .i64 0, .slice none 0 0, .int .i64 0, .int .i64 0]) rfl tz36 rfl HM) ?_
      rintro _ w5215 ⟨b5212, rfl, HM⟩
      refine odS rfl rfl rfl (does_store (vs := [.int .i64 ((gt x2 a5193).fValue), kv5210, .int .i64 ((gt x2 a5193).fRule.fNeed), .int .i64 ((gt x2 a5193).fRule.fAfter)]) (cs' := [.int .i64 ((gt x2 a5193).fValue), kv5210, .int .i64 ((gt x2 a5193).fRule.fNeed), .int .i64 ((gt x2 a5193).fRule.fAfter)]) rfl rfl rfl rfl tsz36 (Ones.int (Ones.rd hk5211 (Ones.int (Ones.int Ones.nil)))) rfl rfl HM) ?_
      rintro w5216 HM
      refine ops_nil (at_then (run_seq ?_))
      obtain ⟨t5217, h5218, ho5181⟩ := bind_some ho5181
      refine run_region rfl ?_
      refine ox rfl rfl rfl rfl (ex_loadN (cs := [(.int .i64 ((gt x2 a5193).fValue)), kv5210, (.int .i64 ((gt x2 a5193).fRule.fNeed)), (.int .i64 ((gt x2 a5193).fRule.fAfter))]) rfl rfl Try.underlying36 rfl tsz36 rfl ((HM.box_at 0 rfl).sub 0 4 rfl)) ?_
      refine od rfl rfl rfl rfl (does_callk rfl callok45 rfl (impl_outFault.calls (x0 := (gt x2 a5193)) (HM.rd hk5211) h5218)) ?_
      rintro _ w5219 ⟨rfl, hn⟩
      replace HM : Mem w [] w5219 [box b5212 36 [.int .i64 ((gt x2 a5193).fValue), kv5210, .int .i64 ((gt x2 a5193).fRule.fNeed), .int .i64 ((gt x2 a5193).fRule.fAfter)]] := HM.call hn
      refine ox rfl rfl rfl rfl (ex_assign rfl rfl) ?_
      refine ops_nil (at_then (run_seq ?_))
      refine run_region rfl ?_
      refine ox rfl rfl rfl rfl (ex_move rfl rfl) ?_
      refine ox rfl rfl rfl rfl (ex_neq rfl rfl rfl) ?_
      refine ops_nil (at_then ?_)
      refine run_cond (b := (t5217 != 0)) rfl (fun hb5220 => ?_) (fun hb5220 => ?_)
      ·replace ho5181 := cond_t hb5220 ho5181
       refine run_seq ?_
       refine run_region rfl ?_
       refine ox rfl rfl rfl rfl (ex_move rfl rfl) ?_
       refine ox rfl rfl rfl rfl (ex_assign rfl rfl) ?_
       refine ox rfl rfl rfl rfl (ex_assign rfl rfl) ?_
       refine ops_nil (at_then ?_)
       refine run_ret ?_
       refine at_block_ret ?_
       refine at_then_ret ?_
       refine at_then_ret ?_
       refine at_block_ret ?_
       refine at_then_ret ?_
       replace HM := HM.empty kCoin 41 none
       replace HM := (HM.front 1 rfl rfl).drop
       have hR := Option.some.inj ho5181
       subst hR
       have hT := thn_inl H
       have hR := Option.some.inj hT
       subst hR
       exact at_ret2 rfl rfl rfl ⟨_, rfl, _, rfl, HM⟩
      ·replace ho5181 := cond_f hb5220 ho5181
       refine run_skip ?_
       refine at_block ?_
       refine at_then ?_
       refine run_region rfl ?_
       refine ox rfl rfl rfl rfl (ex_add rfl rfl rfl) ?_
       refine ox rfl rfl rfl rfl (ex_move rfl rfl) ?_
       refine ops_nil ?_
       replace HM := (HM.front 0 rfl rfl).drop
       exact at_again k5205 (ρ1 := [(0, p0), (1, .int .i64 x1), (2, p2), (3, .int .i64 x3), (4, .bool x4), (31, p2), (32, .int .i64 (x2.length : Int)), (33, .int .i64 (wrap64 (a5193 + 1)))]) (Nat.lt_succ_self _) ⟨_, ho5181, rfl, HM⟩ (Sub.cons rfl (Sub.cons rfl (Sub.cons rfl (Sub.cons rfl (Sub.cons rfl (Sub.cons rfl (Sub.cons rfl (Sub.cons rfl Sub.nil))))))))
     ·replace ho5181 := cond_f hb5207 ho5181
      refine run_exit ?_
      refine at_then_exit ?_
      refine at_then_exit ?_
      refine at_block_exit ?_
      exact at_mid (ρ' := [(0, p0), (1, .int .i64 x1), (2, p2), (3, .int .i64 x3), (4, .bool x4)]) ⟨(Option.some.inj ho5181), rfl, HM⟩ (Sub.cons rfl (Sub.cons rfl (Sub.cons rfl (Sub.cons rfl (Sub.cons rfl Sub.nil)))))
    ·rintro _ w5222 ⟨rfl, rfl, HM⟩
     replace H := (thn_inr H)
     refine run_seq ?_
     refine run_block ?_
     refine run_seq ?_
     obtain ⟨t5227, h5228, H⟩ := bind_some H
     refine run_region rfl ?_
     refine ox rfl rfl rfl rfl (ex_move rfl rfl) ?_
     refine ox rfl rfl rfl rfl (ex_move rfl rfl) ?_
     refine od rfl rfl rfl rfl (does_callk rfl callok46 rfl (impl_hasTx.calls (x0 := x0) (x1 := x1) (HM.rd hp0) h5228)) ?_
     rintro _ w5229 ⟨rfl, hn⟩
     replace HM : Mem w [] w5229 [] := HM.call hn
     refine ox rfl rfl rfl rfl (ex_assign rfl rfl) ?_
     refine ops_nil (at_then ?_)
     refine run_cond (b := t5227) rfl (fun hb5230 => ?_) (fun hb5230 => ?_)
     ·replace H := cond_t hb5230 H
      refine run_seq ?_
      refine run_region rfl ?_
      refine ox rfl rfl rfl rfl (ex_assign rfl rfl) ?_
      refine ox rfl rfl rfl rfl (ex_assign rfl rfl) ?_
      refine ops_nil (at_then ?_)
      refine run_ret ?_
      refine at_block_ret ?_
      refine at_then_ret ?_
      replace HM := HM.empty kCoin 41 none
      have hR := Option.some.inj H
      subst hR
      exact at_ret2 rfl rfl rfl ⟨_, rfl, _, rfl, HM⟩
     ·replace H := cond_f hb5230 H
      refine run_seq ?_
      refine run_region rfl ?_
      refine ox rfl rfl rfl rfl (ex_move rfl rfl) ?_
      refine ox rfl rfl rfl rfl (ex_len (d := kCoin) (xs := x0) rfl rfl Try.underlying24 hp0) ?_
      refine ox rfl rfl rfl rfl (ex_move rfl rfl) ?_
      refine ox rfl rfl rfl rfl (ex_len (d := kOut) (xs := x2) rfl rfl Try.underlying25 hp2) ?_
      refine ox rfl rfl rfl rfl (ex_add rfl rfl rfl) ?_
      refine ox rfl rfl rfl rfl (ex_gtr rfl rfl rfl) ?_
      refine ox rfl rfl rfl rfl (ex_assign rfl rfl) ?_
      refine ops_nil (at_then ?_)
      refine run_cond (b := (decide (40 < (wrap64 ((x0.length : Int) + (x2.length : Int)))))) rfl (fun hb5232 => ?_) (fun hb5232 => ?_)
      ·replace H := cond_t hb5232 H
       refine run_seq ?_
       refine run_region rfl ?_
       refine ox rfl rfl rfl rfl (ex_assign rfl rfl) ?_
       refine ox rfl rfl rfl rfl (ex_assign rfl rfl) ?_
       refine ops_nil (at_then ?_)
       refine run_ret ?_
       refine at_block_ret ?_
       refine at_then_ret ?_
       replace HM := HM.empty kCoin 41 none
       have hR := Option.some.inj H
       subst hR
       exact at_ret2 rfl rfl rfl ⟨_, rfl, _, rfl, HM⟩
      ·replace H := cond_f hb5232 H
       refine run_skip ?_
       refine at_block ?_
       refine at_then ?_
       refine run_seq ?_
       obtain ⟨t5234, h5235, H⟩ := bind_some H
       refine run_region rfl ?_
       refine ox rfl rfl rfl rfl (ex_move rfl rfl) ?_
       refine od rfl rfl rfl rfl (does_callk rfl callok30 rfl (impl_ownCoins.calls (x0 := x0) (HM.rd hp0) h5235)) ?_
       rintro u5236 w5238 ⟨_, rfl, hn⟩
       replace HM : Mem w [] w5238 [own kCoin 41 u5236 t5234] := HM.call hn
       refine ox rfl rfl rfl rfl (ex_assign rfl rfl) ?_
       refine ops_nil (at_then ?_)
       obtain ⟨o5300, ho5301, H⟩ := bind_some H
       refine run_mid (fun ρ_ w_ => ∃ v5297 : Value, ∃ a5298 : List Coin, a5298 = o5300 ∧ ρ_ = [(15, v5297)] ∧ Mem w [] w_ [own kCoin 41 v5297 a5298]) ?_ ?_
       ·clear H
        refine run_seq ?_
        refine run_region rfl ?_
        refine ox rfl rfl rfl rfl (ex_move rfl rfl) ?_
        refine ox rfl rfl rfl rfl (ex_len (d := kOut) (xs := x2) rfl rfl Try.underlying25 hp2) ?_
        refine ox rfl rfl rfl rfl (ex_move rfl rfl) ?_
        refine ops_nil (at_then ?_)
        refine run_block ?_
        refine run_loop (fun k_ ρ_ w_ => ∃ v5320 : Value, ∃ a5321 : List Coin, ∃ a5323 : Int, impl_putCoins.l1 x1 x2 x3 x4 k_ a5321 a5323 = some o5300 ∧ ρ_ = [(1, .int .i64 x1), (3, .int .i64 x3), (4, .bool x4), (15, v5320), (56, p2), (57, .int .i64 (x2.length : Int)), (58, .int .i64 a5323)] ∧ Mem w [] w_ [own kCoin 41 v5320 a5321]) k (ρ1 := [(1, .int .i64 x1), (3, .int .i64 x3), (4, .bool x4), (15, u5236), (56, p2), (57, .int .i64 (x2.length : Int)), (58, .int .i64 0)]) ⟨_, _, _, ho5301, rfl, HM⟩ (Sub.cons rfl (Sub.cons rfl (Sub.cons rfl (Sub.cons rfl (Sub.cons rfl (Sub.cons rfl (Sub.cons rfl Sub.nil))))))) ?_
        clear HM ho5301
        rintro k5342 _ w5343 ⟨v5320, a5321, a5323, ho5301, rfl, HM⟩
        obtain _ | k5342 := k5342
        ·exact nomatch ((impl_putCoins.l1_z x1 x2 x3 x4 a5321 a5323).symm.trans ho5301)
        replace ho5301 := (impl_putCoins.l1_s x1 x2 x3 x4 k5342 a5321 a5323).symm.trans ho5301
        refine run_seq ?_
        refine run_region rfl ?_
        refine ox rfl rfl rfl rfl (ex_lss rfl rfl rfl) ?_
        refine ops_nil (at_then (run_seq ?_))
        refine run_cond (b := (decide (a5323 < (x2.length : Int)))) rfl (fun hb5344 => ?_) (fun hb5344 => ?_)
        ·replace ho5301 := cond_t hb5344 ho5301
         refine run_skip ?_
         refine at_then ?_
         refine run_seq ?_
         refine run_block ?_
         refine run_seq ?_
         obtain ⟨e5345, ho5301⟩ := chk_some ho5301
         refine run_region rfl ?_
         refine ox rfl rfl rfl rfl (ex_move rfl rfl) ?_
         obtain ⟨kv5347, hc5346, hk5348⟩ : ∃ u, CellsAt _ (sb p2) (so p2 + (a5323).toNat * 4) [(.int .i64 ((gt x2 a5323).fValue)), u, (.int .i64 ((gt x2 a5323).fRule.fNeed)), (.int .i64 ((gt x2 a5323).fRule.fAfter))] ∧ RdS kInt _ u ((gt x2 a5323).fRule.fKeys) := rd_with1 hp2 e5345
         refine ox rfl rfl rfl rfl (ex_indexAddr (d := kOut) rfl rfl rfl Try.underlying25 tsz36 hp2 (idx_lo e5345) (idx_hi e5345)) ?_
         refine ox rfl rfl rfl rfl (ex_loadN (cs := [(.int .i64 ((gt x2 a5323).fValue)), kv5347, (.int .i64 ((gt x2 a5323).fRule.fNeed)), (.int .i64 ((gt x2 a5323).fRule.fAfter))]) rfl rfl Try.underlying36 rfl tsz36 rfl ((HM.at_ hc5346).sub 0 4 rfl)) ?_
         refine od rfl rfl rfl rfl (does_alloc (cs := [.int .i64 0, .slice none 0 0, .int .i64 0, .int .i64 0]) rfl tz36 rfl HM) ?_
         rintro _ w5352 ⟨b5349, rfl, HM⟩
         refine ox rfl rfl rfl rfl (ex_assign rfl rfl) ?_
         refine odS rfl rfl rfl (does_store (vs := [.int .i64 ((gt x2 a5323).fValue), kv5347, .int .i64 ((gt x2 a5323).fRule.fNeed), .int .i64 ((gt x2 a5323).fRule.fAfter)]) (cs' := [.int .i64 ((gt x2 a5323).fValue), kv5347, .int .i64 ((gt x2 a5323).fRule.fNeed), .int .i64 ((gt x2 a5323).fRule.fAfter)]) rfl rfl rfl rfl tsz36 (Ones.int (Ones.rd hk5348 (Ones.int (Ones.int Ones.nil)))) rfl rfl HM) ?_
         rintro w5353 HM
         refine ops_nil (at_then ?_)
         obtain ⟨t5354, h5355, ho5301⟩ := bind_some ho5301
         obtain ⟨e5361, ho5301⟩ := chk_some ho5301
         refine run_region rfl ?_
         refine ox rfl rfl rfl rfl (ex_move rfl rfl) ?_
         refine ox rfl rfl rfl rfl (ex_move rfl rfl) ?_
         refine ox rfl rfl rfl rfl (ex_move rfl rfl) ?_
         refine ox rfl rfl rfl rfl (ex_build (cells := #[(.int .i64 x1), (.int .i64 a5323)]) rfl rfl (by kernel_rfl)) ?_
         refine ox rfl rfl rfl rfl (ex_loadN (cs := [(.int .i64 ((gt x2 a5323).fValue)), kv5347, (.int .i64 ((gt x2 a5323).fRule.fNeed)), (.int .i64 ((gt x2 a5323).fRule.fAfter))]) rfl rfl Try.underlying36 rfl tsz36 rfl ((HM.box_at 0 rfl).sub 0 4 rfl)) ?_
         refine od rfl rfl rfl rfl (does_callk rfl callok47 rfl (impl_ownOut.calls (x0 := (gt x2 a5323)) (HM.rd hk5348) h5355)) ?_
         rintro _ w5364 ⟨u5356, rfl, hn⟩
         replace HM : Mem w [] w5364 [own kInt 2 u5356 t5354.fRule.fKeys, box b5349 36 [.int .i64 ((gt x2 a5323).fValue), kv5347, .int .i64 ((gt x2 a5323).fRule.fNeed), .int .i64 ((gt x2 a5323).fRule.fAfter)], own kCoin 41 v5320 a5321] := HM.call hn
         refine ox rfl rfl rfl rfl (ex_move rfl rfl) ?_
         refine ox rfl rfl rfl rfl (ex_move rfl rfl) ?_
         refine ox rfl rfl rfl rfl (ex_build1 (fun u5356 => [(0, .agg #[(.int .i64 x1), (.int .i64 a5323)]), (1, .agg #[(.int .i64 t5354.fValue), u5356, (.int .i64 t5354.fRule.fNeed), (.int .i64 t5354.fRule.fAfter)]), (2, .int .i64 x3), (3, .bool x4)]) (fun u5356 => #[.int .i64 x1, .int .i64 a5323, .int .i64 t5354.fValue, u5356, .int .i64 t5354.fRule.fNeed, .int .i64 t5354.fRule.fAfter, .int .i64 x3, .bool x4]) rfl rfl (fun _ _ _ => by kernel_rfl) (HM.own_rd 0 rfl).isSl) ?_
         refine od rfl rfl rfl rfl (does_lit (e := 41) (cs := [(.int .i64 x1), (.int .i64 a5323), (.int .i64 t5354.fValue), u5356, (.int .i64 t5354.fRule.fNeed), (.int .i64 t5354.fRule.fAfter), (.int .i64 x3), (.bool x4)]) (xs := ([(⟨(⟨x1, a5323⟩ : Ref), t5354, x3, x4⟩ : Coin)] : List Coin)) kCoin rfl rfl (fun _ => by kernel_rfl) rfl rfl (fun _ _ h => by have := Elems.cons (d := kCoin) (x := (⟨(⟨x1, a5323⟩ : Ref), t5354, x3, x4⟩ : Coin)) ⟨_, rfl, h⟩ .nil; rw [List.append_nil, List.append_nil] at this; exact this) HM) ?_
         rintro v5358 w5365 HM
         replace HM := HM.front 2 rfl rfl
         refine od rfl rfl rfl rfl (does_append kCoin rfl rfl rfl Try.underlying24 tsz41 rfl tby41 tz41 rfl rfl (leB_le e5361) HM) ?_
         rintro v5362 w5366 HM
         refine ox rfl rfl rfl rfl (ex_assign rfl rfl) ?_
         refine ops_nil ?_
         refine at_block ?_
         refine at_then ?_
         refine run_region rfl ?_
         refine ox rfl rfl rfl rfl (ex_add rfl rfl rfl) ?_
         refine ox rfl rfl rfl rfl (ex_move rfl rfl) ?_
         refine ops_nil ?_
         replace HM := (HM.front 1 rfl rfl).drop
         exact at_again k5342 (ρ1 := [(1, .int .i64 x1), (3, .int .i64 x3), (4, .bool x4), (15, v5362), (56, p2), (57, .int .i64 (x2.length : Int)), (58, .int .i64 (wrap64 (a5323 + 1)))]) (Nat.lt_succ_self _) ⟨_, _, _, ho5301, rfl, HM⟩ (Sub.cons rfl (Sub.cons rfl (Sub.cons rfl (Sub.cons rfl (Sub.cons rfl (Sub.cons rfl (Sub.cons rfl Sub.nil)))))))
        ·replace ho5301 := cond_f hb5344 ho5301
         refine run_exit ?_
         refine at_then_exit ?_
         refine at_then_exit ?_
         refine at_block_exit ?_
         exact at_mid (ρ' := [(15, v5320)]) ⟨_, _, (Option.some.inj ho5301), rfl, HM⟩ (Sub.cons rfl Sub.nil)
       ·rintro _ w5367 ⟨v5297, a5298, rfl, rfl, HM⟩
        refine run_seq ?_
        obtain ⟨t5368, h5369, H⟩ := bind_some H
        refine run_region rfl ?_
        refine ox rfl rfl rfl rfl (ex_move rfl rfl) ?_
        obtain ⟨F5372, hF5373, hFn5374, hFl5375, HMh5376, hcl5377⟩ := HM.hide (Ms := [own kCoin 41 v5297 a5298])
        refine od rfl rfl rfl rfl (does_callk rfl callok48 rfl (impl_sorted.calls (x0 := a5298) (hide_olds _ _) hF5373 hFn5374 hFl5375 h5369)) ?_
        rintro u5370 w5378 ⟨_, rfl, hn⟩
        replace HM : Mem w [] w5378 [own kCoin 41 u5370 t5368] := hcl5377 _ _ hn
        refine ox rfl rfl rfl rfl (ex_assign rfl rfl) ?_
        refine ox rfl rfl rfl rfl (ex_assign rfl rfl) ?_
        refine ops_nil (at_then ?_)
        refine run_ret ?_
        have hR := Option.some.inj H
        subst hR
        exact at_ret2 rfl rfl rfl ⟨_, rfl, _, rfl, HM⟩
end Go.Proofs.Ytecgbhfgkkpmhaa.Zk
