/- What functions of the program compute, each as a plain function, and that they do. Conditions: as each theorem states them. -/
import Derived.Test.YtbbcabpnkdilgaaPutCoinsZkF3
namespace Go.Proofs.Ytbbcabpnkdilgaa.Zk
open Go Go.RowKit Go.IntWalk Go.Proofs
set_option linter.unusedVariables false
set_option linter.unusedSimpArgs false
set_option maxRecDepth 100000
set_option maxHeartbeats 4000000
def impl_outFault.f (k : Nat) (x0 : Out) : Option Int := ((impl_within.f k x0.fValue 1 1000000).bind fun t3077 => (bif !t3077 then some 3 else ((impl_RuleFault.f k x0.fRule).bind fun t3081 => some t3081)))
theorem impl_outFault.calls {k : Nat} {x0 : Out} {p0_0 : Value} {w : World} (hp0_0 : RdS kInt w p0_0 x0.fRule.fKeys) {r : Int} (H : impl_outFault.f k x0 = some r) :
    Calls Try.prog 108 ([.agg #[(.int .i64 x0.fValue), p0_0, (.int .i64 x0.fRule.fNeed), (.int .i64 x0.fRule.fAfter)]] : List Value).toArray w (fun e w_ => ∃ v, e = .returned v ∧ v = (.int .i64 r) ∧ Mem w [] w_ []) := by
  have HM := Mem.start w
  refine calls_run (N := 10) Try.func108 rfl rfl rfl rfl ?_
  unfold impl_outFault.f at H
  refine run_seq ?_
  refine run_region rfl ?_
  refine ops_does rfl (guard_none rfl) rfl rfl (does_box (cs := [.int .i64 x0.fValue, p0_0, .int .i64 x0.fRule.fNeed, .int .i64 x0.fRule.fAfter]) rfl rfl rfl HM) ?_
  rintro _ w3076 ⟨b3073, rfl, HM⟩
  refine ops_ex rfl (guard_none rfl) rfl rfl (ex_assign rfl rfl) ?_
  refine ops_nil ?_
  refine at_then ?_
  refine run_seq ?_
  refine run_seq ?_
  obtain ⟨t3077, h3078, H⟩ := bind_some H
  refine run_region rfl ?_
  refine ops_ex rfl (guard_none rfl) rfl rfl (ex_fieldAddr (off' := 0) rfl rfl Try.underlying69 rfl tsz2 rfl) ?_
  refine ops_ex rfl (guard_none rfl) rfl rfl (ex_load1 rfl rfl Try.underlying2 rfl ((HM.box_at 0 rfl) 0 _ rfl)) ?_
  refine ops_does rfl (guard_none rfl) rfl rfl (does_callk rfl callok89 rfl (impl_within.calls (x0 := x0.fValue) (x1 := 1) (x2 := 1000000) h3078)) ?_
  rintro _ w3079 ⟨rfl, hn⟩
  replace HM : Mem w [] w3079 [box b3073 69 [.int .i64 x0.fValue, p0_0, .int .i64 x0.fRule.fNeed, .int .i64 x0.fRule.fAfter]] := HM.call hn
  refine ops_ex rfl (guard_none rfl) rfl rfl (ex_not rfl rfl) ?_
  refine ops_nil ?_
  refine at_then ?_
  refine run_cond (b := !t3077) rfl (fun hb3080 => ?_) (fun hb3080 => ?_)
  · replace H := cond_t hb3080 H
    refine run_seq ?_
    refine run_region rfl ?_
    refine ops_ex rfl (guard_none rfl) rfl rfl (ex_assign rfl rfl) ?_
    refine ops_nil ?_
    refine at_then ?_
    refine run_ret ?_
    refine at_then_ret ?_
    replace HM := (HM.front 0 rfl rfl).drop
    have hR := Option.some.inj H
    subst hR
    exact at_ret1 rfl rfl ⟨_, rfl, rfl, HM⟩
  · replace H := cond_f hb3080 H
    refine run_skip ?_
    refine at_then ?_
    refine run_seq ?_
    obtain ⟨t3081, h3082, H⟩ := bind_some H
    refine run_region rfl ?_
    refine ops_ex rfl (guard_none rfl) rfl rfl (ex_fieldAddr (off' := 1) rfl rfl Try.underlying69 rfl tsz67 rfl) ?_
    refine ops_ex rfl (guard_none rfl) rfl rfl (ex_loadN (cs := [p0_0, (.int .i64 x0.fRule.fNeed), (.int .i64 x0.fRule.fAfter)]) rfl rfl Try.underlying67 rfl tsz67 rfl ((HM.box_at 0 rfl).sub 1 3 rfl)) ?_
    refine ops_does rfl (guard_none rfl) rfl rfl (does_callk rfl callok90 rfl (impl_RuleFault.calls (x0 := x0.fRule) (HM.rd hp0_0) h3082)) ?_
    rintro _ w3083 ⟨rfl, hn⟩
    replace HM : Mem w [] w3083 [box b3073 69 [.int .i64 x0.fValue, p0_0, .int .i64 x0.fRule.fNeed, .int .i64 x0.fRule.fAfter]] := HM.call hn
    refine ops_ex rfl (guard_none rfl) rfl rfl (ex_assign rfl rfl) ?_
    refine ops_nil ?_
    refine at_then ?_
    refine run_ret ?_
    replace HM := (HM.front 0 rfl rfl).drop
    have hR := Option.some.inj H
    subst hR
    exact at_ret1 rfl rfl ⟨_, rfl, rfl, HM⟩

def impl_hasTx_1.f (k : Nat) (x0 : Coin) (x1 : Int) : Option Bool := some (x0.fRef.fTx == x1)
theorem impl_hasTx_1.calls {k : Nat} {x0 : Coin} {x1 : Int} {p0_0 : Value} {b1 f1 : Nat} {w : World} (hp0_0 : RdS kInt w p0_0 x0.fOut.fRule.fKeys) (hc1 : CellsAt w b1 f1 [.int .i64 x1]) {r : Bool} (H : impl_hasTx_1.f k x0 x1 = some r) :
    Calls Try.prog 153 ([.agg #[(.int .i64 x0.fRef.fTx), (.int .i64 x0.fRef.fAt), (.int .i64 x0.fOut.fValue), p0_0, (.int .i64 x0.fOut.fRule.fNeed), (.int .i64 x0.fOut.fRule.fAfter), (.int .i64 x0.fHeight), (.bool x0.fMined)], .pointer (some ⟨b1, f1, none⟩)] : List Value).toArray w (fun e w_ => ∃ v, e = .returned v ∧ v = (.bool r) ∧ Mem w [] w_ []) := by
  have HM := Mem.start w
  refine calls_run (N := 9) Try.func153 rfl rfl rfl rfl ?_
  unfold impl_hasTx_1.f at H
  refine run_seq ?_
  refine run_region rfl ?_
  refine ops_does rfl (guard_none rfl) rfl rfl (does_box (cs := [.int .i64 x0.fRef.fTx, .int .i64 x0.fRef.fAt, .int .i64 x0.fOut.fValue, p0_0, .int .i64 x0.fOut.fRule.fNeed, .int .i64 x0.fOut.fRule.fAfter, .int .i64 x0.fHeight, .bool x0.fMined]) rfl rfl rfl HM) ?_
  rintro _ w3126 ⟨b3123, rfl, HM⟩
  refine ops_ex rfl (guard_none rfl) rfl rfl (ex_assign rfl rfl) ?_
  refine ops_nil ?_
  refine at_then ?_
  refine run_seq ?_
  refine run_region rfl ?_
  refine ops_ex rfl (guard_none rfl) rfl rfl (ex_fieldAddr (off' := 0) rfl rfl Try.underlying72 rfl tsz36 rfl) ?_
  refine ops_ex rfl (guard_none rfl) rfl rfl (ex_fieldAddr (off' := 0) rfl rfl Try.underlying36 rfl tsz2 rfl) ?_
  refine ops_ex rfl (guard_none rfl) rfl rfl (ex_load1 rfl rfl Try.underlying2 rfl ((HM.box_at 0 rfl) 0 _ rfl)) ?_
  refine ops_ex rfl (guard_none rfl) rfl rfl (ex_load1 rfl rfl Try.underlying2 rfl ((HM.at_ hc1) 0 _ rfl)) ?_
  refine ops_ex rfl (guard_none rfl) rfl rfl (ex_eql rfl rfl rfl) ?_
  refine ops_ex rfl (guard_none rfl) rfl rfl (ex_assign rfl rfl) ?_
  refine ops_nil ?_
  refine at_then ?_
  refine run_ret ?_
  replace HM := (HM.front 0 rfl rfl).drop
  have hR := Option.some.inj H
  subst hR
  exact at_ret1 rfl rfl ⟨_, rfl, rfl, HM⟩

def slices_IndexFunc_impl_Coin.l0 (x0 : List Coin) (x1_0 : Int) : Nat → Int → Option (Int ⊕ Unit)
  | 0, _ => none
  | k + 1, a3184 => (bif (decide (a3184 < (x0.length : Int))) then (chk (idxOk a3184 x0.length) ((impl_hasTx_1.f k (gt x0 a3184) x1_0).bind fun t3200 => (bif t3200 then some (.inl a3184) else slices_IndexFunc_impl_Coin.l0 x0 x1_0 k (wrap64 (a3184 + 1))))) else some (.inr ()))
theorem slices_IndexFunc_impl_Coin.l0_z (x0 : List Coin) (x1_0 : Int) (a3184 : Int) : slices_IndexFunc_impl_Coin.l0 x0 x1_0 0 a3184 = none := rfl
theorem slices_IndexFunc_impl_Coin.l0_s (x0 : List Coin) (x1_0 : Int) (k : Nat) (a3184 : Int) : slices_IndexFunc_impl_Coin.l0 x0 x1_0 (k + 1) a3184 = (bif (decide (a3184 < (x0.length : Int))) then (chk (idxOk a3184 x0.length) ((impl_hasTx_1.f k (gt x0 a3184) x1_0).bind fun t3200 => (bif t3200 then some (.inl a3184) else slices_IndexFunc_impl_Coin.l0 x0 x1_0 k (wrap64 (a3184 + 1))))) else some (.inr ())) := rfl
def slices_IndexFunc_impl_Coin.f (k : Nat) (x0 : List Coin) (x1_0 : Int) : Option Int := ((slices_IndexFunc_impl_Coin.l0 x0 x1_0 k 0).bind fun o3174 => thn o3174 (fun r => some r) (fun _ => some (-1)))
theorem slices_IndexFunc_impl_Coin.calls {k : Nat} {x0 : List Coin} {x1_0 : Int} {p0 : Value} {b1_0 f1_0 : Nat} {w : World} (hp0 : RdS kCoin w p0 x0) (hc1_0 : CellsAt w b1_0 f1_0 [.int .i64 x1_0]) {r : Int} (H : slices_IndexFunc_impl_Coin.f k x0 x1_0 = some r) :
    Calls Try.prog 164 ([p0, .func (.func 153) #[] #[(.pointer (some ⟨b1_0, f1_0, none⟩))]] : List Value).toArray w (fun e w_ => ∃ v, e = .returned v ∧ v = (.int .i64 r) ∧ Mem w [] w_ []) := by
  have HM := Mem.start w
  refine calls_run (N := 19) Try.func164 rfl rfl rfl rfl ?_
  unfold slices_IndexFunc_impl_Coin.f at H
  refine run_seq ?_
  refine run_region rfl ?_
  refine ops_ex rfl (guard_none rfl) rfl rfl (ex_assign rfl rfl) ?_
  refine ops_nil ?_
  refine at_then ?_
  obtain ⟨o3174, ho3175, H⟩ := bind_some H
  refine run_mid (fun ρ_ w_ => Sum.inr () = o3174 ∧ ρ_ = [] ∧ Mem w [] w_ []) ?_ ?_
  · skip
    refine run_seq ?_
    refine run_region rfl ?_
    refine ops_ex rfl (guard_none rfl) rfl rfl (ex_move rfl rfl) ?_
    refine ops_ex rfl (guard_none rfl) rfl rfl (ex_len (d := kCoin) (xs := x0) rfl rfl Try.underlying60 hp0) ?_
    refine ops_ex rfl (guard_none rfl) rfl rfl (ex_move rfl rfl) ?_
    refine ops_nil ?_
    refine at_then ?_
    refine run_block ?_
    refine run_loop (fun k_ ρ_ w_ => ∃ a3184 : Int, slices_IndexFunc_impl_Coin.l0 x0 x1_0 k_ a3184 = some o3174 ∧ ρ_ = [(0, p0), (1, .func (.func 153) #[] #[(.pointer (some ⟨b1_0, f1_0, none⟩))]), (7, .int .i64 (x0.length : Int)), (8, .int .i64 a3184)] ∧ Mem w [] w_ []) k (ρ1 := [(0, p0), (1, .func (.func 153) #[] #[(.pointer (some ⟨b1_0, f1_0, none⟩))]), (7, .int .i64 (x0.length : Int)), (8, .int .i64 0)]) ⟨_, ho3175, rfl, HM⟩ (Sub.cons rfl (Sub.cons rfl (Sub.cons rfl (Sub.cons rfl Sub.nil)))) ?_
    clear HM ho3175
    rintro k3193 _ w3194 ⟨a3184, ho3175, rfl, HM⟩
    obtain _ | k3193 := k3193
    · exact nomatch ((slices_IndexFunc_impl_Coin.l0_z x0 x1_0 a3184).symm.trans ho3175)
    replace ho3175 := (slices_IndexFunc_impl_Coin.l0_s x0 x1_0 k3193 a3184).symm.trans ho3175
    refine run_seq ?_
    refine run_region rfl ?_
    refine ops_ex rfl (guard_none rfl) rfl rfl (ex_lss rfl rfl rfl) ?_
    refine ops_nil ?_
    refine at_then ?_
    refine run_seq ?_
    refine run_cond (b := (decide (a3184 < (x0.length : Int)))) rfl (fun hb3195 => ?_) (fun hb3195 => ?_)
    · replace ho3175 := cond_t hb3195 ho3175
      refine run_skip ?_
      refine at_then ?_
      refine run_seq ?_
      refine run_block ?_
      refine run_seq ?_
      refine run_region rfl ?_
      refine ops_ex rfl (guard_none rfl) rfl rfl (ex_move rfl rfl) ?_
      refine ops_ex rfl (guard_none rfl) rfl rfl (ex_assign rfl rfl) ?_
      refine ops_nil ?_
      refine at_then ?_
      refine run_seq ?_
      obtain ⟨e3196, ho3175⟩ := chk_some ho3175
      obtain ⟨t3200, h3201, ho3175⟩ := bind_some ho3175
      refine run_region rfl ?_
      refine ops_ex rfl (guard_none rfl) rfl rfl (ex_move rfl rfl) ?_
      refine ops_ex rfl (guard_none rfl) rfl rfl (ex_move rfl rfl) ?_
      refine ops_ex rfl (guard_none rfl) rfl rfl (ex_move rfl rfl) ?_
      obtain ⟨kv3198, hc3197, hk3199⟩ : ∃ u, CellsAt _ (sb p0) (so p0 + (a3184).toNat * 8) [(.int .i64 ((gt x0 a3184).fRef.fTx)), (.int .i64 ((gt x0 a3184).fRef.fAt)), (.int .i64 ((gt x0 a3184).fOut.fValue)), u, (.int .i64 ((gt x0 a3184).fOut.fRule.fNeed)), (.int .i64 ((gt x0 a3184).fOut.fRule.fAfter)), (.int .i64 ((gt x0 a3184).fHeight)), (.bool ((gt x0 a3184).fMined))] ∧ RdS kInt _ u ((gt x0 a3184).fOut.fRule.fKeys) := rd_with1 hp0 e3196
      refine ops_ex rfl (guard_none rfl) rfl rfl (ex_indexAddr (d := kCoin) rfl rfl rfl Try.underlying60 tsz72 hp0 (idx_lo e3196) (idx_hi e3196)) ?_
      refine ops_ex rfl (guard_none rfl) rfl rfl (ex_loadN (cs := [(.int .i64 ((gt x0 a3184).fRef.fTx)), (.int .i64 ((gt x0 a3184).fRef.fAt)), (.int .i64 ((gt x0 a3184).fOut.fValue)), kv3198, (.int .i64 ((gt x0 a3184).fOut.fRule.fNeed)), (.int .i64 ((gt x0 a3184).fOut.fRule.fAfter)), (.int .i64 ((gt x0 a3184).fHeight)), (.bool ((gt x0 a3184).fMined))]) rfl rfl Try.underlying72 rfl tsz72 rfl ((HM.at_ hc3197).sub 0 8 rfl)) ?_
      refine ops_does rfl (guard_none rfl) rfl rfl (does_callvk rfl callok153 rfl rfl rfl (impl_hasTx_1.calls (x0 := (gt x0 a3184)) (x1 := x1_0) (HM.rd hk3199) (HM.at_ hc1_0) h3201)) ?_
      rintro _ w3202 ⟨rfl, hn⟩
      replace HM : Mem w [] w3202 [] := HM.call hn
      refine ops_nil ?_
      refine at_then ?_
      refine run_cond (b := t3200) rfl (fun hb3203 => ?_) (fun hb3203 => ?_)
      · replace ho3175 := cond_t hb3203 ho3175
        refine run_seq ?_
        refine run_region rfl ?_
        refine ops_ex rfl (guard_none rfl) rfl rfl (ex_move rfl rfl) ?_
        refine ops_ex rfl (guard_none rfl) rfl rfl (ex_assign rfl rfl) ?_
        refine ops_nil ?_
        refine at_then ?_
        refine run_ret ?_
        refine at_block_ret ?_
        refine at_then_ret ?_
        refine at_then_ret ?_
        refine at_block_ret ?_
        refine at_then_ret ?_
        have hR := Option.some.inj ho3175
        subst hR
        have hT := thn_inl H
        have hR := Option.some.inj hT
        subst hR
        exact at_ret1 rfl rfl ⟨_, rfl, rfl, HM⟩
      · replace ho3175 := cond_f hb3203 ho3175
        refine run_skip ?_
        refine at_block ?_
        refine at_then ?_
        refine run_region rfl ?_
        refine ops_ex rfl (guard_none rfl) rfl rfl (ex_add rfl rfl rfl) ?_
        refine ops_ex rfl (guard_none rfl) rfl rfl (ex_move rfl rfl) ?_
        refine ops_nil ?_
        exact at_again k3193 (ρ1 := [(0, p0), (1, .func (.func 153) #[] #[(.pointer (some ⟨b1_0, f1_0, none⟩))]), (7, .int .i64 (x0.length : Int)), (8, .int .i64 (wrap64 (a3184 + 1)))]) (Nat.lt_succ_self _) ⟨_, ho3175, rfl, HM⟩ (Sub.cons rfl (Sub.cons rfl (Sub.cons rfl (Sub.cons rfl Sub.nil))))
    · replace ho3175 := cond_f hb3195 ho3175
      refine run_exit ?_
      refine at_then_exit ?_
      refine at_then_exit ?_
      refine at_block_exit ?_
      exact at_mid (ρ' := []) ⟨(Option.some.inj ho3175), rfl, HM⟩ Sub.nil
  · rintro _ w3204 ⟨rfl, rfl, HM⟩
    replace H := (thn_inr H)
    refine run_seq ?_
    refine run_region rfl ?_
    refine ops_ex rfl (guard_none rfl) rfl rfl (ex_assign rfl rfl) ?_
    refine ops_nil ?_
    refine at_then ?_
    refine run_ret ?_
    have hR := Option.some.inj H
    subst hR
    exact at_ret1 rfl rfl ⟨_, rfl, rfl, HM⟩

def slices_ContainsFunc_impl_Coin.f (k : Nat) (x0 : List Coin) (x1_0 : Int) : Option Bool := ((slices_IndexFunc_impl_Coin.f k x0 x1_0).bind fun t3207 => some (decide (0 ≤ t3207)))
theorem slices_ContainsFunc_impl_Coin.calls {k : Nat} {x0 : List Coin} {x1_0 : Int} {p0 : Value} {b1_0 f1_0 : Nat} {w : World} (hp0 : RdS kCoin w p0 x0) (hc1_0 : CellsAt w b1_0 f1_0 [.int .i64 x1_0]) {r : Bool} (H : slices_ContainsFunc_impl_Coin.f k x0 x1_0 = some r) :
    Calls Try.prog 152 ([p0, .func (.func 153) #[] #[(.pointer (some ⟨b1_0, f1_0, none⟩))]] : List Value).toArray w (fun e w_ => ∃ v, e = .returned v ∧ v = (.bool r) ∧ Mem w [] w_ []) := by
  have HM := Mem.start w
  refine calls_run (N := 9) Try.func152 rfl rfl rfl rfl ?_
  unfold slices_ContainsFunc_impl_Coin.f at H
  refine run_seq ?_
  refine run_region rfl ?_
  refine ops_ex rfl (guard_none rfl) rfl rfl (ex_assign rfl rfl) ?_
  refine ops_nil ?_
  refine at_then ?_
  refine run_seq ?_
  obtain ⟨t3207, h3208, H⟩ := bind_some H
  refine run_region rfl ?_
  refine ops_ex rfl (guard_none rfl) rfl rfl (ex_move rfl rfl) ?_
  refine ops_ex rfl (guard_none rfl) rfl rfl (ex_move rfl rfl) ?_
  refine ops_does rfl (guard_none rfl) rfl rfl (does_callk rfl callok164 rfl (slices_IndexFunc_impl_Coin.calls (x0 := x0) (x1_0 := x1_0) (HM.rd hp0) (HM.at_ hc1_0) h3208)) ?_
  rintro _ w3209 ⟨rfl, hn⟩
  replace HM : Mem w [] w3209 [] := HM.call hn
  refine ops_ex rfl (guard_none rfl) rfl rfl (ex_geq rfl rfl rfl) ?_
  refine ops_ex rfl (guard_none rfl) rfl rfl (ex_assign rfl rfl) ?_
  refine ops_nil ?_
  refine at_then ?_
  refine run_ret ?_
  have hR := Option.some.inj H
  subst hR
  exact at_ret1 rfl rfl ⟨_, rfl, rfl, HM⟩

def impl_hasTx.f (k : Nat) (x0 : List Coin) (x1 : Int) : Option Bool := ((slices_ContainsFunc_impl_Coin.f k x0 x1).bind fun t3216 => some t3216)
theorem impl_hasTx.calls {k : Nat} {x0 : List Coin} {x1 : Int} {p0 : Value} {w : World} (hp0 : RdS kCoin w p0 x0) {r : Bool} (H : impl_hasTx.f k x0 x1 = some r) :
    Calls Try.prog 128 ([p0, .int .i64 x1] : List Value).toArray w (fun e w_ => ∃ v, e = .returned v ∧ v = (.bool r) ∧ Mem w [] w_ []) := by
  have HM := Mem.start w
  refine calls_run (N := 8) Try.func128 rfl rfl rfl rfl ?_
  unfold impl_hasTx.f at H
  refine run_seq ?_
  refine run_region rfl ?_
  refine ops_does rfl (guard_none rfl) rfl rfl (does_box (cs := [.int .i64 x1]) rfl rfl rfl HM) ?_
  rintro _ w3215 ⟨b3212, rfl, HM⟩
  refine ops_ex rfl (guard_none rfl) rfl rfl (ex_assign rfl rfl) ?_
  refine ops_nil ?_
  refine at_then ?_
  refine run_seq ?_
  obtain ⟨t3216, h3217, H⟩ := bind_some H
  refine run_region rfl ?_
  refine ops_ex rfl (guard_none rfl) rfl rfl (ex_move rfl rfl) ?_
  refine ops_ex rfl (guard_none rfl) rfl rfl (ex_func rfl rfl) ?_
  refine ops_does rfl (guard_none rfl) rfl rfl (does_callk rfl callok152 rfl (slices_ContainsFunc_impl_Coin.calls (x0 := x0) (x1_0 := x1) (HM.rd hp0) (HM.box_at 0 rfl) h3217)) ?_
  rintro _ w3218 ⟨rfl, hn⟩
  replace HM : Mem w [] w3218 [box b3212 2 [.int .i64 x1]] := HM.call hn
  refine ops_ex rfl (guard_none rfl) rfl rfl (ex_assign rfl rfl) ?_
  refine ops_nil ?_
  refine at_then ?_
  refine run_ret ?_
  replace HM := (HM.front 0 rfl rfl).drop
  have hR := Option.some.inj H
  subst hR
  exact at_ret1 rfl rfl ⟨_, rfl, rfl, HM⟩

def slices_Clone_int64.f (k : Nat) (x0 : List Int) : Option ((List Int)) := (chk (leB ((([] : List Int).length + x0.length) * 8) 140737488355328) (some (([] : List Int) ++ x0)))
theorem slices_Clone_int64.calls {k : Nat} {x0 : List Int} {p0 : Value} {w : World} (hp0 : RdS kInt w p0 x0) {r : (List Int)} (H : slices_Clone_int64.f k x0 = some r) :
    Calls Try.prog 165 ([p0] : List Value).toArray w (fun e w_ => ∃ v, e = .returned v ∧ ∃ u0 : Value, v = u0 ∧ Mem w [] w_ [own kInt 2 u0 r]) := by
  have HM := Mem.start w
  refine calls_run (N := 8) Try.func165 rfl rfl rfl rfl ?_
  unfold slices_Clone_int64.f at H
  refine run_seq ?_
  refine run_region rfl ?_
  refine ops_ex rfl (guard_none rfl) rfl rfl (ex_assign rfl rfl) ?_
  refine ops_nil ?_
  refine at_then ?_
  refine run_seq ?_
  refine run_seq ?_
  refine run_region rfl ?_
  refine ops_ex rfl (guard_none rfl) rfl rfl (ex_move rfl rfl) ?_
  refine ops_exE rfl (guard_none rfl) rfl rfl (ex_isnil rfl rfl rfl Try.underlying39 hp0) ?_
  rintro _ ⟨b3259, rfl, hb3260⟩
  refine ops_nil ?_
  refine at_then ?_
  refine run_cond (b := b3259) rfl (fun hb3261 => ?_) (fun hb3261 => ?_)
  · have hx_ := hb3260 hb3261
    subst hx_
    obtain ⟨_, H⟩ := chk_some H
    replace H : some ([] : List Int) = r := H
    refine run_seq ?_
    refine run_region rfl ?_
    refine ops_ex rfl (guard_none rfl) rfl rfl (ex_assign rfl rfl) ?_
    refine ops_nil ?_
    refine at_then ?_
    refine run_ret ?_
    refine at_then_ret ?_
    replace HM := HM.empty kInt 2 none
    have hR := Option.some.inj H
    subst hR
    exact at_ret1 rfl rfl ⟨_, rfl, _, rfl, HM⟩
  · skip
    refine run_skip ?_
    refine at_then ?_
    refine run_seq ?_
    obtain ⟨e3265, H⟩ := chk_some H
    refine run_region rfl ?_
    refine ops_does rfl (guard_none rfl) rfl rfl (does_lit (e := 2) (cs := []) (xs := ([] : List Int)) kInt rfl rfl (fun _ => by kernel_rfl) rfl rfl (fun _ _ h => by have h' : _ = [] := h; subst h'; exact .nil) HM.emp) ?_
    rintro v3262 w3268 HM
    refine ops_ex rfl (guard_none rfl) rfl rfl (ex_move rfl rfl) ?_
    refine ops_does rfl (guard_none rfl) rfl rfl (does_appendR kInt flat_plain rfl rfl rfl Try.underlying39 tsz2 rfl tby2 tz2 rfl rfl (leB_le e3265) (HM.rd hp0) HM) ?_
    rintro v3266 w3269 HM
    refine ops_ex rfl (guard_none rfl) rfl rfl (ex_assign rfl rfl) ?_
    refine ops_nil ?_
    refine at_then ?_
    refine run_ret ?_
    have hR := Option.some.inj H
    subst hR
    exact at_ret1 rfl rfl ⟨_, rfl, _, rfl, HM⟩

def impl_ownRule.f (k : Nat) (x0 : Rule) : Option Rule := ((slices_Clone_int64.f k x0.fKeys).bind fun t3283 => some (⟨t3283, x0.fNeed, x0.fAfter⟩ : Rule))
theorem impl_ownRule.calls {k : Nat} {x0 : Rule} {p0_0 : Value} {w : World} (hp0_0 : RdS kInt w p0_0 x0.fKeys) {r : Rule} (H : impl_ownRule.f k x0 = some r) :
    Calls Try.prog 154 ([.agg #[p0_0, (.int .i64 x0.fNeed), (.int .i64 x0.fAfter)]] : List Value).toArray w (fun e w_ => ∃ v, e = .returned v ∧ ∃ u0 : Value, v = (.agg #[u0, .int .i64 r.fNeed, .int .i64 r.fAfter]) ∧ Mem w [] w_ [own kInt 2 u0 r.fKeys]) := by
  have HM := Mem.start w
  refine calls_run (N := 8) Try.func154 rfl rfl rfl rfl ?_
  unfold impl_ownRule.f at H
  refine run_seq ?_
  refine run_region rfl ?_
  refine ops_does rfl (guard_none rfl) rfl rfl (does_box (cs := [p0_0, .int .i64 x0.fNeed, .int .i64 x0.fAfter]) rfl rfl rfl HM) ?_
  rintro _ w3281 ⟨b3275, rfl, HM⟩
  refine ops_does rfl (guard_none rfl) rfl rfl (does_alloc (cs := [.slice none 0 0, .int .i64 0, .int .i64 0]) rfl tz67 rfl HM) ?_
  rintro _ w3282 ⟨b3278, rfl, HM⟩
  refine ops_nil ?_
  refine at_then ?_
  refine run_seq ?_
  obtain ⟨t3283, h3284, H⟩ := bind_some H
  refine run_region rfl ?_
  refine ops_ex rfl (guard_none rfl) rfl rfl (ex_fieldAddr (off' := 0) rfl rfl Try.underlying67 rfl tsz39 rfl) ?_
  refine ops_ex rfl (guard_none rfl) rfl rfl (ex_load1 rfl rfl Try.underlying39 rfl ((HM.box_at 1 rfl) 0 _ rfl)) ?_
  refine ops_does rfl (guard_none rfl) rfl rfl (does_callk rfl callok165 rfl (slices_Clone_int64.calls (x0 := x0.fKeys) (HM.rd hp0_0) h3284)) ?_
  rintro u3285 w3287 ⟨_, rfl, hn⟩
  replace HM : Mem w [] w3287 [own kInt 2 u3285 t3283, box b3278 67 [.slice none 0 0, .int .i64 0, .int .i64 0], box b3275 67 [p0_0, .int .i64 x0.fNeed, .int .i64 x0.fAfter]] := HM.call hn
  refine ops_ex rfl (guard_none rfl) rfl rfl (ex_fieldAddr (off' := 0) rfl rfl Try.underlying67 rfl tsz39 rfl) ?_
  replace HM := HM.front 2 rfl rfl
  refine ops_doesS rfl (guard_none rfl) rfl (does_store (vs := [u3285]) (cs' := [u3285, .int .i64 x0.fNeed, .int .i64 x0.fAfter]) rfl rfl rfl (rd_cells (HM.own_rd 1 rfl)) tsz39 (Ones.rd (HM.own_rd 1 rfl) Ones.nil) rfl rfl HM) ?_
  rintro w3288 HM
  refine ops_nil ?_
  refine at_then ?_
  refine run_seq ?_
  refine run_region rfl ?_
  refine ops_ex rfl (guard_none rfl) rfl rfl (ex_loadN (cs := [u3285, (.int .i64 x0.fNeed), (.int .i64 x0.fAfter)]) rfl rfl Try.underlying67 rfl tsz67 rfl ((HM.box_at 0 rfl).sub 0 3 rfl)) ?_
  replace HM := HM.front 2 rfl rfl
  refine ops_doesS rfl (guard_none rfl) rfl (does_store (vs := [u3285, .int .i64 x0.fNeed, .int .i64 x0.fAfter]) (cs' := [u3285, .int .i64 x0.fNeed, .int .i64 x0.fAfter]) rfl rfl rfl rfl tsz67 (Ones.rd (HM.own_rd 2 rfl) (Ones.int (Ones.int Ones.nil))) rfl rfl HM) ?_
  rintro w3289 HM
  refine ops_nil ?_
  refine at_then ?_
  refine run_ret ?_
  replace HM := (HM.front 1 rfl rfl).drop
  have hcb0 := HM.box_at 0 rfl
  replace HM := (HM.front 0 rfl rfl).drop
  have hR := Option.some.inj H
  subst hR
  exact at_retN rfl rfl Try.underlying67 rfl tsz67 rfl hcb0 ⟨_, rfl, _, rfl, HM⟩

def impl_ownOut.f (k : Nat) (x0 : Out) : Option Out := ((impl_ownRule.f k x0.fRule).bind fun t3302 => some (⟨x0.fValue, t3302⟩ : Out))
theorem impl_ownOut.calls {k : Nat} {x0 : Out} {p0_0 : Value} {w : World} (hp0_0 : RdS kInt w p0_0 x0.fRule.fKeys) {r : Out} (H : impl_ownOut.f k x0 = some r) :
    Calls Try.prog 129 ([.agg #[(.int .i64 x0.fValue), p0_0, (.int .i64 x0.fRule.fNeed), (.int .i64 x0.fRule.fAfter)]] : List Value).toArray w (fun e w_ => ∃ v, e = .returned v ∧ ∃ u0 : Value, v = (.agg #[.int .i64 r.fValue, u0, .int .i64 r.fRule.fNeed, .int .i64 r.fRule.fAfter]) ∧ Mem w [] w_ [own kInt 2 u0 r.fRule.fKeys]) := by
  have HM := Mem.start w
  refine calls_run (N := 9) Try.func129 rfl rfl rfl rfl ?_
  unfold impl_ownOut.f at H
  refine run_seq ?_
  refine run_region rfl ?_
  refine ops_does rfl (guard_none rfl) rfl rfl (does_box (cs := [.int .i64 x0.fValue, p0_0, .int .i64 x0.fRule.fNeed, .int .i64 x0.fRule.fAfter]) rfl rfl rfl HM) ?_
  rintro _ w3300 ⟨b3294, rfl, HM⟩
  refine ops_does rfl (guard_none rfl) rfl rfl (does_alloc (cs := [.int .i64 0, .slice none 0 0, .int .i64 0, .int .i64 0]) rfl tz69 rfl HM) ?_
  rintro _ w3301 ⟨b3297, rfl, HM⟩
  refine ops_nil ?_
  refine at_then ?_
  refine run_seq ?_
  obtain ⟨t3302, h3303, H⟩ := bind_some H
  refine run_drawf (fun w_ => Mem w [] w_ [box b3294 69 [.int .i64 x0.fValue, p0_0, .int .i64 x0.fRule.fNeed, .int .i64 x0.fRule.fAfter]]) [(0, true), (1, true), (2, true), (3, true), (4, false), (5, true), (6, false)] mixed rfl rfl (by kernel_rfl) ?_
  replace HM := HM.grow (fr_drew _)
  have hS := Mem.suf (M := [box b3297 69 [.int .i64 0, .slice none 0 0, .int .i64 0, .int .i64 0]]) HM
  refine drwp_take rfl (guard_none rfl) rfl rfl (fun w_ hS_ => (ex_fieldAddr (off' := 0) rfl rfl Try.underlying69 rfl tsz2 rfl)) hS ?_
  refine drwp_take rfl (guard_none rfl) rfl rfl (fun w_ hS_ => (ex_load1 rfl rfl Try.underlying2 rfl ((hS_.box_at 0 rfl) 0 _ rfl))) hS ?_
  refine drwp_take rfl (guard_none rfl) rfl rfl (fun w_ hS_ => (ex_fieldAddr (off' := 1) rfl rfl Try.underlying69 rfl tsz67 rfl)) hS ?_
  refine drwp_take rfl (guard_none rfl) rfl rfl (fun w_ hS_ => (ex_loadN (cs := [p0_0, (.int .i64 x0.fRule.fNeed), (.int .i64 x0.fRule.fAfter)]) rfl rfl Try.underlying67 rfl tsz67 rfl ((hS_.box_at 0 rfl).sub 1 3 rfl))) hS ?_
  refine drwp_one rfl (guard_none rfl) rfl rfl (does_callk rfl callok154 rfl (impl_ownRule.calls (x0 := x0.fRule) (HM.rd hp0_0) h3303)) ?_
  rintro _ w3306 ⟨u3304, rfl, hn⟩
  replace HM : Mem w [] w3306 [own kInt 2 u3304 t3302.fKeys, box b3297 69 [.int .i64 0, .slice none 0 0, .int .i64 0, .int .i64 0], box b3294 69 [.int .i64 x0.fValue, p0_0, .int .i64 x0.fRule.fNeed, .int .i64 x0.fRule.fAfter]] := HM.call hn
  refine ⟨Mem.suf (M := [own kInt 2 u3304 t3302.fKeys, box b3297 69 [.int .i64 0, .slice none 0 0, .int .i64 0, .int .i64 0]]) HM, ?_⟩
  have hS := Mem.suf (M := [own kInt 2 u3304 t3302.fKeys, box b3297 69 [.int .i64 0, .slice none 0 0, .int .i64 0, .int .i64 0]]) HM
  refine drwp_take rfl (guard_none rfl) rfl rfl (fun w_ hS_ => (ex_build1 (fun u3304 => [(0, .int .i64 x0.fValue), (1, .agg #[u3304, (.int .i64 t3302.fNeed), (.int .i64 t3302.fAfter)])]) (fun u3304 => #[.int .i64 x0.fValue, u3304, .int .i64 t3302.fNeed, .int .i64 t3302.fAfter]) rfl rfl (fun _ _ _ => by kernel_rfl) (HM.own_rd 0 rfl).isSl)) hS ?_
  replace HM := HM.front 1 rfl rfl
  refine drwp_oneS rfl (guard_none rfl) rfl (does_store (vs := [.int .i64 x0.fValue, u3304, .int .i64 t3302.fNeed, .int .i64 t3302.fAfter]) (cs' := [.int .i64 x0.fValue, u3304, .int .i64 t3302.fNeed, .int .i64 t3302.fAfter]) rfl rfl rfl rfl tsz69 (Ones.int (Ones.rd (HM.own_rd 1 rfl) (Ones.int (Ones.int Ones.nil)))) rfl rfl HM) ?_
  rintro w3307 HM
  refine ⟨Mem.suf (M := [box b3297 69 [.int .i64 x0.fValue, u3304, .int .i64 t3302.fNeed, .int .i64 t3302.fAfter], own kInt 2 u3304 t3302.fKeys]) HM, ?_⟩
  have hS := Mem.suf (M := [box b3297 69 [.int .i64 x0.fValue, u3304, .int .i64 t3302.fNeed, .int .i64 t3302.fAfter], own kInt 2 u3304 t3302.fKeys]) HM
  refine drwp_done ?_
  refine at_then ?_
  refine run_ret ?_
  replace HM := (HM.front 2 rfl rfl).drop
  have hcb0 := HM.box_at 0 rfl
  replace HM := (HM.front 0 rfl rfl).drop
  have hR := Option.some.inj H
  subst hR
  exact at_retN rfl rfl Try.underlying69 rfl tsz69 rfl hcb0 ⟨_, rfl, _, rfl, HM⟩

def impl_ownCoins.l0 (x0 : List Coin) : Nat → (List Coin) → Int → Option ((List Coin))
  | 0, _, _ => none
  | k + 1, a3449, a3451 => (bif (decide (a3451 < (x0.length : Int))) then (chk (idxOk a3451 x0.length) ((impl_ownOut.f k ((gt x0 a3451).fOut)).bind fun t3482 => (chk (leB ((a3449.length + ([(⟨(gt x0 a3451).fRef, t3482, (gt x0 a3451).fHeight, (gt x0 a3451).fMined⟩ : Coin)] : List Coin).length) * 80) 140737488355328) (impl_ownCoins.l0 x0 k (a3449 ++ ([(⟨(gt x0 a3451).fRef, t3482, (gt x0 a3451).fHeight, (gt x0 a3451).fMined⟩ : Coin)] : List Coin)) (wrap64 (a3451 + 1)))))) else some a3449)
theorem impl_ownCoins.l0_z (x0 : List Coin) (a3449 : List Coin) (a3451 : Int) : impl_ownCoins.l0 x0 0 a3449 a3451 = none := rfl
theorem impl_ownCoins.l0_s (x0 : List Coin) (k : Nat) (a3449 : List Coin) (a3451 : Int) : impl_ownCoins.l0 x0 (k + 1) a3449 a3451 = (bif (decide (a3451 < (x0.length : Int))) then (chk (idxOk a3451 x0.length) ((impl_ownOut.f k ((gt x0 a3451).fOut)).bind fun t3482 => (chk (leB ((a3449.length + ([(⟨(gt x0 a3451).fRef, t3482, (gt x0 a3451).fHeight, (gt x0 a3451).fMined⟩ : Coin)] : List Coin).length) * 80) 140737488355328) (impl_ownCoins.l0 x0 k (a3449 ++ ([(⟨(gt x0 a3451).fRef, t3482, (gt x0 a3451).fHeight, (gt x0 a3451).fMined⟩ : Coin)] : List Coin)) (wrap64 (a3451 + 1)))))) else some a3449) := rfl
def impl_ownCoins.f (k : Nat) (x0 : List Coin) : Option ((List Coin)) := ((impl_ownCoins.l0 x0 k ([] : List Coin) 0).bind (fun a3426 => some a3426))
theorem impl_ownCoins.calls {k : Nat} {x0 : List Coin} {p0 : Value} {w : World} (hp0 : RdS kCoin w p0 x0) {r : (List Coin)} (H : impl_ownCoins.f k x0 = some r) :
    Calls Try.prog 84 ([p0] : List Value).toArray w (fun e w_ => ∃ v, e = .returned v ∧ ∃ u0 : Value, v = u0 ∧ Mem w [] w_ [own kCoin 72 u0 r]) := by
  have HM := Mem.start w
  refine calls_run (N := 23) Try.func84 rfl rfl rfl rfl ?_
  unfold impl_ownCoins.f at H
  refine run_seq ?_
  refine run_region rfl ?_
  refine ops_ex rfl (guard_none rfl) rfl rfl (ex_assign rfl rfl) ?_
  refine ops_nil ?_
  refine at_then ?_
  refine run_seq ?_
  refine run_region rfl ?_
  refine ops_does rfl (guard_none rfl) rfl rfl (does_lit (e := 72) (cs := []) (xs := ([] : List Coin)) kCoin rfl rfl (fun _ => by kernel_rfl) rfl rfl (fun _ _ h => by have h' : _ = [] := h; subst h'; exact .nil) HM.emp) ?_
  rintro v3363 w3366 HM
  refine ops_ex rfl (guard_none rfl) rfl rfl (ex_assign rfl rfl) ?_
  refine ops_nil ?_
  refine at_then ?_
  obtain ⟨o3428, ho3429, H⟩ := bind_some H
  refine run_mid (fun ρ_ w_ => ∃ v3425 : Value, ∃ a3426 : List Coin, a3426 = o3428 ∧ ρ_ = [(3, v3425)] ∧ Mem w [] w_ [own kCoin 72 v3425 a3426]) ?_ ?_
  · clear H
    refine run_seq ?_
    refine run_region rfl ?_
    refine ops_ex rfl (guard_none rfl) rfl rfl (ex_move rfl rfl) ?_
    refine ops_ex rfl (guard_none rfl) rfl rfl (ex_len (d := kCoin) (xs := x0) rfl rfl Try.underlying60 hp0) ?_
    refine ops_ex rfl (guard_none rfl) rfl rfl (ex_move rfl rfl) ?_
    refine ops_nil ?_
    refine at_then ?_
    refine run_block ?_
    refine run_loop (fun k_ ρ_ w_ => ∃ v3448 : Value, ∃ a3449 : List Coin, ∃ a3451 : Int, impl_ownCoins.l0 x0 k_ a3449 a3451 = some o3428 ∧ ρ_ = [(3, v3448), (7, p0), (8, .int .i64 (x0.length : Int)), (9, .int .i64 a3451)] ∧ Mem w [] w_ [own kCoin 72 v3448 a3449]) k (ρ1 := [(3, v3363), (7, p0), (8, .int .i64 (x0.length : Int)), (9, .int .i64 0)]) ⟨_, _, _, ho3429, rfl, HM⟩ (Sub.cons rfl (Sub.cons rfl (Sub.cons rfl (Sub.cons rfl Sub.nil)))) ?_
    clear HM ho3429
    rintro k3470 _ w3471 ⟨v3448, a3449, a3451, ho3429, rfl, HM⟩
    obtain _ | k3470 := k3470
    · exact nomatch ((impl_ownCoins.l0_z x0 a3449 a3451).symm.trans ho3429)
    replace ho3429 := (impl_ownCoins.l0_s x0 k3470 a3449 a3451).symm.trans ho3429
    refine run_seq ?_
    refine run_region rfl ?_
    refine ops_ex rfl (guard_none rfl) rfl rfl (ex_lss rfl rfl rfl) ?_
    refine ops_nil ?_
    refine at_then ?_
    refine run_seq ?_
    refine run_cond (b := (decide (a3451 < (x0.length : Int)))) rfl (fun hb3472 => ?_) (fun hb3472 => ?_)
    · replace ho3429 := cond_t hb3472 ho3429
      refine run_skip ?_
      refine at_then ?_
      refine run_seq ?_
      refine run_block ?_
      refine run_seq ?_
      obtain ⟨e3473, ho3429⟩ := chk_some ho3429
      refine run_region rfl ?_
      obtain ⟨kv3475, hc3474, hk3476⟩ : ∃ u, CellsAt _ (sb p0) (so p0 + (a3451).toNat * 8) [(.int .i64 ((gt x0 a3451).fRef.fTx)), (.int .i64 ((gt x0 a3451).fRef.fAt)), (.int .i64 ((gt x0 a3451).fOut.fValue)), u, (.int .i64 ((gt x0 a3451).fOut.fRule.fNeed)), (.int .i64 ((gt x0 a3451).fOut.fRule.fAfter)), (.int .i64 ((gt x0 a3451).fHeight)), (.bool ((gt x0 a3451).fMined))] ∧ RdS kInt _ u ((gt x0 a3451).fOut.fRule.fKeys) := rd_with1 hp0 e3473
      refine ops_ex rfl (guard_none rfl) rfl rfl (ex_indexAddr (d := kCoin) rfl rfl rfl Try.underlying60 tsz72 hp0 (idx_lo e3473) (idx_hi e3473)) ?_
      refine ops_ex rfl (guard_none rfl) rfl rfl (ex_loadN (cs := [(.int .i64 ((gt x0 a3451).fRef.fTx)), (.int .i64 ((gt x0 a3451).fRef.fAt)), (.int .i64 ((gt x0 a3451).fOut.fValue)), kv3475, (.int .i64 ((gt x0 a3451).fOut.fRule.fNeed)), (.int .i64 ((gt x0 a3451).fOut.fRule.fAfter)), (.int .i64 ((gt x0 a3451).fHeight)), (.bool ((gt x0 a3451).fMined))]) rfl rfl Try.underlying72 rfl tsz72 rfl ((HM.at_ hc3474).sub 0 8 rfl)) ?_
      refine ops_does rfl (guard_none rfl) rfl rfl (does_alloc (cs := [.int .i64 0, .int .i64 0, .int .i64 0, .slice none 0 0, .int .i64 0, .int .i64 0, .int .i64 0, .bool false]) rfl tz72 rfl HM) ?_
      rintro _ w3480 ⟨b3477, rfl, HM⟩
      refine ops_doesS rfl (guard_none rfl) rfl (does_store (vs := [.int .i64 ((gt x0 a3451).fRef.fTx), .int .i64 ((gt x0 a3451).fRef.fAt), .int .i64 ((gt x0 a3451).fOut.fValue), kv3475, .int .i64 ((gt x0 a3451).fOut.fRule.fNeed), .int .i64 ((gt x0 a3451).fOut.fRule.fAfter), .int .i64 ((gt x0 a3451).fHeight), .bool ((gt x0 a3451).fMined)]) (cs' := [.int .i64 ((gt x0 a3451).fRef.fTx), .int .i64 ((gt x0 a3451).fRef.fAt), .int .i64 ((gt x0 a3451).fOut.fValue), kv3475, .int .i64 ((gt x0 a3451).fOut.fRule.fNeed), .int .i64 ((gt x0 a3451).fOut.fRule.fAfter), .int .i64 ((gt x0 a3451).fHeight), .bool ((gt x0 a3451).fMined)]) rfl rfl rfl rfl tsz72 (Ones.int (Ones.int (Ones.int (Ones.rd hk3476 (Ones.int (Ones.int (Ones.int (Ones.bool Ones.nil)))))))) rfl rfl HM) ?_
      rintro w3481 HM
      refine ops_nil ?_
      refine at_then ?_
      refine run_seq ?_
      obtain ⟨t3482, h3483, ho3429⟩ := bind_some ho3429
      refine run_region rfl ?_
      refine ops_ex rfl (guard_none rfl) rfl rfl (ex_fieldAddr (off' := 2) rfl rfl Try.underlying72 rfl tsz69 rfl) ?_
      refine ops_ex rfl (guard_none rfl) rfl rfl (ex_loadN (cs := [(.int .i64 ((gt x0 a3451).fOut.fValue)), kv3475, (.int .i64 ((gt x0 a3451).fOut.fRule.fNeed)), (.int .i64 ((gt x0 a3451).fOut.fRule.fAfter))]) rfl rfl Try.underlying69 rfl tsz69 rfl ((HM.box_at 0 rfl).sub 2 4 rfl)) ?_
      refine ops_does rfl (guard_none rfl) rfl rfl (does_callk rfl callok129 rfl (impl_ownOut.calls (x0 := (gt x0 a3451).fOut) (HM.rd hk3476) h3483)) ?_
      rintro _ w3486 ⟨u3484, rfl, hn⟩
      replace HM : Mem w [] w3486 [own kInt 2 u3484 t3482.fRule.fKeys, box b3477 72 [.int .i64 ((gt x0 a3451).fRef.fTx), .int .i64 ((gt x0 a3451).fRef.fAt), .int .i64 ((gt x0 a3451).fOut.fValue), kv3475, .int .i64 ((gt x0 a3451).fOut.fRule.fNeed), .int .i64 ((gt x0 a3451).fOut.fRule.fAfter), .int .i64 ((gt x0 a3451).fHeight), .bool ((gt x0 a3451).fMined)], own kCoin 72 v3448 a3449] := HM.call hn
      refine ops_ex rfl (guard_none rfl) rfl rfl (ex_fieldAddr (off' := 2) rfl rfl Try.underlying72 rfl tsz69 rfl) ?_
      replace HM := HM.front 1 rfl rfl
      refine ops_doesS rfl (guard_none rfl) rfl (does_store (vs := [.int .i64 t3482.fValue, u3484, .int .i64 t3482.fRule.fNeed, .int .i64 t3482.fRule.fAfter]) (cs' := [.int .i64 ((gt x0 a3451).fRef.fTx), .int .i64 ((gt x0 a3451).fRef.fAt), .int .i64 t3482.fValue, u3484, .int .i64 t3482.fRule.fNeed, .int .i64 t3482.fRule.fAfter, .int .i64 ((gt x0 a3451).fHeight), .bool ((gt x0 a3451).fMined)]) rfl rfl rfl rfl tsz69 (Ones.int (Ones.rd (HM.own_rd 1 rfl) (Ones.int (Ones.int Ones.nil)))) rfl rfl HM) ?_
      rintro w3487 HM
      refine ops_nil ?_
      refine at_then ?_
      obtain ⟨e3491, ho3429⟩ := chk_some ho3429
      refine run_region rfl ?_
      refine ops_ex rfl (guard_none rfl) rfl rfl (ex_move rfl rfl) ?_
      refine ops_ex rfl (guard_none rfl) rfl rfl (ex_loadN (cs := [(.int .i64 ((gt x0 a3451).fRef.fTx)), (.int .i64 ((gt x0 a3451).fRef.fAt)), (.int .i64 t3482.fValue), u3484, (.int .i64 t3482.fRule.fNeed), (.int .i64 t3482.fRule.fAfter), (.int .i64 ((gt x0 a3451).fHeight)), (.bool ((gt x0 a3451).fMined))]) rfl rfl Try.underlying72 rfl tsz72 rfl ((HM.box_at 0 rfl).sub 0 8 rfl)) ?_
      replace HM := HM.front 1 rfl rfl
      refine ops_does rfl (guard_none rfl) rfl rfl (does_lit (e := 72) (cs := [(.int .i64 ((gt x0 a3451).fRef.fTx)), (.int .i64 ((gt x0 a3451).fRef.fAt)), (.int .i64 t3482.fValue), u3484, (.int .i64 t3482.fRule.fNeed), (.int .i64 t3482.fRule.fAfter), (.int .i64 ((gt x0 a3451).fHeight)), (.bool ((gt x0 a3451).fMined))]) (xs := ([(⟨(gt x0 a3451).fRef, t3482, (gt x0 a3451).fHeight, (gt x0 a3451).fMined⟩ : Coin)] : List Coin)) kCoin rfl rfl (fun _ => by kernel_rfl) rfl rfl (fun _ _ h => by have := Elems.cons (d := kCoin) (x := (⟨(gt x0 a3451).fRef, t3482, (gt x0 a3451).fHeight, (gt x0 a3451).fMined⟩ : Coin)) ⟨_, rfl, h⟩ .nil; rw [List.append_nil, List.append_nil] at this; exact this) HM) ?_
      rintro v3488 w3494 HM
      replace HM := HM.front 2 rfl rfl
      refine ops_does rfl (guard_none rfl) rfl rfl (does_append kCoin rfl rfl rfl Try.underlying60 tsz72 rfl tby72 tz72 rfl rfl (leB_le e3491) HM) ?_
      rintro v3492 w3495 HM
      refine ops_ex rfl (guard_none rfl) rfl rfl (ex_assign rfl rfl) ?_
      refine ops_nil ?_
      refine at_block ?_
      refine at_then ?_
      refine run_region rfl ?_
      refine ops_ex rfl (guard_none rfl) rfl rfl (ex_add rfl rfl rfl) ?_
      refine ops_ex rfl (guard_none rfl) rfl rfl (ex_move rfl rfl) ?_
      refine ops_nil ?_
      replace HM := (HM.front 1 rfl rfl).drop
      exact at_again k3470 (ρ1 := [(3, v3492), (7, p0), (8, .int .i64 (x0.length : Int)), (9, .int .i64 (wrap64 (a3451 + 1)))]) (Nat.lt_succ_self _) ⟨_, _, _, ho3429, rfl, HM⟩ (Sub.cons rfl (Sub.cons rfl (Sub.cons rfl (Sub.cons rfl Sub.nil))))
    · replace ho3429 := cond_f hb3472 ho3429
      refine run_exit ?_
      refine at_then_exit ?_
      refine at_then_exit ?_
      refine at_block_exit ?_
      exact at_mid (ρ' := [(3, v3448)]) ⟨_, _, (Option.some.inj ho3429), rfl, HM⟩ (Sub.cons rfl Sub.nil)
  · rintro _ w3496 ⟨v3425, a3426, rfl, rfl, HM⟩
    refine run_seq ?_
    refine run_region rfl ?_
    refine ops_ex rfl (guard_none rfl) rfl rfl (ex_move rfl rfl) ?_
    refine ops_ex rfl (guard_none rfl) rfl rfl (ex_assign rfl rfl) ?_
    refine ops_nil ?_
    refine at_then ?_
    refine run_ret ?_
    have hR := Option.some.inj H
    subst hR
    exact at_ret1 rfl rfl ⟨_, rfl, _, rfl, HM⟩

def impl_sorted_1.f (k : Nat) (x0 : Coin) (x1 : Coin) : Option Int := ((impl_compareRefs.f k x0.fRef x1.fRef).bind fun t3580 => some t3580)
theorem impl_sorted_1.calls {k : Nat} {x0 : Coin} {x1 : Coin} {p0_0 : Value} {p1_0 : Value} {w : World} (hp0_0 : IsSl p0_0) (hp1_0 : IsSl p1_0) {r : Int} (H : impl_sorted_1.f k x0 x1 = some r) :
    Calls Try.prog 156 ([.agg #[(.int .i64 x0.fRef.fTx), (.int .i64 x0.fRef.fAt), (.int .i64 x0.fOut.fValue), p0_0, (.int .i64 x0.fOut.fRule.fNeed), (.int .i64 x0.fOut.fRule.fAfter), (.int .i64 x0.fHeight), (.bool x0.fMined)], .agg #[(.int .i64 x1.fRef.fTx), (.int .i64 x1.fRef.fAt), (.int .i64 x1.fOut.fValue), p1_0, (.int .i64 x1.fOut.fRule.fNeed), (.int .i64 x1.fOut.fRule.fAfter), (.int .i64 x1.fHeight), (.bool x1.fMined)]] : List Value).toArray w (fun e w_ => ∃ v, e = .returned v ∧ v = (.int .i64 r) ∧ Mem w [] w_ []) := by
  have HM := Mem.start w
  refine calls_run (N := 10) Try.func156 rfl rfl rfl rfl ?_
  unfold impl_sorted_1.f at H
  refine run_seq ?_
  refine run_region rfl ?_
  refine ops_does rfl (guard_none rfl) rfl rfl (does_box (cs := [.int .i64 x0.fRef.fTx, .int .i64 x0.fRef.fAt, .int .i64 x0.fOut.fValue, p0_0, .int .i64 x0.fOut.fRule.fNeed, .int .i64 x0.fOut.fRule.fAfter, .int .i64 x0.fHeight, .bool x0.fMined]) rfl rfl rfl HM) ?_
  rintro _ w3578 ⟨b3572, rfl, HM⟩
  refine ops_does rfl (guard_none rfl) rfl rfl (does_box (cs := [.int .i64 x1.fRef.fTx, .int .i64 x1.fRef.fAt, .int .i64 x1.fOut.fValue, p1_0, .int .i64 x1.fOut.fRule.fNeed, .int .i64 x1.fOut.fRule.fAfter, .int .i64 x1.fHeight, .bool x1.fMined]) rfl rfl rfl HM) ?_
  rintro _ w3579 ⟨b3575, rfl, HM⟩
  refine ops_ex rfl (guard_none rfl) rfl rfl (ex_assign rfl rfl) ?_
  refine ops_nil ?_
  refine at_then ?_
  refine run_seq ?_
  obtain ⟨t3580, h3581, H⟩ := bind_some H
  refine run_region rfl ?_
  refine ops_ex rfl (guard_none rfl) rfl rfl (ex_fieldAddr (off' := 0) rfl rfl Try.underlying72 rfl tsz36 rfl) ?_
  refine ops_ex rfl (guard_none rfl) rfl rfl (ex_loadN (cs := [(.int .i64 x0.fRef.fTx), (.int .i64 x0.fRef.fAt)]) rfl rfl Try.underlying36 rfl tsz36 rfl ((HM.box_at 1 rfl).sub 0 2 rfl)) ?_
  refine ops_ex rfl (guard_none rfl) rfl rfl (ex_fieldAddr (off' := 0) rfl rfl Try.underlying72 rfl tsz36 rfl) ?_
  refine ops_ex rfl (guard_none rfl) rfl rfl (ex_loadN (cs := [(.int .i64 x1.fRef.fTx), (.int .i64 x1.fRef.fAt)]) rfl rfl Try.underlying36 rfl tsz36 rfl ((HM.box_at 0 rfl).sub 0 2 rfl)) ?_
  refine ops_does rfl (guard_none rfl) rfl rfl (does_callk rfl callok91 rfl (impl_compareRefs.calls (x0 := x0.fRef) (x1 := x1.fRef) h3581)) ?_
  rintro _ w3582 ⟨rfl, hn⟩
  replace HM : Mem w [] w3582 [box b3575 72 [.int .i64 x1.fRef.fTx, .int .i64 x1.fRef.fAt, .int .i64 x1.fOut.fValue, p1_0, .int .i64 x1.fOut.fRule.fNeed, .int .i64 x1.fOut.fRule.fAfter, .int .i64 x1.fHeight, .bool x1.fMined], box b3572 72 [.int .i64 x0.fRef.fTx, .int .i64 x0.fRef.fAt, .int .i64 x0.fOut.fValue, p0_0, .int .i64 x0.fOut.fRule.fNeed, .int .i64 x0.fOut.fRule.fAfter, .int .i64 x0.fHeight, .bool x0.fMined]] := HM.call hn
  refine ops_ex rfl (guard_none rfl) rfl rfl (ex_assign rfl rfl) ?_
  refine ops_nil ?_
  refine at_then ?_
  refine run_ret ?_
  replace HM := (HM.front 0 rfl rfl).drop
  replace HM := (HM.front 0 rfl rfl).drop
  have hR := Option.some.inj H
  subst hR
  exact at_ret1 rfl rfl ⟨_, rfl, rfl, HM⟩

def srtI (x y : Int) : Int := bif decide (x < y) then -1 else bif decide (y < x) then 1 else 0
def srtC (a b : Ref) : Int := bif srtI a.fTx b.fTx != 0 then srtI a.fTx b.fTx else srtI a.fAt b.fAt
theorem srtI_run (x y : Int) : cmp_Compare_int64.f 3 x y = some (srtI x y) := by
  have e : ∀ z : Int, (z != z) = false := fun z => by simp
  unfold cmp_Compare_int64.f cmp_isNaN_int64.f srtI
  simp only [Option.bind_some, e, cond_false]
  cases decide (x < y) <;> cases decide (y < x) <;> rfl
theorem srtO_run (p q : Int) : cmp_Or_int.f 3 [p, q] = some (bif p != 0 then p else q) := by
  have e0 : gt [p, q] (0 : Int) = p := rfl
  have e1 : gt [p, q] (1 : Int) = q := rfl
  have w0 : wrap64 ((0 : Int) + 1) = 1 := by rw [wrap64_in _ (by omega)]; rfl
  have w1 : wrap64 ((1 : Int) + 1) = 2 := by rw [wrap64_in _ (by omega)]; rfl
  have c0 : decide ((0 : Int) < (([p, q] : List Int).length : Int)) = true := rfl
  have c1 : decide ((1 : Int) < (([p, q] : List Int).length : Int)) = true := rfl
  have c2 : decide ((2 : Int) < (([p, q] : List Int).length : Int)) = false := rfl
  have k0 : idxOk (0 : Int) ([p, q] : List Int).length = true := rfl
  have k1 : idxOk (1 : Int) ([p, q] : List Int).length = true := rfl
  unfold cmp_Or_int.f
  rw [cmp_Or_int.l0_s, c0, cond_true, k0, e0, w0]
  unfold chk
  simp only [cond_true]
  cases hp : p != 0
  · rw [cond_false, cmp_Or_int.l0_s, c1, cond_true, k1, e1, w1]
    unfold chk
    simp only [cond_true, cond_false]
    cases hq : q != 0
    · rw [cond_false, cmp_Or_int.l0_s, c2]
      have : q = 0 := by simpa using hq
      subst this; rfl
    · rfl
  · rfl
theorem srt_run (a b : Coin) : impl_sorted_1.f 3 a b = some (srtC a.fRef b.fRef) := by
  unfold impl_sorted_1.f impl_compareRefs.f
  simp only [srtI_run, Option.bind_some, srtO_run]
  rfl
theorem srtI_lt {x y : Int} : srtI x y < 0 ↔ x < y := by
  unfold srtI
  by_cases h : x < y
  · simp [h]
  · by_cases h2 : y < x <;> simp [h, h2]
theorem srtI_0 {x y : Int} : srtI x y = 0 ↔ x = y := by
  unfold srtI
  by_cases h : x < y
  · simp [h]; omega
  · by_cases h2 : y < x
    · simp [h, h2]; omega
    · simp [h, h2]; omega
theorem srtC_lt {a b : Ref} : srtC a b < 0 ↔ a.fTx < b.fTx ∨ a.fTx = b.fTx ∧ a.fAt < b.fAt := by
  unfold srtC
  cases h : srtI a.fTx b.fTx != 0
  · have h0 : srtI a.fTx b.fTx = 0 := by simpa using h
    have h1 := srtI_0.1 h0
    rw [cond_false, srtI_lt]; omega
  · have h0 : srtI a.fTx b.fTx ≠ 0 := by simpa using h
    have h1 : a.fTx ≠ b.fTx := fun e => h0 (srtI_0.2 e)
    rw [cond_true, srtI_lt]; omega
/-- A coin with its row's place. -/
abbrev SrtT := Coin × (Option Addr × Nat × Nat)
def srtEnc (s : SrtT) : List Value := [.int .i64 s.1.fRef.fTx, .int .i64 s.1.fRef.fAt, .int .i64 s.1.fOut.fValue, .slice s.2.1 s.2.2.1 s.2.2.2, .int .i64 s.1.fOut.fRule.fNeed, .int .i64 s.1.fOut.fRule.fAfter, .int .i64 s.1.fHeight, .bool s.1.fMined]
theorem srt_swo : Go.Sort.SWO (ltOf fun x y : SrtT => srtC x.1.fRef y.1.fRef) where
  irrefl x := by
    show decide _ = false
    rw [decide_eq_false_iff_not, srtC_lt]; omega
  trans x y z h1 h2 := by
    have h1' := srtC_lt.1 (of_decide_eq_true h1)
    have h2' := srtC_lt.1 (of_decide_eq_true h2)
    show decide _ = true
    rw [decide_eq_true_eq, srtC_lt]; omega
  ntrans x y z h1 h2 := by
    have h1' : ¬ srtC x.1.fRef y.1.fRef < 0 := of_decide_eq_false h1
    have h2' : ¬ srtC y.1.fRef z.1.fRef < 0 := of_decide_eq_false h2
    rw [srtC_lt] at h1' h2'
    show decide _ = false
    rw [decide_eq_false_iff_not, srtC_lt]; omega
def refLe (a b : Coin) : Bool := decide (a.fRef.fTx < b.fRef.fTx) || (decide (a.fRef.fTx = b.fRef.fTx) && decide (a.fRef.fAt ≤ b.fRef.fAt))
theorem refLe_iff {a b : Coin} : refLe a b = true ↔ a.fRef.fTx < b.fRef.fTx ∨ a.fRef.fTx = b.fRef.fTx ∧ a.fRef.fAt ≤ b.fRef.fAt := by
  unfold refLe
  rw [Bool.or_eq_true, Bool.and_eq_true, decide_eq_true_eq, decide_eq_true_eq, decide_eq_true_eq]
theorem refLe_not {a b : Coin} : ltOf (fun x y : Coin => srtC x.fRef y.fRef) b a = false → refLe a b = true := fun h => by
  have h1 : ¬ srtC b.fRef a.fRef < 0 := of_decide_eq_false h
  rw [srtC_lt] at h1
  rw [refLe_iff]; omega
def refKey (c : Coin) : Int × Int := (c.fRef.fTx, c.fRef.fAt)
theorem key_inj : ∀ {xs : List Coin}, (xs.map refKey).Nodup → ∀ a ∈ xs, ∀ b ∈ xs, refKey a = refKey b → a = b
  | [], _, a, ha, _, _, _ => by simp at ha
  | x :: xs, h, a, ha, b, hb, e => by
    rw [List.map_cons, List.nodup_cons] at h
    rcases List.mem_cons.1 ha with ha | ha <;> rcases List.mem_cons.1 hb with hb | hb
    · rw [ha, hb]
    · exact absurd (List.mem_map.2 ⟨b, hb, by rw [← e, ha]⟩) h.1
    · exact absurd (List.mem_map.2 ⟨a, ha, by rw [e, hb]⟩) h.1
    · exact key_inj h.2 a ha b hb e
theorem sorted_uniq {α : Type} {le : α → α → Bool} : ∀ {l m : List α}, l.Perm m → l.Pairwise (fun a b => le a b = true) → m.Pairwise (fun a b => le a b = true) → (∀ a ∈ l, ∀ b ∈ l, le a b = true → le b a = true → a = b) → l = m
  | [], m, h, _, _, _ => (List.nil_perm.1 h).symm
  | a :: l, [], h, _, _, _ => by have := h.length_eq; simp at this
  | a :: l, b :: m, h, h1, h2, h3 => by
    rw [List.pairwise_cons] at h1 h2
    have hb : b ∈ a :: l := h.mem_iff.2 (by simp)
    have ha : a ∈ b :: m := h.mem_iff.1 (by simp)
    have e : a = b := by
      rcases List.mem_cons.1 hb with e | hb'
      · exact e.symm
      · rcases List.mem_cons.1 ha with e | ha'
        · exact e
        · exact h3 a (by simp) b hb (h1.1 b hb') (h2.1 a ha')
    subst e
    rw [sorted_uniq ((List.perm_cons a).1 h) h1.2 h2.2 (fun x hx y hy => h3 x (by simp [hx]) y (by simp [hy]))]
def slices_SortFunc_Coin.f (k : Nat) (x0 : List Coin) : Option (List Coin) := chk (leB x0.length 1000000 && decide ((x0.map refKey).Nodup)) (some (x0.mergeSort refLe))
theorem slices_SortFunc_Coin.calls {k : Nat} {x0 : List Coin} {p0 : Value} {w wo : World} {X : List Nat} (hwo : Olds wo w X) (hX : Hold w [own kCoin 72 p0 x0] X) (hXn : X.Nodup) (hXl : ∀ b ∈ X, b < w.heap.size) {r : List Coin} (H : slices_SortFunc_Coin.f k x0 = some r) :
    Calls Try.prog 155 ([p0, .func (.func 156) #[] #[]] : List Value).toArray w (fun e w_ => ∃ v, e = .returned v ∧ v = (.tuple #[]) ∧ Mem w X w_ [own kCoin 72 p0 r]) := by
  obtain ⟨h, H⟩ := chk_some H
  have hR := Option.some.inj H
  subst hR
  rw [Bool.and_eq_true, decide_eq_true_eq] at h
  have hlen := leB_le h.1
  have eg : ∀ args w, (callFunc 156 args).run Try.prog w = .ok (.enter 156 args) w := enters_of Try.func156 (by kernel_rfl) rfl
  have aE : ∀ w, (isAgg 72).run Try.prog w = .ok true w := fun w => by simp [isAgg, run_underlying Try.underlying72]
  have zE : ∀ w, (Go.sizeOf 72).run Try.prog w = .ok 8 w := fun w => run_sizeOf tsz72
  have hk : ∀ x : SrtT, (srtEnc x).length = 8 := fun _ => rfl
  have h1 : ∀ x : SrtT, ∀ v ∈ srtEnc x, v.oneCell' = true := fun x v hv => by
    simp only [srtEnc, List.mem_cons, List.not_mem_nil, or_false] at hv
    rcases hv with rfl | rfl | rfl | rfl | rfl | rfl | rfl | rfl <;> rfl
  refine (sort_own (d := kCoin) (enc := srtEnc) hk h1 (by decide) (cf := fun x y : SrtT => srtC x.1.fRef y.1.fRef) (fun s x => s.1 = x) ?_
    (fun blk cap dd w hc hH hb hs => AnyQ.slices_SortFunc Try.sortCoin 8 aE zE srtEnc hk h1 _ srt_swo 156 #[] blk 0 cap dd w eg hc hH hb hs)
    (fun p cap w => AnyF.slices_SortFunc_none { Try.sortCoin with } p cap _ w) trivial (fun W x y => ?_) hX hXn hXl (by omega)).mono fun e w' ⟨he, ys, hp, ⟨ps, q1, q2, q3⟩, hm⟩ => ⟨_, he, rfl, ?_⟩
  · rintro w x c f ⟨v, hv, ⟨cells, b, fs, hrow, _⟩⟩
    subst hv
    rcases hrow with ⟨A, rfl, _⟩ | ⟨g0, c0, cur, rfl, _⟩
    · exact ⟨(x, (A, 0, 0)), rfl, rfl⟩
    · exact ⟨(x, (some ⟨g0, 0, none⟩, _, c0)), rfl, rfl⟩
  · exact (impl_sorted_1.calls (w := W) (p0_0 := .slice x.2.1 x.2.2.1 x.2.2.2) (p1_0 := .slice y.2.1 y.2.2.1 y.2.2.2) ⟨_, _, _, rfl⟩ ⟨_, _, _, rfl⟩ (srt_run x.1 y.1)).mono fun e w' ⟨v, he, hv, hm⟩ => ⟨by rw [he, hv], hm.fr⟩
  · have hys : ys.Pairwise (fun a b => refLe a b = true) := by
      rw [← q1, List.pairwise_map]
      rw [List.pairwise_map] at q3
      refine q3.imp_of_mem fun {a b} ha hb hab => ?_
      rw [← q2 a ha, ← q2 b hb]
      exact refLe_not hab
    have hms : (x0.mergeSort refLe).Pairwise (fun a b => refLe a b = true) := List.pairwise_mergeSort (fun a b c h1 h2 => by rw [refLe_iff] at *; omega) (fun a b => by
      rw [Bool.or_eq_true, refLe_iff, refLe_iff]; omega) x0
    have e : ys = x0.mergeSort refLe := sorted_uniq (hp.trans (List.mergeSort_perm x0 refLe).symm) hys hms (fun a ha b hb h1 h2 => by
      refine key_inj h.2 a (hp.mem_iff.1 ha) b (hp.mem_iff.1 hb) ?_
      rw [refLe_iff] at h1 h2
      have e1 : a.fRef.fTx = b.fRef.fTx := by omega
      have e2 : a.fRef.fAt = b.fRef.fAt := by omega
      unfold refKey
      rw [e1, e2])
    rw [← e]; exact hm


def impl_sorted.f (k : Nat) (x0 : List Coin) : Option ((List Coin)) := ((slices_SortFunc_Coin.f k x0).bind fun t3594 => some t3594)
theorem impl_sorted.calls {k : Nat} {x0 : List Coin} {p0 : Value} {w wo : World} {X : List Nat} (hwo : Olds wo w X) (hX : Hold w [own kCoin 72 p0 x0] X) (hXn : X.Nodup) (hXl : ∀ b ∈ X, b < w.heap.size)  {r : (List Coin)} (H : impl_sorted.f k x0 = some r) :
    Calls Try.prog 130 ([p0] : List Value).toArray w (fun e w_ => ∃ v, e = .returned v ∧ ∃ u0 : Value, v = u0 ∧ Mem w X w_ [own kCoin 72 u0 r]) := by
  have HM := Mem.startX hX hXn hXl
  refine calls_run (N := 6) Try.func130 rfl rfl rfl rfl ?_
  unfold impl_sorted.f at H
  refine run_seq ?_
  refine run_region rfl ?_
  refine ops_ex rfl (guard_none rfl) rfl rfl (ex_assign rfl rfl) ?_
  refine ops_nil ?_
  refine at_then ?_
  refine run_seq ?_
  obtain ⟨t3594, h3595, H⟩ := bind_some H
  refine run_region rfl ?_
  refine ops_ex rfl (guard_none rfl) rfl rfl (ex_move rfl rfl) ?_
  obtain ⟨F3596, hF3597, hFn3598, hFl3599, HMh3600, hcl3601⟩ := HM.hide (Ms := [own kCoin 72 p0 x0])
  refine ops_does rfl (guard_none rfl) rfl rfl (does_callk rfl callok155 rfl (slices_SortFunc_Coin.calls (x0 := x0) (hide_olds _ _) hF3597 hFn3598 hFl3599 h3595)) ?_
  rintro _ w3602 ⟨rfl, hn⟩
  replace HM : Mem w X w3602 [own kCoin 72 p0 t3594] := hcl3601 _ _ hn
  refine ops_nil ?_
  refine at_then ?_
  refine run_seq ?_
  refine run_region rfl ?_
  refine ops_ex rfl (guard_none rfl) rfl rfl (ex_move rfl rfl) ?_
  refine ops_ex rfl (guard_none rfl) rfl rfl (ex_assign rfl rfl) ?_
  refine ops_nil ?_
  refine at_then ?_
  refine run_ret ?_
  have hR := Option.some.inj H
  subst hR
  exact at_ret1 rfl rfl ⟨_, rfl, _, rfl, HM⟩

def impl_putCoins.l0 (x2 : List Out) : Nat → Int → Option (((List Coin) × Int) ⊕ Unit)
  | 0, _ => none
  | k + 1, a3679 => (bif (decide (a3679 < (x2.length : Int))) then (chk (idxOk a3679 x2.length) ((impl_outFault.f k (gt x2 a3679)).bind fun t3703 => (bif (t3703 != 0) then some (.inl (([] : List Coin), t3703)) else impl_putCoins.l0 x2 k (wrap64 (a3679 + 1))))) else some (.inr ()))
theorem impl_putCoins.l0_z (x2 : List Out) (a3679 : Int) : impl_putCoins.l0 x2 0 a3679 = none := rfl
theorem impl_putCoins.l0_s (x2 : List Out) (k : Nat) (a3679 : Int) : impl_putCoins.l0 x2 (k + 1) a3679 = (bif (decide (a3679 < (x2.length : Int))) then (chk (idxOk a3679 x2.length) ((impl_outFault.f k (gt x2 a3679)).bind fun t3703 => (bif (t3703 != 0) then some (.inl (([] : List Coin), t3703)) else impl_putCoins.l0 x2 k (wrap64 (a3679 + 1))))) else some (.inr ())) := rfl
def impl_putCoins.l1 (x1 : Int) (x2 : List Out) (x3 : Int) (x4 : Bool) : Nat → (List Coin) → Int → Option ((List Coin))
  | 0, _, _ => none
  | k + 1, a3807, a3809 => (bif (decide (a3809 < (x2.length : Int))) then (chk (idxOk a3809 x2.length) ((impl_ownOut.f k (gt x2 a3809)).bind fun t3840 => (chk (leB ((a3807.length + ([(⟨(⟨x1, a3809⟩ : Ref), t3840, x3, x4⟩ : Coin)] : List Coin).length) * 80) 140737488355328) (impl_putCoins.l1 x1 x2 x3 x4 k (a3807 ++ ([(⟨(⟨x1, a3809⟩ : Ref), t3840, x3, x4⟩ : Coin)] : List Coin)) (wrap64 (a3809 + 1)))))) else some a3807)
theorem impl_putCoins.l1_z (x1 : Int) (x2 : List Out) (x3 : Int) (x4 : Bool) (a3807 : List Coin) (a3809 : Int) : impl_putCoins.l1 x1 x2 x3 x4 0 a3807 a3809 = none := rfl
theorem impl_putCoins.l1_s (x1 : Int) (x2 : List Out) (x3 : Int) (x4 : Bool) (k : Nat) (a3807 : List Coin) (a3809 : Int) : impl_putCoins.l1 x1 x2 x3 x4 (k + 1) a3807 a3809 = (bif (decide (a3809 < (x2.length : Int))) then (chk (idxOk a3809 x2.length) ((impl_ownOut.f k (gt x2 a3809)).bind fun t3840 => (chk (leB ((a3807.length + ([(⟨(⟨x1, a3809⟩ : Ref), t3840, x3, x4⟩ : Coin)] : List Coin).length) * 80) 140737488355328) (impl_putCoins.l1 x1 x2 x3 x4 k (a3807 ++ ([(⟨(⟨x1, a3809⟩ : Ref), t3840, x3, x4⟩ : Coin)] : List Coin)) (wrap64 (a3809 + 1)))))) else some a3807) := rfl
def impl_putCoins.f (k : Nat) (x0 : List Coin) (x1 : Int) (x2 : List Out) (x3 : Int) (x4 : Bool) : Option ((List Coin) × Int) := ((impl_isId.f k x1).bind fun t3619 => ((bif (!(!t3619)) then impl_isHeight.f k x3 else some default).bind fun t3621 => (bif ((!t3619) || (!t3621)) then some (([] : List Coin), 3) else (bif (decide (4 < (x2.length : Int))) then some (([] : List Coin), 2) else ((impl_putCoins.l0 x2 k 0).bind fun o3666 => thn o3666 (fun r => some r) (fun _ => ((impl_hasTx.f k x0 x1).bind fun t3713 => (bif t3713 then some (([] : List Coin), 7) else (bif (decide (40 < (wrap64 ((x0.length : Int) + (x2.length : Int))))) then some (([] : List Coin), 2) else ((impl_ownCoins.f k x0).bind fun t3720 => ((impl_putCoins.l1 x1 x2 x3 x4 k t3720 0).bind (fun a3784 => ((impl_sorted.f k a3784).bind fun t3854 => some (t3854, 0))))))))))))))
theorem impl_putCoins.calls {k : Nat} {x0 : List Coin} {x1 : Int} {x2 : List Out} {x3 : Int} {x4 : Bool} {p0 : Value} {p2 : Value} {w : World} (hp0 : RdS kCoin w p0 x0) (hp2 : RdS kOut w p2 x2) {r : (List Coin) × Int} (H : impl_putCoins.f k x0 x1 x2 x3 x4 = some r) :
    Calls Try.prog 77 ([p0, .int .i64 x1, p2, .int .i64 x3, .bool x4] : List Value).toArray w (fun e w_ => ∃ v, e = .returned v ∧ ∃ u0 : Value, v = (.tuple #[u0, .int .i64 r.2]) ∧ Mem w [] w_ [own kCoin 72 u0 r.1]) := by
  have HM := Mem.start w
  refine calls_run (N := 77) Try.func77 rfl rfl rfl rfl ?_
  unfold impl_putCoins.f at H
  refine run_seq ?_
  refine run_region rfl ?_
  refine ops_ex rfl (guard_none rfl) rfl rfl (ex_assign rfl rfl) ?_
  refine ops_ex rfl (guard_none rfl) rfl rfl (ex_assign rfl rfl) ?_
  refine ops_nil ?_
  refine at_then ?_
  refine run_seq ?_
  refine run_block ?_
  refine run_seq ?_
  obtain ⟨t3619, h3620, H⟩ := bind_some H
  obtain ⟨t3621, h3622, H⟩ := bind_some H
  refine run_meet (fun ρ_ w_ => ρ_ = [(0, p0), (1, .int .i64 x1), (2, p2), (3, .int .i64 x3), (4, .bool x4), (18, .bool ((!t3619) || (!t3621)))] ∧ Mem w [] w_ []) ?_ ?_
  · skip
    refine run_region rfl ?_
    refine ops_ex rfl (guard_none rfl) rfl rfl (ex_move rfl rfl) ?_
    refine ops_does rfl (guard_none rfl) rfl rfl (does_callk rfl callok109 rfl (impl_isId.calls (x0 := x1) h3620)) ?_
    rintro _ w3623 ⟨rfl, hn⟩
    replace HM : Mem w [] w3623 [] := HM.call hn
    refine ops_ex rfl (guard_none rfl) rfl rfl (ex_not rfl rfl) ?_
    refine ops_ex rfl (guard_none rfl) rfl rfl (ex_move rfl rfl) ?_
    refine bool_cases (!t3619) (fun hg3624 => ?_) (fun hg3624 => ?_)
    · skip
      refine ops_off rfl (guard_off rfl rfl rfl hg3624) rfl rfl ?_
      refine ops_off rfl (guard_off rfl rfl rfl hg3624) rfl rfl ?_
      refine ops_off rfl (guard_off rfl rfl rfl hg3624) rfl rfl ?_
      have hg3625 : ((!t3619) || (!t3621)) = true := by simp only [hg3624, Bool.and_true, Bool.true_and, Bool.and_false, Bool.false_and, Bool.or_true, Bool.true_or, Bool.or_false, Bool.false_or, Bool.not_true, Bool.not_false, Bool.not_not]
      refine ops_ex (v := .bool ((!t3619) || (!t3621))) rfl (guard_none rfl) rfl rfl (ex_por_t rfl rfl hg3624) ?_
      refine ops_ex rfl (guard_none rfl) rfl rfl (ex_assign rfl rfl) ?_
      refine ops_nil ?_
      exact at_meet [(0, p0), (1, .int .i64 x1), (2, p2), (3, .int .i64 x3), (4, .bool x4), (18, .bool ((!t3619) || (!t3621)))] ⟨rfl, HM⟩ (Sub.cons rfl (Sub.cons rfl (Sub.cons rfl (Sub.cons rfl (Sub.cons rfl (Sub.cons rfl Sub.nil))))))
    · skip
      refine ops_ex rfl (guard_on rfl rfl rfl hg3624) rfl rfl (ex_move rfl rfl) ?_
      refine ops_does rfl (guard_on rfl rfl rfl hg3624) rfl rfl (does_callk rfl callok88 rfl (impl_isHeight.calls (x0 := x3) (cond_t (not_mk hg3624) h3622))) ?_
      rintro _ w3626 ⟨rfl, hn⟩
      replace HM : Mem w [] w3626 [] := HM.call hn
      refine ops_ex rfl (guard_on rfl rfl rfl hg3624) rfl rfl (ex_not rfl rfl) ?_
      refine ops_ex (v := .bool ((!t3619) || (!t3621))) rfl (guard_none rfl) rfl rfl (ex_por_f rfl rfl hg3624 rfl) ?_
      refine ops_ex rfl (guard_none rfl) rfl rfl (ex_assign rfl rfl) ?_
      refine ops_nil ?_
      exact at_meet [(0, p0), (1, .int .i64 x1), (2, p2), (3, .int .i64 x3), (4, .bool x4), (18, .bool ((!t3619) || (!t3621)))] ⟨rfl, HM⟩ (Sub.cons rfl (Sub.cons rfl (Sub.cons rfl (Sub.cons rfl (Sub.cons rfl (Sub.cons rfl Sub.nil))))))
  · rintro _ w3627 ⟨rfl, HM⟩
    refine at_then ?_
    refine run_cond (b := ((!t3619) || (!t3621))) rfl (fun hb3628 => ?_) (fun hb3628 => ?_)
    · replace H := cond_t hb3628 H
      refine run_seq ?_
      refine run_region rfl ?_
      refine ops_ex rfl (guard_none rfl) rfl rfl (ex_assign rfl rfl) ?_
      refine ops_ex rfl (guard_none rfl) rfl rfl (ex_assign rfl rfl) ?_
      refine ops_nil ?_
      refine at_then ?_
      refine run_ret ?_
      refine at_block_ret ?_
      refine at_then_ret ?_
      replace HM := HM.empty kCoin 72 none
      have hR := Option.some.inj H
      subst hR
      exact at_ret2 rfl rfl rfl ⟨_, rfl, _, rfl, HM⟩
    · replace H := cond_f hb3628 H
      refine run_seq ?_
      refine run_region rfl ?_
      refine ops_ex rfl (guard_none rfl) rfl rfl (ex_move rfl rfl) ?_
      refine ops_ex rfl (guard_none rfl) rfl rfl (ex_len (d := kOut) (xs := x2) rfl rfl Try.underlying26 hp2) ?_
      refine ops_ex rfl (guard_none rfl) rfl rfl (ex_gtr rfl rfl rfl) ?_
      refine ops_ex rfl (guard_none rfl) rfl rfl (ex_assign rfl rfl) ?_
      refine ops_nil ?_
      refine at_then ?_
      refine run_cond (b := (decide (4 < (x2.length : Int)))) rfl (fun hb3630 => ?_) (fun hb3630 => ?_)
      · replace H := cond_t hb3630 H
        refine run_seq ?_
        refine run_region rfl ?_
        refine ops_ex rfl (guard_none rfl) rfl rfl (ex_assign rfl rfl) ?_
        refine ops_ex rfl (guard_none rfl) rfl rfl (ex_assign rfl rfl) ?_
        refine ops_nil ?_
        refine at_then ?_
        refine run_ret ?_
        refine at_block_ret ?_
        refine at_then_ret ?_
        replace HM := HM.empty kCoin 72 none
        have hR := Option.some.inj H
        subst hR
        exact at_ret2 rfl rfl rfl ⟨_, rfl, _, rfl, HM⟩
      · replace H := cond_f hb3630 H
        refine run_skip ?_
        refine at_block ?_
        refine at_then ?_
        obtain ⟨o3666, ho3667, H⟩ := bind_some H
        refine run_mid (fun ρ_ w_ => Sum.inr () = o3666 ∧ ρ_ = [(0, p0), (1, .int .i64 x1), (2, p2), (3, .int .i64 x3), (4, .bool x4)] ∧ Mem w [] w_ []) ?_ ?_
        · skip
          refine run_seq ?_
          refine run_region rfl ?_
          refine ops_ex rfl (guard_none rfl) rfl rfl (ex_move rfl rfl) ?_
          refine ops_ex rfl (guard_none rfl) rfl rfl (ex_len (d := kOut) (xs := x2) rfl rfl Try.underlying26 hp2) ?_
          refine ops_ex rfl (guard_none rfl) rfl rfl (ex_move rfl rfl) ?_
          refine ops_nil ?_
          refine at_then ?_
          refine run_block ?_
          refine run_loop (fun k_ ρ_ w_ => ∃ a3679 : Int, impl_putCoins.l0 x2 k_ a3679 = some o3666 ∧ ρ_ = [(0, p0), (1, .int .i64 x1), (2, p2), (3, .int .i64 x3), (4, .bool x4), (31, p2), (32, .int .i64 (x2.length : Int)), (33, .int .i64 a3679)] ∧ Mem w [] w_ []) k (ρ1 := [(0, p0), (1, .int .i64 x1), (2, p2), (3, .int .i64 x3), (4, .bool x4), (31, p2), (32, .int .i64 (x2.length : Int)), (33, .int .i64 0)]) ⟨_, ho3667, rfl, HM⟩ (Sub.cons rfl (Sub.cons rfl (Sub.cons rfl (Sub.cons rfl (Sub.cons rfl (Sub.cons rfl (Sub.cons rfl (Sub.cons rfl Sub.nil)))))))) ?_
          clear HM ho3667
          rintro k3691 _ w3692 ⟨a3679, ho3667, rfl, HM⟩
          obtain _ | k3691 := k3691
          · exact nomatch ((impl_putCoins.l0_z x2 a3679).symm.trans ho3667)
          replace ho3667 := (impl_putCoins.l0_s x2 k3691 a3679).symm.trans ho3667
          refine run_seq ?_
          refine run_region rfl ?_
          refine ops_ex rfl (guard_none rfl) rfl rfl (ex_lss rfl rfl rfl) ?_
          refine ops_nil ?_
          refine at_then ?_
          refine run_seq ?_
          refine run_cond (b := (decide (a3679 < (x2.length : Int)))) rfl (fun hb3693 => ?_) (fun hb3693 => ?_)
          · replace ho3667 := cond_t hb3693 ho3667
            refine run_skip ?_
            refine at_then ?_
            refine run_seq ?_
            refine run_block ?_
            refine run_seq ?_
            obtain ⟨e3694, ho3667⟩ := chk_some ho3667
            refine run_region rfl ?_
            obtain ⟨kv3696, hc3695, hk3697⟩ : ∃ u, CellsAt _ (sb p2) (so p2 + (a3679).toNat * 4) [(.int .i64 ((gt x2 a3679).fValue)), u, (.int .i64 ((gt x2 a3679).fRule.fNeed)), (.int .i64 ((gt x2 a3679).fRule.fAfter))] ∧ RdS kInt _ u ((gt x2 a3679).fRule.fKeys) := rd_with1 hp2 e3694
            refine ops_ex rfl (guard_none rfl) rfl rfl (ex_indexAddr (d := kOut) rfl rfl rfl Try.underlying26 tsz69 hp2 (idx_lo e3694) (idx_hi e3694)) ?_
            refine ops_ex rfl (guard_none rfl) rfl rfl (ex_loadN (cs := [(.int .i64 ((gt x2 a3679).fValue)), kv3696, (.int .i64 ((gt x2 a3679).fRule.fNeed)), (.int .i64 ((gt x2 a3679).fRule.fAfter))]) rfl rfl Try.underlying69 rfl tsz69 rfl ((HM.at_ hc3695).sub 0 4 rfl)) ?_
            refine ops_does rfl (guard_none rfl) rfl rfl (does_alloc (cs := [.int .i64 0, .slice none 0 0, .int .i64 0, .int .i64 0]) rfl tz69 rfl HM) ?_
            rintro _ w3701 ⟨b3698, rfl, HM⟩
            refine ops_doesS rfl (guard_none rfl) rfl (does_store (vs := [.int .i64 ((gt x2 a3679).fValue), kv3696, .int .i64 ((gt x2 a3679).fRule.fNeed), .int .i64 ((gt x2 a3679).fRule.fAfter)]) (cs' := [.int .i64 ((gt x2 a3679).fValue), kv3696, .int .i64 ((gt x2 a3679).fRule.fNeed), .int .i64 ((gt x2 a3679).fRule.fAfter)]) rfl rfl rfl rfl tsz69 (Ones.int (Ones.rd hk3697 (Ones.int (Ones.int Ones.nil)))) rfl rfl HM) ?_
            rintro w3702 HM
            refine ops_nil ?_
            refine at_then ?_
            refine run_seq ?_
            obtain ⟨t3703, h3704, ho3667⟩ := bind_some ho3667
            refine run_region rfl ?_
            refine ops_ex rfl (guard_none rfl) rfl rfl (ex_loadN (cs := [(.int .i64 ((gt x2 a3679).fValue)), kv3696, (.int .i64 ((gt x2 a3679).fRule.fNeed)), (.int .i64 ((gt x2 a3679).fRule.fAfter))]) rfl rfl Try.underlying69 rfl tsz69 rfl ((HM.box_at 0 rfl).sub 0 4 rfl)) ?_
            refine ops_does rfl (guard_none rfl) rfl rfl (does_callk rfl callok108 rfl (impl_outFault.calls (x0 := (gt x2 a3679)) (HM.rd hk3697) h3704)) ?_
            rintro _ w3705 ⟨rfl, hn⟩
            replace HM : Mem w [] w3705 [box b3698 69 [.int .i64 ((gt x2 a3679).fValue), kv3696, .int .i64 ((gt x2 a3679).fRule.fNeed), .int .i64 ((gt x2 a3679).fRule.fAfter)]] := HM.call hn
            refine ops_ex rfl (guard_none rfl) rfl rfl (ex_assign rfl rfl) ?_
            refine ops_nil ?_
            refine at_then ?_
            refine run_seq ?_
            refine run_region rfl ?_
            refine ops_ex rfl (guard_none rfl) rfl rfl (ex_move rfl rfl) ?_
            refine ops_ex rfl (guard_none rfl) rfl rfl (ex_neq rfl rfl rfl) ?_
            refine ops_nil ?_
            refine at_then ?_
            refine run_cond (b := (t3703 != 0)) rfl (fun hb3706 => ?_) (fun hb3706 => ?_)
            · replace ho3667 := cond_t hb3706 ho3667
              refine run_seq ?_
              refine run_region rfl ?_
              refine ops_ex rfl (guard_none rfl) rfl rfl (ex_move rfl rfl) ?_
              refine ops_ex rfl (guard_none rfl) rfl rfl (ex_assign rfl rfl) ?_
              refine ops_ex rfl (guard_none rfl) rfl rfl (ex_assign rfl rfl) ?_
              refine ops_nil ?_
              refine at_then ?_
              refine run_ret ?_
              refine at_block_ret ?_
              refine at_then_ret ?_
              refine at_then_ret ?_
              refine at_block_ret ?_
              refine at_then_ret ?_
              replace HM := HM.empty kCoin 72 none
              replace HM := (HM.front 1 rfl rfl).drop
              have hR := Option.some.inj ho3667
              subst hR
              have hT := thn_inl H
              have hR := Option.some.inj hT
              subst hR
              exact at_ret2 rfl rfl rfl ⟨_, rfl, _, rfl, HM⟩
            · replace ho3667 := cond_f hb3706 ho3667
              refine run_skip ?_
              refine at_block ?_
              refine at_then ?_
              refine run_region rfl ?_
              refine ops_ex rfl (guard_none rfl) rfl rfl (ex_add rfl rfl rfl) ?_
              refine ops_ex rfl (guard_none rfl) rfl rfl (ex_move rfl rfl) ?_
              refine ops_nil ?_
              replace HM := (HM.front 0 rfl rfl).drop
              exact at_again k3691 (ρ1 := [(0, p0), (1, .int .i64 x1), (2, p2), (3, .int .i64 x3), (4, .bool x4), (31, p2), (32, .int .i64 (x2.length : Int)), (33, .int .i64 (wrap64 (a3679 + 1)))]) (Nat.lt_succ_self _) ⟨_, ho3667, rfl, HM⟩ (Sub.cons rfl (Sub.cons rfl (Sub.cons rfl (Sub.cons rfl (Sub.cons rfl (Sub.cons rfl (Sub.cons rfl (Sub.cons rfl Sub.nil))))))))
          · replace ho3667 := cond_f hb3693 ho3667
            refine run_exit ?_
            refine at_then_exit ?_
            refine at_then_exit ?_
            refine at_block_exit ?_
            exact at_mid (ρ' := [(0, p0), (1, .int .i64 x1), (2, p2), (3, .int .i64 x3), (4, .bool x4)]) ⟨(Option.some.inj ho3667), rfl, HM⟩ (Sub.cons rfl (Sub.cons rfl (Sub.cons rfl (Sub.cons rfl (Sub.cons rfl Sub.nil)))))
        · rintro _ w3708 ⟨rfl, rfl, HM⟩
          replace H := (thn_inr H)
          refine run_seq ?_
          refine run_block ?_
          refine run_seq ?_
          obtain ⟨t3713, h3714, H⟩ := bind_some H
          refine run_region rfl ?_
          refine ops_ex rfl (guard_none rfl) rfl rfl (ex_move rfl rfl) ?_
          refine ops_ex rfl (guard_none rfl) rfl rfl (ex_move rfl rfl) ?_
          refine ops_does rfl (guard_none rfl) rfl rfl (does_callk rfl callok128 rfl (impl_hasTx.calls (x0 := x0) (x1 := x1) (HM.rd hp0) h3714)) ?_
          rintro _ w3715 ⟨rfl, hn⟩
          replace HM : Mem w [] w3715 [] := HM.call hn
          refine ops_ex rfl (guard_none rfl) rfl rfl (ex_assign rfl rfl) ?_
          refine ops_nil ?_
          refine at_then ?_
          refine run_cond (b := t3713) rfl (fun hb3716 => ?_) (fun hb3716 => ?_)
          · replace H := cond_t hb3716 H
            refine run_seq ?_
            refine run_region rfl ?_
            refine ops_ex rfl (guard_none rfl) rfl rfl (ex_assign rfl rfl) ?_
            refine ops_ex rfl (guard_none rfl) rfl rfl (ex_assign rfl rfl) ?_
            refine ops_nil ?_
            refine at_then ?_
            refine run_ret ?_
            refine at_block_ret ?_
            refine at_then_ret ?_
            replace HM := HM.empty kCoin 72 none
            have hR := Option.some.inj H
            subst hR
            exact at_ret2 rfl rfl rfl ⟨_, rfl, _, rfl, HM⟩
          · replace H := cond_f hb3716 H
            refine run_seq ?_
            refine run_region rfl ?_
            refine ops_ex rfl (guard_none rfl) rfl rfl (ex_move rfl rfl) ?_
            refine ops_ex rfl (guard_none rfl) rfl rfl (ex_len (d := kCoin) (xs := x0) rfl rfl Try.underlying60 hp0) ?_
            refine ops_ex rfl (guard_none rfl) rfl rfl (ex_move rfl rfl) ?_
            refine ops_ex rfl (guard_none rfl) rfl rfl (ex_len (d := kOut) (xs := x2) rfl rfl Try.underlying26 hp2) ?_
            refine ops_ex rfl (guard_none rfl) rfl rfl (ex_add rfl rfl rfl) ?_
            refine ops_ex rfl (guard_none rfl) rfl rfl (ex_gtr rfl rfl rfl) ?_
            refine ops_ex rfl (guard_none rfl) rfl rfl (ex_assign rfl rfl) ?_
            refine ops_nil ?_
            refine at_then ?_
            refine run_cond (b := (decide (40 < (wrap64 ((x0.length : Int) + (x2.length : Int)))))) rfl (fun hb3718 => ?_) (fun hb3718 => ?_)
            · replace H := cond_t hb3718 H
              refine run_seq ?_
              refine run_region rfl ?_
              refine ops_ex rfl (guard_none rfl) rfl rfl (ex_assign rfl rfl) ?_
              refine ops_ex rfl (guard_none rfl) rfl rfl (ex_assign rfl rfl) ?_
              refine ops_nil ?_
              refine at_then ?_
              refine run_ret ?_
              refine at_block_ret ?_
              refine at_then_ret ?_
              replace HM := HM.empty kCoin 72 none
              have hR := Option.some.inj H
              subst hR
              exact at_ret2 rfl rfl rfl ⟨_, rfl, _, rfl, HM⟩
            · replace H := cond_f hb3718 H
              refine run_skip ?_
              refine at_block ?_
              refine at_then ?_
              refine run_seq ?_
              obtain ⟨t3720, h3721, H⟩ := bind_some H
              refine run_region rfl ?_
              refine ops_ex rfl (guard_none rfl) rfl rfl (ex_move rfl rfl) ?_
              refine ops_does rfl (guard_none rfl) rfl rfl (does_callk rfl callok84 rfl (impl_ownCoins.calls (x0 := x0) (HM.rd hp0) h3721)) ?_
              rintro u3722 w3724 ⟨_, rfl, hn⟩
              replace HM : Mem w [] w3724 [own kCoin 72 u3722 t3720] := HM.call hn
              refine ops_ex rfl (guard_none rfl) rfl rfl (ex_assign rfl rfl) ?_
              refine ops_nil ?_
              refine at_then ?_
              obtain ⟨o3786, ho3787, H⟩ := bind_some H
              refine run_mid (fun ρ_ w_ => ∃ v3783 : Value, ∃ a3784 : List Coin, a3784 = o3786 ∧ ρ_ = [(15, v3783)] ∧ Mem w [] w_ [own kCoin 72 v3783 a3784]) ?_ ?_
              · clear H
                refine run_seq ?_
                refine run_region rfl ?_
                refine ops_ex rfl (guard_none rfl) rfl rfl (ex_move rfl rfl) ?_
                refine ops_ex rfl (guard_none rfl) rfl rfl (ex_len (d := kOut) (xs := x2) rfl rfl Try.underlying26 hp2) ?_
                refine ops_ex rfl (guard_none rfl) rfl rfl (ex_move rfl rfl) ?_
                refine ops_nil ?_
                refine at_then ?_
                refine run_block ?_
                refine run_loop (fun k_ ρ_ w_ => ∃ v3806 : Value, ∃ a3807 : List Coin, ∃ a3809 : Int, impl_putCoins.l1 x1 x2 x3 x4 k_ a3807 a3809 = some o3786 ∧ ρ_ = [(1, .int .i64 x1), (3, .int .i64 x3), (4, .bool x4), (15, v3806), (56, p2), (57, .int .i64 (x2.length : Int)), (58, .int .i64 a3809)] ∧ Mem w [] w_ [own kCoin 72 v3806 a3807]) k (ρ1 := [(1, .int .i64 x1), (3, .int .i64 x3), (4, .bool x4), (15, u3722), (56, p2), (57, .int .i64 (x2.length : Int)), (58, .int .i64 0)]) ⟨_, _, _, ho3787, rfl, HM⟩ (Sub.cons rfl (Sub.cons rfl (Sub.cons rfl (Sub.cons rfl (Sub.cons rfl (Sub.cons rfl (Sub.cons rfl Sub.nil))))))) ?_
                clear HM ho3787
                rintro k3828 _ w3829 ⟨v3806, a3807, a3809, ho3787, rfl, HM⟩
                obtain _ | k3828 := k3828
                · exact nomatch ((impl_putCoins.l1_z x1 x2 x3 x4 a3807 a3809).symm.trans ho3787)
                replace ho3787 := (impl_putCoins.l1_s x1 x2 x3 x4 k3828 a3807 a3809).symm.trans ho3787
                refine run_seq ?_
                refine run_region rfl ?_
                refine ops_ex rfl (guard_none rfl) rfl rfl (ex_lss rfl rfl rfl) ?_
                refine ops_nil ?_
                refine at_then ?_
                refine run_seq ?_
                refine run_cond (b := (decide (a3809 < (x2.length : Int)))) rfl (fun hb3830 => ?_) (fun hb3830 => ?_)
                · replace ho3787 := cond_t hb3830 ho3787
                  refine run_skip ?_
                  refine at_then ?_
                  refine run_seq ?_
                  refine run_block ?_
                  refine run_seq ?_
                  obtain ⟨e3831, ho3787⟩ := chk_some ho3787
                  refine run_region rfl ?_
                  refine ops_ex rfl (guard_none rfl) rfl rfl (ex_move rfl rfl) ?_
                  obtain ⟨kv3833, hc3832, hk3834⟩ : ∃ u, CellsAt _ (sb p2) (so p2 + (a3809).toNat * 4) [(.int .i64 ((gt x2 a3809).fValue)), u, (.int .i64 ((gt x2 a3809).fRule.fNeed)), (.int .i64 ((gt x2 a3809).fRule.fAfter))] ∧ RdS kInt _ u ((gt x2 a3809).fRule.fKeys) := rd_with1 hp2 e3831
                  refine ops_ex rfl (guard_none rfl) rfl rfl (ex_indexAddr (d := kOut) rfl rfl rfl Try.underlying26 tsz69 hp2 (idx_lo e3831) (idx_hi e3831)) ?_
                  refine ops_ex rfl (guard_none rfl) rfl rfl (ex_loadN (cs := [(.int .i64 ((gt x2 a3809).fValue)), kv3833, (.int .i64 ((gt x2 a3809).fRule.fNeed)), (.int .i64 ((gt x2 a3809).fRule.fAfter))]) rfl rfl Try.underlying69 rfl tsz69 rfl ((HM.at_ hc3832).sub 0 4 rfl)) ?_
                  refine ops_does rfl (guard_none rfl) rfl rfl (does_alloc (cs := [.int .i64 0, .slice none 0 0, .int .i64 0, .int .i64 0]) rfl tz69 rfl HM) ?_
                  rintro _ w3838 ⟨b3835, rfl, HM⟩
                  refine ops_ex rfl (guard_none rfl) rfl rfl (ex_assign rfl rfl) ?_
                  refine ops_doesS rfl (guard_none rfl) rfl (does_store (vs := [.int .i64 ((gt x2 a3809).fValue), kv3833, .int .i64 ((gt x2 a3809).fRule.fNeed), .int .i64 ((gt x2 a3809).fRule.fAfter)]) (cs' := [.int .i64 ((gt x2 a3809).fValue), kv3833, .int .i64 ((gt x2 a3809).fRule.fNeed), .int .i64 ((gt x2 a3809).fRule.fAfter)]) rfl rfl rfl rfl tsz69 (Ones.int (Ones.rd hk3834 (Ones.int (Ones.int Ones.nil)))) rfl rfl HM) ?_
                  rintro w3839 HM
                  refine ops_nil ?_
                  refine at_then ?_
                  obtain ⟨t3840, h3841, ho3787⟩ := bind_some ho3787
                  obtain ⟨e3847, ho3787⟩ := chk_some ho3787
                  refine run_region rfl ?_
                  refine ops_ex rfl (guard_none rfl) rfl rfl (ex_move rfl rfl) ?_
                  refine ops_ex rfl (guard_none rfl) rfl rfl (ex_move rfl rfl) ?_
                  refine ops_ex rfl (guard_none rfl) rfl rfl (ex_move rfl rfl) ?_
                  refine ops_ex rfl (guard_none rfl) rfl rfl (ex_build (cells := #[(.int .i64 x1), (.int .i64 a3809)]) rfl rfl (by kernel_rfl)) ?_
                  refine ops_ex rfl (guard_none rfl) rfl rfl (ex_loadN (cs := [(.int .i64 ((gt x2 a3809).fValue)), kv3833, (.int .i64 ((gt x2 a3809).fRule.fNeed)), (.int .i64 ((gt x2 a3809).fRule.fAfter))]) rfl rfl Try.underlying69 rfl tsz69 rfl ((HM.box_at 0 rfl).sub 0 4 rfl)) ?_
                  refine ops_does rfl (guard_none rfl) rfl rfl (does_callk rfl callok129 rfl (impl_ownOut.calls (x0 := (gt x2 a3809)) (HM.rd hk3834) h3841)) ?_
                  rintro _ w3850 ⟨u3842, rfl, hn⟩
                  replace HM : Mem w [] w3850 [own kInt 2 u3842 t3840.fRule.fKeys, box b3835 69 [.int .i64 ((gt x2 a3809).fValue), kv3833, .int .i64 ((gt x2 a3809).fRule.fNeed), .int .i64 ((gt x2 a3809).fRule.fAfter)], own kCoin 72 v3806 a3807] := HM.call hn
                  refine ops_ex rfl (guard_none rfl) rfl rfl (ex_move rfl rfl) ?_
                  refine ops_ex rfl (guard_none rfl) rfl rfl (ex_move rfl rfl) ?_
                  refine ops_ex rfl (guard_none rfl) rfl rfl (ex_build1 (fun u3842 => [(0, .agg #[(.int .i64 x1), (.int .i64 a3809)]), (1, .agg #[(.int .i64 t3840.fValue), u3842, (.int .i64 t3840.fRule.fNeed), (.int .i64 t3840.fRule.fAfter)]), (2, .int .i64 x3), (3, .bool x4)]) (fun u3842 => #[.int .i64 x1, .int .i64 a3809, .int .i64 t3840.fValue, u3842, .int .i64 t3840.fRule.fNeed, .int .i64 t3840.fRule.fAfter, .int .i64 x3, .bool x4]) rfl rfl (fun _ _ _ => by kernel_rfl) (HM.own_rd 0 rfl).isSl) ?_
                  refine ops_does rfl (guard_none rfl) rfl rfl (does_lit (e := 72) (cs := [(.int .i64 x1), (.int .i64 a3809), (.int .i64 t3840.fValue), u3842, (.int .i64 t3840.fRule.fNeed), (.int .i64 t3840.fRule.fAfter), (.int .i64 x3), (.bool x4)]) (xs := ([(⟨(⟨x1, a3809⟩ : Ref), t3840, x3, x4⟩ : Coin)] : List Coin)) kCoin rfl rfl (fun _ => by kernel_rfl) rfl rfl (fun _ _ h => by have := Elems.cons (d := kCoin) (x := (⟨(⟨x1, a3809⟩ : Ref), t3840, x3, x4⟩ : Coin)) ⟨_, rfl, h⟩ .nil; rw [List.append_nil, List.append_nil] at this; exact this) HM) ?_
                  rintro v3844 w3851 HM
                  replace HM := HM.front 2 rfl rfl
                  refine ops_does rfl (guard_none rfl) rfl rfl (does_append kCoin rfl rfl rfl Try.underlying60 tsz72 rfl tby72 tz72 rfl rfl (leB_le e3847) HM) ?_
                  rintro v3848 w3852 HM
                  refine ops_ex rfl (guard_none rfl) rfl rfl (ex_assign rfl rfl) ?_
                  refine ops_nil ?_
                  refine at_block ?_
                  refine at_then ?_
                  refine run_region rfl ?_
                  refine ops_ex rfl (guard_none rfl) rfl rfl (ex_add rfl rfl rfl) ?_
                  refine ops_ex rfl (guard_none rfl) rfl rfl (ex_move rfl rfl) ?_
                  refine ops_nil ?_
                  replace HM := (HM.front 1 rfl rfl).drop
                  exact at_again k3828 (ρ1 := [(1, .int .i64 x1), (3, .int .i64 x3), (4, .bool x4), (15, v3848), (56, p2), (57, .int .i64 (x2.length : Int)), (58, .int .i64 (wrap64 (a3809 + 1)))]) (Nat.lt_succ_self _) ⟨_, _, _, ho3787, rfl, HM⟩ (Sub.cons rfl (Sub.cons rfl (Sub.cons rfl (Sub.cons rfl (Sub.cons rfl (Sub.cons rfl (Sub.cons rfl Sub.nil)))))))
                · replace ho3787 := cond_f hb3830 ho3787
                  refine run_exit ?_
                  refine at_then_exit ?_
                  refine at_then_exit ?_
                  refine at_block_exit ?_
                  exact at_mid (ρ' := [(15, v3806)]) ⟨_, _, (Option.some.inj ho3787), rfl, HM⟩ (Sub.cons rfl Sub.nil)
              · rintro _ w3853 ⟨v3783, a3784, rfl, rfl, HM⟩
                refine run_seq ?_
                obtain ⟨t3854, h3855, H⟩ := bind_some H
                refine run_region rfl ?_
                refine ops_ex rfl (guard_none rfl) rfl rfl (ex_move rfl rfl) ?_
                obtain ⟨F3858, hF3859, hFn3860, hFl3861, HMh3862, hcl3863⟩ := HM.hide (Ms := [own kCoin 72 v3783 a3784])
                refine ops_does rfl (guard_none rfl) rfl rfl (does_callk rfl callok130 rfl (impl_sorted.calls (x0 := a3784) (hide_olds _ _) hF3859 hFn3860 hFl3861 h3855)) ?_
                rintro u3856 w3864 ⟨_, rfl, hn⟩
                replace HM : Mem w [] w3864 [own kCoin 72 u3856 t3854] := hcl3863 _ _ hn
                refine ops_ex rfl (guard_none rfl) rfl rfl (ex_assign rfl rfl) ?_
                refine ops_ex rfl (guard_none rfl) rfl rfl (ex_assign rfl rfl) ?_
                refine ops_nil ?_
                refine at_then ?_
                refine run_ret ?_
                have hR := Option.some.inj H
                subst hR
                exact at_ret2 rfl rfl rfl ⟨_, rfl, _, rfl, HM⟩
end Go.Proofs.Ytbbcabpnkdilgaa.Zk
