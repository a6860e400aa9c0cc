/- What functions of the program compute, each as a plain function, and that they do. Conditions: as each theorem states them. -/
import Derived.Test.YtbbcabpnkdilgaaPutCoinsZkTy
namespace Go.Proofs.Ytbbcabpnkdilgaa.Zk
open Go Go.RowKit Go.IntWalk Go.Proofs
set_option linter.unusedVariables false
set_option linter.unusedSimpArgs false
set_option maxRecDepth 100000
set_option maxHeartbeats 4000000
def laws_szInt64S.f (k : Nat) (x0 : List Int) (x1 : Int) : Option Int := (bif (decide ((wrap64 (x1 - (x0.length : Int))) < 0)) then some (-1) else some (wrap64 (x1 - (x0.length : Int))))
theorem laws_szInt64S.calls {k : Nat} {x0 : List Int} {x1 : Int} {p0 : Value} {w : World} (hp0 : RdS kInt w p0 x0) {r : Int} (H : laws_szInt64S.f k x0 x1 = some r) :
    Calls Try.prog 160 ([p0, .int .i64 x1] : List Value).toArray w (fun e w_ => ∃ v, e = .returned v ∧ v = (.int .i64 r) ∧ Mem w [] w_ []) := by
  have HM := Mem.start w
  refine calls_run (N := 12) Try.func160 rfl rfl rfl rfl ?_
  unfold laws_szInt64S.f at H
  refine run_seq ?_
  refine run_region rfl ?_
  refine ops_ex rfl (guard_none rfl) rfl rfl (ex_assign rfl rfl) ?_
  refine ops_nil ?_
  refine at_then ?_
  refine run_seq ?_
  refine run_region rfl ?_
  refine ops_ex rfl (guard_none rfl) rfl rfl (ex_move rfl rfl) ?_
  refine ops_ex rfl (guard_none rfl) rfl rfl (ex_move rfl rfl) ?_
  refine ops_ex rfl (guard_none rfl) rfl rfl (ex_len (d := kInt) (xs := x0) rfl rfl Try.underlying39 hp0) ?_
  refine ops_ex rfl (guard_none rfl) rfl rfl (ex_sub rfl rfl rfl) ?_
  refine ops_ex rfl (guard_none rfl) rfl rfl (ex_assign rfl rfl) ?_
  refine ops_nil ?_
  refine at_then ?_
  refine run_seq ?_
  refine run_seq ?_
  refine run_region rfl ?_
  refine ops_ex rfl (guard_none rfl) rfl rfl (ex_move rfl rfl) ?_
  refine ops_ex rfl (guard_none rfl) rfl rfl (ex_lss rfl rfl rfl) ?_
  refine ops_nil ?_
  refine at_then ?_
  refine run_cond (b := (decide ((wrap64 (x1 - (x0.length : Int))) < 0))) rfl (fun hb18 => ?_) (fun hb18 => ?_)
  · replace H := cond_t hb18 H
    refine run_seq ?_
    refine run_region rfl ?_
    refine ops_ex rfl (guard_none rfl) rfl rfl (ex_assign rfl rfl) ?_
    refine ops_nil ?_
    refine at_then ?_
    refine run_ret ?_
    refine at_then_ret ?_
    have hR := Option.some.inj H
    subst hR
    exact at_ret1 rfl rfl ⟨_, rfl, rfl, HM⟩
  · replace H := cond_f hb18 H
    refine run_skip ?_
    refine at_then ?_
    refine run_seq ?_
    refine run_region rfl ?_
    refine ops_ex rfl (guard_none rfl) rfl rfl (ex_move rfl rfl) ?_
    refine ops_ex rfl (guard_none rfl) rfl rfl (ex_assign rfl rfl) ?_
    refine ops_nil ?_
    refine at_then ?_
    refine run_ret ?_
    have hR := Option.some.inj H
    subst hR
    exact at_ret1 rfl rfl ⟨_, rfl, rfl, HM⟩

def laws_szRule.f (k : Nat) (x0 : Rule) (x1 : Int) : Option Int := ((laws_szInt64S.f k x0.fKeys x1).bind fun t26 => (bif (decide (t26 < 0)) then some (-1) else some t26))
theorem laws_szRule.calls {k : Nat} {x0 : Rule} {x1 : Int} {p0_0 : Value} {w : World} (hp0_0 : RdS kInt w p0_0 x0.fKeys) {r : Int} (H : laws_szRule.f k x0 x1 = some r) :
    Calls Try.prog 144 ([.agg #[p0_0, (.int .i64 x0.fNeed), (.int .i64 x0.fAfter)], .int .i64 x1] : List Value).toArray w (fun e w_ => ∃ v, e = .returned v ∧ v = (.int .i64 r) ∧ Mem w [] w_ []) := by
  have HM := Mem.start w
  refine calls_run (N := 12) Try.func144 rfl rfl rfl rfl ?_
  unfold laws_szRule.f at H
  refine run_seq ?_
  refine run_region rfl ?_
  refine ops_does rfl (guard_none rfl) rfl rfl (does_box (cs := [p0_0, .int .i64 x0.fNeed, .int .i64 x0.fAfter]) rfl rfl rfl HM) ?_
  rintro _ w25 ⟨b22, rfl, HM⟩
  refine ops_ex rfl (guard_none rfl) rfl rfl (ex_assign rfl rfl) ?_
  refine ops_nil ?_
  refine at_then ?_
  refine run_seq ?_
  obtain ⟨t26, h27, H⟩ := bind_some H
  refine run_region rfl ?_
  refine ops_ex rfl (guard_none rfl) rfl rfl (ex_fieldAddr (off' := 0) rfl rfl Try.underlying139 rfl tsz39 rfl) ?_
  refine ops_ex rfl (guard_none rfl) rfl rfl (ex_load1 rfl rfl Try.underlying39 rfl ((HM.box_at 0 rfl) 0 _ rfl)) ?_
  refine ops_ex rfl (guard_none rfl) rfl rfl (ex_move rfl rfl) ?_
  refine ops_does rfl (guard_none rfl) rfl rfl (does_callk rfl callok160 rfl (laws_szInt64S.calls (x0 := x0.fKeys) (x1 := x1) (HM.rd hp0_0) h27)) ?_
  rintro _ w28 ⟨rfl, hn⟩
  replace HM : Mem w [] w28 [box b22 139 [p0_0, .int .i64 x0.fNeed, .int .i64 x0.fAfter]] := HM.call hn
  refine ops_ex rfl (guard_none rfl) rfl rfl (ex_assign rfl rfl) ?_
  refine ops_nil ?_
  refine at_then ?_
  refine run_seq ?_
  refine run_seq ?_
  refine run_region rfl ?_
  refine ops_ex rfl (guard_none rfl) rfl rfl (ex_move rfl rfl) ?_
  refine ops_ex rfl (guard_none rfl) rfl rfl (ex_lss rfl rfl rfl) ?_
  refine ops_nil ?_
  refine at_then ?_
  refine run_cond (b := (decide (t26 < 0))) rfl (fun hb29 => ?_) (fun hb29 => ?_)
  · replace H := cond_t hb29 H
    refine run_seq ?_
    refine run_region rfl ?_
    refine ops_ex rfl (guard_none rfl) rfl rfl (ex_assign rfl rfl) ?_
    refine ops_nil ?_
    refine at_then ?_
    refine run_ret ?_
    refine at_then_ret ?_
    replace HM := (HM.front 0 rfl rfl).drop
    have hR := Option.some.inj H
    subst hR
    exact at_ret1 rfl rfl ⟨_, rfl, rfl, HM⟩
  · replace H := cond_f hb29 H
    refine run_skip ?_
    refine at_then ?_
    refine run_seq ?_
    refine run_region rfl ?_
    refine ops_ex rfl (guard_none rfl) rfl rfl (ex_move rfl rfl) ?_
    refine ops_ex rfl (guard_none rfl) rfl rfl (ex_assign rfl rfl) ?_
    refine ops_nil ?_
    refine at_then ?_
    refine run_ret ?_
    replace HM := (HM.front 0 rfl rfl).drop
    have hR := Option.some.inj H
    subst hR
    exact at_ret1 rfl rfl ⟨_, rfl, rfl, HM⟩

def laws_szOut.f (k : Nat) (x0 : Out) (x1 : Int) : Option Int := ((laws_szRule.f k x0.fRule x1).bind fun t37 => (bif (decide (t37 < 0)) then some (-1) else some t37))
theorem laws_szOut.calls {k : Nat} {x0 : Out} {x1 : Int} {p0_0 : Value} {w : World} (hp0_0 : RdS kInt w p0_0 x0.fRule.fKeys) {r : Int} (H : laws_szOut.f k x0 x1 = some r) :
    Calls Try.prog 96 ([.agg #[(.int .i64 x0.fValue), p0_0, (.int .i64 x0.fRule.fNeed), (.int .i64 x0.fRule.fAfter)], .int .i64 x1] : List Value).toArray w (fun e w_ => ∃ v, e = .returned v ∧ v = (.int .i64 r) ∧ Mem w [] w_ []) := by
  have HM := Mem.start w
  refine calls_run (N := 12) Try.func96 rfl rfl rfl rfl ?_
  unfold laws_szOut.f at H
  refine run_seq ?_
  refine run_region rfl ?_
  refine ops_does rfl (guard_none rfl) rfl rfl (does_box (cs := [.int .i64 x0.fValue, p0_0, .int .i64 x0.fRule.fNeed, .int .i64 x0.fRule.fAfter]) rfl rfl rfl HM) ?_
  rintro _ w36 ⟨b33, rfl, HM⟩
  refine ops_ex rfl (guard_none rfl) rfl rfl (ex_assign rfl rfl) ?_
  refine ops_nil ?_
  refine at_then ?_
  refine run_seq ?_
  obtain ⟨t37, h38, H⟩ := bind_some H
  refine run_region rfl ?_
  refine ops_ex rfl (guard_none rfl) rfl rfl (ex_fieldAddr (off' := 1) rfl rfl Try.underlying141 rfl tsz139 rfl) ?_
  refine ops_ex rfl (guard_none rfl) rfl rfl (ex_loadN (cs := [p0_0, (.int .i64 x0.fRule.fNeed), (.int .i64 x0.fRule.fAfter)]) rfl rfl Try.underlying139 rfl tsz139 rfl ((HM.box_at 0 rfl).sub 1 3 rfl)) ?_
  refine ops_ex rfl (guard_none rfl) rfl rfl (ex_move rfl rfl) ?_
  refine ops_does rfl (guard_none rfl) rfl rfl (does_callk rfl callok144 rfl (laws_szRule.calls (x0 := x0.fRule) (x1 := x1) (HM.rd hp0_0) h38)) ?_
  rintro _ w39 ⟨rfl, hn⟩
  replace HM : Mem w [] w39 [box b33 141 [.int .i64 x0.fValue, p0_0, .int .i64 x0.fRule.fNeed, .int .i64 x0.fRule.fAfter]] := HM.call hn
  refine ops_ex rfl (guard_none rfl) rfl rfl (ex_assign rfl rfl) ?_
  refine ops_nil ?_
  refine at_then ?_
  refine run_seq ?_
  refine run_seq ?_
  refine run_region rfl ?_
  refine ops_ex rfl (guard_none rfl) rfl rfl (ex_move rfl rfl) ?_
  refine ops_ex rfl (guard_none rfl) rfl rfl (ex_lss rfl rfl rfl) ?_
  refine ops_nil ?_
  refine at_then ?_
  refine run_cond (b := (decide (t37 < 0))) rfl (fun hb40 => ?_) (fun hb40 => ?_)
  · replace H := cond_t hb40 H
    refine run_seq ?_
    refine run_region rfl ?_
    refine ops_ex rfl (guard_none rfl) rfl rfl (ex_assign rfl rfl) ?_
    refine ops_nil ?_
    refine at_then ?_
    refine run_ret ?_
    refine at_then_ret ?_
    replace HM := (HM.front 0 rfl rfl).drop
    have hR := Option.some.inj H
    subst hR
    exact at_ret1 rfl rfl ⟨_, rfl, rfl, HM⟩
  · replace H := cond_f hb40 H
    refine run_skip ?_
    refine at_then ?_
    refine run_seq ?_
    refine run_region rfl ?_
    refine ops_ex rfl (guard_none rfl) rfl rfl (ex_move rfl rfl) ?_
    refine ops_ex rfl (guard_none rfl) rfl rfl (ex_assign rfl rfl) ?_
    refine ops_nil ?_
    refine at_then ?_
    refine run_ret ?_
    replace HM := (HM.front 0 rfl rfl).drop
    have hR := Option.some.inj H
    subst hR
    exact at_ret1 rfl rfl ⟨_, rfl, rfl, HM⟩

def laws_szCoin.f (k : Nat) (x0 : Coin) (x1 : Int) : Option Int := ((laws_szOut.f k x0.fOut x1).bind fun t48 => (bif (decide (t48 < 0)) then some (-1) else some t48))
theorem laws_szCoin.calls {k : Nat} {x0 : Coin} {x1 : Int} {p0_0 : Value} {w : World} (hp0_0 : RdS kInt w p0_0 x0.fOut.fRule.fKeys) {r : Int} (H : laws_szCoin.f k x0 x1 = some r) :
    Calls Try.prog 95 ([.agg #[(.int .i64 x0.fRef.fTx), (.int .i64 x0.fRef.fAt), (.int .i64 x0.fOut.fValue), p0_0, (.int .i64 x0.fOut.fRule.fNeed), (.int .i64 x0.fOut.fRule.fAfter), (.int .i64 x0.fHeight), (.bool x0.fMined)], .int .i64 x1] : List Value).toArray w (fun e w_ => ∃ v, e = .returned v ∧ v = (.int .i64 r) ∧ Mem w [] w_ []) := by
  have HM := Mem.start w
  refine calls_run (N := 12) Try.func95 rfl rfl rfl rfl ?_
  unfold laws_szCoin.f at H
  refine run_seq ?_
  refine run_region rfl ?_
  refine ops_does rfl (guard_none rfl) rfl rfl (does_box (cs := [.int .i64 x0.fRef.fTx, .int .i64 x0.fRef.fAt, .int .i64 x0.fOut.fValue, p0_0, .int .i64 x0.fOut.fRule.fNeed, .int .i64 x0.fOut.fRule.fAfter, .int .i64 x0.fHeight, .bool x0.fMined]) rfl rfl rfl HM) ?_
  rintro _ w47 ⟨b44, rfl, HM⟩
  refine ops_ex rfl (guard_none rfl) rfl rfl (ex_assign rfl rfl) ?_
  refine ops_nil ?_
  refine at_then ?_
  refine run_seq ?_
  obtain ⟨t48, h49, H⟩ := bind_some H
  refine run_region rfl ?_
  refine ops_ex rfl (guard_none rfl) rfl rfl (ex_fieldAddr (off' := 2) rfl rfl Try.underlying143 rfl tsz141 rfl) ?_
  refine ops_ex rfl (guard_none rfl) rfl rfl (ex_loadN (cs := [(.int .i64 x0.fOut.fValue), p0_0, (.int .i64 x0.fOut.fRule.fNeed), (.int .i64 x0.fOut.fRule.fAfter)]) rfl rfl Try.underlying141 rfl tsz141 rfl ((HM.box_at 0 rfl).sub 2 4 rfl)) ?_
  refine ops_ex rfl (guard_none rfl) rfl rfl (ex_move rfl rfl) ?_
  refine ops_does rfl (guard_none rfl) rfl rfl (does_callk rfl callok96 rfl (laws_szOut.calls (x0 := x0.fOut) (x1 := x1) (HM.rd hp0_0) h49)) ?_
  rintro _ w50 ⟨rfl, hn⟩
  replace HM : Mem w [] w50 [box b44 143 [.int .i64 x0.fRef.fTx, .int .i64 x0.fRef.fAt, .int .i64 x0.fOut.fValue, p0_0, .int .i64 x0.fOut.fRule.fNeed, .int .i64 x0.fOut.fRule.fAfter, .int .i64 x0.fHeight, .bool x0.fMined]] := HM.call hn
  refine ops_ex rfl (guard_none rfl) rfl rfl (ex_assign rfl rfl) ?_
  refine ops_nil ?_
  refine at_then ?_
  refine run_seq ?_
  refine run_seq ?_
  refine run_region rfl ?_
  refine ops_ex rfl (guard_none rfl) rfl rfl (ex_move rfl rfl) ?_
  refine ops_ex rfl (guard_none rfl) rfl rfl (ex_lss rfl rfl rfl) ?_
  refine ops_nil ?_
  refine at_then ?_
  refine run_cond (b := (decide (t48 < 0))) rfl (fun hb51 => ?_) (fun hb51 => ?_)
  · replace H := cond_t hb51 H
    refine run_seq ?_
    refine run_region rfl ?_
    refine ops_ex rfl (guard_none rfl) rfl rfl (ex_assign rfl rfl) ?_
    refine ops_nil ?_
    refine at_then ?_
    refine run_ret ?_
    refine at_then_ret ?_
    replace HM := (HM.front 0 rfl rfl).drop
    have hR := Option.some.inj H
    subst hR
    exact at_ret1 rfl rfl ⟨_, rfl, rfl, HM⟩
  · replace H := cond_f hb51 H
    refine run_skip ?_
    refine at_then ?_
    refine run_seq ?_
    refine run_region rfl ?_
    refine ops_ex rfl (guard_none rfl) rfl rfl (ex_move rfl rfl) ?_
    refine ops_ex rfl (guard_none rfl) rfl rfl (ex_assign rfl rfl) ?_
    refine ops_nil ?_
    refine at_then ?_
    refine run_ret ?_
    replace HM := (HM.front 0 rfl rfl).drop
    have hR := Option.some.inj H
    subst hR
    exact at_ret1 rfl rfl ⟨_, rfl, rfl, HM⟩

def laws_szCoinS.l0 (x0 : List Coin) : Nat → Int → Int → Option (Int ⊕ Int)
  | 0, _, _ => none
  | k + 1, a115, a116 => (bif (decide (a116 < (x0.length : Int))) then (chk (idxOk a116 x0.length) ((laws_szCoin.f k (gt x0 a116) a115).bind fun t132 => (bif (decide (t132 < 0)) then some (.inl (-1)) else laws_szCoinS.l0 x0 k t132 (wrap64 (a116 + 1))))) else some (.inr a115))
theorem laws_szCoinS.l0_z (x0 : List Coin) (a115 : Int) (a116 : Int) : laws_szCoinS.l0 x0 0 a115 a116 = none := rfl
theorem laws_szCoinS.l0_s (x0 : List Coin) (k : Nat) (a115 : Int) (a116 : Int) : laws_szCoinS.l0 x0 (k + 1) a115 a116 = (bif (decide (a116 < (x0.length : Int))) then (chk (idxOk a116 x0.length) ((laws_szCoin.f k (gt x0 a116) a115).bind fun t132 => (bif (decide (t132 < 0)) then some (.inl (-1)) else laws_szCoinS.l0 x0 k t132 (wrap64 (a116 + 1))))) else some (.inr a115)) := rfl
def laws_szCoinS.f (k : Nat) (x0 : List Coin) (x1 : Int) : Option Int := (bif (decide ((wrap64 (x1 - (x0.length : Int))) < 0)) then some (-1) else ((laws_szCoinS.l0 x0 k (wrap64 (x1 - (x0.length : Int))) 0).bind fun o105 => thn o105 (fun r => some r) (fun a104 => some a104)))
theorem laws_szCoinS.calls {k : Nat} {x0 : List Coin} {x1 : Int} {p0 : Value} {w : World} (hp0 : RdS kCoin w p0 x0) {r : Int} (H : laws_szCoinS.f k x0 x1 = some r) :
    Calls Try.prog 36 ([p0, .int .i64 x1] : List Value).toArray w (fun e w_ => ∃ v, e = .returned v ∧ v = (.int .i64 r) ∧ Mem w [] w_ []) := by
  have HM := Mem.start w
  refine calls_run (N := 27) Try.func36 rfl rfl rfl rfl ?_
  unfold laws_szCoinS.f at H
  refine run_seq ?_
  refine run_region rfl ?_
  refine ops_ex rfl (guard_none rfl) rfl rfl (ex_assign rfl rfl) ?_
  refine ops_nil ?_
  refine at_then ?_
  refine run_seq ?_
  refine run_region rfl ?_
  refine ops_ex rfl (guard_none rfl) rfl rfl (ex_move rfl rfl) ?_
  refine ops_ex rfl (guard_none rfl) rfl rfl (ex_move rfl rfl) ?_
  refine ops_ex rfl (guard_none rfl) rfl rfl (ex_len (d := kCoin) (xs := x0) rfl rfl Try.underlying80 hp0) ?_
  refine ops_ex rfl (guard_none rfl) rfl rfl (ex_sub rfl rfl rfl) ?_
  refine ops_ex rfl (guard_none rfl) rfl rfl (ex_assign rfl rfl) ?_
  refine ops_nil ?_
  refine at_then ?_
  refine run_seq ?_
  refine run_seq ?_
  refine run_region rfl ?_
  refine ops_ex rfl (guard_none rfl) rfl rfl (ex_move rfl rfl) ?_
  refine ops_ex rfl (guard_none rfl) rfl rfl (ex_lss rfl rfl rfl) ?_
  refine ops_nil ?_
  refine at_then ?_
  refine run_cond (b := (decide ((wrap64 (x1 - (x0.length : Int))) < 0))) rfl (fun hb77 => ?_) (fun hb77 => ?_)
  · replace H := cond_t hb77 H
    refine run_seq ?_
    refine run_region rfl ?_
    refine ops_ex rfl (guard_none rfl) rfl rfl (ex_assign rfl rfl) ?_
    refine ops_nil ?_
    refine at_then ?_
    refine run_ret ?_
    refine at_then_ret ?_
    have hR := Option.some.inj H
    subst hR
    exact at_ret1 rfl rfl ⟨_, rfl, rfl, HM⟩
  · replace H := cond_f hb77 H
    refine run_skip ?_
    refine at_then ?_
    obtain ⟨o105, ho106, H⟩ := bind_some H
    refine run_mid (fun ρ_ w_ => ∃ a104 : Int, Sum.inr a104 = o105 ∧ ρ_ = [(1, .int .i64 a104)] ∧ Mem w [] w_ []) ?_ ?_
    · skip
      refine run_seq ?_
      refine run_region rfl ?_
      refine ops_ex rfl (guard_none rfl) rfl rfl (ex_assign rfl rfl) ?_
      refine ops_nil ?_
      refine at_then ?_
      refine run_block ?_
      refine run_loop (fun k_ ρ_ w_ => ∃ a115 : Int, ∃ a116 : Int, laws_szCoinS.l0 x0 k_ a115 a116 = some o105 ∧ ρ_ = [(0, p0), (1, .int .i64 a115), (5, .int .i64 a116)] ∧ Mem w [] w_ []) k (ρ1 := [(0, p0), (1, .int .i64 (wrap64 (x1 - (x0.length : Int)))), (5, .int .i64 0)]) ⟨_, _, ho106, rfl, HM⟩ (Sub.cons rfl (Sub.cons rfl (Sub.cons rfl Sub.nil))) ?_
      clear HM ho106
      rintro k125 _ w126 ⟨a115, a116, ho106, rfl, HM⟩
      obtain _ | k125 := k125
      · exact nomatch ((laws_szCoinS.l0_z x0 a115 a116).symm.trans ho106)
      replace ho106 := (laws_szCoinS.l0_s x0 k125 a115 a116).symm.trans ho106
      refine run_seq ?_
      refine run_seq ?_
      refine run_region rfl ?_
      refine ops_ex rfl (guard_none rfl) rfl rfl (ex_move rfl rfl) ?_
      refine ops_ex rfl (guard_none rfl) rfl rfl (ex_move rfl rfl) ?_
      refine ops_ex rfl (guard_none rfl) rfl rfl (ex_len (d := kCoin) (xs := x0) rfl rfl Try.underlying80 hp0) ?_
      refine ops_ex rfl (guard_none rfl) rfl rfl (ex_lss rfl rfl rfl) ?_
      refine ops_nil ?_
      refine at_then ?_
      refine run_cond (b := (decide (a116 < (x0.length : Int)))) rfl (fun hb127 => ?_) (fun hb127 => ?_)
      · replace ho106 := cond_t hb127 ho106
        refine run_skip ?_
        refine at_then ?_
        refine run_seq ?_
        refine run_block ?_
        refine run_seq ?_
        obtain ⟨e128, ho106⟩ := chk_some ho106
        obtain ⟨t132, h133, ho106⟩ := bind_some ho106
        refine run_region rfl ?_
        refine ops_ex rfl (guard_none rfl) rfl rfl (ex_move rfl rfl) ?_
        refine ops_ex rfl (guard_none rfl) rfl rfl (ex_move rfl rfl) ?_
        obtain ⟨kv130, hc129, hk131⟩ : ∃ u, CellsAt _ (sb p0) (so p0 + (a116).toNat * 8) [(.int .i64 ((gt x0 a116).fRef.fTx)), (.int .i64 ((gt x0 a116).fRef.fAt)), (.int .i64 ((gt x0 a116).fOut.fValue)), u, (.int .i64 ((gt x0 a116).fOut.fRule.fNeed)), (.int .i64 ((gt x0 a116).fOut.fRule.fAfter)), (.int .i64 ((gt x0 a116).fHeight)), (.bool ((gt x0 a116).fMined))] ∧ RdS kInt _ u ((gt x0 a116).fOut.fRule.fKeys) := rd_with1 hp0 e128
        refine ops_ex rfl (guard_none rfl) rfl rfl (ex_indexAddr (d := kCoin) rfl rfl rfl Try.underlying80 tsz143 hp0 (idx_lo e128) (idx_hi e128)) ?_
        refine ops_ex rfl (guard_none rfl) rfl rfl (ex_loadN (cs := [(.int .i64 ((gt x0 a116).fRef.fTx)), (.int .i64 ((gt x0 a116).fRef.fAt)), (.int .i64 ((gt x0 a116).fOut.fValue)), kv130, (.int .i64 ((gt x0 a116).fOut.fRule.fNeed)), (.int .i64 ((gt x0 a116).fOut.fRule.fAfter)), (.int .i64 ((gt x0 a116).fHeight)), (.bool ((gt x0 a116).fMined))]) rfl rfl Try.underlying143 rfl tsz143 rfl ((HM.at_ hc129).sub 0 8 rfl)) ?_
        refine ops_ex rfl (guard_none rfl) rfl rfl (ex_move rfl rfl) ?_
        refine ops_does rfl (guard_none rfl) rfl rfl (does_callk rfl callok95 rfl (laws_szCoin.calls (x0 := (gt x0 a116)) (x1 := a115) (HM.rd hk131) h133)) ?_
        rintro _ w134 ⟨rfl, hn⟩
        replace HM : Mem w [] w134 [] := HM.call hn
        refine ops_ex rfl (guard_none rfl) rfl rfl (ex_assign rfl rfl) ?_
        refine ops_nil ?_
        refine at_then ?_
        refine run_seq ?_
        refine run_region rfl ?_
        refine ops_ex rfl (guard_none rfl) rfl rfl (ex_move rfl rfl) ?_
        refine ops_ex rfl (guard_none rfl) rfl rfl (ex_lss rfl rfl rfl) ?_
        refine ops_nil ?_
        refine at_then ?_
        refine run_cond (b := (decide (t132 < 0))) rfl (fun hb135 => ?_) (fun hb135 => ?_)
        · replace ho106 := cond_t hb135 ho106
          refine run_seq ?_
          refine run_region rfl ?_
          refine ops_ex rfl (guard_none rfl) rfl rfl (ex_assign rfl rfl) ?_
          refine ops_nil ?_
          refine at_then ?_
          refine run_ret ?_
          refine at_block_ret ?_
          refine at_then_ret ?_
          refine at_then_ret ?_
          refine at_block_ret ?_
          refine at_then_ret ?_
          have hR := Option.some.inj ho106
          subst hR
          have hT := thn_inl H
          have hR := Option.some.inj hT
          subst hR
          exact at_ret1 rfl rfl ⟨_, rfl, rfl, HM⟩
        · replace ho106 := cond_f hb135 ho106
          refine run_skip ?_
          refine at_block ?_
          refine at_then ?_
          refine run_region rfl ?_
          refine ops_ex rfl (guard_none rfl) rfl rfl (ex_move rfl rfl) ?_
          refine ops_ex rfl (guard_none rfl) rfl rfl (ex_add rfl rfl rfl) ?_
          refine ops_ex rfl (guard_none rfl) rfl rfl (ex_assign rfl rfl) ?_
          refine ops_nil ?_
          exact at_again k125 (ρ1 := [(0, p0), (1, .int .i64 t132), (5, .int .i64 (wrap64 (a116 + 1)))]) (Nat.lt_succ_self _) ⟨_, _, ho106, rfl, HM⟩ (Sub.cons rfl (Sub.cons rfl (Sub.cons rfl Sub.nil)))
      · replace ho106 := cond_f hb127 ho106
        refine run_exit ?_
        refine at_then_exit ?_
        refine at_then_exit ?_
        refine at_block_exit ?_
        exact at_mid (ρ' := [(1, .int .i64 a115)]) ⟨_, (Option.some.inj ho106), rfl, HM⟩ (Sub.cons rfl Sub.nil)
    · rintro _ w136 ⟨a104, rfl, rfl, HM⟩
      replace H := (thn_inr H)
      refine run_seq ?_
      refine run_region rfl ?_
      refine ops_ex rfl (guard_none rfl) rfl rfl (ex_move rfl rfl) ?_
      refine ops_ex rfl (guard_none rfl) rfl rfl (ex_assign rfl rfl) ?_
      refine ops_nil ?_
      refine at_then ?_
      refine run_ret ?_
      have hR := Option.some.inj H
      subst hR
      exact at_ret1 rfl rfl ⟨_, rfl, rfl, HM⟩

def laws_szOutS.l0 (x0 : List Out) : Nat → Int → Int → Option (Int ⊕ Int)
  | 0, _, _ => none
  | k + 1, a211, a212 => (bif (decide (a212 < (x0.length : Int))) then (chk (idxOk a212 x0.length) ((laws_szOut.f k (gt x0 a212) a211).bind fun t228 => (bif (decide (t228 < 0)) then some (.inl (-1)) else laws_szOutS.l0 x0 k t228 (wrap64 (a212 + 1))))) else some (.inr a211))
theorem laws_szOutS.l0_z (x0 : List Out) (a211 : Int) (a212 : Int) : laws_szOutS.l0 x0 0 a211 a212 = none := rfl
theorem laws_szOutS.l0_s (x0 : List Out) (k : Nat) (a211 : Int) (a212 : Int) : laws_szOutS.l0 x0 (k + 1) a211 a212 = (bif (decide (a212 < (x0.length : Int))) then (chk (idxOk a212 x0.length) ((laws_szOut.f k (gt x0 a212) a211).bind fun t228 => (bif (decide (t228 < 0)) then some (.inl (-1)) else laws_szOutS.l0 x0 k t228 (wrap64 (a212 + 1))))) else some (.inr a211)) := rfl
def laws_szOutS.f (k : Nat) (x0 : List Out) (x1 : Int) : Option Int := (bif (decide ((wrap64 (x1 - (x0.length : Int))) < 0)) then some (-1) else ((laws_szOutS.l0 x0 k (wrap64 (x1 - (x0.length : Int))) 0).bind fun o201 => thn o201 (fun r => some r) (fun a200 => some a200)))
theorem laws_szOutS.calls {k : Nat} {x0 : List Out} {x1 : Int} {p0 : Value} {w : World} (hp0 : RdS kOut w p0 x0) {r : Int} (H : laws_szOutS.f k x0 x1 = some r) :
    Calls Try.prog 37 ([p0, .int .i64 x1] : List Value).toArray w (fun e w_ => ∃ v, e = .returned v ∧ v = (.int .i64 r) ∧ Mem w [] w_ []) := by
  have HM := Mem.start w
  refine calls_run (N := 27) Try.func37 rfl rfl rfl rfl ?_
  unfold laws_szOutS.f at H
  refine run_seq ?_
  refine run_region rfl ?_
  refine ops_ex rfl (guard_none rfl) rfl rfl (ex_assign rfl rfl) ?_
  refine ops_nil ?_
  refine at_then ?_
  refine run_seq ?_
  refine run_region rfl ?_
  refine ops_ex rfl (guard_none rfl) rfl rfl (ex_move rfl rfl) ?_
  refine ops_ex rfl (guard_none rfl) rfl rfl (ex_move rfl rfl) ?_
  refine ops_ex rfl (guard_none rfl) rfl rfl (ex_len (d := kOut) (xs := x0) rfl rfl Try.underlying47 hp0) ?_
  refine ops_ex rfl (guard_none rfl) rfl rfl (ex_sub rfl rfl rfl) ?_
  refine ops_ex rfl (guard_none rfl) rfl rfl (ex_assign rfl rfl) ?_
  refine ops_nil ?_
  refine at_then ?_
  refine run_seq ?_
  refine run_seq ?_
  refine run_region rfl ?_
  refine ops_ex rfl (guard_none rfl) rfl rfl (ex_move rfl rfl) ?_
  refine ops_ex rfl (guard_none rfl) rfl rfl (ex_lss rfl rfl rfl) ?_
  refine ops_nil ?_
  refine at_then ?_
  refine run_cond (b := (decide ((wrap64 (x1 - (x0.length : Int))) < 0))) rfl (fun hb173 => ?_) (fun hb173 => ?_)
  · replace H := cond_t hb173 H
    refine run_seq ?_
    refine run_region rfl ?_
    refine ops_ex rfl (guard_none rfl) rfl rfl (ex_assign rfl rfl) ?_
    refine ops_nil ?_
    refine at_then ?_
    refine run_ret ?_
    refine at_then_ret ?_
    have hR := Option.some.inj H
    subst hR
    exact at_ret1 rfl rfl ⟨_, rfl, rfl, HM⟩
  · replace H := cond_f hb173 H
    refine run_skip ?_
    refine at_then ?_
    obtain ⟨o201, ho202, H⟩ := bind_some H
    refine run_mid (fun ρ_ w_ => ∃ a200 : Int, Sum.inr a200 = o201 ∧ ρ_ = [(1, .int .i64 a200)] ∧ Mem w [] w_ []) ?_ ?_
    · skip
      refine run_seq ?_
      refine run_region rfl ?_
      refine ops_ex rfl (guard_none rfl) rfl rfl (ex_assign rfl rfl) ?_
      refine ops_nil ?_
      refine at_then ?_
      refine run_block ?_
      refine run_loop (fun k_ ρ_ w_ => ∃ a211 : Int, ∃ a212 : Int, laws_szOutS.l0 x0 k_ a211 a212 = some o201 ∧ ρ_ = [(0, p0), (1, .int .i64 a211), (5, .int .i64 a212)] ∧ Mem w [] w_ []) k (ρ1 := [(0, p0), (1, .int .i64 (wrap64 (x1 - (x0.length : Int)))), (5, .int .i64 0)]) ⟨_, _, ho202, rfl, HM⟩ (Sub.cons rfl (Sub.cons rfl (Sub.cons rfl Sub.nil))) ?_
      clear HM ho202
      rintro k221 _ w222 ⟨a211, a212, ho202, rfl, HM⟩
      obtain _ | k221 := k221
      · exact nomatch ((laws_szOutS.l0_z x0 a211 a212).symm.trans ho202)
      replace ho202 := (laws_szOutS.l0_s x0 k221 a211 a212).symm.trans ho202
      refine run_seq ?_
      refine run_seq ?_
      refine run_region rfl ?_
      refine ops_ex rfl (guard_none rfl) rfl rfl (ex_move rfl rfl) ?_
      refine ops_ex rfl (guard_none rfl) rfl rfl (ex_move rfl rfl) ?_
      refine ops_ex rfl (guard_none rfl) rfl rfl (ex_len (d := kOut) (xs := x0) rfl rfl Try.underlying47 hp0) ?_
      refine ops_ex rfl (guard_none rfl) rfl rfl (ex_lss rfl rfl rfl) ?_
      refine ops_nil ?_
      refine at_then ?_
      refine run_cond (b := (decide (a212 < (x0.length : Int)))) rfl (fun hb223 => ?_) (fun hb223 => ?_)
      · replace ho202 := cond_t hb223 ho202
        refine run_skip ?_
        refine at_then ?_
        refine run_seq ?_
        refine run_block ?_
        refine run_seq ?_
        obtain ⟨e224, ho202⟩ := chk_some ho202
        obtain ⟨t228, h229, ho202⟩ := bind_some ho202
        refine run_region rfl ?_
        refine ops_ex rfl (guard_none rfl) rfl rfl (ex_move rfl rfl) ?_
        refine ops_ex rfl (guard_none rfl) rfl rfl (ex_move rfl rfl) ?_
        obtain ⟨kv226, hc225, hk227⟩ : ∃ u, CellsAt _ (sb p0) (so p0 + (a212).toNat * 4) [(.int .i64 ((gt x0 a212).fValue)), u, (.int .i64 ((gt x0 a212).fRule.fNeed)), (.int .i64 ((gt x0 a212).fRule.fAfter))] ∧ RdS kInt _ u ((gt x0 a212).fRule.fKeys) := rd_with1 hp0 e224
        refine ops_ex rfl (guard_none rfl) rfl rfl (ex_indexAddr (d := kOut) rfl rfl rfl Try.underlying47 tsz141 hp0 (idx_lo e224) (idx_hi e224)) ?_
        refine ops_ex rfl (guard_none rfl) rfl rfl (ex_loadN (cs := [(.int .i64 ((gt x0 a212).fValue)), kv226, (.int .i64 ((gt x0 a212).fRule.fNeed)), (.int .i64 ((gt x0 a212).fRule.fAfter))]) rfl rfl Try.underlying141 rfl tsz141 rfl ((HM.at_ hc225).sub 0 4 rfl)) ?_
        refine ops_ex rfl (guard_none rfl) rfl rfl (ex_move rfl rfl) ?_
        refine ops_does rfl (guard_none rfl) rfl rfl (does_callk rfl callok96 rfl (laws_szOut.calls (x0 := (gt x0 a212)) (x1 := a211) (HM.rd hk227) h229)) ?_
        rintro _ w230 ⟨rfl, hn⟩
        replace HM : Mem w [] w230 [] := HM.call hn
        refine ops_ex rfl (guard_none rfl) rfl rfl (ex_assign rfl rfl) ?_
        refine ops_nil ?_
        refine at_then ?_
        refine run_seq ?_
        refine run_region rfl ?_
        refine ops_ex rfl (guard_none rfl) rfl rfl (ex_move rfl rfl) ?_
        refine ops_ex rfl (guard_none rfl) rfl rfl (ex_lss rfl rfl rfl) ?_
        refine ops_nil ?_
        refine at_then ?_
        refine run_cond (b := (decide (t228 < 0))) rfl (fun hb231 => ?_) (fun hb231 => ?_)
        · replace ho202 := cond_t hb231 ho202
          refine run_seq ?_
          refine run_region rfl ?_
          refine ops_ex rfl (guard_none rfl) rfl rfl (ex_assign rfl rfl) ?_
          refine ops_nil ?_
          refine at_then ?_
          refine run_ret ?_
          refine at_block_ret ?_
          refine at_then_ret ?_
          refine at_then_ret ?_
          refine at_block_ret ?_
          refine at_then_ret ?_
          have hR := Option.some.inj ho202
          subst hR
          have hT := thn_inl H
          have hR := Option.some.inj hT
          subst hR
          exact at_ret1 rfl rfl ⟨_, rfl, rfl, HM⟩
        · replace ho202 := cond_f hb231 ho202
          refine run_skip ?_
          refine at_block ?_
          refine at_then ?_
          refine run_region rfl ?_
          refine ops_ex rfl (guard_none rfl) rfl rfl (ex_move rfl rfl) ?_
          refine ops_ex rfl (guard_none rfl) rfl rfl (ex_add rfl rfl rfl) ?_
          refine ops_ex rfl (guard_none rfl) rfl rfl (ex_assign rfl rfl) ?_
          refine ops_nil ?_
          exact at_again k221 (ρ1 := [(0, p0), (1, .int .i64 t228), (5, .int .i64 (wrap64 (a212 + 1)))]) (Nat.lt_succ_self _) ⟨_, _, ho202, rfl, HM⟩ (Sub.cons rfl (Sub.cons rfl (Sub.cons rfl Sub.nil)))
      · replace ho202 := cond_f hb223 ho202
        refine run_exit ?_
        refine at_then_exit ?_
        refine at_then_exit ?_
        refine at_block_exit ?_
        exact at_mid (ρ' := [(1, .int .i64 a211)]) ⟨_, (Option.some.inj ho202), rfl, HM⟩ (Sub.cons rfl Sub.nil)
    · rintro _ w232 ⟨a200, rfl, rfl, HM⟩
      replace H := (thn_inr H)
      refine run_seq ?_
      refine run_region rfl ?_
      refine ops_ex rfl (guard_none rfl) rfl rfl (ex_move rfl rfl) ?_
      refine ops_ex rfl (guard_none rfl) rfl rfl (ex_assign rfl rfl) ?_
      refine ops_nil ?_
      refine at_then ?_
      refine run_ret ?_
      have hR := Option.some.inj H
      subst hR
      exact at_ret1 rfl rfl ⟨_, rfl, rfl, HM⟩

def laws_toRef.f (k : Nat) (x0 : Ref) : Option Ref := some x0
theorem laws_toRef.calls {k : Nat} {x0 : Ref}  {w : World}  {r : Ref} (H : laws_toRef.f k x0 = some r) :
    Calls Try.prog 125 ([.agg #[(.int .i64 x0.fTx), (.int .i64 x0.fAt)]] : List Value).toArray w (fun e w_ => ∃ v, e = .returned v ∧ v = (.agg #[.int .i64 r.fTx, .int .i64 r.fAt]) ∧ Mem w [] w_ []) := by
  have HM := Mem.start w
  refine calls_run (N := 11) Try.func125 rfl rfl rfl rfl ?_
  unfold laws_toRef.f at H
  refine run_seq ?_
  refine run_region rfl ?_
  refine ops_does rfl (guard_none rfl) rfl rfl (does_box (cs := [.int .i64 x0.fTx, .int .i64 x0.fAt]) rfl rfl rfl HM) ?_
  rintro _ w271 ⟨b265, rfl, HM⟩
  refine ops_does rfl (guard_none rfl) rfl rfl (does_alloc (cs := [.int .i64 0, .int .i64 0]) rfl tz36 rfl HM) ?_
  rintro _ w272 ⟨b268, rfl, HM⟩
  refine ops_nil ?_
  refine at_then ?_
  refine run_seq ?_
  refine run_region rfl ?_
  refine ops_does rfl (guard_none rfl) rfl rfl (does_alloc (cs := [.int .i64 0, .int .i64 0]) rfl tz36 rfl HM) ?_
  rintro _ w276 ⟨b273, rfl, HM⟩
  refine ops_nil ?_
  refine at_then ?_
  refine run_seq ?_
  refine run_region rfl ?_
  refine ops_ex rfl (guard_none rfl) rfl rfl (ex_fieldAddr (off' := 0) rfl rfl Try.underlying114 rfl tsz2 rfl) ?_
  refine ops_ex rfl (guard_none rfl) rfl rfl (ex_load1 rfl rfl Try.underlying2 rfl ((HM.box_at 2 rfl) 0 _ rfl)) ?_
  refine ops_ex rfl (guard_none rfl) rfl rfl (ex_fieldAddr (off' := 0) rfl rfl Try.underlying36 rfl tsz2 rfl) ?_
  refine ops_doesS rfl (guard_none rfl) rfl (does_store (vs := [.int .i64 x0.fTx]) (cs' := [.int .i64 x0.fTx, .int .i64 0]) rfl rfl rfl rfl tsz2 (Ones.int Ones.nil) rfl rfl HM) ?_
  rintro w277 HM
  refine ops_nil ?_
  refine at_then ?_
  refine run_seq ?_
  refine run_region rfl ?_
  refine ops_ex rfl (guard_none rfl) rfl rfl (ex_fieldAddr (off' := 1) rfl rfl Try.underlying114 rfl tsz2 rfl) ?_
  refine ops_ex rfl (guard_none rfl) rfl rfl (ex_load1 rfl rfl Try.underlying2 rfl ((HM.box_at 2 rfl) 1 _ rfl)) ?_
  refine ops_ex rfl (guard_none rfl) rfl rfl (ex_fieldAddr (off' := 1) rfl rfl Try.underlying36 rfl tsz2 rfl) ?_
  refine ops_doesS rfl (guard_none rfl) rfl (does_store (vs := [.int .i64 x0.fAt]) (cs' := [.int .i64 x0.fTx, .int .i64 x0.fAt]) rfl rfl rfl rfl tsz2 (Ones.int Ones.nil) rfl rfl HM) ?_
  rintro w278 HM
  refine ops_nil ?_
  refine at_then ?_
  refine run_seq ?_
  refine run_region rfl ?_
  refine ops_ex rfl (guard_none rfl) rfl rfl (ex_loadN (cs := [(.int .i64 x0.fTx), (.int .i64 x0.fAt)]) rfl rfl Try.underlying36 rfl tsz36 rfl ((HM.box_at 0 rfl).sub 0 2 rfl)) ?_
  replace HM := HM.front 1 rfl rfl
  refine ops_doesS rfl (guard_none rfl) rfl (does_store (vs := [.int .i64 x0.fTx, .int .i64 x0.fAt]) (cs' := [.int .i64 x0.fTx, .int .i64 x0.fAt]) rfl rfl rfl rfl tsz36 (Ones.int (Ones.int Ones.nil)) rfl rfl HM) ?_
  rintro w279 HM
  refine ops_nil ?_
  refine at_then ?_
  refine run_ret ?_
  replace HM := (HM.front 1 rfl rfl).drop
  replace HM := (HM.front 1 rfl rfl).drop
  have hcb0 := HM.box_at 0 rfl
  replace HM := (HM.front 0 rfl rfl).drop
  have hR := Option.some.inj H
  subst hR
  exact at_retN rfl rfl Try.underlying36 rfl tsz36 rfl hcb0 ⟨_, rfl, rfl, HM⟩

def laws_toInt64S.l0 (x0 : List Int) : Nat → (List Int) → Int → Option ((List Int))
  | 0, _, _ => none
  | k + 1, a358, a360 => (bif (decide (a360 < (x0.length : Int))) then (chk (idxOk a360 x0.length) (chk (idxOk a360 a358.length) (laws_toInt64S.l0 x0 k (a358.set (a360).toNat (gt x0 a360)) (wrap64 (a360 + 1))))) else some a358)
theorem laws_toInt64S.l0_z (x0 : List Int) (a358 : List Int) (a360 : Int) : laws_toInt64S.l0 x0 0 a358 a360 = none := rfl
theorem laws_toInt64S.l0_s (x0 : List Int) (k : Nat) (a358 : List Int) (a360 : Int) : laws_toInt64S.l0 x0 (k + 1) a358 a360 = (bif (decide (a360 < (x0.length : Int))) then (chk (idxOk a360 x0.length) (chk (idxOk a360 a358.length) (laws_toInt64S.l0 x0 k (a358.set (a360).toNat (gt x0 a360)) (wrap64 (a360 + 1))))) else some a358) := rfl
def laws_toInt64S.f (k : Nat) (x0 : List Int) : Option ((List Int)) := (chk (decide (0 ≤ (x0.length : Int))) (chk (leB (((x0.length : Int)).toNat * 8) 281474976710656) ((laws_toInt64S.l0 x0 k (List.replicate ((x0.length : Int)).toNat 0) 0).bind (fun a349 => some a349))))
theorem laws_toInt64S.calls {k : Nat} {x0 : List Int} {p0 : Value} {w : World} (hp0 : RdS kInt w p0 x0) {r : (List Int)} (H : laws_toInt64S.f k x0 = some r) :
    Calls Try.prog 161 ([p0] : List Value).toArray w (fun e w_ => ∃ v, e = .returned v ∧ ∃ u0 : Value, v = u0 ∧ Mem w [] w_ [own kInt 2 u0 r]) := by
  have HM := Mem.start w
  refine calls_run (N := 22) Try.func161 rfl rfl rfl rfl ?_
  unfold laws_toInt64S.f at H
  refine run_seq ?_
  refine run_region rfl ?_
  refine ops_ex rfl (guard_none rfl) rfl rfl (ex_assign rfl rfl) ?_
  refine ops_nil ?_
  refine at_then ?_
  refine run_seq ?_
  obtain ⟨e329, H⟩ := chk_some H
  obtain ⟨e330, H⟩ := chk_some H
  refine run_region rfl ?_
  refine ops_ex rfl (guard_none rfl) rfl rfl (ex_move rfl rfl) ?_
  refine ops_ex rfl (guard_none rfl) rfl rfl (ex_len (d := kInt) (xs := x0) rfl rfl Try.underlying39 hp0) ?_
  refine ops_does rfl (guard_none rfl) rfl rfl (does_make (x := 0) kInt rfl rfl rfl Try.underlying39 tsz2 tby2 tz2 rfl rfl (fun _ => ⟨rfl, rfl⟩) (of_decide_eq_true e329) rfl (leB_le e330) rfl HM) ?_
  rintro v326 w331 HM
  refine ops_ex rfl (guard_none rfl) rfl rfl (ex_assign rfl rfl) ?_
  refine ops_nil ?_
  refine at_then ?_
  obtain ⟨o351, ho352, H⟩ := bind_some H
  refine run_mid (fun ρ_ w_ => ∃ v348 : Value, ∃ a349 : List Int, a349 = o351 ∧ ρ_ = [(3, v348)] ∧ Mem w [] w_ [own kInt 2 v348 a349]) ?_ ?_
  · clear H
    refine run_seq ?_
    refine run_region rfl ?_
    refine ops_ex rfl (guard_none rfl) rfl rfl (ex_assign rfl rfl) ?_
    refine ops_nil ?_
    refine at_then ?_
    refine run_block ?_
    refine run_loop (fun k_ ρ_ w_ => ∃ v357 : Value, ∃ a358 : List Int, ∃ a360 : Int, laws_toInt64S.l0 x0 k_ a358 a360 = some o351 ∧ ρ_ = [(0, p0), (3, v357), (4, .int .i64 a360)] ∧ Mem w [] w_ [own kInt 2 v357 a358]) k (ρ1 := [(0, p0), (3, v326), (4, .int .i64 0)]) ⟨_, _, _, ho352, rfl, HM⟩ (Sub.cons rfl (Sub.cons rfl (Sub.cons rfl Sub.nil))) ?_
    clear HM ho352
    rintro k365 _ w366 ⟨v357, a358, a360, ho352, rfl, HM⟩
    obtain _ | k365 := k365
    · exact nomatch ((laws_toInt64S.l0_z x0 a358 a360).symm.trans ho352)
    replace ho352 := (laws_toInt64S.l0_s x0 k365 a358 a360).symm.trans ho352
    refine run_seq ?_
    refine run_seq ?_
    refine run_region rfl ?_
    refine ops_ex rfl (guard_none rfl) rfl rfl (ex_move rfl rfl) ?_
    refine ops_ex rfl (guard_none rfl) rfl rfl (ex_move rfl rfl) ?_
    refine ops_ex rfl (guard_none rfl) rfl rfl (ex_len (d := kInt) (xs := x0) rfl rfl Try.underlying39 hp0) ?_
    refine ops_ex rfl (guard_none rfl) rfl rfl (ex_lss rfl rfl rfl) ?_
    refine ops_nil ?_
    refine at_then ?_
    refine run_cond (b := (decide (a360 < (x0.length : Int)))) rfl (fun hb367 => ?_) (fun hb367 => ?_)
    · replace ho352 := cond_t hb367 ho352
      refine run_skip ?_
      refine at_then ?_
      refine run_seq ?_
      refine run_block ?_
      obtain ⟨e368, ho352⟩ := chk_some ho352
      obtain ⟨e370, ho352⟩ := chk_some ho352
      refine run_region rfl ?_
      refine ops_ex rfl (guard_none rfl) rfl rfl (ex_move rfl rfl) ?_
      refine ops_ex rfl (guard_none rfl) rfl rfl (ex_move rfl rfl) ?_
      refine ops_ex rfl (guard_none rfl) rfl rfl (ex_move rfl rfl) ?_
      refine ops_ex rfl (guard_none rfl) rfl rfl (ex_move rfl rfl) ?_
      have hc369 : CellsAt _ (sb p0) (so p0 + (a360).toNat * 1) [(.int .i64 (gt x0 a360))] := rd_plain hp0 e368
      refine ops_ex rfl (guard_none rfl) rfl rfl (ex_indexAddr (d := kInt) rfl rfl rfl Try.underlying39 tsz2 hp0 (idx_lo e368) (idx_hi e368)) ?_
      refine ops_ex rfl (guard_none rfl) rfl rfl (ex_load1 rfl rfl Try.underlying2 rfl ((HM.at_ hc369) 0 _ rfl)) ?_
      refine ops_ex rfl (guard_none rfl) rfl rfl (ex_indexAddr (d := kInt) rfl rfl rfl Try.underlying39 tsz2 (HM.own_rd 0 rfl) (idx_lo e370) (idx_hi e370)) ?_
      refine ops_doesS rfl (guard_none rfl) rfl (does_setElem (vs := [(.int .i64 (gt x0 a360))]) (y := (gt x0 a360)) kInt rfl rfl rfl rfl rfl tsz2 rfl rfl (idx_nat e370) (fun _ _ h => ⟨rfl, h⟩) (HM.emp.front 1 rfl rfl)) ?_
      rintro w371 HM
      refine ops_nil ?_
      refine at_block ?_
      refine at_then ?_
      refine run_region rfl ?_
      refine ops_ex rfl (guard_none rfl) rfl rfl (ex_move rfl rfl) ?_
      refine ops_ex rfl (guard_none rfl) rfl rfl (ex_add rfl rfl rfl) ?_
      refine ops_ex rfl (guard_none rfl) rfl rfl (ex_assign rfl rfl) ?_
      refine ops_nil ?_
      exact at_again k365 (ρ1 := [(0, p0), (3, v357), (4, .int .i64 (wrap64 (a360 + 1)))]) (Nat.lt_succ_self _) ⟨_, _, _, ho352, rfl, HM⟩ (Sub.cons rfl (Sub.cons rfl (Sub.cons rfl Sub.nil)))
    · replace ho352 := cond_f hb367 ho352
      refine run_exit ?_
      refine at_then_exit ?_
      refine at_then_exit ?_
      refine at_block_exit ?_
      exact at_mid (ρ' := [(3, v357)]) ⟨_, _, (Option.some.inj ho352), rfl, HM⟩ (Sub.cons rfl Sub.nil)
  · rintro _ w372 ⟨v348, a349, rfl, rfl, HM⟩
    refine run_seq ?_
    refine run_region rfl ?_
    refine ops_ex rfl (guard_none rfl) rfl rfl (ex_move rfl rfl) ?_
    refine ops_ex rfl (guard_none rfl) rfl rfl (ex_assign rfl rfl) ?_
    refine ops_nil ?_
    refine at_then ?_
    refine run_ret ?_
    have hR := Option.some.inj H
    subst hR
    exact at_ret1 rfl rfl ⟨_, rfl, _, rfl, HM⟩

def laws_toRule.f (k : Nat) (x0 : Rule) : Option Rule := ((laws_toInt64S.f k x0.fKeys).bind fun t389 => some (⟨t389, x0.fNeed, x0.fAfter⟩ : Rule))
theorem laws_toRule.calls {k : Nat} {x0 : Rule} {p0_0 : Value} {w : World} (hp0_0 : RdS kInt w p0_0 x0.fKeys) {r : Rule} (H : laws_toRule.f k x0 = some r) :
    Calls Try.prog 145 ([.agg #[p0_0, (.int .i64 x0.fNeed), (.int .i64 x0.fAfter)]] : List Value).toArray w (fun e w_ => ∃ v, e = .returned v ∧ ∃ u0 : Value, v = (.agg #[u0, .int .i64 r.fNeed, .int .i64 r.fAfter]) ∧ Mem w [] w_ [own kInt 2 u0 r.fKeys]) := by
  have HM := Mem.start w
  refine calls_run (N := 15) Try.func145 rfl rfl rfl rfl ?_
  unfold laws_toRule.f at H
  refine run_seq ?_
  refine run_region rfl ?_
  refine ops_does rfl (guard_none rfl) rfl rfl (does_box (cs := [p0_0, .int .i64 x0.fNeed, .int .i64 x0.fAfter]) rfl rfl rfl HM) ?_
  rintro _ w383 ⟨b377, rfl, HM⟩
  refine ops_does rfl (guard_none rfl) rfl rfl (does_alloc (cs := [.slice none 0 0, .int .i64 0, .int .i64 0]) rfl tz67 rfl HM) ?_
  rintro _ w384 ⟨b380, rfl, HM⟩
  refine ops_nil ?_
  refine at_then ?_
  refine run_seq ?_
  refine run_region rfl ?_
  refine ops_does rfl (guard_none rfl) rfl rfl (does_alloc (cs := [.slice none 0 0, .int .i64 0, .int .i64 0]) rfl tz67 rfl HM) ?_
  rintro _ w388 ⟨b385, rfl, HM⟩
  refine ops_nil ?_
  refine at_then ?_
  refine run_seq ?_
  obtain ⟨t389, h390, H⟩ := bind_some H
  refine run_region rfl ?_
  refine ops_ex rfl (guard_none rfl) rfl rfl (ex_fieldAddr (off' := 0) rfl rfl Try.underlying139 rfl tsz39 rfl) ?_
  refine ops_ex rfl (guard_none rfl) rfl rfl (ex_load1 rfl rfl Try.underlying39 rfl ((HM.box_at 2 rfl) 0 _ rfl)) ?_
  refine ops_does rfl (guard_none rfl) rfl rfl (does_callk rfl callok161 rfl (laws_toInt64S.calls (x0 := x0.fKeys) (HM.rd hp0_0) h390)) ?_
  rintro u391 w393 ⟨_, rfl, hn⟩
  replace HM : Mem w [] w393 [own kInt 2 u391 t389, box b385 67 [.slice none 0 0, .int .i64 0, .int .i64 0], box b380 67 [.slice none 0 0, .int .i64 0, .int .i64 0], box b377 139 [p0_0, .int .i64 x0.fNeed, .int .i64 x0.fAfter]] := HM.call hn
  refine ops_ex rfl (guard_none rfl) rfl rfl (ex_fieldAddr (off' := 0) rfl rfl Try.underlying67 rfl tsz39 rfl) ?_
  replace HM := HM.front 1 rfl rfl
  refine ops_doesS rfl (guard_none rfl) rfl (does_store (vs := [u391]) (cs' := [u391, .int .i64 0, .int .i64 0]) rfl rfl rfl (rd_cells (HM.own_rd 1 rfl)) tsz39 (Ones.rd (HM.own_rd 1 rfl) Ones.nil) rfl rfl HM) ?_
  rintro w394 HM
  refine ops_nil ?_
  refine at_then ?_
  refine run_seq ?_
  refine run_region rfl ?_
  refine ops_ex rfl (guard_none rfl) rfl rfl (ex_fieldAddr (off' := 1) rfl rfl Try.underlying139 rfl tsz2 rfl) ?_
  refine ops_ex rfl (guard_none rfl) rfl rfl (ex_load1 rfl rfl Try.underlying2 rfl ((HM.box_at 3 rfl) 1 _ rfl)) ?_
  refine ops_ex rfl (guard_none rfl) rfl rfl (ex_fieldAddr (off' := 1) rfl rfl Try.underlying67 rfl tsz2 rfl) ?_
  refine ops_doesS rfl (guard_none rfl) rfl (does_store (vs := [.int .i64 x0.fNeed]) (cs' := [u391, .int .i64 x0.fNeed, .int .i64 0]) rfl rfl rfl rfl tsz2 (Ones.int Ones.nil) rfl rfl HM) ?_
  rintro w395 HM
  refine ops_nil ?_
  refine at_then ?_
  refine run_seq ?_
  refine run_region rfl ?_
  refine ops_ex rfl (guard_none rfl) rfl rfl (ex_fieldAddr (off' := 2) rfl rfl Try.underlying139 rfl tsz2 rfl) ?_
  refine ops_ex rfl (guard_none rfl) rfl rfl (ex_load1 rfl rfl Try.underlying2 rfl ((HM.box_at 3 rfl) 2 _ rfl)) ?_
  refine ops_ex rfl (guard_none rfl) rfl rfl (ex_fieldAddr (off' := 2) rfl rfl Try.underlying67 rfl tsz2 rfl) ?_
  refine ops_doesS rfl (guard_none rfl) rfl (does_store (vs := [.int .i64 x0.fAfter]) (cs' := [u391, .int .i64 x0.fNeed, .int .i64 x0.fAfter]) rfl rfl rfl rfl tsz2 (Ones.int Ones.nil) rfl rfl HM) ?_
  rintro w396 HM
  refine ops_nil ?_
  refine at_then ?_
  refine run_seq ?_
  refine run_region rfl ?_
  refine ops_ex rfl (guard_none rfl) rfl rfl (ex_loadN (cs := [u391, (.int .i64 x0.fNeed), (.int .i64 x0.fAfter)]) rfl rfl Try.underlying67 rfl tsz67 rfl ((HM.box_at 0 rfl).sub 0 3 rfl)) ?_
  replace HM := HM.front 2 rfl rfl
  refine ops_doesS rfl (guard_none rfl) rfl (does_store (vs := [u391, .int .i64 x0.fNeed, .int .i64 x0.fAfter]) (cs' := [u391, .int .i64 x0.fNeed, .int .i64 x0.fAfter]) rfl rfl rfl rfl tsz67 (Ones.rd (HM.own_rd 2 rfl) (Ones.int (Ones.int Ones.nil))) rfl rfl HM) ?_
  rintro w397 HM
  refine ops_nil ?_
  refine at_then ?_
  refine run_ret ?_
  replace HM := (HM.front 1 rfl rfl).drop
  replace HM := (HM.front 2 rfl rfl).drop
  have hcb0 := HM.box_at 0 rfl
  replace HM := (HM.front 0 rfl rfl).drop
  have hR := Option.some.inj H
  subst hR
  exact at_retN rfl rfl Try.underlying67 rfl tsz67 rfl hcb0 ⟨_, rfl, _, rfl, HM⟩

def laws_toOut.f (k : Nat) (x0 : Out) : Option Out := ((laws_toRule.f k x0.fRule).bind fun t415 => some (⟨x0.fValue, t415⟩ : Out))
theorem laws_toOut.calls {k : Nat} {x0 : Out} {p0_0 : Value} {w : World} (hp0_0 : RdS kInt w p0_0 x0.fRule.fKeys) {r : Out} (H : laws_toOut.f k x0 = some r) :
    Calls Try.prog 98 ([.agg #[(.int .i64 x0.fValue), p0_0, (.int .i64 x0.fRule.fNeed), (.int .i64 x0.fRule.fAfter)]] : List Value).toArray w (fun e w_ => ∃ v, e = .returned v ∧ ∃ u0 : Value, v = (.agg #[.int .i64 r.fValue, u0, .int .i64 r.fRule.fNeed, .int .i64 r.fRule.fAfter]) ∧ Mem w [] w_ [own kInt 2 u0 r.fRule.fKeys]) := by
  have HM := Mem.start w
  refine calls_run (N := 12) Try.func98 rfl rfl rfl rfl ?_
  unfold laws_toOut.f at H
  refine run_seq ?_
  refine run_region rfl ?_
  refine ops_does rfl (guard_none rfl) rfl rfl (does_box (cs := [.int .i64 x0.fValue, p0_0, .int .i64 x0.fRule.fNeed, .int .i64 x0.fRule.fAfter]) rfl rfl rfl HM) ?_
  rintro _ w408 ⟨b402, rfl, HM⟩
  refine ops_does rfl (guard_none rfl) rfl rfl (does_alloc (cs := [.int .i64 0, .slice none 0 0, .int .i64 0, .int .i64 0]) rfl tz69 rfl HM) ?_
  rintro _ w409 ⟨b405, rfl, HM⟩
  refine ops_nil ?_
  refine at_then ?_
  refine run_seq ?_
  refine run_region rfl ?_
  refine ops_does rfl (guard_none rfl) rfl rfl (does_alloc (cs := [.int .i64 0, .slice none 0 0, .int .i64 0, .int .i64 0]) rfl tz69 rfl HM) ?_
  rintro _ w413 ⟨b410, rfl, HM⟩
  refine ops_nil ?_
  refine at_then ?_
  refine run_seq ?_
  refine run_region rfl ?_
  refine ops_ex rfl (guard_none rfl) rfl rfl (ex_fieldAddr (off' := 0) rfl rfl Try.underlying141 rfl tsz2 rfl) ?_
  refine ops_ex rfl (guard_none rfl) rfl rfl (ex_load1 rfl rfl Try.underlying2 rfl ((HM.box_at 2 rfl) 0 _ rfl)) ?_
  refine ops_ex rfl (guard_none rfl) rfl rfl (ex_fieldAddr (off' := 0) rfl rfl Try.underlying69 rfl tsz2 rfl) ?_
  refine ops_doesS rfl (guard_none rfl) rfl (does_store (vs := [.int .i64 x0.fValue]) (cs' := [.int .i64 x0.fValue, .slice none 0 0, .int .i64 0, .int .i64 0]) rfl rfl rfl rfl tsz2 (Ones.int Ones.nil) rfl rfl HM) ?_
  rintro w414 HM
  refine ops_nil ?_
  refine at_then ?_
  refine run_seq ?_
  obtain ⟨t415, h416, H⟩ := bind_some H
  refine run_region rfl ?_
  refine ops_ex rfl (guard_none rfl) rfl rfl (ex_fieldAddr (off' := 1) rfl rfl Try.underlying141 rfl tsz139 rfl) ?_
  refine ops_ex rfl (guard_none rfl) rfl rfl (ex_loadN (cs := [p0_0, (.int .i64 x0.fRule.fNeed), (.int .i64 x0.fRule.fAfter)]) rfl rfl Try.underlying139 rfl tsz139 rfl ((HM.box_at 2 rfl).sub 1 3 rfl)) ?_
  refine ops_does rfl (guard_none rfl) rfl rfl (does_callk rfl callok145 rfl (laws_toRule.calls (x0 := x0.fRule) (HM.rd hp0_0) h416)) ?_
  rintro _ w419 ⟨u417, rfl, hn⟩
  replace HM : Mem w [] w419 [own kInt 2 u417 t415.fKeys, box b410 69 [.int .i64 x0.fValue, .slice none 0 0, .int .i64 0, .int .i64 0], box b405 69 [.int .i64 0, .slice none 0 0, .int .i64 0, .int .i64 0], box b402 141 [.int .i64 x0.fValue, p0_0, .int .i64 x0.fRule.fNeed, .int .i64 x0.fRule.fAfter]] := HM.call hn
  refine ops_ex rfl (guard_none rfl) rfl rfl (ex_fieldAddr (off' := 1) rfl rfl Try.underlying69 rfl tsz67 rfl) ?_
  replace HM := HM.front 1 rfl rfl
  refine ops_doesS rfl (guard_none rfl) rfl (does_store (vs := [u417, .int .i64 t415.fNeed, .int .i64 t415.fAfter]) (cs' := [.int .i64 x0.fValue, u417, .int .i64 t415.fNeed, .int .i64 t415.fAfter]) rfl rfl rfl rfl tsz67 (Ones.rd (HM.own_rd 1 rfl) (Ones.int (Ones.int Ones.nil))) rfl rfl HM) ?_
  rintro w420 HM
  refine ops_nil ?_
  refine at_then ?_
  refine run_seq ?_
  refine run_region rfl ?_
  refine ops_ex rfl (guard_none rfl) rfl rfl (ex_loadN (cs := [(.int .i64 x0.fValue), u417, (.int .i64 t415.fNeed), (.int .i64 t415.fAfter)]) rfl rfl Try.underlying69 rfl tsz69 rfl ((HM.box_at 0 rfl).sub 0 4 rfl)) ?_
  replace HM := HM.front 2 rfl rfl
  refine ops_doesS rfl (guard_none rfl) rfl (does_store (vs := [.int .i64 x0.fValue, u417, .int .i64 t415.fNeed, .int .i64 t415.fAfter]) (cs' := [.int .i64 x0.fValue, u417, .int .i64 t415.fNeed, .int .i64 t415.fAfter]) rfl rfl rfl rfl tsz69 (Ones.int (Ones.rd (HM.own_rd 2 rfl) (Ones.int (Ones.int Ones.nil)))) rfl rfl HM) ?_
  rintro w421 HM
  refine ops_nil ?_
  refine at_then ?_
  refine run_ret ?_
  replace HM := (HM.front 1 rfl rfl).drop
  replace HM := (HM.front 2 rfl rfl).drop
  have hcb0 := HM.box_at 0 rfl
  replace HM := (HM.front 0 rfl rfl).drop
  have hR := Option.some.inj H
  subst hR
  exact at_retN rfl rfl Try.underlying69 rfl tsz69 rfl hcb0 ⟨_, rfl, _, rfl, HM⟩

def laws_toCoin.f (k : Nat) (x0 : Coin) : Option Coin := ((laws_toRef.f k x0.fRef).bind fun t438 => ((laws_toOut.f k x0.fOut).bind fun t442 => some (⟨t438, t442, x0.fHeight, x0.fMined⟩ : Coin)))
theorem laws_toCoin.calls {k : Nat} {x0 : Coin} {p0_0 : Value} {w : World} (hp0_0 : RdS kInt w p0_0 x0.fOut.fRule.fKeys) {r : Coin} (H : laws_toCoin.f k x0 = some r) :
    Calls Try.prog 97 ([.agg #[(.int .i64 x0.fRef.fTx), (.int .i64 x0.fRef.fAt), (.int .i64 x0.fOut.fValue), p0_0, (.int .i64 x0.fOut.fRule.fNeed), (.int .i64 x0.fOut.fRule.fAfter), (.int .i64 x0.fHeight), (.bool x0.fMined)]] : List Value).toArray w (fun e w_ => ∃ v, e = .returned v ∧ ∃ u0 : Value, v = (.agg #[.int .i64 r.fRef.fTx, .int .i64 r.fRef.fAt, .int .i64 r.fOut.fValue, u0, .int .i64 r.fOut.fRule.fNeed, .int .i64 r.fOut.fRule.fAfter, .int .i64 r.fHeight, .bool r.fMined]) ∧ Mem w [] w_ [own kInt 2 u0 r.fOut.fRule.fKeys]) := by
  have HM := Mem.start w
  refine calls_run (N := 19) Try.func97 rfl rfl rfl rfl ?_
  unfold laws_toCoin.f at H
  refine run_seq ?_
  refine run_region rfl ?_
  refine ops_does rfl (guard_none rfl) rfl rfl (does_box (cs := [.int .i64 x0.fRef.fTx, .int .i64 x0.fRef.fAt, .int .i64 x0.fOut.fValue, p0_0, .int .i64 x0.fOut.fRule.fNeed, .int .i64 x0.fOut.fRule.fAfter, .int .i64 x0.fHeight, .bool x0.fMined]) rfl rfl rfl HM) ?_
  rintro _ w432 ⟨b426, rfl, HM⟩
  refine ops_does rfl (guard_none rfl) rfl rfl (does_alloc (cs := [.int .i64 0, .int .i64 0, .int .i64 0, .slice none 0 0, .int .i64 0, .int .i64 0, .int .i64 0, .bool false]) rfl tz72 rfl HM) ?_
  rintro _ w433 ⟨b429, rfl, HM⟩
  refine ops_nil ?_
  refine at_then ?_
  refine run_seq ?_
  refine run_region rfl ?_
  refine ops_does rfl (guard_none rfl) rfl rfl (does_alloc (cs := [.int .i64 0, .int .i64 0, .int .i64 0, .slice none 0 0, .int .i64 0, .int .i64 0, .int .i64 0, .bool false]) rfl tz72 rfl HM) ?_
  rintro _ w437 ⟨b434, rfl, HM⟩
  refine ops_nil ?_
  refine at_then ?_
  refine run_seq ?_
  obtain ⟨t438, h439, H⟩ := bind_some H
  refine run_region rfl ?_
  refine ops_ex rfl (guard_none rfl) rfl rfl (ex_fieldAddr (off' := 0) rfl rfl Try.underlying143 rfl tsz114 rfl) ?_
  refine ops_ex rfl (guard_none rfl) rfl rfl (ex_loadN (cs := [(.int .i64 x0.fRef.fTx), (.int .i64 x0.fRef.fAt)]) rfl rfl Try.underlying114 rfl tsz114 rfl ((HM.box_at 2 rfl).sub 0 2 rfl)) ?_
  refine ops_does rfl (guard_none rfl) rfl rfl (does_callk rfl callok125 rfl (laws_toRef.calls (x0 := x0.fRef) h439)) ?_
  rintro _ w440 ⟨rfl, hn⟩
  replace HM : Mem w [] w440 [box b434 72 [.int .i64 0, .int .i64 0, .int .i64 0, .slice none 0 0, .int .i64 0, .int .i64 0, .int .i64 0, .bool false], box b429 72 [.int .i64 0, .int .i64 0, .int .i64 0, .slice none 0 0, .int .i64 0, .int .i64 0, .int .i64 0, .bool false], box b426 143 [.int .i64 x0.fRef.fTx, .int .i64 x0.fRef.fAt, .int .i64 x0.fOut.fValue, p0_0, .int .i64 x0.fOut.fRule.fNeed, .int .i64 x0.fOut.fRule.fAfter, .int .i64 x0.fHeight, .bool x0.fMined]] := HM.call hn
  refine ops_ex rfl (guard_none rfl) rfl rfl (ex_fieldAddr (off' := 0) rfl rfl Try.underlying72 rfl tsz36 rfl) ?_
  refine ops_doesS rfl (guard_none rfl) rfl (does_store (vs := [.int .i64 t438.fTx, .int .i64 t438.fAt]) (cs' := [.int .i64 t438.fTx, .int .i64 t438.fAt, .int .i64 0, .slice none 0 0, .int .i64 0, .int .i64 0, .int .i64 0, .bool false]) rfl rfl rfl rfl tsz36 (Ones.int (Ones.int Ones.nil)) rfl rfl HM) ?_
  rintro w441 HM
  refine ops_nil ?_
  refine at_then ?_
  refine run_seq ?_
  obtain ⟨t442, h443, H⟩ := bind_some H
  refine run_region rfl ?_
  refine ops_ex rfl (guard_none rfl) rfl rfl (ex_fieldAddr (off' := 2) rfl rfl Try.underlying143 rfl tsz141 rfl) ?_
  refine ops_ex rfl (guard_none rfl) rfl rfl (ex_loadN (cs := [(.int .i64 x0.fOut.fValue), p0_0, (.int .i64 x0.fOut.fRule.fNeed), (.int .i64 x0.fOut.fRule.fAfter)]) rfl rfl Try.underlying141 rfl tsz141 rfl ((HM.box_at 2 rfl).sub 2 4 rfl)) ?_
  refine ops_does rfl (guard_none rfl) rfl rfl (does_callk rfl callok98 rfl (laws_toOut.calls (x0 := x0.fOut) (HM.rd hp0_0) h443)) ?_
  rintro _ w446 ⟨u444, rfl, hn⟩
  replace HM : Mem w [] w446 [own kInt 2 u444 t442.fRule.fKeys, box b434 72 [.int .i64 t438.fTx, .int .i64 t438.fAt, .int .i64 0, .slice none 0 0, .int .i64 0, .int .i64 0, .int .i64 0, .bool false], box b429 72 [.int .i64 0, .int .i64 0, .int .i64 0, .slice none 0 0, .int .i64 0, .int .i64 0, .int .i64 0, .bool false], box b426 143 [.int .i64 x0.fRef.fTx, .int .i64 x0.fRef.fAt, .int .i64 x0.fOut.fValue, p0_0, .int .i64 x0.fOut.fRule.fNeed, .int .i64 x0.fOut.fRule.fAfter, .int .i64 x0.fHeight, .bool x0.fMined]] := HM.call hn
  refine ops_ex rfl (guard_none rfl) rfl rfl (ex_fieldAddr (off' := 2) rfl rfl Try.underlying72 rfl tsz69 rfl) ?_
  replace HM := HM.front 1 rfl rfl
  refine ops_doesS rfl (guard_none rfl) rfl (does_store (vs := [.int .i64 t442.fValue, u444, .int .i64 t442.fRule.fNeed, .int .i64 t442.fRule.fAfter]) (cs' := [.int .i64 t438.fTx, .int .i64 t438.fAt, .int .i64 t442.fValue, u444, .int .i64 t442.fRule.fNeed, .int .i64 t442.fRule.fAfter, .int .i64 0, .bool false]) rfl rfl rfl rfl tsz69 (Ones.int (Ones.rd (HM.own_rd 1 rfl) (Ones.int (Ones.int Ones.nil)))) rfl rfl HM) ?_
  rintro w447 HM
  refine ops_nil ?_
  refine at_then ?_
  refine run_seq ?_
  refine run_region rfl ?_
  refine ops_ex rfl (guard_none rfl) rfl rfl (ex_fieldAddr (off' := 6) rfl rfl Try.underlying143 rfl tsz2 rfl) ?_
  refine ops_ex rfl (guard_none rfl) rfl rfl (ex_load1 rfl rfl Try.underlying2 rfl ((HM.box_at 3 rfl) 6 _ rfl)) ?_
  refine ops_ex rfl (guard_none rfl) rfl rfl (ex_fieldAddr (off' := 6) rfl rfl Try.underlying72 rfl tsz2 rfl) ?_
  refine ops_doesS rfl (guard_none rfl) rfl (does_store (vs := [.int .i64 x0.fHeight]) (cs' := [.int .i64 t438.fTx, .int .i64 t438.fAt, .int .i64 t442.fValue, u444, .int .i64 t442.fRule.fNeed, .int .i64 t442.fRule.fAfter, .int .i64 x0.fHeight, .bool false]) rfl rfl rfl rfl tsz2 (Ones.int Ones.nil) rfl rfl HM) ?_
  rintro w448 HM
  refine ops_nil ?_
  refine at_then ?_
  refine run_seq ?_
  refine run_region rfl ?_
  refine ops_ex rfl (guard_none rfl) rfl rfl (ex_fieldAddr (off' := 7) rfl rfl Try.underlying143 rfl tsz4 rfl) ?_
  refine ops_ex rfl (guard_none rfl) rfl rfl (ex_load1 rfl rfl Try.underlying4 rfl ((HM.box_at 3 rfl) 7 _ rfl)) ?_
  refine ops_ex rfl (guard_none rfl) rfl rfl (ex_fieldAddr (off' := 7) rfl rfl Try.underlying72 rfl tsz4 rfl) ?_
  refine ops_doesS rfl (guard_none rfl) rfl (does_store (vs := [.bool x0.fMined]) (cs' := [.int .i64 t438.fTx, .int .i64 t438.fAt, .int .i64 t442.fValue, u444, .int .i64 t442.fRule.fNeed, .int .i64 t442.fRule.fAfter, .int .i64 x0.fHeight, .bool x0.fMined]) rfl rfl rfl rfl tsz4 (Ones.bool Ones.nil) rfl rfl HM) ?_
  rintro w449 HM
  refine ops_nil ?_
  refine at_then ?_
  refine run_seq ?_
  refine run_region rfl ?_
  refine ops_ex rfl (guard_none rfl) rfl rfl (ex_loadN (cs := [(.int .i64 t438.fTx), (.int .i64 t438.fAt), (.int .i64 t442.fValue), u444, (.int .i64 t442.fRule.fNeed), (.int .i64 t442.fRule.fAfter), (.int .i64 x0.fHeight), (.bool x0.fMined)]) rfl rfl Try.underlying72 rfl tsz72 rfl ((HM.box_at 0 rfl).sub 0 8 rfl)) ?_
  replace HM := HM.front 2 rfl rfl
  refine ops_doesS rfl (guard_none rfl) rfl (does_store (vs := [.int .i64 t438.fTx, .int .i64 t438.fAt, .int .i64 t442.fValue, u444, .int .i64 t442.fRule.fNeed, .int .i64 t442.fRule.fAfter, .int .i64 x0.fHeight, .bool x0.fMined]) (cs' := [.int .i64 t438.fTx, .int .i64 t438.fAt, .int .i64 t442.fValue, u444, .int .i64 t442.fRule.fNeed, .int .i64 t442.fRule.fAfter, .int .i64 x0.fHeight, .bool x0.fMined]) rfl rfl rfl rfl tsz72 (Ones.int (Ones.int (Ones.int (Ones.rd (HM.own_rd 2 rfl) (Ones.int (Ones.int (Ones.int (Ones.bool Ones.nil)))))))) rfl rfl HM) ?_
  rintro w450 HM
  refine ops_nil ?_
  refine at_then ?_
  refine run_ret ?_
  replace HM := (HM.front 1 rfl rfl).drop
  replace HM := (HM.front 2 rfl rfl).drop
  have hcb0 := HM.box_at 0 rfl
  replace HM := (HM.front 0 rfl rfl).drop
  have hR := Option.some.inj H
  subst hR
  exact at_retN rfl rfl Try.underlying72 rfl tsz72 rfl hcb0 ⟨_, rfl, _, rfl, HM⟩

def laws_toCoinS.l0 (x0 : List Coin) : Nat → (List Coin) → Int → Option ((List Coin))
  | 0, _, _ => none
  | k + 1, a541, a543 => (bif (decide (a543 < (x0.length : Int))) then (chk (idxOk a543 x0.length) ((laws_toCoin.f k (gt x0 a543)).bind fun t561 => (chk (idxOk a543 a541.length) (laws_toCoinS.l0 x0 k (a541.set (a543).toNat t561) (wrap64 (a543 + 1)))))) else some a541)
theorem laws_toCoinS.l0_z (x0 : List Coin) (a541 : List Coin) (a543 : Int) : laws_toCoinS.l0 x0 0 a541 a543 = none := rfl
theorem laws_toCoinS.l0_s (x0 : List Coin) (k : Nat) (a541 : List Coin) (a543 : Int) : laws_toCoinS.l0 x0 (k + 1) a541 a543 = (bif (decide (a543 < (x0.length : Int))) then (chk (idxOk a543 x0.length) ((laws_toCoin.f k (gt x0 a543)).bind fun t561 => (chk (idxOk a543 a541.length) (laws_toCoinS.l0 x0 k (a541.set (a543).toNat t561) (wrap64 (a543 + 1)))))) else some a541) := rfl
def laws_toCoinS.f (k : Nat) (x0 : List Coin) : Option ((List Coin)) := (chk (decide (0 ≤ (x0.length : Int))) (chk (leB (((x0.length : Int)).toNat * 80) 281474976710656) ((laws_toCoinS.l0 x0 k (List.replicate ((x0.length : Int)).toNat (⟨(⟨0, 0⟩ : Ref), (⟨0, (⟨[], 0, 0⟩ : Rule)⟩ : Out), 0, false⟩ : Coin)) 0).bind (fun a526 => some a526))))
theorem laws_toCoinS.calls {k : Nat} {x0 : List Coin} {p0 : Value} {w : World} (hp0 : RdS kCoin w p0 x0) {r : (List Coin)} (H : laws_toCoinS.f k x0 = some r) :
    Calls Try.prog 38 ([p0] : List Value).toArray w (fun e w_ => ∃ v, e = .returned v ∧ ∃ u0 : Value, v = u0 ∧ Mem w [] w_ [own kCoin 72 u0 r]) := by
  have HM := Mem.start w
  refine calls_run (N := 23) Try.func38 rfl rfl rfl rfl ?_
  unfold laws_toCoinS.f at H
  refine run_seq ?_
  refine run_region rfl ?_
  refine ops_ex rfl (guard_none rfl) rfl rfl (ex_assign rfl rfl) ?_
  refine ops_nil ?_
  refine at_then ?_
  refine run_seq ?_
  obtain ⟨e488, H⟩ := chk_some H
  obtain ⟨e489, H⟩ := chk_some H
  refine run_region rfl ?_
  refine ops_ex rfl (guard_none rfl) rfl rfl (ex_move rfl rfl) ?_
  refine ops_ex rfl (guard_none rfl) rfl rfl (ex_len (d := kCoin) (xs := x0) rfl rfl Try.underlying80 hp0) ?_
  refine ops_does rfl (guard_none rfl) rfl rfl (does_make (x := (⟨(⟨0, 0⟩ : Ref), (⟨0, (⟨[], 0, 0⟩ : Rule)⟩ : Out), 0, false⟩ : Coin)) kCoin rfl rfl rfl Try.underlying60 tsz72 tby72 tz72 rfl rfl (fun _ => ⟨.slice none 0 0, rfl, OwS.nil _ _ _ _⟩) (of_decide_eq_true e488) rfl (leB_le e489) rfl HM) ?_
  rintro v485 w490 HM
  refine ops_ex rfl (guard_none rfl) rfl rfl (ex_assign rfl rfl) ?_
  refine ops_nil ?_
  refine at_then ?_
  obtain ⟨o528, ho529, H⟩ := bind_some H
  refine run_mid (fun ρ_ w_ => ∃ v525 : Value, ∃ a526 : List Coin, a526 = o528 ∧ ρ_ = [(3, v525)] ∧ Mem w [] w_ [own kCoin 72 v525 a526]) ?_ ?_
  · clear H
    refine run_seq ?_
    refine run_region rfl ?_
    refine ops_ex rfl (guard_none rfl) rfl rfl (ex_assign rfl rfl) ?_
    refine ops_nil ?_
    refine at_then ?_
    refine run_block ?_
    refine run_loop (fun k_ ρ_ w_ => ∃ v540 : Value, ∃ a541 : List Coin, ∃ a543 : Int, laws_toCoinS.l0 x0 k_ a541 a543 = some o528 ∧ ρ_ = [(0, p0), (3, v540), (4, .int .i64 a543)] ∧ Mem w [] w_ [own kCoin 72 v540 a541]) k (ρ1 := [(0, p0), (3, v485), (4, .int .i64 0)]) ⟨_, _, _, ho529, rfl, HM⟩ (Sub.cons rfl (Sub.cons rfl (Sub.cons rfl Sub.nil))) ?_
    clear HM ho529
    rintro k554 _ w555 ⟨v540, a541, a543, ho529, rfl, HM⟩
    obtain _ | k554 := k554
    · exact nomatch ((laws_toCoinS.l0_z x0 a541 a543).symm.trans ho529)
    replace ho529 := (laws_toCoinS.l0_s x0 k554 a541 a543).symm.trans ho529
    refine run_seq ?_
    refine run_seq ?_
    refine run_region rfl ?_
    refine ops_ex rfl (guard_none rfl) rfl rfl (ex_move rfl rfl) ?_
    refine ops_ex rfl (guard_none rfl) rfl rfl (ex_move rfl rfl) ?_
    refine ops_ex rfl (guard_none rfl) rfl rfl (ex_len (d := kCoin) (xs := x0) rfl rfl Try.underlying80 hp0) ?_
    refine ops_ex rfl (guard_none rfl) rfl rfl (ex_lss rfl rfl rfl) ?_
    refine ops_nil ?_
    refine at_then ?_
    refine run_cond (b := (decide (a543 < (x0.length : Int)))) rfl (fun hb556 => ?_) (fun hb556 => ?_)
    · replace ho529 := cond_t hb556 ho529
      refine run_skip ?_
      refine at_then ?_
      refine run_seq ?_
      refine run_block ?_
      obtain ⟨e557, ho529⟩ := chk_some ho529
      obtain ⟨t561, h562, ho529⟩ := bind_some ho529
      obtain ⟨e565, ho529⟩ := chk_some ho529
      refine run_region rfl ?_
      refine ops_ex rfl (guard_none rfl) rfl rfl (ex_move rfl rfl) ?_
      refine ops_ex rfl (guard_none rfl) rfl rfl (ex_move rfl rfl) ?_
      refine ops_ex rfl (guard_none rfl) rfl rfl (ex_move rfl rfl) ?_
      refine ops_ex rfl (guard_none rfl) rfl rfl (ex_move rfl rfl) ?_
      obtain ⟨kv559, hc558, hk560⟩ : ∃ u, CellsAt _ (sb p0) (so p0 + (a543).toNat * 8) [(.int .i64 ((gt x0 a543).fRef.fTx)), (.int .i64 ((gt x0 a543).fRef.fAt)), (.int .i64 ((gt x0 a543).fOut.fValue)), u, (.int .i64 ((gt x0 a543).fOut.fRule.fNeed)), (.int .i64 ((gt x0 a543).fOut.fRule.fAfter)), (.int .i64 ((gt x0 a543).fHeight)), (.bool ((gt x0 a543).fMined))] ∧ RdS kInt _ u ((gt x0 a543).fOut.fRule.fKeys) := rd_with1 hp0 e557
      refine ops_ex rfl (guard_none rfl) rfl rfl (ex_indexAddr (d := kCoin) rfl rfl rfl Try.underlying80 tsz143 hp0 (idx_lo e557) (idx_hi e557)) ?_
      refine ops_ex rfl (guard_none rfl) rfl rfl (ex_loadN (cs := [(.int .i64 ((gt x0 a543).fRef.fTx)), (.int .i64 ((gt x0 a543).fRef.fAt)), (.int .i64 ((gt x0 a543).fOut.fValue)), kv559, (.int .i64 ((gt x0 a543).fOut.fRule.fNeed)), (.int .i64 ((gt x0 a543).fOut.fRule.fAfter)), (.int .i64 ((gt x0 a543).fHeight)), (.bool ((gt x0 a543).fMined))]) rfl rfl Try.underlying143 rfl tsz143 rfl ((HM.at_ hc558).sub 0 8 rfl)) ?_
      refine ops_does rfl (guard_none rfl) rfl rfl (does_callk rfl callok97 rfl (laws_toCoin.calls (x0 := (gt x0 a543)) (HM.rd hk560) h562)) ?_
      rintro _ w566 ⟨u563, rfl, hn⟩
      replace HM : Mem w [] w566 [own kInt 2 u563 t561.fOut.fRule.fKeys, own kCoin 72 v540 a541] := HM.call hn
      refine ops_ex rfl (guard_none rfl) rfl rfl (ex_indexAddr (d := kCoin) rfl rfl rfl Try.underlying60 tsz72 (HM.own_rd 1 rfl) (idx_lo e565) (idx_hi e565)) ?_
      replace HM := HM.front 1 rfl rfl
      refine ops_doesS rfl (guard_none rfl) rfl (does_setElem (vs := [(.int .i64 t561.fRef.fTx), (.int .i64 t561.fRef.fAt), (.int .i64 t561.fOut.fValue), u563, (.int .i64 t561.fOut.fRule.fNeed), (.int .i64 t561.fOut.fRule.fAfter), (.int .i64 t561.fHeight), (.bool t561.fMined)]) (y := t561) kCoin rfl rfl rfl rfl rfl tsz72 rfl rfl (idx_nat e565) (fun _ _ h => ⟨_, rfl, h⟩) HM) ?_
      rintro w567 HM
      refine ops_nil ?_
      refine at_block ?_
      refine at_then ?_
      refine run_region rfl ?_
      refine ops_ex rfl (guard_none rfl) rfl rfl (ex_move rfl rfl) ?_
      refine ops_ex rfl (guard_none rfl) rfl rfl (ex_add rfl rfl rfl) ?_
      refine ops_ex rfl (guard_none rfl) rfl rfl (ex_assign rfl rfl) ?_
      refine ops_nil ?_
      exact at_again k554 (ρ1 := [(0, p0), (3, v540), (4, .int .i64 (wrap64 (a543 + 1)))]) (Nat.lt_succ_self _) ⟨_, _, _, ho529, rfl, HM⟩ (Sub.cons rfl (Sub.cons rfl (Sub.cons rfl Sub.nil)))
    · replace ho529 := cond_f hb556 ho529
      refine run_exit ?_
      refine at_then_exit ?_
      refine at_then_exit ?_
      refine at_block_exit ?_
      exact at_mid (ρ' := [(3, v540)]) ⟨_, _, (Option.some.inj ho529), rfl, HM⟩ (Sub.cons rfl Sub.nil)
  · rintro _ w568 ⟨v525, a526, rfl, rfl, HM⟩
    refine run_seq ?_
    refine run_region rfl ?_
    refine ops_ex rfl (guard_none rfl) rfl rfl (ex_move rfl rfl) ?_
    refine ops_ex rfl (guard_none rfl) rfl rfl (ex_assign rfl rfl) ?_
    refine ops_nil ?_
    refine at_then ?_
    refine run_ret ?_
    have hR := Option.some.inj H
    subst hR
    exact at_ret1 rfl rfl ⟨_, rfl, _, rfl, HM⟩
end Go.Proofs.Ytbbcabpnkdilgaa.Zk
