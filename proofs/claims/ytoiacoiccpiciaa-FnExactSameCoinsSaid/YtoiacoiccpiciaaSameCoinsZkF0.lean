/- What functions of the program compute, each as a plain function, and that they do. Conditions: as each theorem states them. -/
import Derived.Test.YtoiacoiccpiciaaSameCoinsZkTy
namespace Go.Proofs.Ytoiacoiccpiciaa.Zk
open Go Go.RowKit Go.IntWalk Go.Proofs
set_option linter.unusedVariables false
set_option linter.unusedSimpArgs false
set_option maxRecDepth 100000
def laws_szInt64S.f (k : Nat) (x0 : List Int) (x1 : Int) : Option Int := (bif (decide ((wrap64 (x1 - (x0.length : Int))) < 0)) then some (-1) else some (wrap64 (x1 - (x0.length : Int))))
theorem laws_szInt64S.calls {k : Nat} {x0 : List Int} {x1 : Int} {p0 : Value} {w : World} (hp0 : RdS kInt w p0 x0) {r : Int} (H : laws_szInt64S.f k x0 x1 = some r) :
    Calls Try.prog 168 ([p0, .int .i64 x1] : List Value).toArray w (fun e w_ => ∃ v, e = .returned v ∧ v = (.int .i64 r) ∧ Mem w [] w_ []) := by
  have HM := Mem.start w
  refine calls_run (N := 12) Try.func168 rfl rfl rfl rfl ?_
  unfold laws_szInt64S.f at H
  refine run_seq ?_
  refine run_region rfl ?_
  refine ops_ex rfl (guard_none rfl) rfl rfl (ex_assign rfl rfl) ?_
  refine ops_nil ?_
  refine at_then ?_
  refine run_seq ?_
  refine run_region rfl ?_
  refine ops_ex rfl (guard_none rfl) rfl rfl (ex_move rfl rfl) ?_
  refine ops_ex rfl (guard_none rfl) rfl rfl (ex_move rfl rfl) ?_
  refine ops_ex rfl (guard_none rfl) rfl rfl (ex_len (d := kInt) (xs := x0) rfl rfl Try.underlying74 hp0) ?_
  refine ops_ex rfl (guard_none rfl) rfl rfl (ex_sub rfl rfl rfl) ?_
  refine ops_ex rfl (guard_none rfl) rfl rfl (ex_assign rfl rfl) ?_
  refine ops_nil ?_
  refine at_then ?_
  refine run_seq ?_
  refine run_seq ?_
  refine run_region rfl ?_
  refine ops_ex rfl (guard_none rfl) rfl rfl (ex_move rfl rfl) ?_
  refine ops_ex rfl (guard_none rfl) rfl rfl (ex_lss rfl rfl rfl) ?_
  refine ops_nil ?_
  refine at_then ?_
  refine run_cond (b := (decide ((wrap64 (x1 - (x0.length : Int))) < 0))) rfl (fun hb18 => ?_) (fun hb18 => ?_)
  · replace H := cond_t hb18 H
    refine run_seq ?_
    refine run_region rfl ?_
    refine ops_ex rfl (guard_none rfl) rfl rfl (ex_assign rfl rfl) ?_
    refine ops_nil ?_
    refine at_then ?_
    refine run_ret ?_
    refine at_then_ret ?_
    have hR := Option.some.inj H
    subst hR
    exact at_ret1 rfl rfl ⟨_, rfl, rfl, HM⟩
  · replace H := cond_f hb18 H
    refine run_skip ?_
    refine at_then ?_
    refine run_seq ?_
    refine run_region rfl ?_
    refine ops_ex rfl (guard_none rfl) rfl rfl (ex_move rfl rfl) ?_
    refine ops_ex rfl (guard_none rfl) rfl rfl (ex_assign rfl rfl) ?_
    refine ops_nil ?_
    refine at_then ?_
    refine run_ret ?_
    have hR := Option.some.inj H
    subst hR
    exact at_ret1 rfl rfl ⟨_, rfl, rfl, HM⟩

def laws_szRule.f (k : Nat) (x0 : Rule) (x1 : Int) : Option Int := ((laws_szInt64S.f k x0.fKeys x1).bind fun t26 => (bif (decide (t26 < 0)) then some (-1) else some t26))
theorem laws_szRule.calls {k : Nat} {x0 : Rule} {x1 : Int} {p0_0 : Value} {w : World} (hp0_0 : RdS kInt w p0_0 x0.fKeys) {r : Int} (H : laws_szRule.f k x0 x1 = some r) :
    Calls Try.prog 156 ([.agg #[p0_0, (.int .i64 x0.fNeed), (.int .i64 x0.fAfter)], .int .i64 x1] : List Value).toArray w (fun e w_ => ∃ v, e = .returned v ∧ v = (.int .i64 r) ∧ Mem w [] w_ []) := by
  have HM := Mem.start w
  refine calls_run (N := 12) Try.func156 rfl rfl rfl rfl ?_
  unfold laws_szRule.f at H
  refine run_seq ?_
  refine run_region rfl ?_
  refine ops_does rfl (guard_none rfl) rfl rfl (does_box (cs := [p0_0, .int .i64 x0.fNeed, .int .i64 x0.fAfter]) rfl rfl rfl HM) ?_
  rintro _ w25 ⟨b22, rfl, HM⟩
  refine ops_ex rfl (guard_none rfl) rfl rfl (ex_assign rfl rfl) ?_
  refine ops_nil ?_
  refine at_then ?_
  refine run_seq ?_
  obtain ⟨t26, h27, H⟩ := bind_some H
  refine run_region rfl ?_
  refine ops_ex rfl (guard_none rfl) rfl rfl (ex_fieldAddr (off' := 0) rfl rfl Try.underlying94 rfl tsz74 rfl) ?_
  refine ops_ex rfl (guard_none rfl) rfl rfl (ex_load1 rfl rfl Try.underlying74 rfl ((HM.box_at 0 rfl) 0 _ rfl)) ?_
  refine ops_ex rfl (guard_none rfl) rfl rfl (ex_move rfl rfl) ?_
  refine ops_does rfl (guard_none rfl) rfl rfl (does_callk rfl callok168 rfl (laws_szInt64S.calls (x0 := x0.fKeys) (x1 := x1) (HM.rd hp0_0) h27)) ?_
  rintro _ w28 ⟨rfl, hn⟩
  replace HM : Mem w [] w28 [box b22 94 [p0_0, .int .i64 x0.fNeed, .int .i64 x0.fAfter]] := HM.call hn
  refine ops_ex rfl (guard_none rfl) rfl rfl (ex_assign rfl rfl) ?_
  refine ops_nil ?_
  refine at_then ?_
  refine run_seq ?_
  refine run_seq ?_
  refine run_region rfl ?_
  refine ops_ex rfl (guard_none rfl) rfl rfl (ex_move rfl rfl) ?_
  refine ops_ex rfl (guard_none rfl) rfl rfl (ex_lss rfl rfl rfl) ?_
  refine ops_nil ?_
  refine at_then ?_
  refine run_cond (b := (decide (t26 < 0))) rfl (fun hb29 => ?_) (fun hb29 => ?_)
  · replace H := cond_t hb29 H
    refine run_seq ?_
    refine run_region rfl ?_
    refine ops_ex rfl (guard_none rfl) rfl rfl (ex_assign rfl rfl) ?_
    refine ops_nil ?_
    refine at_then ?_
    refine run_ret ?_
    refine at_then_ret ?_
    replace HM := (HM.front 0 rfl rfl).drop
    have hR := Option.some.inj H
    subst hR
    exact at_ret1 rfl rfl ⟨_, rfl, rfl, HM⟩
  · replace H := cond_f hb29 H
    refine run_skip ?_
    refine at_then ?_
    refine run_seq ?_
    refine run_region rfl ?_
    refine ops_ex rfl (guard_none rfl) rfl rfl (ex_move rfl rfl) ?_
    refine ops_ex rfl (guard_none rfl) rfl rfl (ex_assign rfl rfl) ?_
    refine ops_nil ?_
    refine at_then ?_
    refine run_ret ?_
    replace HM := (HM.front 0 rfl rfl).drop
    have hR := Option.some.inj H
    subst hR
    exact at_ret1 rfl rfl ⟨_, rfl, rfl, HM⟩

def laws_szOut.f (k : Nat) (x0 : Out) (x1 : Int) : Option Int := ((laws_szRule.f k x0.fRule x1).bind fun t37 => (bif (decide (t37 < 0)) then some (-1) else some t37))
theorem laws_szOut.calls {k : Nat} {x0 : Out} {x1 : Int} {p0_0 : Value} {w : World} (hp0_0 : RdS kInt w p0_0 x0.fRule.fKeys) {r : Int} (H : laws_szOut.f k x0 x1 = some r) :
    Calls Try.prog 120 ([.agg #[(.int .i64 x0.fValue), p0_0, (.int .i64 x0.fRule.fNeed), (.int .i64 x0.fRule.fAfter)], .int .i64 x1] : List Value).toArray w (fun e w_ => ∃ v, e = .returned v ∧ v = (.int .i64 r) ∧ Mem w [] w_ []) := by
  have HM := Mem.start w
  refine calls_run (N := 12) Try.func120 rfl rfl rfl rfl ?_
  unfold laws_szOut.f at H
  refine run_seq ?_
  refine run_region rfl ?_
  refine ops_does rfl (guard_none rfl) rfl rfl (does_box (cs := [.int .i64 x0.fValue, p0_0, .int .i64 x0.fRule.fNeed, .int .i64 x0.fRule.fAfter]) rfl rfl rfl HM) ?_
  rintro _ w36 ⟨b33, rfl, HM⟩
  refine ops_ex rfl (guard_none rfl) rfl rfl (ex_assign rfl rfl) ?_
  refine ops_nil ?_
  refine at_then ?_
  refine run_seq ?_
  obtain ⟨t37, h38, H⟩ := bind_some H
  refine run_region rfl ?_
  refine ops_ex rfl (guard_none rfl) rfl rfl (ex_fieldAddr (off' := 1) rfl rfl Try.underlying96 rfl tsz94 rfl) ?_
  refine ops_ex rfl (guard_none rfl) rfl rfl (ex_loadN (cs := [p0_0, (.int .i64 x0.fRule.fNeed), (.int .i64 x0.fRule.fAfter)]) rfl rfl Try.underlying94 rfl tsz94 rfl ((HM.box_at 0 rfl).sub 1 3 rfl)) ?_
  refine ops_ex rfl (guard_none rfl) rfl rfl (ex_move rfl rfl) ?_
  refine ops_does rfl (guard_none rfl) rfl rfl (does_callk rfl callok156 rfl (laws_szRule.calls (x0 := x0.fRule) (x1 := x1) (HM.rd hp0_0) h38)) ?_
  rintro _ w39 ⟨rfl, hn⟩
  replace HM : Mem w [] w39 [box b33 96 [.int .i64 x0.fValue, p0_0, .int .i64 x0.fRule.fNeed, .int .i64 x0.fRule.fAfter]] := HM.call hn
  refine ops_ex rfl (guard_none rfl) rfl rfl (ex_assign rfl rfl) ?_
  refine ops_nil ?_
  refine at_then ?_
  refine run_seq ?_
  refine run_seq ?_
  refine run_region rfl ?_
  refine ops_ex rfl (guard_none rfl) rfl rfl (ex_move rfl rfl) ?_
  refine ops_ex rfl (guard_none rfl) rfl rfl (ex_lss rfl rfl rfl) ?_
  refine ops_nil ?_
  refine at_then ?_
  refine run_cond (b := (decide (t37 < 0))) rfl (fun hb40 => ?_) (fun hb40 => ?_)
  · replace H := cond_t hb40 H
    refine run_seq ?_
    refine run_region rfl ?_
    refine ops_ex rfl (guard_none rfl) rfl rfl (ex_assign rfl rfl) ?_
    refine ops_nil ?_
    refine at_then ?_
    refine run_ret ?_
    refine at_then_ret ?_
    replace HM := (HM.front 0 rfl rfl).drop
    have hR := Option.some.inj H
    subst hR
    exact at_ret1 rfl rfl ⟨_, rfl, rfl, HM⟩
  · replace H := cond_f hb40 H
    refine run_skip ?_
    refine at_then ?_
    refine run_seq ?_
    refine run_region rfl ?_
    refine ops_ex rfl (guard_none rfl) rfl rfl (ex_move rfl rfl) ?_
    refine ops_ex rfl (guard_none rfl) rfl rfl (ex_assign rfl rfl) ?_
    refine ops_nil ?_
    refine at_then ?_
    refine run_ret ?_
    replace HM := (HM.front 0 rfl rfl).drop
    have hR := Option.some.inj H
    subst hR
    exact at_ret1 rfl rfl ⟨_, rfl, rfl, HM⟩

def laws_szCoin.f (k : Nat) (x0 : Coin) (x1 : Int) : Option Int := ((laws_szOut.f k x0.fOut x1).bind fun t48 => (bif (decide (t48 < 0)) then some (-1) else some t48))
theorem laws_szCoin.calls {k : Nat} {x0 : Coin} {x1 : Int} {p0_0 : Value} {w : World} (hp0_0 : RdS kInt w p0_0 x0.fOut.fRule.fKeys) {r : Int} (H : laws_szCoin.f k x0 x1 = some r) :
    Calls Try.prog 62 ([.agg #[(.int .i64 x0.fRef.fTx), (.int .i64 x0.fRef.fAt), (.int .i64 x0.fOut.fValue), p0_0, (.int .i64 x0.fOut.fRule.fNeed), (.int .i64 x0.fOut.fRule.fAfter), (.int .i64 x0.fHeight), (.bool x0.fMined)], .int .i64 x1] : List Value).toArray w (fun e w_ => ∃ v, e = .returned v ∧ v = (.int .i64 r) ∧ Mem w [] w_ []) := by
  have HM := Mem.start w
  refine calls_run (N := 12) Try.func62 rfl rfl rfl rfl ?_
  unfold laws_szCoin.f at H
  refine run_seq ?_
  refine run_region rfl ?_
  refine ops_does rfl (guard_none rfl) rfl rfl (does_box (cs := [.int .i64 x0.fRef.fTx, .int .i64 x0.fRef.fAt, .int .i64 x0.fOut.fValue, p0_0, .int .i64 x0.fOut.fRule.fNeed, .int .i64 x0.fOut.fRule.fAfter, .int .i64 x0.fHeight, .bool x0.fMined]) rfl rfl rfl HM) ?_
  rintro _ w47 ⟨b44, rfl, HM⟩
  refine ops_ex rfl (guard_none rfl) rfl rfl (ex_assign rfl rfl) ?_
  refine ops_nil ?_
  refine at_then ?_
  refine run_seq ?_
  obtain ⟨t48, h49, H⟩ := bind_some H
  refine run_region rfl ?_
  refine ops_ex rfl (guard_none rfl) rfl rfl (ex_fieldAddr (off' := 2) rfl rfl Try.underlying98 rfl tsz96 rfl) ?_
  refine ops_ex rfl (guard_none rfl) rfl rfl (ex_loadN (cs := [(.int .i64 x0.fOut.fValue), p0_0, (.int .i64 x0.fOut.fRule.fNeed), (.int .i64 x0.fOut.fRule.fAfter)]) rfl rfl Try.underlying96 rfl tsz96 rfl ((HM.box_at 0 rfl).sub 2 4 rfl)) ?_
  refine ops_ex rfl (guard_none rfl) rfl rfl (ex_move rfl rfl) ?_
  refine ops_does rfl (guard_none rfl) rfl rfl (does_callk rfl callok120 rfl (laws_szOut.calls (x0 := x0.fOut) (x1 := x1) (HM.rd hp0_0) h49)) ?_
  rintro _ w50 ⟨rfl, hn⟩
  replace HM : Mem w [] w50 [box b44 98 [.int .i64 x0.fRef.fTx, .int .i64 x0.fRef.fAt, .int .i64 x0.fOut.fValue, p0_0, .int .i64 x0.fOut.fRule.fNeed, .int .i64 x0.fOut.fRule.fAfter, .int .i64 x0.fHeight, .bool x0.fMined]] := HM.call hn
  refine ops_ex rfl (guard_none rfl) rfl rfl (ex_assign rfl rfl) ?_
  refine ops_nil ?_
  refine at_then ?_
  refine run_seq ?_
  refine run_seq ?_
  refine run_region rfl ?_
  refine ops_ex rfl (guard_none rfl) rfl rfl (ex_move rfl rfl) ?_
  refine ops_ex rfl (guard_none rfl) rfl rfl (ex_lss rfl rfl rfl) ?_
  refine ops_nil ?_
  refine at_then ?_
  refine run_cond (b := (decide (t48 < 0))) rfl (fun hb51 => ?_) (fun hb51 => ?_)
  · replace H := cond_t hb51 H
    refine run_seq ?_
    refine run_region rfl ?_
    refine ops_ex rfl (guard_none rfl) rfl rfl (ex_assign rfl rfl) ?_
    refine ops_nil ?_
    refine at_then ?_
    refine run_ret ?_
    refine at_then_ret ?_
    replace HM := (HM.front 0 rfl rfl).drop
    have hR := Option.some.inj H
    subst hR
    exact at_ret1 rfl rfl ⟨_, rfl, rfl, HM⟩
  · replace H := cond_f hb51 H
    refine run_skip ?_
    refine at_then ?_
    refine run_seq ?_
    refine run_region rfl ?_
    refine ops_ex rfl (guard_none rfl) rfl rfl (ex_move rfl rfl) ?_
    refine ops_ex rfl (guard_none rfl) rfl rfl (ex_assign rfl rfl) ?_
    refine ops_nil ?_
    refine at_then ?_
    refine run_ret ?_
    replace HM := (HM.front 0 rfl rfl).drop
    have hR := Option.some.inj H
    subst hR
    exact at_ret1 rfl rfl ⟨_, rfl, rfl, HM⟩

def laws_szCoinS.l0 (x0 : List Coin) : Nat → Int → Int → Option (Int ⊕ Int)
  | 0, _, _ => none
  | k + 1, a115, a116 => (bif (decide (a116 < (x0.length : Int))) then (chk (idxOk a116 x0.length) ((laws_szCoin.f k (gt x0 a116) a115).bind fun t132 => (bif (decide (t132 < 0)) then some (.inl (-1)) else laws_szCoinS.l0 x0 k t132 (wrap64 (a116 + 1))))) else some (.inr a115))
theorem laws_szCoinS.l0_z (x0 : List Coin) (a115 : Int) (a116 : Int) : laws_szCoinS.l0 x0 0 a115 a116 = none := rfl
theorem laws_szCoinS.l0_s (x0 : List Coin) (k : Nat) (a115 : Int) (a116 : Int) : laws_szCoinS.l0 x0 (k + 1) a115 a116 = (bif (decide (a116 < (x0.length : Int))) then (chk (idxOk a116 x0.length) ((laws_szCoin.f k (gt x0 a116) a115).bind fun t132 => (bif (decide (t132 < 0)) then some (.inl (-1)) else laws_szCoinS.l0 x0 k t132 (wrap64 (a116 + 1))))) else some (.inr a115)) := rfl
def laws_szCoinS.f (k : Nat) (x0 : List Coin) (x1 : Int) : Option Int := (bif (decide ((wrap64 (x1 - (x0.length : Int))) < 0)) then some (-1) else ((laws_szCoinS.l0 x0 k (wrap64 (x1 - (x0.length : Int))) 0).bind fun o105 => thn o105 (fun r => some r) (fun a104 => some a104)))
theorem laws_szCoinS.calls {k : Nat} {x0 : List Coin} {x1 : Int} {p0 : Value} {w : World} (hp0 : RdS kCoin w p0 x0) {r : Int} (H : laws_szCoinS.f k x0 x1 = some r) :
    Calls Try.prog 15 ([p0, .int .i64 x1] : List Value).toArray w (fun e w_ => ∃ v, e = .returned v ∧ v = (.int .i64 r) ∧ Mem w [] w_ []) := by
  have HM := Mem.start w
  refine calls_run (N := 27) Try.func15 rfl rfl rfl rfl ?_
  unfold laws_szCoinS.f at H
  refine run_seq ?_
  refine run_region rfl ?_
  refine ops_ex rfl (guard_none rfl) rfl rfl (ex_assign rfl rfl) ?_
  refine ops_nil ?_
  refine at_then ?_
  refine run_seq ?_
  refine run_region rfl ?_
  refine ops_ex rfl (guard_none rfl) rfl rfl (ex_move rfl rfl) ?_
  refine ops_ex rfl (guard_none rfl) rfl rfl (ex_move rfl rfl) ?_
  refine ops_ex rfl (guard_none rfl) rfl rfl (ex_len (d := kCoin) (xs := x0) rfl rfl Try.underlying22 hp0) ?_
  refine ops_ex rfl (guard_none rfl) rfl rfl (ex_sub rfl rfl rfl) ?_
  refine ops_ex rfl (guard_none rfl) rfl rfl (ex_assign rfl rfl) ?_
  refine ops_nil ?_
  refine at_then ?_
  refine run_seq ?_
  refine run_seq ?_
  refine run_region rfl ?_
  refine ops_ex rfl (guard_none rfl) rfl rfl (ex_move rfl rfl) ?_
  refine ops_ex rfl (guard_none rfl) rfl rfl (ex_lss rfl rfl rfl) ?_
  refine ops_nil ?_
  refine at_then ?_
  refine run_cond (b := (decide ((wrap64 (x1 - (x0.length : Int))) < 0))) rfl (fun hb77 => ?_) (fun hb77 => ?_)
  · replace H := cond_t hb77 H
    refine run_seq ?_
    refine run_region rfl ?_
    refine ops_ex rfl (guard_none rfl) rfl rfl (ex_assign rfl rfl) ?_
    refine ops_nil ?_
    refine at_then ?_
    refine run_ret ?_
    refine at_then_ret ?_
    have hR := Option.some.inj H
    subst hR
    exact at_ret1 rfl rfl ⟨_, rfl, rfl, HM⟩
  · replace H := cond_f hb77 H
    refine run_skip ?_
    refine at_then ?_
    obtain ⟨o105, ho106, H⟩ := bind_some H
    refine run_mid (fun ρ_ w_ => ∃ a104 : Int, Sum.inr a104 = o105 ∧ ρ_ = [(1, .int .i64 a104)] ∧ Mem w [] w_ []) ?_ ?_
    · skip
      refine run_seq ?_
      refine run_region rfl ?_
      refine ops_ex rfl (guard_none rfl) rfl rfl (ex_assign rfl rfl) ?_
      refine ops_nil ?_
      refine at_then ?_
      refine run_block ?_
      refine run_loop (fun k_ ρ_ w_ => ∃ a115 : Int, ∃ a116 : Int, laws_szCoinS.l0 x0 k_ a115 a116 = some o105 ∧ ρ_ = [(0, p0), (1, .int .i64 a115), (5, .int .i64 a116)] ∧ Mem w [] w_ []) k (ρ1 := [(0, p0), (1, .int .i64 (wrap64 (x1 - (x0.length : Int)))), (5, .int .i64 0)]) ⟨_, _, ho106, rfl, HM⟩ (Sub.cons rfl (Sub.cons rfl (Sub.cons rfl Sub.nil))) ?_
      clear HM ho106
      rintro k125 _ w126 ⟨a115, a116, ho106, rfl, HM⟩
      obtain _ | k125 := k125
      · exact nomatch ((laws_szCoinS.l0_z x0 a115 a116).symm.trans ho106)
      replace ho106 := (laws_szCoinS.l0_s x0 k125 a115 a116).symm.trans ho106
      refine run_seq ?_
      refine run_seq ?_
      refine run_region rfl ?_
      refine ops_ex rfl (guard_none rfl) rfl rfl (ex_move rfl rfl) ?_
      refine ops_ex rfl (guard_none rfl) rfl rfl (ex_move rfl rfl) ?_
      refine ops_ex rfl (guard_none rfl) rfl rfl (ex_len (d := kCoin) (xs := x0) rfl rfl Try.underlying22 hp0) ?_
      refine ops_ex rfl (guard_none rfl) rfl rfl (ex_lss rfl rfl rfl) ?_
      refine ops_nil ?_
      refine at_then ?_
      refine run_cond (b := (decide (a116 < (x0.length : Int)))) rfl (fun hb127 => ?_) (fun hb127 => ?_)
      · replace ho106 := cond_t hb127 ho106
        refine run_skip ?_
        refine at_then ?_
        refine run_seq ?_
        refine run_block ?_
        refine run_seq ?_
        obtain ⟨e128, ho106⟩ := chk_some ho106
        obtain ⟨t132, h133, ho106⟩ := bind_some ho106
        refine run_region rfl ?_
        refine ops_ex rfl (guard_none rfl) rfl rfl (ex_move rfl rfl) ?_
        refine ops_ex rfl (guard_none rfl) rfl rfl (ex_move rfl rfl) ?_
        obtain ⟨kv130, hc129, hk131⟩ : ∃ u, CellsAt _ (sb p0) (so p0 + (a116).toNat * 8) [(.int .i64 ((gt x0 a116).fRef.fTx)), (.int .i64 ((gt x0 a116).fRef.fAt)), (.int .i64 ((gt x0 a116).fOut.fValue)), u, (.int .i64 ((gt x0 a116).fOut.fRule.fNeed)), (.int .i64 ((gt x0 a116).fOut.fRule.fAfter)), (.int .i64 ((gt x0 a116).fHeight)), (.bool ((gt x0 a116).fMined))] ∧ RdS kInt _ u ((gt x0 a116).fOut.fRule.fKeys) := rd_with1 hp0 e128
        refine ops_ex rfl (guard_none rfl) rfl rfl (ex_indexAddr (d := kCoin) rfl rfl rfl Try.underlying22 tsz98 hp0 (idx_lo e128) (idx_hi e128)) ?_
        refine ops_ex rfl (guard_none rfl) rfl rfl (ex_loadN (cs := [(.int .i64 ((gt x0 a116).fRef.fTx)), (.int .i64 ((gt x0 a116).fRef.fAt)), (.int .i64 ((gt x0 a116).fOut.fValue)), kv130, (.int .i64 ((gt x0 a116).fOut.fRule.fNeed)), (.int .i64 ((gt x0 a116).fOut.fRule.fAfter)), (.int .i64 ((gt x0 a116).fHeight)), (.bool ((gt x0 a116).fMined))]) rfl rfl Try.underlying98 rfl tsz98 rfl ((HM.at_ hc129).sub 0 8 rfl)) ?_
        refine ops_ex rfl (guard_none rfl) rfl rfl (ex_move rfl rfl) ?_
        refine ops_does rfl (guard_none rfl) rfl rfl (does_callk rfl callok62 rfl (laws_szCoin.calls (x0 := (gt x0 a116)) (x1 := a115) (HM.rd hk131) h133)) ?_
        rintro _ w134 ⟨rfl, hn⟩
        replace HM : Mem w [] w134 [] := HM.call hn
        refine ops_ex rfl (guard_none rfl) rfl rfl (ex_assign rfl rfl) ?_
        refine ops_nil ?_
        refine at_then ?_
        refine run_seq ?_
        refine run_region rfl ?_
        refine ops_ex rfl (guard_none rfl) rfl rfl (ex_move rfl rfl) ?_
        refine ops_ex rfl (guard_none rfl) rfl rfl (ex_lss rfl rfl rfl) ?_
        refine ops_nil ?_
        refine at_then ?_
        refine run_cond (b := (decide (t132 < 0))) rfl (fun hb135 => ?_) (fun hb135 => ?_)
        · replace ho106 := cond_t hb135 ho106
          refine run_seq ?_
          refine run_region rfl ?_
          refine ops_ex rfl (guard_none rfl) rfl rfl (ex_assign rfl rfl) ?_
          refine ops_nil ?_
          refine at_then ?_
          refine run_ret ?_
          refine at_block_ret ?_
          refine at_then_ret ?_
          refine at_then_ret ?_
          refine at_block_ret ?_
          refine at_then_ret ?_
          have hR := Option.some.inj ho106
          subst hR
          have hT := thn_inl H
          have hR := Option.some.inj hT
          subst hR
          exact at_ret1 rfl rfl ⟨_, rfl, rfl, HM⟩
        · replace ho106 := cond_f hb135 ho106
          refine run_skip ?_
          refine at_block ?_
          refine at_then ?_
          refine run_region rfl ?_
          refine ops_ex rfl (guard_none rfl) rfl rfl (ex_move rfl rfl) ?_
          refine ops_ex rfl (guard_none rfl) rfl rfl (ex_add rfl rfl rfl) ?_
          refine ops_ex rfl (guard_none rfl) rfl rfl (ex_assign rfl rfl) ?_
          refine ops_nil ?_
          exact at_again k125 (ρ1 := [(0, p0), (1, .int .i64 t132), (5, .int .i64 (wrap64 (a116 + 1)))]) (Nat.lt_succ_self _) ⟨_, _, ho106, rfl, HM⟩ (Sub.cons rfl (Sub.cons rfl (Sub.cons rfl Sub.nil)))
      · replace ho106 := cond_f hb127 ho106
        refine run_exit ?_
        refine at_then_exit ?_
        refine at_then_exit ?_
        refine at_block_exit ?_
        exact at_mid (ρ' := [(1, .int .i64 a115)]) ⟨_, (Option.some.inj ho106), rfl, HM⟩ (Sub.cons rfl Sub.nil)
    · rintro _ w136 ⟨a104, rfl, rfl, HM⟩
      replace H := (thn_inr H)
      refine run_seq ?_
      refine run_region rfl ?_
      refine ops_ex rfl (guard_none rfl) rfl rfl (ex_move rfl rfl) ?_
      refine ops_ex rfl (guard_none rfl) rfl rfl (ex_assign rfl rfl) ?_
      refine ops_nil ?_
      refine at_then ?_
      refine run_ret ?_
      have hR := Option.some.inj H
      subst hR
      exact at_ret1 rfl rfl ⟨_, rfl, rfl, HM⟩

def laws_toRef.f (k : Nat) (x0 : Ref) : Option Ref := some x0
theorem laws_toRef.calls {k : Nat} {x0 : Ref}  {w : World}  {r : Ref} (H : laws_toRef.f k x0 = some r) :
    Calls Try.prog 122 ([.agg #[(.int .i64 x0.fTx), (.int .i64 x0.fAt)]] : List Value).toArray w (fun e w_ => ∃ v, e = .returned v ∧ v = (.agg #[.int .i64 r.fTx, .int .i64 r.fAt]) ∧ Mem w [] w_ []) := by
  have HM := Mem.start w
  refine calls_run (N := 11) Try.func122 rfl rfl rfl rfl ?_
  unfold laws_toRef.f at H
  refine run_seq ?_
  refine run_region rfl ?_
  refine ops_does rfl (guard_none rfl) rfl rfl (does_box (cs := [.int .i64 x0.fTx, .int .i64 x0.fAt]) rfl rfl rfl HM) ?_
  rintro _ w179 ⟨b173, rfl, HM⟩
  refine ops_does rfl (guard_none rfl) rfl rfl (does_alloc (cs := [.int .i64 0, .int .i64 0]) rfl tz99 rfl HM) ?_
  rintro _ w180 ⟨b176, rfl, HM⟩
  refine ops_nil ?_
  refine at_then ?_
  refine run_seq ?_
  refine run_region rfl ?_
  refine ops_does rfl (guard_none rfl) rfl rfl (does_alloc (cs := [.int .i64 0, .int .i64 0]) rfl tz99 rfl HM) ?_
  rintro _ w184 ⟨b181, rfl, HM⟩
  refine ops_nil ?_
  refine at_then ?_
  refine run_seq ?_
  refine run_region rfl ?_
  refine ops_ex rfl (guard_none rfl) rfl rfl (ex_fieldAddr (off' := 0) rfl rfl Try.underlying92 rfl tsz2 rfl) ?_
  refine ops_ex rfl (guard_none rfl) rfl rfl (ex_load1 rfl rfl Try.underlying2 rfl ((HM.box_at 2 rfl) 0 _ rfl)) ?_
  refine ops_ex rfl (guard_none rfl) rfl rfl (ex_fieldAddr (off' := 0) rfl rfl Try.underlying99 rfl tsz2 rfl) ?_
  refine ops_doesS rfl (guard_none rfl) rfl (does_store (vs := [.int .i64 x0.fTx]) (cs' := [.int .i64 x0.fTx, .int .i64 0]) rfl rfl rfl rfl tsz2 (Ones.int Ones.nil) rfl rfl HM) ?_
  rintro w185 HM
  refine ops_nil ?_
  refine at_then ?_
  refine run_seq ?_
  refine run_region rfl ?_
  refine ops_ex rfl (guard_none rfl) rfl rfl (ex_fieldAddr (off' := 1) rfl rfl Try.underlying92 rfl tsz2 rfl) ?_
  refine ops_ex rfl (guard_none rfl) rfl rfl (ex_load1 rfl rfl Try.underlying2 rfl ((HM.box_at 2 rfl) 1 _ rfl)) ?_
  refine ops_ex rfl (guard_none rfl) rfl rfl (ex_fieldAddr (off' := 1) rfl rfl Try.underlying99 rfl tsz2 rfl) ?_
  refine ops_doesS rfl (guard_none rfl) rfl (does_store (vs := [.int .i64 x0.fAt]) (cs' := [.int .i64 x0.fTx, .int .i64 x0.fAt]) rfl rfl rfl rfl tsz2 (Ones.int Ones.nil) rfl rfl HM) ?_
  rintro w186 HM
  refine ops_nil ?_
  refine at_then ?_
  refine run_seq ?_
  refine run_region rfl ?_
  refine ops_ex rfl (guard_none rfl) rfl rfl (ex_loadN (cs := [(.int .i64 x0.fTx), (.int .i64 x0.fAt)]) rfl rfl Try.underlying99 rfl tsz99 rfl ((HM.box_at 0 rfl).sub 0 2 rfl)) ?_
  replace HM := HM.front 1 rfl rfl
  refine ops_doesS rfl (guard_none rfl) rfl (does_store (vs := [.int .i64 x0.fTx, .int .i64 x0.fAt]) (cs' := [.int .i64 x0.fTx, .int .i64 x0.fAt]) rfl rfl rfl rfl tsz99 (Ones.int (Ones.int Ones.nil)) rfl rfl HM) ?_
  rintro w187 HM
  refine ops_nil ?_
  refine at_then ?_
  refine run_ret ?_
  replace HM := (HM.front 1 rfl rfl).drop
  replace HM := (HM.front 1 rfl rfl).drop
  have hcb0 := HM.box_at 0 rfl
  replace HM := (HM.front 0 rfl rfl).drop
  have hR := Option.some.inj H
  subst hR
  exact at_retN rfl rfl Try.underlying99 rfl tsz99 rfl hcb0 ⟨_, rfl, rfl, HM⟩

def laws_toInt64S.l0 (x0 : List Int) : Nat → (List Int) → Int → Option ((List Int))
  | 0, _, _ => none
  | k + 1, a266, a268 => (bif (decide (a268 < (x0.length : Int))) then (chk (idxOk a268 x0.length) (chk (idxOk a268 a266.length) (laws_toInt64S.l0 x0 k (a266.set (a268).toNat (gt x0 a268)) (wrap64 (a268 + 1))))) else some a266)
theorem laws_toInt64S.l0_z (x0 : List Int) (a266 : List Int) (a268 : Int) : laws_toInt64S.l0 x0 0 a266 a268 = none := rfl
theorem laws_toInt64S.l0_s (x0 : List Int) (k : Nat) (a266 : List Int) (a268 : Int) : laws_toInt64S.l0 x0 (k + 1) a266 a268 = (bif (decide (a268 < (x0.length : Int))) then (chk (idxOk a268 x0.length) (chk (idxOk a268 a266.length) (laws_toInt64S.l0 x0 k (a266.set (a268).toNat (gt x0 a268)) (wrap64 (a268 + 1))))) else some a266) := rfl
def laws_toInt64S.f (k : Nat) (x0 : List Int) : Option ((List Int)) := (chk (decide (0 ≤ (x0.length : Int))) (chk (leB (((x0.length : Int)).toNat * 8) 281474976710656) ((laws_toInt64S.l0 x0 k (List.replicate ((x0.length : Int)).toNat 0) 0).bind (fun a257 => some a257))))
theorem laws_toInt64S.calls {k : Nat} {x0 : List Int} {p0 : Value} {w : World} (hp0 : RdS kInt w p0 x0) {r : (List Int)} (H : laws_toInt64S.f k x0 = some r) :
    Calls Try.prog 169 ([p0] : List Value).toArray w (fun e w_ => ∃ v, e = .returned v ∧ ∃ u0 : Value, v = u0 ∧ Mem w [] w_ [own kInt 2 u0 r]) := by
  have HM := Mem.start w
  refine calls_run (N := 22) Try.func169 rfl rfl rfl rfl ?_
  unfold laws_toInt64S.f at H
  refine run_seq ?_
  refine run_region rfl ?_
  refine ops_ex rfl (guard_none rfl) rfl rfl (ex_assign rfl rfl) ?_
  refine ops_nil ?_
  refine at_then ?_
  refine run_seq ?_
  obtain ⟨e237, H⟩ := chk_some H
  obtain ⟨e238, H⟩ := chk_some H
  refine run_region rfl ?_
  refine ops_ex rfl (guard_none rfl) rfl rfl (ex_move rfl rfl) ?_
  refine ops_ex rfl (guard_none rfl) rfl rfl (ex_len (d := kInt) (xs := x0) rfl rfl Try.underlying74 hp0) ?_
  refine ops_does rfl (guard_none rfl) rfl rfl (does_make (x := 0) kInt rfl rfl rfl Try.underlying74 tsz2 tby2 tz2 rfl rfl (fun _ => ⟨rfl, rfl⟩) (of_decide_eq_true e237) rfl (leB_le e238) rfl HM) ?_
  rintro v234 w239 HM
  refine ops_ex rfl (guard_none rfl) rfl rfl (ex_assign rfl rfl) ?_
  refine ops_nil ?_
  refine at_then ?_
  obtain ⟨o259, ho260, H⟩ := bind_some H
  refine run_mid (fun ρ_ w_ => ∃ v256 : Value, ∃ a257 : List Int, a257 = o259 ∧ ρ_ = [(3, v256)] ∧ Mem w [] w_ [own kInt 2 v256 a257]) ?_ ?_
  · clear H
    refine run_seq ?_
    refine run_region rfl ?_
    refine ops_ex rfl (guard_none rfl) rfl rfl (ex_assign rfl rfl) ?_
    refine ops_nil ?_
    refine at_then ?_
    refine run_block ?_
    refine run_loop (fun k_ ρ_ w_ => ∃ v265 : Value, ∃ a266 : List Int, ∃ a268 : Int, laws_toInt64S.l0 x0 k_ a266 a268 = some o259 ∧ ρ_ = [(0, p0), (3, v265), (4, .int .i64 a268)] ∧ Mem w [] w_ [own kInt 2 v265 a266]) k (ρ1 := [(0, p0), (3, v234), (4, .int .i64 0)]) ⟨_, _, _, ho260, rfl, HM⟩ (Sub.cons rfl (Sub.cons rfl (Sub.cons rfl Sub.nil))) ?_
    clear HM ho260
    rintro k273 _ w274 ⟨v265, a266, a268, ho260, rfl, HM⟩
    obtain _ | k273 := k273
    · exact nomatch ((laws_toInt64S.l0_z x0 a266 a268).symm.trans ho260)
    replace ho260 := (laws_toInt64S.l0_s x0 k273 a266 a268).symm.trans ho260
    refine run_seq ?_
    refine run_seq ?_
    refine run_region rfl ?_
    refine ops_ex rfl (guard_none rfl) rfl rfl (ex_move rfl rfl) ?_
    refine ops_ex rfl (guard_none rfl) rfl rfl (ex_move rfl rfl) ?_
    refine ops_ex rfl (guard_none rfl) rfl rfl (ex_len (d := kInt) (xs := x0) rfl rfl Try.underlying74 hp0) ?_
    refine ops_ex rfl (guard_none rfl) rfl rfl (ex_lss rfl rfl rfl) ?_
    refine ops_nil ?_
    refine at_then ?_
    refine run_cond (b := (decide (a268 < (x0.length : Int)))) rfl (fun hb275 => ?_) (fun hb275 => ?_)
    · replace ho260 := cond_t hb275 ho260
      refine run_skip ?_
      refine at_then ?_
      refine run_seq ?_
      refine run_block ?_
      obtain ⟨e276, ho260⟩ := chk_some ho260
      obtain ⟨e278, ho260⟩ := chk_some ho260
      refine run_region rfl ?_
      refine ops_ex rfl (guard_none rfl) rfl rfl (ex_move rfl rfl) ?_
      refine ops_ex rfl (guard_none rfl) rfl rfl (ex_move rfl rfl) ?_
      refine ops_ex rfl (guard_none rfl) rfl rfl (ex_move rfl rfl) ?_
      refine ops_ex rfl (guard_none rfl) rfl rfl (ex_move rfl rfl) ?_
      have hc277 : CellsAt _ (sb p0) (so p0 + (a268).toNat * 1) [(.int .i64 (gt x0 a268))] := rd_plain hp0 e276
      refine ops_ex rfl (guard_none rfl) rfl rfl (ex_indexAddr (d := kInt) rfl rfl rfl Try.underlying74 tsz2 hp0 (idx_lo e276) (idx_hi e276)) ?_
      refine ops_ex rfl (guard_none rfl) rfl rfl (ex_load1 rfl rfl Try.underlying2 rfl ((HM.at_ hc277) 0 _ rfl)) ?_
      refine ops_ex rfl (guard_none rfl) rfl rfl (ex_indexAddr (d := kInt) rfl rfl rfl Try.underlying74 tsz2 (HM.own_rd 0 rfl) (idx_lo e278) (idx_hi e278)) ?_
      refine ops_doesS rfl (guard_none rfl) rfl (does_setElem (vs := [(.int .i64 (gt x0 a268))]) (y := (gt x0 a268)) kInt rfl rfl rfl rfl rfl tsz2 rfl rfl (idx_nat e278) (fun _ _ h => ⟨rfl, h⟩) (HM.emp.front 1 rfl rfl)) ?_
      rintro w279 HM
      refine ops_nil ?_
      refine at_block ?_
      refine at_then ?_
      refine run_region rfl ?_
      refine ops_ex rfl (guard_none rfl) rfl rfl (ex_move rfl rfl) ?_
      refine ops_ex rfl (guard_none rfl) rfl rfl (ex_add rfl rfl rfl) ?_
      refine ops_ex rfl (guard_none rfl) rfl rfl (ex_assign rfl rfl) ?_
      refine ops_nil ?_
      exact at_again k273 (ρ1 := [(0, p0), (3, v265), (4, .int .i64 (wrap64 (a268 + 1)))]) (Nat.lt_succ_self _) ⟨_, _, _, ho260, rfl, HM⟩ (Sub.cons rfl (Sub.cons rfl (Sub.cons rfl Sub.nil)))
    · replace ho260 := cond_f hb275 ho260
      refine run_exit ?_
      refine at_then_exit ?_
      refine at_then_exit ?_
      refine at_block_exit ?_
      exact at_mid (ρ' := [(3, v265)]) ⟨_, _, (Option.some.inj ho260), rfl, HM⟩ (Sub.cons rfl Sub.nil)
  · rintro _ w280 ⟨v256, a257, rfl, rfl, HM⟩
    refine run_seq ?_
    refine run_region rfl ?_
    refine ops_ex rfl (guard_none rfl) rfl rfl (ex_move rfl rfl) ?_
    refine ops_ex rfl (guard_none rfl) rfl rfl (ex_assign rfl rfl) ?_
    refine ops_nil ?_
    refine at_then ?_
    refine run_ret ?_
    have hR := Option.some.inj H
    subst hR
    exact at_ret1 rfl rfl ⟨_, rfl, _, rfl, HM⟩

def laws_toRule.f (k : Nat) (x0 : Rule) : Option Rule := ((laws_toInt64S.f k x0.fKeys).bind fun t297 => some (⟨t297, x0.fNeed, x0.fAfter⟩ : Rule))
theorem laws_toRule.calls {k : Nat} {x0 : Rule} {p0_0 : Value} {w : World} (hp0_0 : RdS kInt w p0_0 x0.fKeys) {r : Rule} (H : laws_toRule.f k x0 = some r) :
    Calls Try.prog 158 ([.agg #[p0_0, (.int .i64 x0.fNeed), (.int .i64 x0.fAfter)]] : List Value).toArray w (fun e w_ => ∃ v, e = .returned v ∧ ∃ u0 : Value, v = (.agg #[u0, .int .i64 r.fNeed, .int .i64 r.fAfter]) ∧ Mem w [] w_ [own kInt 2 u0 r.fKeys]) := by
  have HM := Mem.start w
  refine calls_run (N := 15) Try.func158 rfl rfl rfl rfl ?_
  unfold laws_toRule.f at H
  refine run_seq ?_
  refine run_region rfl ?_
  refine ops_does rfl (guard_none rfl) rfl rfl (does_box (cs := [p0_0, .int .i64 x0.fNeed, .int .i64 x0.fAfter]) rfl rfl rfl HM) ?_
  rintro _ w291 ⟨b285, rfl, HM⟩
  refine ops_does rfl (guard_none rfl) rfl rfl (does_alloc (cs := [.slice none 0 0, .int .i64 0, .int .i64 0]) rfl tz100 rfl HM) ?_
  rintro _ w292 ⟨b288, rfl, HM⟩
  refine ops_nil ?_
  refine at_then ?_
  refine run_seq ?_
  refine run_region rfl ?_
  refine ops_does rfl (guard_none rfl) rfl rfl (does_alloc (cs := [.slice none 0 0, .int .i64 0, .int .i64 0]) rfl tz100 rfl HM) ?_
  rintro _ w296 ⟨b293, rfl, HM⟩
  refine ops_nil ?_
  refine at_then ?_
  refine run_seq ?_
  obtain ⟨t297, h298, H⟩ := bind_some H
  refine run_region rfl ?_
  refine ops_ex rfl (guard_none rfl) rfl rfl (ex_fieldAddr (off' := 0) rfl rfl Try.underlying94 rfl tsz74 rfl) ?_
  refine ops_ex rfl (guard_none rfl) rfl rfl (ex_load1 rfl rfl Try.underlying74 rfl ((HM.box_at 2 rfl) 0 _ rfl)) ?_
  refine ops_does rfl (guard_none rfl) rfl rfl (does_callk rfl callok169 rfl (laws_toInt64S.calls (x0 := x0.fKeys) (HM.rd hp0_0) h298)) ?_
  rintro u299 w301 ⟨_, rfl, hn⟩
  replace HM : Mem w [] w301 [own kInt 2 u299 t297, box b293 100 [.slice none 0 0, .int .i64 0, .int .i64 0], box b288 100 [.slice none 0 0, .int .i64 0, .int .i64 0], box b285 94 [p0_0, .int .i64 x0.fNeed, .int .i64 x0.fAfter]] := HM.call hn
  refine ops_ex rfl (guard_none rfl) rfl rfl (ex_fieldAddr (off' := 0) rfl rfl Try.underlying100 rfl tsz74 rfl) ?_
  replace HM := HM.front 1 rfl rfl
  refine ops_doesS rfl (guard_none rfl) rfl (does_store (vs := [u299]) (cs' := [u299, .int .i64 0, .int .i64 0]) rfl rfl rfl (rd_cells (HM.own_rd 1 rfl)) tsz74 (Ones.rd (HM.own_rd 1 rfl) Ones.nil) rfl rfl HM) ?_
  rintro w302 HM
  refine ops_nil ?_
  refine at_then ?_
  refine run_seq ?_
  refine run_region rfl ?_
  refine ops_ex rfl (guard_none rfl) rfl rfl (ex_fieldAddr (off' := 1) rfl rfl Try.underlying94 rfl tsz2 rfl) ?_
  refine ops_ex rfl (guard_none rfl) rfl rfl (ex_load1 rfl rfl Try.underlying2 rfl ((HM.box_at 3 rfl) 1 _ rfl)) ?_
  refine ops_ex rfl (guard_none rfl) rfl rfl (ex_fieldAddr (off' := 1) rfl rfl Try.underlying100 rfl tsz2 rfl) ?_
  refine ops_doesS rfl (guard_none rfl) rfl (does_store (vs := [.int .i64 x0.fNeed]) (cs' := [u299, .int .i64 x0.fNeed, .int .i64 0]) rfl rfl rfl rfl tsz2 (Ones.int Ones.nil) rfl rfl HM) ?_
  rintro w303 HM
  refine ops_nil ?_
  refine at_then ?_
  refine run_seq ?_
  refine run_region rfl ?_
  refine ops_ex rfl (guard_none rfl) rfl rfl (ex_fieldAddr (off' := 2) rfl rfl Try.underlying94 rfl tsz2 rfl) ?_
  refine ops_ex rfl (guard_none rfl) rfl rfl (ex_load1 rfl rfl Try.underlying2 rfl ((HM.box_at 3 rfl) 2 _ rfl)) ?_
  refine ops_ex rfl (guard_none rfl) rfl rfl (ex_fieldAddr (off' := 2) rfl rfl Try.underlying100 rfl tsz2 rfl) ?_
  refine ops_doesS rfl (guard_none rfl) rfl (does_store (vs := [.int .i64 x0.fAfter]) (cs' := [u299, .int .i64 x0.fNeed, .int .i64 x0.fAfter]) rfl rfl rfl rfl tsz2 (Ones.int Ones.nil) rfl rfl HM) ?_
  rintro w304 HM
  refine ops_nil ?_
  refine at_then ?_
  refine run_seq ?_
  refine run_region rfl ?_
  refine ops_ex rfl (guard_none rfl) rfl rfl (ex_loadN (cs := [u299, (.int .i64 x0.fNeed), (.int .i64 x0.fAfter)]) rfl rfl Try.underlying100 rfl tsz100 rfl ((HM.box_at 0 rfl).sub 0 3 rfl)) ?_
  replace HM := HM.front 2 rfl rfl
  refine ops_doesS rfl (guard_none rfl) rfl (does_store (vs := [u299, .int .i64 x0.fNeed, .int .i64 x0.fAfter]) (cs' := [u299, .int .i64 x0.fNeed, .int .i64 x0.fAfter]) rfl rfl rfl rfl tsz100 (Ones.rd (HM.own_rd 2 rfl) (Ones.int (Ones.int Ones.nil))) rfl rfl HM) ?_
  rintro w305 HM
  refine ops_nil ?_
  refine at_then ?_
  refine run_ret ?_
  replace HM := (HM.front 1 rfl rfl).drop
  replace HM := (HM.front 2 rfl rfl).drop
  have hcb0 := HM.box_at 0 rfl
  replace HM := (HM.front 0 rfl rfl).drop
  have hR := Option.some.inj H
  subst hR
  exact at_retN rfl rfl Try.underlying100 rfl tsz100 rfl hcb0 ⟨_, rfl, _, rfl, HM⟩

def laws_toOut.f (k : Nat) (x0 : Out) : Option Out := ((laws_toRule.f k x0.fRule).bind fun t323 => some (⟨x0.fValue, t323⟩ : Out))
theorem laws_toOut.calls {k : Nat} {x0 : Out} {p0_0 : Value} {w : World} (hp0_0 : RdS kInt w p0_0 x0.fRule.fKeys) {r : Out} (H : laws_toOut.f k x0 = some r) :
    Calls Try.prog 123 ([.agg #[(.int .i64 x0.fValue), p0_0, (.int .i64 x0.fRule.fNeed), (.int .i64 x0.fRule.fAfter)]] : List Value).toArray w (fun e w_ => ∃ v, e = .returned v ∧ ∃ u0 : Value, v = (.agg #[.int .i64 r.fValue, u0, .int .i64 r.fRule.fNeed, .int .i64 r.fRule.fAfter]) ∧ Mem w [] w_ [own kInt 2 u0 r.fRule.fKeys]) := by
  have HM := Mem.start w
  refine calls_run (N := 12) Try.func123 rfl rfl rfl rfl ?_
  unfold laws_toOut.f at H
  refine run_seq ?_
  refine run_region rfl ?_
  refine ops_does rfl (guard_none rfl) rfl rfl (does_box (cs := [.int .i64 x0.fValue, p0_0, .int .i64 x0.fRule.fNeed, .int .i64 x0.fRule.fAfter]) rfl rfl rfl HM) ?_
  rintro _ w316 ⟨b310, rfl, HM⟩
  refine ops_does rfl (guard_none rfl) rfl rfl (does_alloc (cs := [.int .i64 0, .slice none 0 0, .int .i64 0, .int .i64 0]) rfl tz102 rfl HM) ?_
  rintro _ w317 ⟨b313, rfl, HM⟩
  refine ops_nil ?_
  refine at_then ?_
  refine run_seq ?_
  refine run_region rfl ?_
  refine ops_does rfl (guard_none rfl) rfl rfl (does_alloc (cs := [.int .i64 0, .slice none 0 0, .int .i64 0, .int .i64 0]) rfl tz102 rfl HM) ?_
  rintro _ w321 ⟨b318, rfl, HM⟩
  refine ops_nil ?_
  refine at_then ?_
  refine run_seq ?_
  refine run_region rfl ?_
  refine ops_ex rfl (guard_none rfl) rfl rfl (ex_fieldAddr (off' := 0) rfl rfl Try.underlying96 rfl tsz2 rfl) ?_
  refine ops_ex rfl (guard_none rfl) rfl rfl (ex_load1 rfl rfl Try.underlying2 rfl ((HM.box_at 2 rfl) 0 _ rfl)) ?_
  refine ops_ex rfl (guard_none rfl) rfl rfl (ex_fieldAddr (off' := 0) rfl rfl Try.underlying102 rfl tsz2 rfl) ?_
  refine ops_doesS rfl (guard_none rfl) rfl (does_store (vs := [.int .i64 x0.fValue]) (cs' := [.int .i64 x0.fValue, .slice none 0 0, .int .i64 0, .int .i64 0]) rfl rfl rfl rfl tsz2 (Ones.int Ones.nil) rfl rfl HM) ?_
  rintro w322 HM
  refine ops_nil ?_
  refine at_then ?_
  refine run_seq ?_
  obtain ⟨t323, h324, H⟩ := bind_some H
  refine run_region rfl ?_
  refine ops_ex rfl (guard_none rfl) rfl rfl (ex_fieldAddr (off' := 1) rfl rfl Try.underlying96 rfl tsz94 rfl) ?_
  refine ops_ex rfl (guard_none rfl) rfl rfl (ex_loadN (cs := [p0_0, (.int .i64 x0.fRule.fNeed), (.int .i64 x0.fRule.fAfter)]) rfl rfl Try.underlying94 rfl tsz94 rfl ((HM.box_at 2 rfl).sub 1 3 rfl)) ?_
  refine ops_does rfl (guard_none rfl) rfl rfl (does_callk rfl callok158 rfl (laws_toRule.calls (x0 := x0.fRule) (HM.rd hp0_0) h324)) ?_
  rintro _ w327 ⟨u325, rfl, hn⟩
  replace HM : Mem w [] w327 [own kInt 2 u325 t323.fKeys, box b318 102 [.int .i64 x0.fValue, .slice none 0 0, .int .i64 0, .int .i64 0], box b313 102 [.int .i64 0, .slice none 0 0, .int .i64 0, .int .i64 0], box b310 96 [.int .i64 x0.fValue, p0_0, .int .i64 x0.fRule.fNeed, .int .i64 x0.fRule.fAfter]] := HM.call hn
  refine ops_ex rfl (guard_none rfl) rfl rfl (ex_fieldAddr (off' := 1) rfl rfl Try.underlying102 rfl tsz100 rfl) ?_
  replace HM := HM.front 1 rfl rfl
  refine ops_doesS rfl (guard_none rfl) rfl (does_store (vs := [u325, .int .i64 t323.fNeed, .int .i64 t323.fAfter]) (cs' := [.int .i64 x0.fValue, u325, .int .i64 t323.fNeed, .int .i64 t323.fAfter]) rfl rfl rfl rfl tsz100 (Ones.rd (HM.own_rd 1 rfl) (Ones.int (Ones.int Ones.nil))) rfl rfl HM) ?_
  rintro w328 HM
  refine ops_nil ?_
  refine at_then ?_
  refine run_seq ?_
  refine run_region rfl ?_
  refine ops_ex rfl (guard_none rfl) rfl rfl (ex_loadN (cs := [(.int .i64 x0.fValue), u325, (.int .i64 t323.fNeed), (.int .i64 t323.fAfter)]) rfl rfl Try.underlying102 rfl tsz102 rfl ((HM.box_at 0 rfl).sub 0 4 rfl)) ?_
  replace HM := HM.front 2 rfl rfl
  refine ops_doesS rfl (guard_none rfl) rfl (does_store (vs := [.int .i64 x0.fValue, u325, .int .i64 t323.fNeed, .int .i64 t323.fAfter]) (cs' := [.int .i64 x0.fValue, u325, .int .i64 t323.fNeed, .int .i64 t323.fAfter]) rfl rfl rfl rfl tsz102 (Ones.int (Ones.rd (HM.own_rd 2 rfl) (Ones.int (Ones.int Ones.nil)))) rfl rfl HM) ?_
  rintro w329 HM
  refine ops_nil ?_
  refine at_then ?_
  refine run_ret ?_
  replace HM := (HM.front 1 rfl rfl).drop
  replace HM := (HM.front 2 rfl rfl).drop
  have hcb0 := HM.box_at 0 rfl
  replace HM := (HM.front 0 rfl rfl).drop
  have hR := Option.some.inj H
  subst hR
  exact at_retN rfl rfl Try.underlying102 rfl tsz102 rfl hcb0 ⟨_, rfl, _, rfl, HM⟩

def laws_toCoin.f (k : Nat) (x0 : Coin) : Option Coin := ((laws_toRef.f k x0.fRef).bind fun t346 => ((laws_toOut.f k x0.fOut).bind fun t350 => some (⟨t346, t350, x0.fHeight, x0.fMined⟩ : Coin)))
theorem laws_toCoin.calls {k : Nat} {x0 : Coin} {p0_0 : Value} {w : World} (hp0_0 : RdS kInt w p0_0 x0.fOut.fRule.fKeys) {r : Coin} (H : laws_toCoin.f k x0 = some r) :
    Calls Try.prog 64 ([.agg #[(.int .i64 x0.fRef.fTx), (.int .i64 x0.fRef.fAt), (.int .i64 x0.fOut.fValue), p0_0, (.int .i64 x0.fOut.fRule.fNeed), (.int .i64 x0.fOut.fRule.fAfter), (.int .i64 x0.fHeight), (.bool x0.fMined)]] : List Value).toArray w (fun e w_ => ∃ v, e = .returned v ∧ ∃ u0 : Value, v = (.agg #[.int .i64 r.fRef.fTx, .int .i64 r.fRef.fAt, .int .i64 r.fOut.fValue, u0, .int .i64 r.fOut.fRule.fNeed, .int .i64 r.fOut.fRule.fAfter, .int .i64 r.fHeight, .bool r.fMined]) ∧ Mem w [] w_ [own kInt 2 u0 r.fOut.fRule.fKeys]) := by
  have HM := Mem.start w
  refine calls_run (N := 19) Try.func64 rfl rfl rfl rfl ?_
  unfold laws_toCoin.f at H
  refine run_seq ?_
  refine run_region rfl ?_
  refine ops_does rfl (guard_none rfl) rfl rfl (does_box (cs := [.int .i64 x0.fRef.fTx, .int .i64 x0.fRef.fAt, .int .i64 x0.fOut.fValue, p0_0, .int .i64 x0.fOut.fRule.fNeed, .int .i64 x0.fOut.fRule.fAfter, .int .i64 x0.fHeight, .bool x0.fMined]) rfl rfl rfl HM) ?_
  rintro _ w340 ⟨b334, rfl, HM⟩
  refine ops_does rfl (guard_none rfl) rfl rfl (does_alloc (cs := [.int .i64 0, .int .i64 0, .int .i64 0, .slice none 0 0, .int .i64 0, .int .i64 0, .int .i64 0, .bool false]) rfl tz104 rfl HM) ?_
  rintro _ w341 ⟨b337, rfl, HM⟩
  refine ops_nil ?_
  refine at_then ?_
  refine run_seq ?_
  refine run_region rfl ?_
  refine ops_does rfl (guard_none rfl) rfl rfl (does_alloc (cs := [.int .i64 0, .int .i64 0, .int .i64 0, .slice none 0 0, .int .i64 0, .int .i64 0, .int .i64 0, .bool false]) rfl tz104 rfl HM) ?_
  rintro _ w345 ⟨b342, rfl, HM⟩
  refine ops_nil ?_
  refine at_then ?_
  refine run_seq ?_
  obtain ⟨t346, h347, H⟩ := bind_some H
  refine run_region rfl ?_
  refine ops_ex rfl (guard_none rfl) rfl rfl (ex_fieldAddr (off' := 0) rfl rfl Try.underlying98 rfl tsz92 rfl) ?_
  refine ops_ex rfl (guard_none rfl) rfl rfl (ex_loadN (cs := [(.int .i64 x0.fRef.fTx), (.int .i64 x0.fRef.fAt)]) rfl rfl Try.underlying92 rfl tsz92 rfl ((HM.box_at 2 rfl).sub 0 2 rfl)) ?_
  refine ops_does rfl (guard_none rfl) rfl rfl (does_callk rfl callok122 rfl (laws_toRef.calls (x0 := x0.fRef) h347)) ?_
  rintro _ w348 ⟨rfl, hn⟩
  replace HM : Mem w [] w348 [box b342 104 [.int .i64 0, .int .i64 0, .int .i64 0, .slice none 0 0, .int .i64 0, .int .i64 0, .int .i64 0, .bool false], box b337 104 [.int .i64 0, .int .i64 0, .int .i64 0, .slice none 0 0, .int .i64 0, .int .i64 0, .int .i64 0, .bool false], box b334 98 [.int .i64 x0.fRef.fTx, .int .i64 x0.fRef.fAt, .int .i64 x0.fOut.fValue, p0_0, .int .i64 x0.fOut.fRule.fNeed, .int .i64 x0.fOut.fRule.fAfter, .int .i64 x0.fHeight, .bool x0.fMined]] := HM.call hn
  refine ops_ex rfl (guard_none rfl) rfl rfl (ex_fieldAddr (off' := 0) rfl rfl Try.underlying104 rfl tsz99 rfl) ?_
  refine ops_doesS rfl (guard_none rfl) rfl (does_store (vs := [.int .i64 t346.fTx, .int .i64 t346.fAt]) (cs' := [.int .i64 t346.fTx, .int .i64 t346.fAt, .int .i64 0, .slice none 0 0, .int .i64 0, .int .i64 0, .int .i64 0, .bool false]) rfl rfl rfl rfl tsz99 (Ones.int (Ones.int Ones.nil)) rfl rfl HM) ?_
  rintro w349 HM
  refine ops_nil ?_
  refine at_then ?_
  refine run_seq ?_
  obtain ⟨t350, h351, H⟩ := bind_some H
  refine run_region rfl ?_
  refine ops_ex rfl (guard_none rfl) rfl rfl (ex_fieldAddr (off' := 2) rfl rfl Try.underlying98 rfl tsz96 rfl) ?_
  refine ops_ex rfl (guard_none rfl) rfl rfl (ex_loadN (cs := [(.int .i64 x0.fOut.fValue), p0_0, (.int .i64 x0.fOut.fRule.fNeed), (.int .i64 x0.fOut.fRule.fAfter)]) rfl rfl Try.underlying96 rfl tsz96 rfl ((HM.box_at 2 rfl).sub 2 4 rfl)) ?_
  refine ops_does rfl (guard_none rfl) rfl rfl (does_callk rfl callok123 rfl (laws_toOut.calls (x0 := x0.fOut) (HM.rd hp0_0) h351)) ?_
  rintro _ w354 ⟨u352, rfl, hn⟩
  replace HM : Mem w [] w354 [own kInt 2 u352 t350.fRule.fKeys, box b342 104 [.int .i64 t346.fTx, .int .i64 t346.fAt, .int .i64 0, .slice none 0 0, .int .i64 0, .int .i64 0, .int .i64 0, .bool false], box b337 104 [.int .i64 0, .int .i64 0, .int .i64 0, .slice none 0 0, .int .i64 0, .int .i64 0, .int .i64 0, .bool false], box b334 98 [.int .i64 x0.fRef.fTx, .int .i64 x0.fRef.fAt, .int .i64 x0.fOut.fValue, p0_0, .int .i64 x0.fOut.fRule.fNeed, .int .i64 x0.fOut.fRule.fAfter, .int .i64 x0.fHeight, .bool x0.fMined]] := HM.call hn
  refine ops_ex rfl (guard_none rfl) rfl rfl (ex_fieldAddr (off' := 2) rfl rfl Try.underlying104 rfl tsz102 rfl) ?_
  replace HM := HM.front 1 rfl rfl
  refine ops_doesS rfl (guard_none rfl) rfl (does_store (vs := [.int .i64 t350.fValue, u352, .int .i64 t350.fRule.fNeed, .int .i64 t350.fRule.fAfter]) (cs' := [.int .i64 t346.fTx, .int .i64 t346.fAt, .int .i64 t350.fValue, u352, .int .i64 t350.fRule.fNeed, .int .i64 t350.fRule.fAfter, .int .i64 0, .bool false]) rfl rfl rfl rfl tsz102 (Ones.int (Ones.rd (HM.own_rd 1 rfl) (Ones.int (Ones.int Ones.nil)))) rfl rfl HM) ?_
  rintro w355 HM
  refine ops_nil ?_
  refine at_then ?_
  refine run_seq ?_
  refine run_region rfl ?_
  refine ops_ex rfl (guard_none rfl) rfl rfl (ex_fieldAddr (off' := 6) rfl rfl Try.underlying98 rfl tsz2 rfl) ?_
  refine ops_ex rfl (guard_none rfl) rfl rfl (ex_load1 rfl rfl Try.underlying2 rfl ((HM.box_at 3 rfl) 6 _ rfl)) ?_
  refine ops_ex rfl (guard_none rfl) rfl rfl (ex_fieldAddr (off' := 6) rfl rfl Try.underlying104 rfl tsz2 rfl) ?_
  refine ops_doesS rfl (guard_none rfl) rfl (does_store (vs := [.int .i64 x0.fHeight]) (cs' := [.int .i64 t346.fTx, .int .i64 t346.fAt, .int .i64 t350.fValue, u352, .int .i64 t350.fRule.fNeed, .int .i64 t350.fRule.fAfter, .int .i64 x0.fHeight, .bool false]) rfl rfl rfl rfl tsz2 (Ones.int Ones.nil) rfl rfl HM) ?_
  rintro w356 HM
  refine ops_nil ?_
  refine at_then ?_
  refine run_seq ?_
  refine run_region rfl ?_
  refine ops_ex rfl (guard_none rfl) rfl rfl (ex_fieldAddr (off' := 7) rfl rfl Try.underlying98 rfl tsz4 rfl) ?_
  refine ops_ex rfl (guard_none rfl) rfl rfl (ex_load1 rfl rfl Try.underlying4 rfl ((HM.box_at 3 rfl) 7 _ rfl)) ?_
  refine ops_ex rfl (guard_none rfl) rfl rfl (ex_fieldAddr (off' := 7) rfl rfl Try.underlying104 rfl tsz4 rfl) ?_
  refine ops_doesS rfl (guard_none rfl) rfl (does_store (vs := [.bool x0.fMined]) (cs' := [.int .i64 t346.fTx, .int .i64 t346.fAt, .int .i64 t350.fValue, u352, .int .i64 t350.fRule.fNeed, .int .i64 t350.fRule.fAfter, .int .i64 x0.fHeight, .bool x0.fMined]) rfl rfl rfl rfl tsz4 (Ones.bool Ones.nil) rfl rfl HM) ?_
  rintro w357 HM
  refine ops_nil ?_
  refine at_then ?_
  refine run_seq ?_
  refine run_region rfl ?_
  refine ops_ex rfl (guard_none rfl) rfl rfl (ex_loadN (cs := [(.int .i64 t346.fTx), (.int .i64 t346.fAt), (.int .i64 t350.fValue), u352, (.int .i64 t350.fRule.fNeed), (.int .i64 t350.fRule.fAfter), (.int .i64 x0.fHeight), (.bool x0.fMined)]) rfl rfl Try.underlying104 rfl tsz104 rfl ((HM.box_at 0 rfl).sub 0 8 rfl)) ?_
  replace HM := HM.front 2 rfl rfl
  refine ops_doesS rfl (guard_none rfl) rfl (does_store (vs := [.int .i64 t346.fTx, .int .i64 t346.fAt, .int .i64 t350.fValue, u352, .int .i64 t350.fRule.fNeed, .int .i64 t350.fRule.fAfter, .int .i64 x0.fHeight, .bool x0.fMined]) (cs' := [.int .i64 t346.fTx, .int .i64 t346.fAt, .int .i64 t350.fValue, u352, .int .i64 t350.fRule.fNeed, .int .i64 t350.fRule.fAfter, .int .i64 x0.fHeight, .bool x0.fMined]) rfl rfl rfl rfl tsz104 (Ones.int (Ones.int (Ones.int (Ones.rd (HM.own_rd 2 rfl) (Ones.int (Ones.int (Ones.int (Ones.bool Ones.nil)))))))) rfl rfl HM) ?_
  rintro w358 HM
  refine ops_nil ?_
  refine at_then ?_
  refine run_ret ?_
  replace HM := (HM.front 1 rfl rfl).drop
  replace HM := (HM.front 2 rfl rfl).drop
  have hcb0 := HM.box_at 0 rfl
  replace HM := (HM.front 0 rfl rfl).drop
  have hR := Option.some.inj H
  subst hR
  exact at_retN rfl rfl Try.underlying104 rfl tsz104 rfl hcb0 ⟨_, rfl, _, rfl, HM⟩

def laws_toCoinS.l0 (x0 : List Coin) : Nat → (List Coin) → Int → Option ((List Coin))
  | 0, _, _ => none
  | k + 1, a449, a451 => (bif (decide (a451 < (x0.length : Int))) then (chk (idxOk a451 x0.length) ((laws_toCoin.f k (gt x0 a451)).bind fun t469 => (chk (idxOk a451 a449.length) (laws_toCoinS.l0 x0 k (a449.set (a451).toNat t469) (wrap64 (a451 + 1)))))) else some a449)
theorem laws_toCoinS.l0_z (x0 : List Coin) (a449 : List Coin) (a451 : Int) : laws_toCoinS.l0 x0 0 a449 a451 = none := rfl
theorem laws_toCoinS.l0_s (x0 : List Coin) (k : Nat) (a449 : List Coin) (a451 : Int) : laws_toCoinS.l0 x0 (k + 1) a449 a451 = (bif (decide (a451 < (x0.length : Int))) then (chk (idxOk a451 x0.length) ((laws_toCoin.f k (gt x0 a451)).bind fun t469 => (chk (idxOk a451 a449.length) (laws_toCoinS.l0 x0 k (a449.set (a451).toNat t469) (wrap64 (a451 + 1)))))) else some a449) := rfl
def laws_toCoinS.f (k : Nat) (x0 : List Coin) : Option ((List Coin)) := (chk (decide (0 ≤ (x0.length : Int))) (chk (leB (((x0.length : Int)).toNat * 80) 281474976710656) ((laws_toCoinS.l0 x0 k (List.replicate ((x0.length : Int)).toNat (⟨(⟨0, 0⟩ : Ref), (⟨0, (⟨[], 0, 0⟩ : Rule)⟩ : Out), 0, false⟩ : Coin)) 0).bind (fun a434 => some a434))))
theorem laws_toCoinS.calls {k : Nat} {x0 : List Coin} {p0 : Value} {w : World} (hp0 : RdS kCoin w p0 x0) {r : (List Coin)} (H : laws_toCoinS.f k x0 = some r) :
    Calls Try.prog 17 ([p0] : List Value).toArray w (fun e w_ => ∃ v, e = .returned v ∧ ∃ u0 : Value, v = u0 ∧ Mem w [] w_ [own kCoin 104 u0 r]) := by
  have HM := Mem.start w
  refine calls_run (N := 23) Try.func17 rfl rfl rfl rfl ?_
  unfold laws_toCoinS.f at H
  refine run_seq ?_
  refine run_region rfl ?_
  refine ops_ex rfl (guard_none rfl) rfl rfl (ex_assign rfl rfl) ?_
  refine ops_nil ?_
  refine at_then ?_
  refine run_seq ?_
  obtain ⟨e396, H⟩ := chk_some H
  obtain ⟨e397, H⟩ := chk_some H
  refine run_region rfl ?_
  refine ops_ex rfl (guard_none rfl) rfl rfl (ex_move rfl rfl) ?_
  refine ops_ex rfl (guard_none rfl) rfl rfl (ex_len (d := kCoin) (xs := x0) rfl rfl Try.underlying22 hp0) ?_
  refine ops_does rfl (guard_none rfl) rfl rfl (does_make (x := (⟨(⟨0, 0⟩ : Ref), (⟨0, (⟨[], 0, 0⟩ : Rule)⟩ : Out), 0, false⟩ : Coin)) kCoin rfl rfl rfl Try.underlying25 tsz104 tby104 tz104 rfl rfl (fun _ => ⟨.slice none 0 0, rfl, OwS.nil _ _ _ _⟩) (of_decide_eq_true e396) rfl (leB_le e397) rfl HM) ?_
  rintro v393 w398 HM
  refine ops_ex rfl (guard_none rfl) rfl rfl (ex_assign rfl rfl) ?_
  refine ops_nil ?_
  refine at_then ?_
  obtain ⟨o436, ho437, H⟩ := bind_some H
  refine run_mid (fun ρ_ w_ => ∃ v433 : Value, ∃ a434 : List Coin, a434 = o436 ∧ ρ_ = [(3, v433)] ∧ Mem w [] w_ [own kCoin 104 v433 a434]) ?_ ?_
  · clear H
    refine run_seq ?_
    refine run_region rfl ?_
    refine ops_ex rfl (guard_none rfl) rfl rfl (ex_assign rfl rfl) ?_
    refine ops_nil ?_
    refine at_then ?_
    refine run_block ?_
    refine run_loop (fun k_ ρ_ w_ => ∃ v448 : Value, ∃ a449 : List Coin, ∃ a451 : Int, laws_toCoinS.l0 x0 k_ a449 a451 = some o436 ∧ ρ_ = [(0, p0), (3, v448), (4, .int .i64 a451)] ∧ Mem w [] w_ [own kCoin 104 v448 a449]) k (ρ1 := [(0, p0), (3, v393), (4, .int .i64 0)]) ⟨_, _, _, ho437, rfl, HM⟩ (Sub.cons rfl (Sub.cons rfl (Sub.cons rfl Sub.nil))) ?_
    clear HM ho437
    rintro k462 _ w463 ⟨v448, a449, a451, ho437, rfl, HM⟩
    obtain _ | k462 := k462
    · exact nomatch ((laws_toCoinS.l0_z x0 a449 a451).symm.trans ho437)
    replace ho437 := (laws_toCoinS.l0_s x0 k462 a449 a451).symm.trans ho437
    refine run_seq ?_
    refine run_seq ?_
    refine run_region rfl ?_
    refine ops_ex rfl (guard_none rfl) rfl rfl (ex_move rfl rfl) ?_
    refine ops_ex rfl (guard_none rfl) rfl rfl (ex_move rfl rfl) ?_
    refine ops_ex rfl (guard_none rfl) rfl rfl (ex_len (d := kCoin) (xs := x0) rfl rfl Try.underlying22 hp0) ?_
    refine ops_ex rfl (guard_none rfl) rfl rfl (ex_lss rfl rfl rfl) ?_
    refine ops_nil ?_
    refine at_then ?_
    refine run_cond (b := (decide (a451 < (x0.length : Int)))) rfl (fun hb464 => ?_) (fun hb464 => ?_)
    · replace ho437 := cond_t hb464 ho437
      refine run_skip ?_
      refine at_then ?_
      refine run_seq ?_
      refine run_block ?_
      obtain ⟨e465, ho437⟩ := chk_some ho437
      obtain ⟨t469, h470, ho437⟩ := bind_some ho437
      obtain ⟨e473, ho437⟩ := chk_some ho437
      refine run_region rfl ?_
      refine ops_ex rfl (guard_none rfl) rfl rfl (ex_move rfl rfl) ?_
      refine ops_ex rfl (guard_none rfl) rfl rfl (ex_move rfl rfl) ?_
      refine ops_ex rfl (guard_none rfl) rfl rfl (ex_move rfl rfl) ?_
      refine ops_ex rfl (guard_none rfl) rfl rfl (ex_move rfl rfl) ?_
      obtain ⟨kv467, hc466, hk468⟩ : ∃ u, CellsAt _ (sb p0) (so p0 + (a451).toNat * 8) [(.int .i64 ((gt x0 a451).fRef.fTx)), (.int .i64 ((gt x0 a451).fRef.fAt)), (.int .i64 ((gt x0 a451).fOut.fValue)), u, (.int .i64 ((gt x0 a451).fOut.fRule.fNeed)), (.int .i64 ((gt x0 a451).fOut.fRule.fAfter)), (.int .i64 ((gt x0 a451).fHeight)), (.bool ((gt x0 a451).fMined))] ∧ RdS kInt _ u ((gt x0 a451).fOut.fRule.fKeys) := rd_with1 hp0 e465
      refine ops_ex rfl (guard_none rfl) rfl rfl (ex_indexAddr (d := kCoin) rfl rfl rfl Try.underlying22 tsz98 hp0 (idx_lo e465) (idx_hi e465)) ?_
      refine ops_ex rfl (guard_none rfl) rfl rfl (ex_loadN (cs := [(.int .i64 ((gt x0 a451).fRef.fTx)), (.int .i64 ((gt x0 a451).fRef.fAt)), (.int .i64 ((gt x0 a451).fOut.fValue)), kv467, (.int .i64 ((gt x0 a451).fOut.fRule.fNeed)), (.int .i64 ((gt x0 a451).fOut.fRule.fAfter)), (.int .i64 ((gt x0 a451).fHeight)), (.bool ((gt x0 a451).fMined))]) rfl rfl Try.underlying98 rfl tsz98 rfl ((HM.at_ hc466).sub 0 8 rfl)) ?_
      refine ops_does rfl (guard_none rfl) rfl rfl (does_callk rfl callok64 rfl (laws_toCoin.calls (x0 := (gt x0 a451)) (HM.rd hk468) h470)) ?_
      rintro _ w474 ⟨u471, rfl, hn⟩
      replace HM : Mem w [] w474 [own kInt 2 u471 t469.fOut.fRule.fKeys, own kCoin 104 v448 a449] := HM.call hn
      refine ops_ex rfl (guard_none rfl) rfl rfl (ex_indexAddr (d := kCoin) rfl rfl rfl Try.underlying25 tsz104 (HM.own_rd 1 rfl) (idx_lo e473) (idx_hi e473)) ?_
      replace HM := HM.front 1 rfl rfl
      refine ops_doesS rfl (guard_none rfl) rfl (does_setElem (vs := [(.int .i64 t469.fRef.fTx), (.int .i64 t469.fRef.fAt), (.int .i64 t469.fOut.fValue), u471, (.int .i64 t469.fOut.fRule.fNeed), (.int .i64 t469.fOut.fRule.fAfter), (.int .i64 t469.fHeight), (.bool t469.fMined)]) (y := t469) kCoin rfl rfl rfl rfl rfl tsz104 rfl rfl (idx_nat e473) (fun _ _ h => ⟨_, rfl, h⟩) HM) ?_
      rintro w475 HM
      refine ops_nil ?_
      refine at_block ?_
      refine at_then ?_
      refine run_region rfl ?_
      refine ops_ex rfl (guard_none rfl) rfl rfl (ex_move rfl rfl) ?_
      refine ops_ex rfl (guard_none rfl) rfl rfl (ex_add rfl rfl rfl) ?_
      refine ops_ex rfl (guard_none rfl) rfl rfl (ex_assign rfl rfl) ?_
      refine ops_nil ?_
      exact at_again k462 (ρ1 := [(0, p0), (3, v448), (4, .int .i64 (wrap64 (a451 + 1)))]) (Nat.lt_succ_self _) ⟨_, _, _, ho437, rfl, HM⟩ (Sub.cons rfl (Sub.cons rfl (Sub.cons rfl Sub.nil)))
    · replace ho437 := cond_f hb464 ho437
      refine run_exit ?_
      refine at_then_exit ?_
      refine at_then_exit ?_
      refine at_block_exit ?_
      exact at_mid (ρ' := [(3, v448)]) ⟨_, _, (Option.some.inj ho437), rfl, HM⟩ (Sub.cons rfl Sub.nil)
  · rintro _ w476 ⟨v433, a434, rfl, rfl, HM⟩
    refine run_seq ?_
    refine run_region rfl ?_
    refine ops_ex rfl (guard_none rfl) rfl rfl (ex_move rfl rfl) ?_
    refine ops_ex rfl (guard_none rfl) rfl rfl (ex_assign rfl rfl) ?_
    refine ops_nil ?_
    refine at_then ?_
    refine run_ret ?_
    have hR := Option.some.inj H
    subst hR
    exact at_ret1 rfl rfl ⟨_, rfl, _, rfl, HM⟩

def spec_l2Ints.l0 (x0 : List Int) (x1 : List Int) : Nat → Int → Option (Bool ⊕ Unit)
  | 0, _ => none
  | k + 1, a580 => (bif (decide (a580 < (x0.length : Int))) then (chk (idxOk a580 x0.length) (chk (idxOk a580 x1.length) (bif ((gt x0 a580) != (gt x1 a580)) then some (.inl false) else spec_l2Ints.l0 x0 x1 k (wrap64 (a580 + 1))))) else some (.inr ()))
theorem spec_l2Ints.l0_z (x0 : List Int) (x1 : List Int) (a580 : Int) : spec_l2Ints.l0 x0 x1 0 a580 = none := rfl
theorem spec_l2Ints.l0_s (x0 : List Int) (x1 : List Int) (k : Nat) (a580 : Int) : spec_l2Ints.l0 x0 x1 (k + 1) a580 = (bif (decide (a580 < (x0.length : Int))) then (chk (idxOk a580 x0.length) (chk (idxOk a580 x1.length) (bif ((gt x0 a580) != (gt x1 a580)) then some (.inl false) else spec_l2Ints.l0 x0 x1 k (wrap64 (a580 + 1))))) else some (.inr ())) := rfl
def spec_l2Ints.f (k : Nat) (x0 : List Int) (x1 : List Int) : Option Bool := (bif ((x0.length : Int) != (x1.length : Int)) then some false else ((spec_l2Ints.l0 x0 x1 k 0).bind fun o572 => thn o572 (fun r => some r) (fun _ => some true)))
theorem spec_l2Ints.calls {k : Nat} {x0 : List Int} {x1 : List Int} {p0 : Value} {p1 : Value} {w : World} (hp0 : RdS kInt w p0 x0) (hp1 : RdS kInt w p1 x1) {r : Bool} (H : spec_l2Ints.f k x0 x1 = some r) :
    Calls Try.prog 157 ([p0, p1] : List Value).toArray w (fun e w_ => ∃ v, e = .returned v ∧ v = (.bool r) ∧ Mem w [] w_ []) := by
  have HM := Mem.start w
  refine calls_run (N := 26) Try.func157 rfl rfl rfl rfl ?_
  unfold spec_l2Ints.f at H
  refine run_seq ?_
  refine run_region rfl ?_
  refine ops_ex rfl (guard_none rfl) rfl rfl (ex_assign rfl rfl) ?_
  refine ops_nil ?_
  refine at_then ?_
  refine run_seq ?_
  refine run_seq ?_
  refine run_region rfl ?_
  refine ops_ex rfl (guard_none rfl) rfl rfl (ex_move rfl rfl) ?_
  refine ops_ex rfl (guard_none rfl) rfl rfl (ex_len (d := kInt) (xs := x0) rfl rfl Try.underlying74 hp0) ?_
  refine ops_ex rfl (guard_none rfl) rfl rfl (ex_move rfl rfl) ?_
  refine ops_ex rfl (guard_none rfl) rfl rfl (ex_len (d := kInt) (xs := x1) rfl rfl Try.underlying74 hp1) ?_
  refine ops_ex rfl (guard_none rfl) rfl rfl (ex_neq rfl rfl rfl) ?_
  refine ops_nil ?_
  refine at_then ?_
  refine run_cond (b := ((x0.length : Int) != (x1.length : Int))) rfl (fun hb552 => ?_) (fun hb552 => ?_)
  · replace H := cond_t hb552 H
    refine run_seq ?_
    refine run_region rfl ?_
    refine ops_ex rfl (guard_none rfl) rfl rfl (ex_assign rfl rfl) ?_
    refine ops_nil ?_
    refine at_then ?_
    refine run_ret ?_
    refine at_then_ret ?_
    have hR := Option.some.inj H
    subst hR
    exact at_ret1 rfl rfl ⟨_, rfl, rfl, HM⟩
  · replace H := cond_f hb552 H
    refine run_skip ?_
    refine at_then ?_
    obtain ⟨o572, ho573, H⟩ := bind_some H
    refine run_mid (fun ρ_ w_ => Sum.inr () = o572 ∧ ρ_ = [] ∧ Mem w [] w_ []) ?_ ?_
    · skip
      refine run_seq ?_
      refine run_region rfl ?_
      refine ops_ex rfl (guard_none rfl) rfl rfl (ex_assign rfl rfl) ?_
      refine ops_nil ?_
      refine at_then ?_
      refine run_block ?_
      refine run_loop (fun k_ ρ_ w_ => ∃ a580 : Int, spec_l2Ints.l0 x0 x1 k_ a580 = some o572 ∧ ρ_ = [(0, p0), (1, p1), (5, .int .i64 a580)] ∧ Mem w [] w_ []) k (ρ1 := [(0, p0), (1, p1), (5, .int .i64 0)]) ⟨_, ho573, rfl, HM⟩ (Sub.cons rfl (Sub.cons rfl (Sub.cons rfl Sub.nil))) ?_
      clear HM ho573
      rintro k587 _ w588 ⟨a580, ho573, rfl, HM⟩
      obtain _ | k587 := k587
      · exact nomatch ((spec_l2Ints.l0_z x0 x1 a580).symm.trans ho573)
      replace ho573 := (spec_l2Ints.l0_s x0 x1 k587 a580).symm.trans ho573
      refine run_seq ?_
      refine run_seq ?_
      refine run_region rfl ?_
      refine ops_ex rfl (guard_none rfl) rfl rfl (ex_move rfl rfl) ?_
      refine ops_ex rfl (guard_none rfl) rfl rfl (ex_move rfl rfl) ?_
      refine ops_ex rfl (guard_none rfl) rfl rfl (ex_len (d := kInt) (xs := x0) rfl rfl Try.underlying74 hp0) ?_
      refine ops_ex rfl (guard_none rfl) rfl rfl (ex_lss rfl rfl rfl) ?_
      refine ops_nil ?_
      refine at_then ?_
      refine run_cond (b := (decide (a580 < (x0.length : Int)))) rfl (fun hb589 => ?_) (fun hb589 => ?_)
      · replace ho573 := cond_t hb589 ho573
        refine run_skip ?_
        refine at_then ?_
        refine run_seq ?_
        refine run_block ?_
        refine run_seq ?_
        obtain ⟨e590, ho573⟩ := chk_some ho573
        obtain ⟨e592, ho573⟩ := chk_some ho573
        refine run_drawf (fun w_ => Mem w [] w_ []) [(0, true), (1, true), (2, true), (3, true), (4, true), (5, true), (6, true), (7, true), (8, true)] mixed rfl rfl (by kernel_rfl) ?_
        replace HM := HM.grow (fr_drew _)
        have hS := Mem.suf (M := []) HM
        refine drwp_take rfl (guard_none rfl) rfl rfl (fun w_ hS_ => (ex_move rfl rfl)) hS ?_
        refine drwp_take rfl (guard_none rfl) rfl rfl (fun w_ hS_ => (ex_move rfl rfl)) hS ?_
        have hc591 : CellsAt _ (sb p0) (so p0 + (a580).toNat * 1) [(.int .i64 (gt x0 a580))] := rd_plain hp0 e590
        refine drwp_take rfl (guard_none rfl) rfl rfl (fun w_ hS_ => (ex_indexAddr (d := kInt) rfl rfl rfl Try.underlying74 tsz2 hp0 (idx_lo e590) (idx_hi e590))) hS ?_
        refine drwp_take rfl (guard_none rfl) rfl rfl (fun w_ hS_ => (ex_load1 rfl rfl Try.underlying2 rfl ((hS_.at_ hc591) 0 _ rfl))) hS ?_
        refine drwp_take rfl (guard_none rfl) rfl rfl (fun w_ hS_ => (ex_move rfl rfl)) hS ?_
        refine drwp_take rfl (guard_none rfl) rfl rfl (fun w_ hS_ => (ex_move rfl rfl)) hS ?_
        have hc593 : CellsAt _ (sb p1) (so p1 + (a580).toNat * 1) [(.int .i64 (gt x1 a580))] := rd_plain hp1 e592
        refine drwp_take rfl (guard_none rfl) rfl rfl (fun w_ hS_ => (ex_indexAddr (d := kInt) rfl rfl rfl Try.underlying74 tsz2 hp1 (idx_lo e592) (idx_hi e592))) hS ?_
        refine drwp_take rfl (guard_none rfl) rfl rfl (fun w_ hS_ => (ex_load1 rfl rfl Try.underlying2 rfl ((hS_.at_ hc593) 0 _ rfl))) hS ?_
        refine drwp_take rfl (guard_none rfl) rfl rfl (fun w_ hS_ => (ex_neq rfl rfl rfl)) hS ?_
        refine drwp_done ?_
        refine at_then ?_
        refine run_cond (b := ((gt x0 a580) != (gt x1 a580))) rfl (fun hb594 => ?_) (fun hb594 => ?_)
        · replace ho573 := cond_t hb594 ho573
          refine run_seq ?_
          refine run_region rfl ?_
          refine ops_ex rfl (guard_none rfl) rfl rfl (ex_assign rfl rfl) ?_
          refine ops_nil ?_
          refine at_then ?_
          refine run_ret ?_
          refine at_block_ret ?_
          refine at_then_ret ?_
          refine at_then_ret ?_
          refine at_block_ret ?_
          refine at_then_ret ?_
          have hR := Option.some.inj ho573
          subst hR
          have hT := thn_inl H
          have hR := Option.some.inj hT
          subst hR
          exact at_ret1 rfl rfl ⟨_, rfl, rfl, HM⟩
        · replace ho573 := cond_f hb594 ho573
          refine run_skip ?_
          refine at_block ?_
          refine at_then ?_
          refine run_region rfl ?_
          refine ops_ex rfl (guard_none rfl) rfl rfl (ex_move rfl rfl) ?_
          refine ops_ex rfl (guard_none rfl) rfl rfl (ex_add rfl rfl rfl) ?_
          refine ops_ex rfl (guard_none rfl) rfl rfl (ex_assign rfl rfl) ?_
          refine ops_nil ?_
          exact at_again k587 (ρ1 := [(0, p0), (1, p1), (5, .int .i64 (wrap64 (a580 + 1)))]) (Nat.lt_succ_self _) ⟨_, ho573, rfl, HM⟩ (Sub.cons rfl (Sub.cons rfl (Sub.cons rfl Sub.nil)))
      · replace ho573 := cond_f hb589 ho573
        refine run_exit ?_
        refine at_then_exit ?_
        refine at_then_exit ?_
        refine at_block_exit ?_
        exact at_mid (ρ' := []) ⟨(Option.some.inj ho573), rfl, HM⟩ Sub.nil
    · rintro _ w595 ⟨rfl, rfl, HM⟩
      replace H := (thn_inr H)
      refine run_seq ?_
      refine run_region rfl ?_
      refine ops_ex rfl (guard_none rfl) rfl rfl (ex_assign rfl rfl) ?_
      refine ops_nil ?_
      refine at_then ?_
      refine run_ret ?_
      have hR := Option.some.inj H
      subst hR
      exact at_ret1 rfl rfl ⟨_, rfl, rfl, HM⟩
end Go.Proofs.Ytoiacoiccpiciaa.Zk
