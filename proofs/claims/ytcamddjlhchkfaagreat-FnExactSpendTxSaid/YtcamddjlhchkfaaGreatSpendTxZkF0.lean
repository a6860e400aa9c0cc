/- What functions of the program compute, each as a plain function, and that they do. Conditions: as each theorem states them. -/
import Derived.Test.YtcamddjlhchkfaaGreatSpendTxZkTy
namespace Go.Proofs.YtcamddjlhchkfaaGreat.Zk
open Go Go.RowKit Go.IntWalk Go.Proofs
set_option linter.unusedVariables false
set_option linter.unusedSimpArgs false
set_option maxRecDepth 100000
set_option maxHeartbeats 4000000
def laws_szInt64S.f (k : Nat) (x0 : List Int) (x1 : Int) : Option Int := (bif (decide ((wrap64 (x1 - (x0.length : Int))) < 0)) then some (-1) else some (wrap64 (x1 - (x0.length : Int))))
theorem laws_szInt64S.calls {k : Nat} {x0 : List Int} {x1 : Int} {p0 : Value} {w : World} (hp0 : RdS kInt w p0 x0) {r : Int} (H : laws_szInt64S.f k x0 x1 = some r) :
    Calls Tryz.prog 145 ([p0, .int .i64 x1] : List Value).toArray w (fun e w_ => ∃ v, e = .returned v ∧ v = (.int .i64 r) ∧ Mem w [] w_ []) := by
  have HM := Mem.start w
  refine calls_run (N := 12) Tryz.func145 rfl rfl rfl rfl ?_
  unfold laws_szInt64S.f at H
  refine run_seq ?_
  refine run_region rfl ?_
  refine ops_ex rfl (guard_none rfl) rfl rfl (ex_assign rfl rfl) ?_
  refine ops_nil ?_
  refine at_then ?_
  refine run_seq ?_
  refine run_region rfl ?_
  refine ops_ex rfl (guard_none rfl) rfl rfl (ex_move rfl rfl) ?_
  refine ops_ex rfl (guard_none rfl) rfl rfl (ex_move rfl rfl) ?_
  refine ops_ex rfl (guard_none rfl) rfl rfl (ex_len (d := kInt) (xs := x0) rfl rfl Tryz.underlying60 hp0) ?_
  refine ops_ex rfl (guard_none rfl) rfl rfl (ex_sub rfl rfl rfl) ?_
  refine ops_ex rfl (guard_none rfl) rfl rfl (ex_assign rfl rfl) ?_
  refine ops_nil ?_
  refine at_then ?_
  refine run_seq ?_
  refine run_seq ?_
  refine run_region rfl ?_
  refine ops_ex rfl (guard_none rfl) rfl rfl (ex_move rfl rfl) ?_
  refine ops_ex rfl (guard_none rfl) rfl rfl (ex_lss rfl rfl rfl) ?_
  refine ops_nil ?_
  refine at_then ?_
  refine run_cond (b := (decide ((wrap64 (x1 - (x0.length : Int))) < 0))) rfl (fun hb21 => ?_) (fun hb21 => ?_)
  · replace H := cond_t hb21 H
    refine run_seq ?_
    refine run_region rfl ?_
    refine ops_ex rfl (guard_none rfl) rfl rfl (ex_assign rfl rfl) ?_
    refine ops_nil ?_
    refine at_then ?_
    refine run_ret ?_
    refine at_then_ret ?_
    have hR := Option.some.inj H
    subst hR
    exact at_ret1 rfl rfl ⟨_, rfl, rfl, HM⟩
  · replace H := cond_f hb21 H
    refine run_skip ?_
    refine at_then ?_
    refine run_seq ?_
    refine run_region rfl ?_
    refine ops_ex rfl (guard_none rfl) rfl rfl (ex_move rfl rfl) ?_
    refine ops_ex rfl (guard_none rfl) rfl rfl (ex_assign rfl rfl) ?_
    refine ops_nil ?_
    refine at_then ?_
    refine run_ret ?_
    have hR := Option.some.inj H
    subst hR
    exact at_ret1 rfl rfl ⟨_, rfl, rfl, HM⟩

def laws_szRule.f (k : Nat) (x0 : Rule) (x1 : Int) : Option Int := ((laws_szInt64S.f k x0.fKeys x1).bind fun t29 => (bif (decide (t29 < 0)) then some (-1) else some t29))
theorem laws_szRule.calls {k : Nat} {x0 : Rule} {x1 : Int} {p0_0 : Value} {w : World} (hp0_0 : RdS kInt w p0_0 x0.fKeys) {r : Int} (H : laws_szRule.f k x0 x1 = some r) :
    Calls Tryz.prog 113 ([.agg #[p0_0, (.int .i64 x0.fNeed), (.int .i64 x0.fAfter)], .int .i64 x1] : List Value).toArray w (fun e w_ => ∃ v, e = .returned v ∧ v = (.int .i64 r) ∧ Mem w [] w_ []) := by
  have HM := Mem.start w
  refine calls_run (N := 12) Tryz.func113 rfl rfl rfl rfl ?_
  unfold laws_szRule.f at H
  refine run_seq ?_
  refine run_region rfl ?_
  refine ops_does rfl (guard_none rfl) rfl rfl (does_box (cs := [p0_0, .int .i64 x0.fNeed, .int .i64 x0.fAfter]) rfl rfl rfl HM) ?_
  rintro _ w28 ⟨b25, rfl, HM⟩
  refine ops_ex rfl (guard_none rfl) rfl rfl (ex_assign rfl rfl) ?_
  refine ops_nil ?_
  refine at_then ?_
  refine run_seq ?_
  obtain ⟨t29, h30, H⟩ := bind_some H
  refine run_region rfl ?_
  refine ops_ex rfl (guard_none rfl) rfl rfl (ex_fieldAddr (off' := 0) rfl rfl Tryz.underlying62 rfl tsz60 rfl) ?_
  refine ops_ex rfl (guard_none rfl) rfl rfl (ex_load1 rfl rfl Tryz.underlying60 rfl ((HM.box_at 0 rfl) 0 _ rfl)) ?_
  refine ops_ex rfl (guard_none rfl) rfl rfl (ex_move rfl rfl) ?_
  refine ops_does rfl (guard_none rfl) rfl rfl (does_callk rfl callok145 rfl (laws_szInt64S.calls (x0 := x0.fKeys) (x1 := x1) (HM.rd hp0_0) h30)) ?_
  rintro _ w31 ⟨rfl, hn⟩
  replace HM : Mem w [] w31 [box b25 62 [p0_0, .int .i64 x0.fNeed, .int .i64 x0.fAfter]] := HM.call hn
  refine ops_ex rfl (guard_none rfl) rfl rfl (ex_assign rfl rfl) ?_
  refine ops_nil ?_
  refine at_then ?_
  refine run_seq ?_
  refine run_seq ?_
  refine run_region rfl ?_
  refine ops_ex rfl (guard_none rfl) rfl rfl (ex_move rfl rfl) ?_
  refine ops_ex rfl (guard_none rfl) rfl rfl (ex_lss rfl rfl rfl) ?_
  refine ops_nil ?_
  refine at_then ?_
  refine run_cond (b := (decide (t29 < 0))) rfl (fun hb32 => ?_) (fun hb32 => ?_)
  · replace H := cond_t hb32 H
    refine run_seq ?_
    refine run_region rfl ?_
    refine ops_ex rfl (guard_none rfl) rfl rfl (ex_assign rfl rfl) ?_
    refine ops_nil ?_
    refine at_then ?_
    refine run_ret ?_
    refine at_then_ret ?_
    replace HM := (HM.front 0 rfl rfl).drop
    have hR := Option.some.inj H
    subst hR
    exact at_ret1 rfl rfl ⟨_, rfl, rfl, HM⟩
  · replace H := cond_f hb32 H
    refine run_skip ?_
    refine at_then ?_
    refine run_seq ?_
    refine run_region rfl ?_
    refine ops_ex rfl (guard_none rfl) rfl rfl (ex_move rfl rfl) ?_
    refine ops_ex rfl (guard_none rfl) rfl rfl (ex_assign rfl rfl) ?_
    refine ops_nil ?_
    refine at_then ?_
    refine run_ret ?_
    replace HM := (HM.front 0 rfl rfl).drop
    have hR := Option.some.inj H
    subst hR
    exact at_ret1 rfl rfl ⟨_, rfl, rfl, HM⟩

def laws_szOut.f (k : Nat) (x0 : Out) (x1 : Int) : Option Int := ((laws_szRule.f k x0.fRule x1).bind fun t40 => (bif (decide (t40 < 0)) then some (-1) else some t40))
theorem laws_szOut.calls {k : Nat} {x0 : Out} {x1 : Int} {p0_0 : Value} {w : World} (hp0_0 : RdS kInt w p0_0 x0.fRule.fKeys) {r : Int} (H : laws_szOut.f k x0 x1 = some r) :
    Calls Tryz.prog 69 ([.agg #[(.int .i64 x0.fValue), p0_0, (.int .i64 x0.fRule.fNeed), (.int .i64 x0.fRule.fAfter)], .int .i64 x1] : List Value).toArray w (fun e w_ => ∃ v, e = .returned v ∧ v = (.int .i64 r) ∧ Mem w [] w_ []) := by
  have HM := Mem.start w
  refine calls_run (N := 12) Tryz.func69 rfl rfl rfl rfl ?_
  unfold laws_szOut.f at H
  refine run_seq ?_
  refine run_region rfl ?_
  refine ops_does rfl (guard_none rfl) rfl rfl (does_box (cs := [.int .i64 x0.fValue, p0_0, .int .i64 x0.fRule.fNeed, .int .i64 x0.fRule.fAfter]) rfl rfl rfl HM) ?_
  rintro _ w39 ⟨b36, rfl, HM⟩
  refine ops_ex rfl (guard_none rfl) rfl rfl (ex_assign rfl rfl) ?_
  refine ops_nil ?_
  refine at_then ?_
  refine run_seq ?_
  obtain ⟨t40, h41, H⟩ := bind_some H
  refine run_region rfl ?_
  refine ops_ex rfl (guard_none rfl) rfl rfl (ex_fieldAddr (off' := 1) rfl rfl Tryz.underlying64 rfl tsz62 rfl) ?_
  refine ops_ex rfl (guard_none rfl) rfl rfl (ex_loadN (cs := [p0_0, (.int .i64 x0.fRule.fNeed), (.int .i64 x0.fRule.fAfter)]) rfl rfl Tryz.underlying62 rfl tsz62 rfl ((HM.box_at 0 rfl).sub 1 3 rfl)) ?_
  refine ops_ex rfl (guard_none rfl) rfl rfl (ex_move rfl rfl) ?_
  refine ops_does rfl (guard_none rfl) rfl rfl (does_callk rfl callok113 rfl (laws_szRule.calls (x0 := x0.fRule) (x1 := x1) (HM.rd hp0_0) h41)) ?_
  rintro _ w42 ⟨rfl, hn⟩
  replace HM : Mem w [] w42 [box b36 64 [.int .i64 x0.fValue, p0_0, .int .i64 x0.fRule.fNeed, .int .i64 x0.fRule.fAfter]] := HM.call hn
  refine ops_ex rfl (guard_none rfl) rfl rfl (ex_assign rfl rfl) ?_
  refine ops_nil ?_
  refine at_then ?_
  refine run_seq ?_
  refine run_seq ?_
  refine run_region rfl ?_
  refine ops_ex rfl (guard_none rfl) rfl rfl (ex_move rfl rfl) ?_
  refine ops_ex rfl (guard_none rfl) rfl rfl (ex_lss rfl rfl rfl) ?_
  refine ops_nil ?_
  refine at_then ?_
  refine run_cond (b := (decide (t40 < 0))) rfl (fun hb43 => ?_) (fun hb43 => ?_)
  · replace H := cond_t hb43 H
    refine run_seq ?_
    refine run_region rfl ?_
    refine ops_ex rfl (guard_none rfl) rfl rfl (ex_assign rfl rfl) ?_
    refine ops_nil ?_
    refine at_then ?_
    refine run_ret ?_
    refine at_then_ret ?_
    replace HM := (HM.front 0 rfl rfl).drop
    have hR := Option.some.inj H
    subst hR
    exact at_ret1 rfl rfl ⟨_, rfl, rfl, HM⟩
  · replace H := cond_f hb43 H
    refine run_skip ?_
    refine at_then ?_
    refine run_seq ?_
    refine run_region rfl ?_
    refine ops_ex rfl (guard_none rfl) rfl rfl (ex_move rfl rfl) ?_
    refine ops_ex rfl (guard_none rfl) rfl rfl (ex_assign rfl rfl) ?_
    refine ops_nil ?_
    refine at_then ?_
    refine run_ret ?_
    replace HM := (HM.front 0 rfl rfl).drop
    have hR := Option.some.inj H
    subst hR
    exact at_ret1 rfl rfl ⟨_, rfl, rfl, HM⟩

def laws_szCoin.f (k : Nat) (x0 : Coin) (x1 : Int) : Option Int := ((laws_szOut.f k x0.fOut x1).bind fun t51 => (bif (decide (t51 < 0)) then some (-1) else some t51))
theorem laws_szCoin.calls {k : Nat} {x0 : Coin} {x1 : Int} {p0_0 : Value} {w : World} (hp0_0 : RdS kInt w p0_0 x0.fOut.fRule.fKeys) {r : Int} (H : laws_szCoin.f k x0 x1 = some r) :
    Calls Tryz.prog 29 ([.agg #[(.int .i64 x0.fRef.fTx), (.int .i64 x0.fRef.fAt), (.int .i64 x0.fOut.fValue), p0_0, (.int .i64 x0.fOut.fRule.fNeed), (.int .i64 x0.fOut.fRule.fAfter), (.int .i64 x0.fHeight), (.bool x0.fMined)], .int .i64 x1] : List Value).toArray w (fun e w_ => ∃ v, e = .returned v ∧ v = (.int .i64 r) ∧ Mem w [] w_ []) := by
  have HM := Mem.start w
  refine calls_run (N := 12) Tryz.func29 rfl rfl rfl rfl ?_
  unfold laws_szCoin.f at H
  refine run_seq ?_
  refine run_region rfl ?_
  refine ops_does rfl (guard_none rfl) rfl rfl (does_box (cs := [.int .i64 x0.fRef.fTx, .int .i64 x0.fRef.fAt, .int .i64 x0.fOut.fValue, p0_0, .int .i64 x0.fOut.fRule.fNeed, .int .i64 x0.fOut.fRule.fAfter, .int .i64 x0.fHeight, .bool x0.fMined]) rfl rfl rfl HM) ?_
  rintro _ w50 ⟨b47, rfl, HM⟩
  refine ops_ex rfl (guard_none rfl) rfl rfl (ex_assign rfl rfl) ?_
  refine ops_nil ?_
  refine at_then ?_
  refine run_seq ?_
  obtain ⟨t51, h52, H⟩ := bind_some H
  refine run_region rfl ?_
  refine ops_ex rfl (guard_none rfl) rfl rfl (ex_fieldAddr (off' := 2) rfl rfl Tryz.underlying66 rfl tsz64 rfl) ?_
  refine ops_ex rfl (guard_none rfl) rfl rfl (ex_loadN (cs := [(.int .i64 x0.fOut.fValue), p0_0, (.int .i64 x0.fOut.fRule.fNeed), (.int .i64 x0.fOut.fRule.fAfter)]) rfl rfl Tryz.underlying64 rfl tsz64 rfl ((HM.box_at 0 rfl).sub 2 4 rfl)) ?_
  refine ops_ex rfl (guard_none rfl) rfl rfl (ex_move rfl rfl) ?_
  refine ops_does rfl (guard_none rfl) rfl rfl (does_callk rfl callok69 rfl (laws_szOut.calls (x0 := x0.fOut) (x1 := x1) (HM.rd hp0_0) h52)) ?_
  rintro _ w53 ⟨rfl, hn⟩
  replace HM : Mem w [] w53 [box b47 66 [.int .i64 x0.fRef.fTx, .int .i64 x0.fRef.fAt, .int .i64 x0.fOut.fValue, p0_0, .int .i64 x0.fOut.fRule.fNeed, .int .i64 x0.fOut.fRule.fAfter, .int .i64 x0.fHeight, .bool x0.fMined]] := HM.call hn
  refine ops_ex rfl (guard_none rfl) rfl rfl (ex_assign rfl rfl) ?_
  refine ops_nil ?_
  refine at_then ?_
  refine run_seq ?_
  refine run_seq ?_
  refine run_region rfl ?_
  refine ops_ex rfl (guard_none rfl) rfl rfl (ex_move rfl rfl) ?_
  refine ops_ex rfl (guard_none rfl) rfl rfl (ex_lss rfl rfl rfl) ?_
  refine ops_nil ?_
  refine at_then ?_
  refine run_cond (b := (decide (t51 < 0))) rfl (fun hb54 => ?_) (fun hb54 => ?_)
  · replace H := cond_t hb54 H
    refine run_seq ?_
    refine run_region rfl ?_
    refine ops_ex rfl (guard_none rfl) rfl rfl (ex_assign rfl rfl) ?_
    refine ops_nil ?_
    refine at_then ?_
    refine run_ret ?_
    refine at_then_ret ?_
    replace HM := (HM.front 0 rfl rfl).drop
    have hR := Option.some.inj H
    subst hR
    exact at_ret1 rfl rfl ⟨_, rfl, rfl, HM⟩
  · replace H := cond_f hb54 H
    refine run_skip ?_
    refine at_then ?_
    refine run_seq ?_
    refine run_region rfl ?_
    refine ops_ex rfl (guard_none rfl) rfl rfl (ex_move rfl rfl) ?_
    refine ops_ex rfl (guard_none rfl) rfl rfl (ex_assign rfl rfl) ?_
    refine ops_nil ?_
    refine at_then ?_
    refine run_ret ?_
    replace HM := (HM.front 0 rfl rfl).drop
    have hR := Option.some.inj H
    subst hR
    exact at_ret1 rfl rfl ⟨_, rfl, rfl, HM⟩

def laws_szCoinS.l0 (x0 : List Coin) : Nat → Int → Int → Option (Int ⊕ Int)
  | 0, _, _ => none
  | k + 1, a118, a119 => (bif (decide (a119 < (x0.length : Int))) then (chk (idxOk a119 x0.length) ((laws_szCoin.f k (gt x0 a119) a118).bind fun t135 => (bif (decide (t135 < 0)) then some (.inl (-1)) else laws_szCoinS.l0 x0 k t135 (wrap64 (a119 + 1))))) else some (.inr a118))
theorem laws_szCoinS.l0_z (x0 : List Coin) (a118 : Int) (a119 : Int) : laws_szCoinS.l0 x0 0 a118 a119 = none := rfl
theorem laws_szCoinS.l0_s (x0 : List Coin) (k : Nat) (a118 : Int) (a119 : Int) : laws_szCoinS.l0 x0 (k + 1) a118 a119 = (bif (decide (a119 < (x0.length : Int))) then (chk (idxOk a119 x0.length) ((laws_szCoin.f k (gt x0 a119) a118).bind fun t135 => (bif (decide (t135 < 0)) then some (.inl (-1)) else laws_szCoinS.l0 x0 k t135 (wrap64 (a119 + 1))))) else some (.inr a118)) := rfl
def laws_szCoinS.f (k : Nat) (x0 : List Coin) (x1 : Int) : Option Int := (bif (decide ((wrap64 (x1 - (x0.length : Int))) < 0)) then some (-1) else ((laws_szCoinS.l0 x0 k (wrap64 (x1 - (x0.length : Int))) 0).bind fun o108 => thn o108 (fun r => some r) (fun a107 => some a107)))
theorem laws_szCoinS.calls {k : Nat} {x0 : List Coin} {x1 : Int} {p0 : Value} {w : World} (hp0 : RdS kCoin w p0 x0) {r : Int} (H : laws_szCoinS.f k x0 x1 = some r) :
    Calls Tryz.prog 7 ([p0, .int .i64 x1] : List Value).toArray w (fun e w_ => ∃ v, e = .returned v ∧ v = (.int .i64 r) ∧ Mem w [] w_ []) := by
  have HM := Mem.start w
  refine calls_run (N := 27) Tryz.func7 rfl rfl rfl rfl ?_
  unfold laws_szCoinS.f at H
  refine run_seq ?_
  refine run_region rfl ?_
  refine ops_ex rfl (guard_none rfl) rfl rfl (ex_assign rfl rfl) ?_
  refine ops_nil ?_
  refine at_then ?_
  refine run_seq ?_
  refine run_region rfl ?_
  refine ops_ex rfl (guard_none rfl) rfl rfl (ex_move rfl rfl) ?_
  refine ops_ex rfl (guard_none rfl) rfl rfl (ex_move rfl rfl) ?_
  refine ops_ex rfl (guard_none rfl) rfl rfl (ex_len (d := kCoin) (xs := x0) rfl rfl Tryz.underlying22 hp0) ?_
  refine ops_ex rfl (guard_none rfl) rfl rfl (ex_sub rfl rfl rfl) ?_
  refine ops_ex rfl (guard_none rfl) rfl rfl (ex_assign rfl rfl) ?_
  refine ops_nil ?_
  refine at_then ?_
  refine run_seq ?_
  refine run_seq ?_
  refine run_region rfl ?_
  refine ops_ex rfl (guard_none rfl) rfl rfl (ex_move rfl rfl) ?_
  refine ops_ex rfl (guard_none rfl) rfl rfl (ex_lss rfl rfl rfl) ?_
  refine ops_nil ?_
  refine at_then ?_
  refine run_cond (b := (decide ((wrap64 (x1 - (x0.length : Int))) < 0))) rfl (fun hb80 => ?_) (fun hb80 => ?_)
  · replace H := cond_t hb80 H
    refine run_seq ?_
    refine run_region rfl ?_
    refine ops_ex rfl (guard_none rfl) rfl rfl (ex_assign rfl rfl) ?_
    refine ops_nil ?_
    refine at_then ?_
    refine run_ret ?_
    refine at_then_ret ?_
    have hR := Option.some.inj H
    subst hR
    exact at_ret1 rfl rfl ⟨_, rfl, rfl, HM⟩
  · replace H := cond_f hb80 H
    refine run_skip ?_
    refine at_then ?_
    obtain ⟨o108, ho109, H⟩ := bind_some H
    refine run_mid (fun ρ_ w_ => ∃ a107 : Int, Sum.inr a107 = o108 ∧ ρ_ = [(1, .int .i64 a107)] ∧ Mem w [] w_ []) ?_ ?_
    · skip
      refine run_seq ?_
      refine run_region rfl ?_
      refine ops_ex rfl (guard_none rfl) rfl rfl (ex_assign rfl rfl) ?_
      refine ops_nil ?_
      refine at_then ?_
      refine run_block ?_
      refine run_loop (fun k_ ρ_ w_ => ∃ a118 : Int, ∃ a119 : Int, laws_szCoinS.l0 x0 k_ a118 a119 = some o108 ∧ ρ_ = [(0, p0), (1, .int .i64 a118), (5, .int .i64 a119)] ∧ Mem w [] w_ []) k (ρ1 := [(0, p0), (1, .int .i64 (wrap64 (x1 - (x0.length : Int)))), (5, .int .i64 0)]) ⟨_, _, ho109, rfl, HM⟩ (Sub.cons rfl (Sub.cons rfl (Sub.cons rfl Sub.nil))) ?_
      clear HM ho109
      rintro k128 _ w129 ⟨a118, a119, ho109, rfl, HM⟩
      obtain _ | k128 := k128
      · exact nomatch ((laws_szCoinS.l0_z x0 a118 a119).symm.trans ho109)
      replace ho109 := (laws_szCoinS.l0_s x0 k128 a118 a119).symm.trans ho109
      refine run_seq ?_
      refine run_seq ?_
      refine run_region rfl ?_
      refine ops_ex rfl (guard_none rfl) rfl rfl (ex_move rfl rfl) ?_
      refine ops_ex rfl (guard_none rfl) rfl rfl (ex_move rfl rfl) ?_
      refine ops_ex rfl (guard_none rfl) rfl rfl (ex_len (d := kCoin) (xs := x0) rfl rfl Tryz.underlying22 hp0) ?_
      refine ops_ex rfl (guard_none rfl) rfl rfl (ex_lss rfl rfl rfl) ?_
      refine ops_nil ?_
      refine at_then ?_
      refine run_cond (b := (decide (a119 < (x0.length : Int)))) rfl (fun hb130 => ?_) (fun hb130 => ?_)
      · replace ho109 := cond_t hb130 ho109
        refine run_skip ?_
        refine at_then ?_
        refine run_seq ?_
        refine run_block ?_
        refine run_seq ?_
        obtain ⟨e131, ho109⟩ := chk_some ho109
        obtain ⟨t135, h136, ho109⟩ := bind_some ho109
        refine run_region rfl ?_
        refine ops_ex rfl (guard_none rfl) rfl rfl (ex_move rfl rfl) ?_
        refine ops_ex rfl (guard_none rfl) rfl rfl (ex_move rfl rfl) ?_
        obtain ⟨kv133, hc132, hk134⟩ : ∃ u, CellsAt _ (sb p0) (so p0 + (a119).toNat * 8) [(.int .i64 ((gt x0 a119).fRef.fTx)), (.int .i64 ((gt x0 a119).fRef.fAt)), (.int .i64 ((gt x0 a119).fOut.fValue)), u, (.int .i64 ((gt x0 a119).fOut.fRule.fNeed)), (.int .i64 ((gt x0 a119).fOut.fRule.fAfter)), (.int .i64 ((gt x0 a119).fHeight)), (.bool ((gt x0 a119).fMined))] ∧ RdS kInt _ u ((gt x0 a119).fOut.fRule.fKeys) := rd_with1 hp0 e131
        refine ops_ex rfl (guard_none rfl) rfl rfl (ex_indexAddr (d := kCoin) rfl rfl rfl Tryz.underlying22 tsz66 hp0 (idx_lo e131) (idx_hi e131)) ?_
        refine ops_ex rfl (guard_none rfl) rfl rfl (ex_loadN (cs := [(.int .i64 ((gt x0 a119).fRef.fTx)), (.int .i64 ((gt x0 a119).fRef.fAt)), (.int .i64 ((gt x0 a119).fOut.fValue)), kv133, (.int .i64 ((gt x0 a119).fOut.fRule.fNeed)), (.int .i64 ((gt x0 a119).fOut.fRule.fAfter)), (.int .i64 ((gt x0 a119).fHeight)), (.bool ((gt x0 a119).fMined))]) rfl rfl Tryz.underlying66 rfl tsz66 rfl ((HM.at_ hc132).sub 0 8 rfl)) ?_
        refine ops_ex rfl (guard_none rfl) rfl rfl (ex_move rfl rfl) ?_
        refine ops_does rfl (guard_none rfl) rfl rfl (does_callk rfl callok29 rfl (laws_szCoin.calls (x0 := (gt x0 a119)) (x1 := a118) (HM.rd hk134) h136)) ?_
        rintro _ w137 ⟨rfl, hn⟩
        replace HM : Mem w [] w137 [] := HM.call hn
        refine ops_ex rfl (guard_none rfl) rfl rfl (ex_assign rfl rfl) ?_
        refine ops_nil ?_
        refine at_then ?_
        refine run_seq ?_
        refine run_region rfl ?_
        refine ops_ex rfl (guard_none rfl) rfl rfl (ex_move rfl rfl) ?_
        refine ops_ex rfl (guard_none rfl) rfl rfl (ex_lss rfl rfl rfl) ?_
        refine ops_nil ?_
        refine at_then ?_
        refine run_cond (b := (decide (t135 < 0))) rfl (fun hb138 => ?_) (fun hb138 => ?_)
        · replace ho109 := cond_t hb138 ho109
          refine run_seq ?_
          refine run_region rfl ?_
          refine ops_ex rfl (guard_none rfl) rfl rfl (ex_assign rfl rfl) ?_
          refine ops_nil ?_
          refine at_then ?_
          refine run_ret ?_
          refine at_block_ret ?_
          refine at_then_ret ?_
          refine at_then_ret ?_
          refine at_block_ret ?_
          refine at_then_ret ?_
          have hR := Option.some.inj ho109
          subst hR
          have hT := thn_inl H
          have hR := Option.some.inj hT
          subst hR
          exact at_ret1 rfl rfl ⟨_, rfl, rfl, HM⟩
        · replace ho109 := cond_f hb138 ho109
          refine run_skip ?_
          refine at_block ?_
          refine at_then ?_
          refine run_region rfl ?_
          refine ops_ex rfl (guard_none rfl) rfl rfl (ex_move rfl rfl) ?_
          refine ops_ex rfl (guard_none rfl) rfl rfl (ex_add rfl rfl rfl) ?_
          refine ops_ex rfl (guard_none rfl) rfl rfl (ex_assign rfl rfl) ?_
          refine ops_nil ?_
          exact at_again k128 (ρ1 := [(0, p0), (1, .int .i64 t135), (5, .int .i64 (wrap64 (a119 + 1)))]) (Nat.lt_succ_self _) ⟨_, _, ho109, rfl, HM⟩ (Sub.cons rfl (Sub.cons rfl (Sub.cons rfl Sub.nil)))
      · replace ho109 := cond_f hb130 ho109
        refine run_exit ?_
        refine at_then_exit ?_
        refine at_then_exit ?_
        refine at_block_exit ?_
        exact at_mid (ρ' := [(1, .int .i64 a118)]) ⟨_, (Option.some.inj ho109), rfl, HM⟩ (Sub.cons rfl Sub.nil)
    · rintro _ w139 ⟨a107, rfl, rfl, HM⟩
      replace H := (thn_inr H)
      refine run_seq ?_
      refine run_region rfl ?_
      refine ops_ex rfl (guard_none rfl) rfl rfl (ex_move rfl rfl) ?_
      refine ops_ex rfl (guard_none rfl) rfl rfl (ex_assign rfl rfl) ?_
      refine ops_nil ?_
      refine at_then ?_
      refine run_ret ?_
      have hR := Option.some.inj H
      subst hR
      exact at_ret1 rfl rfl ⟨_, rfl, rfl, HM⟩

def laws_szRefS.f (k : Nat) (x0 : List Ref) (x1 : Int) : Option Int := (bif (decide ((wrap64 (x1 - (x0.length : Int))) < 0)) then some (-1) else some (wrap64 (x1 - (x0.length : Int))))
theorem laws_szRefS.calls {k : Nat} {x0 : List Ref} {x1 : Int} {p0 : Value} {w : World} (hp0 : RdS kRef w p0 x0) {r : Int} (H : laws_szRefS.f k x0 x1 = some r) :
    Calls Tryz.prog 30 ([p0, .int .i64 x1] : List Value).toArray w (fun e w_ => ∃ v, e = .returned v ∧ v = (.int .i64 r) ∧ Mem w [] w_ []) := by
  have HM := Mem.start w
  refine calls_run (N := 12) Tryz.func30 rfl rfl rfl rfl ?_
  unfold laws_szRefS.f at H
  refine run_seq ?_
  refine run_region rfl ?_
  refine ops_ex rfl (guard_none rfl) rfl rfl (ex_assign rfl rfl) ?_
  refine ops_nil ?_
  refine at_then ?_
  refine run_seq ?_
  refine run_region rfl ?_
  refine ops_ex rfl (guard_none rfl) rfl rfl (ex_move rfl rfl) ?_
  refine ops_ex rfl (guard_none rfl) rfl rfl (ex_move rfl rfl) ?_
  refine ops_ex rfl (guard_none rfl) rfl rfl (ex_len (d := kRef) (xs := x0) rfl rfl Tryz.underlying23 hp0) ?_
  refine ops_ex rfl (guard_none rfl) rfl rfl (ex_sub rfl rfl rfl) ?_
  refine ops_ex rfl (guard_none rfl) rfl rfl (ex_assign rfl rfl) ?_
  refine ops_nil ?_
  refine at_then ?_
  refine run_seq ?_
  refine run_seq ?_
  refine run_region rfl ?_
  refine ops_ex rfl (guard_none rfl) rfl rfl (ex_move rfl rfl) ?_
  refine ops_ex rfl (guard_none rfl) rfl rfl (ex_lss rfl rfl rfl) ?_
  refine ops_nil ?_
  refine at_then ?_
  refine run_cond (b := (decide ((wrap64 (x1 - (x0.length : Int))) < 0))) rfl (fun hb148 => ?_) (fun hb148 => ?_)
  · replace H := cond_t hb148 H
    refine run_seq ?_
    refine run_region rfl ?_
    refine ops_ex rfl (guard_none rfl) rfl rfl (ex_assign rfl rfl) ?_
    refine ops_nil ?_
    refine at_then ?_
    refine run_ret ?_
    refine at_then_ret ?_
    have hR := Option.some.inj H
    subst hR
    exact at_ret1 rfl rfl ⟨_, rfl, rfl, HM⟩
  · replace H := cond_f hb148 H
    refine run_skip ?_
    refine at_then ?_
    refine run_seq ?_
    refine run_region rfl ?_
    refine ops_ex rfl (guard_none rfl) rfl rfl (ex_move rfl rfl) ?_
    refine ops_ex rfl (guard_none rfl) rfl rfl (ex_assign rfl rfl) ?_
    refine ops_nil ?_
    refine at_then ?_
    refine run_ret ?_
    have hR := Option.some.inj H
    subst hR
    exact at_ret1 rfl rfl ⟨_, rfl, rfl, HM⟩

def laws_szOutS.l0 (x0 : List Out) : Nat → Int → Int → Option (Int ⊕ Int)
  | 0, _, _ => none
  | k + 1, a223, a224 => (bif (decide (a224 < (x0.length : Int))) then (chk (idxOk a224 x0.length) ((laws_szOut.f k (gt x0 a224) a223).bind fun t240 => (bif (decide (t240 < 0)) then some (.inl (-1)) else laws_szOutS.l0 x0 k t240 (wrap64 (a224 + 1))))) else some (.inr a223))
theorem laws_szOutS.l0_z (x0 : List Out) (a223 : Int) (a224 : Int) : laws_szOutS.l0 x0 0 a223 a224 = none := rfl
theorem laws_szOutS.l0_s (x0 : List Out) (k : Nat) (a223 : Int) (a224 : Int) : laws_szOutS.l0 x0 (k + 1) a223 a224 = (bif (decide (a224 < (x0.length : Int))) then (chk (idxOk a224 x0.length) ((laws_szOut.f k (gt x0 a224) a223).bind fun t240 => (bif (decide (t240 < 0)) then some (.inl (-1)) else laws_szOutS.l0 x0 k t240 (wrap64 (a224 + 1))))) else some (.inr a223)) := rfl
def laws_szOutS.f (k : Nat) (x0 : List Out) (x1 : Int) : Option Int := (bif (decide ((wrap64 (x1 - (x0.length : Int))) < 0)) then some (-1) else ((laws_szOutS.l0 x0 k (wrap64 (x1 - (x0.length : Int))) 0).bind fun o213 => thn o213 (fun r => some r) (fun a212 => some a212)))
theorem laws_szOutS.calls {k : Nat} {x0 : List Out} {x1 : Int} {p0 : Value} {w : World} (hp0 : RdS kOut w p0 x0) {r : Int} (H : laws_szOutS.f k x0 x1 = some r) :
    Calls Tryz.prog 31 ([p0, .int .i64 x1] : List Value).toArray w (fun e w_ => ∃ v, e = .returned v ∧ v = (.int .i64 r) ∧ Mem w [] w_ []) := by
  have HM := Mem.start w
  refine calls_run (N := 27) Tryz.func31 rfl rfl rfl rfl ?_
  unfold laws_szOutS.f at H
  refine run_seq ?_
  refine run_region rfl ?_
  refine ops_ex rfl (guard_none rfl) rfl rfl (ex_assign rfl rfl) ?_
  refine ops_nil ?_
  refine at_then ?_
  refine run_seq ?_
  refine run_region rfl ?_
  refine ops_ex rfl (guard_none rfl) rfl rfl (ex_move rfl rfl) ?_
  refine ops_ex rfl (guard_none rfl) rfl rfl (ex_move rfl rfl) ?_
  refine ops_ex rfl (guard_none rfl) rfl rfl (ex_len (d := kOut) (xs := x0) rfl rfl Tryz.underlying24 hp0) ?_
  refine ops_ex rfl (guard_none rfl) rfl rfl (ex_sub rfl rfl rfl) ?_
  refine ops_ex rfl (guard_none rfl) rfl rfl (ex_assign rfl rfl) ?_
  refine ops_nil ?_
  refine at_then ?_
  refine run_seq ?_
  refine run_seq ?_
  refine run_region rfl ?_
  refine ops_ex rfl (guard_none rfl) rfl rfl (ex_move rfl rfl) ?_
  refine ops_ex rfl (guard_none rfl) rfl rfl (ex_lss rfl rfl rfl) ?_
  refine ops_nil ?_
  refine at_then ?_
  refine run_cond (b := (decide ((wrap64 (x1 - (x0.length : Int))) < 0))) rfl (fun hb185 => ?_) (fun hb185 => ?_)
  · replace H := cond_t hb185 H
    refine run_seq ?_
    refine run_region rfl ?_
    refine ops_ex rfl (guard_none rfl) rfl rfl (ex_assign rfl rfl) ?_
    refine ops_nil ?_
    refine at_then ?_
    refine run_ret ?_
    refine at_then_ret ?_
    have hR := Option.some.inj H
    subst hR
    exact at_ret1 rfl rfl ⟨_, rfl, rfl, HM⟩
  · replace H := cond_f hb185 H
    refine run_skip ?_
    refine at_then ?_
    obtain ⟨o213, ho214, H⟩ := bind_some H
    refine run_mid (fun ρ_ w_ => ∃ a212 : Int, Sum.inr a212 = o213 ∧ ρ_ = [(1, .int .i64 a212)] ∧ Mem w [] w_ []) ?_ ?_
    · skip
      refine run_seq ?_
      refine run_region rfl ?_
      refine ops_ex rfl (guard_none rfl) rfl rfl (ex_assign rfl rfl) ?_
      refine ops_nil ?_
      refine at_then ?_
      refine run_block ?_
      refine run_loop (fun k_ ρ_ w_ => ∃ a223 : Int, ∃ a224 : Int, laws_szOutS.l0 x0 k_ a223 a224 = some o213 ∧ ρ_ = [(0, p0), (1, .int .i64 a223), (5, .int .i64 a224)] ∧ Mem w [] w_ []) k (ρ1 := [(0, p0), (1, .int .i64 (wrap64 (x1 - (x0.length : Int)))), (5, .int .i64 0)]) ⟨_, _, ho214, rfl, HM⟩ (Sub.cons rfl (Sub.cons rfl (Sub.cons rfl Sub.nil))) ?_
      clear HM ho214
      rintro k233 _ w234 ⟨a223, a224, ho214, rfl, HM⟩
      obtain _ | k233 := k233
      · exact nomatch ((laws_szOutS.l0_z x0 a223 a224).symm.trans ho214)
      replace ho214 := (laws_szOutS.l0_s x0 k233 a223 a224).symm.trans ho214
      refine run_seq ?_
      refine run_seq ?_
      refine run_region rfl ?_
      refine ops_ex rfl (guard_none rfl) rfl rfl (ex_move rfl rfl) ?_
      refine ops_ex rfl (guard_none rfl) rfl rfl (ex_move rfl rfl) ?_
      refine ops_ex rfl (guard_none rfl) rfl rfl (ex_len (d := kOut) (xs := x0) rfl rfl Tryz.underlying24 hp0) ?_
      refine ops_ex rfl (guard_none rfl) rfl rfl (ex_lss rfl rfl rfl) ?_
      refine ops_nil ?_
      refine at_then ?_
      refine run_cond (b := (decide (a224 < (x0.length : Int)))) rfl (fun hb235 => ?_) (fun hb235 => ?_)
      · replace ho214 := cond_t hb235 ho214
        refine run_skip ?_
        refine at_then ?_
        refine run_seq ?_
        refine run_block ?_
        refine run_seq ?_
        obtain ⟨e236, ho214⟩ := chk_some ho214
        obtain ⟨t240, h241, ho214⟩ := bind_some ho214
        refine run_region rfl ?_
        refine ops_ex rfl (guard_none rfl) rfl rfl (ex_move rfl rfl) ?_
        refine ops_ex rfl (guard_none rfl) rfl rfl (ex_move rfl rfl) ?_
        obtain ⟨kv238, hc237, hk239⟩ : ∃ u, CellsAt _ (sb p0) (so p0 + (a224).toNat * 4) [(.int .i64 ((gt x0 a224).fValue)), u, (.int .i64 ((gt x0 a224).fRule.fNeed)), (.int .i64 ((gt x0 a224).fRule.fAfter))] ∧ RdS kInt _ u ((gt x0 a224).fRule.fKeys) := rd_with1 hp0 e236
        refine ops_ex rfl (guard_none rfl) rfl rfl (ex_indexAddr (d := kOut) rfl rfl rfl Tryz.underlying24 tsz64 hp0 (idx_lo e236) (idx_hi e236)) ?_
        refine ops_ex rfl (guard_none rfl) rfl rfl (ex_loadN (cs := [(.int .i64 ((gt x0 a224).fValue)), kv238, (.int .i64 ((gt x0 a224).fRule.fNeed)), (.int .i64 ((gt x0 a224).fRule.fAfter))]) rfl rfl Tryz.underlying64 rfl tsz64 rfl ((HM.at_ hc237).sub 0 4 rfl)) ?_
        refine ops_ex rfl (guard_none rfl) rfl rfl (ex_move rfl rfl) ?_
        refine ops_does rfl (guard_none rfl) rfl rfl (does_callk rfl callok69 rfl (laws_szOut.calls (x0 := (gt x0 a224)) (x1 := a223) (HM.rd hk239) h241)) ?_
        rintro _ w242 ⟨rfl, hn⟩
        replace HM : Mem w [] w242 [] := HM.call hn
        refine ops_ex rfl (guard_none rfl) rfl rfl (ex_assign rfl rfl) ?_
        refine ops_nil ?_
        refine at_then ?_
        refine run_seq ?_
        refine run_region rfl ?_
        refine ops_ex rfl (guard_none rfl) rfl rfl (ex_move rfl rfl) ?_
        refine ops_ex rfl (guard_none rfl) rfl rfl (ex_lss rfl rfl rfl) ?_
        refine ops_nil ?_
        refine at_then ?_
        refine run_cond (b := (decide (t240 < 0))) rfl (fun hb243 => ?_) (fun hb243 => ?_)
        · replace ho214 := cond_t hb243 ho214
          refine run_seq ?_
          refine run_region rfl ?_
          refine ops_ex rfl (guard_none rfl) rfl rfl (ex_assign rfl rfl) ?_
          refine ops_nil ?_
          refine at_then ?_
          refine run_ret ?_
          refine at_block_ret ?_
          refine at_then_ret ?_
          refine at_then_ret ?_
          refine at_block_ret ?_
          refine at_then_ret ?_
          have hR := Option.some.inj ho214
          subst hR
          have hT := thn_inl H
          have hR := Option.some.inj hT
          subst hR
          exact at_ret1 rfl rfl ⟨_, rfl, rfl, HM⟩
        · replace ho214 := cond_f hb243 ho214
          refine run_skip ?_
          refine at_block ?_
          refine at_then ?_
          refine run_region rfl ?_
          refine ops_ex rfl (guard_none rfl) rfl rfl (ex_move rfl rfl) ?_
          refine ops_ex rfl (guard_none rfl) rfl rfl (ex_add rfl rfl rfl) ?_
          refine ops_ex rfl (guard_none rfl) rfl rfl (ex_assign rfl rfl) ?_
          refine ops_nil ?_
          exact at_again k233 (ρ1 := [(0, p0), (1, .int .i64 t240), (5, .int .i64 (wrap64 (a224 + 1)))]) (Nat.lt_succ_self _) ⟨_, _, ho214, rfl, HM⟩ (Sub.cons rfl (Sub.cons rfl (Sub.cons rfl Sub.nil)))
      · replace ho214 := cond_f hb235 ho214
        refine run_exit ?_
        refine at_then_exit ?_
        refine at_then_exit ?_
        refine at_block_exit ?_
        exact at_mid (ρ' := [(1, .int .i64 a223)]) ⟨_, (Option.some.inj ho214), rfl, HM⟩ (Sub.cons rfl Sub.nil)
    · rintro _ w244 ⟨a212, rfl, rfl, HM⟩
      replace H := (thn_inr H)
      refine run_seq ?_
      refine run_region rfl ?_
      refine ops_ex rfl (guard_none rfl) rfl rfl (ex_move rfl rfl) ?_
      refine ops_ex rfl (guard_none rfl) rfl rfl (ex_assign rfl rfl) ?_
      refine ops_nil ?_
      refine at_then ?_
      refine run_ret ?_
      have hR := Option.some.inj H
      subst hR
      exact at_ret1 rfl rfl ⟨_, rfl, rfl, HM⟩

def laws_szTx.f (k : Nat) (x0 : Tx) (x1 : Int) : Option Int := ((laws_szRefS.f k x0.fIns x1).bind fun t252 => (bif (decide (t252 < 0)) then some (-1) else ((laws_szOutS.f k x0.fOuts t252).bind fun t257 => (bif (decide (t257 < 0)) then some (-1) else some t257))))
theorem laws_szTx.calls {k : Nat} {x0 : Tx} {x1 : Int} {p0_0 : Value} {p0_1 : Value} {w : World} (hp0_0 : RdS kRef w p0_0 x0.fIns) (hp0_1 : RdS kOut w p0_1 x0.fOuts) {r : Int} (H : laws_szTx.f k x0 x1 = some r) :
    Calls Tryz.prog 8 ([.agg #[(.int .i64 x0.fKind), (.int .i64 x0.fMember), p0_0, p0_1], .int .i64 x1] : List Value).toArray w (fun e w_ => ∃ v, e = .returned v ∧ v = (.int .i64 r) ∧ Mem w [] w_ []) := by
  have HM := Mem.start w
  refine calls_run (N := 18) Tryz.func8 rfl rfl rfl rfl ?_
  unfold laws_szTx.f at H
  refine run_seq ?_
  refine run_region rfl ?_
  refine ops_does rfl (guard_none rfl) rfl rfl (does_box (cs := [.int .i64 x0.fKind, .int .i64 x0.fMember, p0_0, p0_1]) rfl rfl rfl HM) ?_
  rintro _ w251 ⟨b248, rfl, HM⟩
  refine ops_ex rfl (guard_none rfl) rfl rfl (ex_assign rfl rfl) ?_
  refine ops_nil ?_
  refine at_then ?_
  refine run_seq ?_
  obtain ⟨t252, h253, H⟩ := bind_some H
  refine run_region rfl ?_
  refine ops_ex rfl (guard_none rfl) rfl rfl (ex_fieldAddr (off' := 2) rfl rfl Tryz.underlying26 rfl tsz23 rfl) ?_
  refine ops_ex rfl (guard_none rfl) rfl rfl (ex_load1 rfl rfl Tryz.underlying23 rfl ((HM.box_at 0 rfl) 2 _ rfl)) ?_
  refine ops_ex rfl (guard_none rfl) rfl rfl (ex_move rfl rfl) ?_
  refine ops_does rfl (guard_none rfl) rfl rfl (does_callk rfl callok30 rfl (laws_szRefS.calls (x0 := x0.fIns) (x1 := x1) (HM.rd hp0_0) h253)) ?_
  rintro _ w254 ⟨rfl, hn⟩
  replace HM : Mem w [] w254 [box b248 26 [.int .i64 x0.fKind, .int .i64 x0.fMember, p0_0, p0_1]] := HM.call hn
  refine ops_ex rfl (guard_none rfl) rfl rfl (ex_assign rfl rfl) ?_
  refine ops_nil ?_
  refine at_then ?_
  refine run_seq ?_
  refine run_seq ?_
  refine run_region rfl ?_
  refine ops_ex rfl (guard_none rfl) rfl rfl (ex_move rfl rfl) ?_
  refine ops_ex rfl (guard_none rfl) rfl rfl (ex_lss rfl rfl rfl) ?_
  refine ops_nil ?_
  refine at_then ?_
  refine run_cond (b := (decide (t252 < 0))) rfl (fun hb256 => ?_) (fun hb256 => ?_)
  · replace H := cond_t hb256 H
    refine run_seq ?_
    refine run_region rfl ?_
    refine ops_ex rfl (guard_none rfl) rfl rfl (ex_assign rfl rfl) ?_
    refine ops_nil ?_
    refine at_then ?_
    refine run_ret ?_
    refine at_then_ret ?_
    replace HM := (HM.front 0 rfl rfl).drop
    have hR := Option.some.inj H
    subst hR
    exact at_ret1 rfl rfl ⟨_, rfl, rfl, HM⟩
  · replace H := cond_f hb256 H
    refine run_skip ?_
    refine at_then ?_
    refine run_seq ?_
    obtain ⟨t257, h258, H⟩ := bind_some H
    refine run_region rfl ?_
    refine ops_ex rfl (guard_none rfl) rfl rfl (ex_fieldAddr (off' := 3) rfl rfl Tryz.underlying26 rfl tsz24 rfl) ?_
    refine ops_ex rfl (guard_none rfl) rfl rfl (ex_load1 rfl rfl Tryz.underlying24 rfl ((HM.box_at 0 rfl) 3 _ rfl)) ?_
    refine ops_ex rfl (guard_none rfl) rfl rfl (ex_move rfl rfl) ?_
    refine ops_does rfl (guard_none rfl) rfl rfl (does_callk rfl callok31 rfl (laws_szOutS.calls (x0 := x0.fOuts) (x1 := t252) (HM.rd hp0_1) h258)) ?_
    rintro _ w259 ⟨rfl, hn⟩
    replace HM : Mem w [] w259 [box b248 26 [.int .i64 x0.fKind, .int .i64 x0.fMember, p0_0, p0_1]] := HM.call hn
    refine ops_ex rfl (guard_none rfl) rfl rfl (ex_assign rfl rfl) ?_
    refine ops_nil ?_
    refine at_then ?_
    refine run_seq ?_
    refine run_seq ?_
    refine run_region rfl ?_
    refine ops_ex rfl (guard_none rfl) rfl rfl (ex_move rfl rfl) ?_
    refine ops_ex rfl (guard_none rfl) rfl rfl (ex_lss rfl rfl rfl) ?_
    refine ops_nil ?_
    refine at_then ?_
    refine run_cond (b := (decide (t257 < 0))) rfl (fun hb260 => ?_) (fun hb260 => ?_)
    · replace H := cond_t hb260 H
      refine run_seq ?_
      refine run_region rfl ?_
      refine ops_ex rfl (guard_none rfl) rfl rfl (ex_assign rfl rfl) ?_
      refine ops_nil ?_
      refine at_then ?_
      refine run_ret ?_
      refine at_then_ret ?_
      replace HM := (HM.front 0 rfl rfl).drop
      have hR := Option.some.inj H
      subst hR
      exact at_ret1 rfl rfl ⟨_, rfl, rfl, HM⟩
    · replace H := cond_f hb260 H
      refine run_skip ?_
      refine at_then ?_
      refine run_seq ?_
      refine run_region rfl ?_
      refine ops_ex rfl (guard_none rfl) rfl rfl (ex_move rfl rfl) ?_
      refine ops_ex rfl (guard_none rfl) rfl rfl (ex_assign rfl rfl) ?_
      refine ops_nil ?_
      refine at_then ?_
      refine run_ret ?_
      replace HM := (HM.front 0 rfl rfl).drop
      have hR := Option.some.inj H
      subst hR
      exact at_ret1 rfl rfl ⟨_, rfl, rfl, HM⟩

def laws_toRef.f (k : Nat) (x0 : Ref) : Option Ref := some x0
theorem laws_toRef.calls {k : Nat} {x0 : Ref}  {w : World}  {r : Ref} (H : laws_toRef.f k x0 = some r) :
    Calls Tryz.prog 78 ([.agg #[(.int .i64 x0.fTx), (.int .i64 x0.fAt)]] : List Value).toArray w (fun e w_ => ∃ v, e = .returned v ∧ v = (.agg #[.int .i64 r.fTx, .int .i64 r.fAt]) ∧ Mem w [] w_ []) := by
  have HM := Mem.start w
  refine calls_run (N := 11) Tryz.func78 rfl rfl rfl rfl ?_
  unfold laws_toRef.f at H
  refine run_seq ?_
  refine run_region rfl ?_
  refine ops_does rfl (guard_none rfl) rfl rfl (does_box (cs := [.int .i64 x0.fTx, .int .i64 x0.fAt]) rfl rfl rfl HM) ?_
  rintro _ w299 ⟨b293, rfl, HM⟩
  refine ops_does rfl (guard_none rfl) rfl rfl (does_alloc (cs := [.int .i64 0, .int .i64 0]) rfl tz56 rfl HM) ?_
  rintro _ w300 ⟨b296, rfl, HM⟩
  refine ops_nil ?_
  refine at_then ?_
  refine run_seq ?_
  refine run_region rfl ?_
  refine ops_does rfl (guard_none rfl) rfl rfl (does_alloc (cs := [.int .i64 0, .int .i64 0]) rfl tz56 rfl HM) ?_
  rintro _ w304 ⟨b301, rfl, HM⟩
  refine ops_nil ?_
  refine at_then ?_
  refine run_seq ?_
  refine run_region rfl ?_
  refine ops_ex rfl (guard_none rfl) rfl rfl (ex_fieldAddr (off' := 0) rfl rfl Tryz.underlying59 rfl tsz2 rfl) ?_
  refine ops_ex rfl (guard_none rfl) rfl rfl (ex_load1 rfl rfl Tryz.underlying2 rfl ((HM.box_at 2 rfl) 0 _ rfl)) ?_
  refine ops_ex rfl (guard_none rfl) rfl rfl (ex_fieldAddr (off' := 0) rfl rfl Tryz.underlying56 rfl tsz2 rfl) ?_
  refine ops_doesS rfl (guard_none rfl) rfl (does_store (vs := [.int .i64 x0.fTx]) (cs' := [.int .i64 x0.fTx, .int .i64 0]) rfl rfl rfl rfl tsz2 (Ones.int Ones.nil) rfl rfl HM) ?_
  rintro w305 HM
  refine ops_nil ?_
  refine at_then ?_
  refine run_seq ?_
  refine run_region rfl ?_
  refine ops_ex rfl (guard_none rfl) rfl rfl (ex_fieldAddr (off' := 1) rfl rfl Tryz.underlying59 rfl tsz2 rfl) ?_
  refine ops_ex rfl (guard_none rfl) rfl rfl (ex_load1 rfl rfl Tryz.underlying2 rfl ((HM.box_at 2 rfl) 1 _ rfl)) ?_
  refine ops_ex rfl (guard_none rfl) rfl rfl (ex_fieldAddr (off' := 1) rfl rfl Tryz.underlying56 rfl tsz2 rfl) ?_
  refine ops_doesS rfl (guard_none rfl) rfl (does_store (vs := [.int .i64 x0.fAt]) (cs' := [.int .i64 x0.fTx, .int .i64 x0.fAt]) rfl rfl rfl rfl tsz2 (Ones.int Ones.nil) rfl rfl HM) ?_
  rintro w306 HM
  refine ops_nil ?_
  refine at_then ?_
  refine run_seq ?_
  refine run_region rfl ?_
  refine ops_ex rfl (guard_none rfl) rfl rfl (ex_loadN (cs := [(.int .i64 x0.fTx), (.int .i64 x0.fAt)]) rfl rfl Tryz.underlying56 rfl tsz56 rfl ((HM.box_at 0 rfl).sub 0 2 rfl)) ?_
  replace HM := HM.front 1 rfl rfl
  refine ops_doesS rfl (guard_none rfl) rfl (does_store (vs := [.int .i64 x0.fTx, .int .i64 x0.fAt]) (cs' := [.int .i64 x0.fTx, .int .i64 x0.fAt]) rfl rfl rfl rfl tsz56 (Ones.int (Ones.int Ones.nil)) rfl rfl HM) ?_
  rintro w307 HM
  refine ops_nil ?_
  refine at_then ?_
  refine run_ret ?_
  replace HM := (HM.front 1 rfl rfl).drop
  replace HM := (HM.front 1 rfl rfl).drop
  have hcb0 := HM.box_at 0 rfl
  replace HM := (HM.front 0 rfl rfl).drop
  have hR := Option.some.inj H
  subst hR
  exact at_retN rfl rfl Tryz.underlying56 rfl tsz56 rfl hcb0 ⟨_, rfl, rfl, HM⟩

def laws_toInt64S.l0 (x0 : List Int) : Nat → (List Int) → Int → Option ((List Int))
  | 0, _, _ => none
  | k + 1, a386, a388 => (bif (decide (a388 < (x0.length : Int))) then (chk (idxOk a388 x0.length) (chk (idxOk a388 a386.length) (laws_toInt64S.l0 x0 k (a386.set (a388).toNat (gt x0 a388)) (wrap64 (a388 + 1))))) else some a386)
theorem laws_toInt64S.l0_z (x0 : List Int) (a386 : List Int) (a388 : Int) : laws_toInt64S.l0 x0 0 a386 a388 = none := rfl
theorem laws_toInt64S.l0_s (x0 : List Int) (k : Nat) (a386 : List Int) (a388 : Int) : laws_toInt64S.l0 x0 (k + 1) a386 a388 = (bif (decide (a388 < (x0.length : Int))) then (chk (idxOk a388 x0.length) (chk (idxOk a388 a386.length) (laws_toInt64S.l0 x0 k (a386.set (a388).toNat (gt x0 a388)) (wrap64 (a388 + 1))))) else some a386) := rfl
def laws_toInt64S.f (k : Nat) (x0 : List Int) : Option ((List Int)) := (chk (decide (0 ≤ (x0.length : Int))) (chk (leB (((x0.length : Int)).toNat * 8) 281474976710656) ((laws_toInt64S.l0 x0 k (List.replicate ((x0.length : Int)).toNat 0) 0).bind (fun a377 => some a377))))
theorem laws_toInt64S.calls {k : Nat} {x0 : List Int} {p0 : Value} {w : World} (hp0 : RdS kInt w p0 x0) {r : (List Int)} (H : laws_toInt64S.f k x0 = some r) :
    Calls Tryz.prog 146 ([p0] : List Value).toArray w (fun e w_ => ∃ v, e = .returned v ∧ ∃ u0 : Value, v = u0 ∧ Mem w [] w_ [own kInt 2 u0 r]) := by
  have HM := Mem.start w
  refine calls_run (N := 22) Tryz.func146 rfl rfl rfl rfl ?_
  unfold laws_toInt64S.f at H
  refine run_seq ?_
  refine run_region rfl ?_
  refine ops_ex rfl (guard_none rfl) rfl rfl (ex_assign rfl rfl) ?_
  refine ops_nil ?_
  refine at_then ?_
  refine run_seq ?_
  obtain ⟨e357, H⟩ := chk_some H
  obtain ⟨e358, H⟩ := chk_some H
  refine run_region rfl ?_
  refine ops_ex rfl (guard_none rfl) rfl rfl (ex_move rfl rfl) ?_
  refine ops_ex rfl (guard_none rfl) rfl rfl (ex_len (d := kInt) (xs := x0) rfl rfl Tryz.underlying60 hp0) ?_
  refine ops_does rfl (guard_none rfl) rfl rfl (does_make (x := 0) kInt rfl rfl rfl Tryz.underlying60 tsz2 tby2 tz2 rfl rfl (fun _ => ⟨rfl, rfl⟩) (of_decide_eq_true e357) rfl (leB_le e358) rfl HM) ?_
  rintro v354 w359 HM
  refine ops_ex rfl (guard_none rfl) rfl rfl (ex_assign rfl rfl) ?_
  refine ops_nil ?_
  refine at_then ?_
  obtain ⟨o379, ho380, H⟩ := bind_some H
  refine run_mid (fun ρ_ w_ => ∃ v376 : Value, ∃ a377 : List Int, a377 = o379 ∧ ρ_ = [(3, v376)] ∧ Mem w [] w_ [own kInt 2 v376 a377]) ?_ ?_
  · clear H
    refine run_seq ?_
    refine run_region rfl ?_
    refine ops_ex rfl (guard_none rfl) rfl rfl (ex_assign rfl rfl) ?_
    refine ops_nil ?_
    refine at_then ?_
    refine run_block ?_
    refine run_loop (fun k_ ρ_ w_ => ∃ v385 : Value, ∃ a386 : List Int, ∃ a388 : Int, laws_toInt64S.l0 x0 k_ a386 a388 = some o379 ∧ ρ_ = [(0, p0), (3, v385), (4, .int .i64 a388)] ∧ Mem w [] w_ [own kInt 2 v385 a386]) k (ρ1 := [(0, p0), (3, v354), (4, .int .i64 0)]) ⟨_, _, _, ho380, rfl, HM⟩ (Sub.cons rfl (Sub.cons rfl (Sub.cons rfl Sub.nil))) ?_
    clear HM ho380
    rintro k393 _ w394 ⟨v385, a386, a388, ho380, rfl, HM⟩
    obtain _ | k393 := k393
    · exact nomatch ((laws_toInt64S.l0_z x0 a386 a388).symm.trans ho380)
    replace ho380 := (laws_toInt64S.l0_s x0 k393 a386 a388).symm.trans ho380
    refine run_seq ?_
    refine run_seq ?_
    refine run_region rfl ?_
    refine ops_ex rfl (guard_none rfl) rfl rfl (ex_move rfl rfl) ?_
    refine ops_ex rfl (guard_none rfl) rfl rfl (ex_move rfl rfl) ?_
    refine ops_ex rfl (guard_none rfl) rfl rfl (ex_len (d := kInt) (xs := x0) rfl rfl Tryz.underlying60 hp0) ?_
    refine ops_ex rfl (guard_none rfl) rfl rfl (ex_lss rfl rfl rfl) ?_
    refine ops_nil ?_
    refine at_then ?_
    refine run_cond (b := (decide (a388 < (x0.length : Int)))) rfl (fun hb395 => ?_) (fun hb395 => ?_)
    · replace ho380 := cond_t hb395 ho380
      refine run_skip ?_
      refine at_then ?_
      refine run_seq ?_
      refine run_block ?_
      obtain ⟨e396, ho380⟩ := chk_some ho380
      obtain ⟨e398, ho380⟩ := chk_some ho380
      refine run_region rfl ?_
      refine ops_ex rfl (guard_none rfl) rfl rfl (ex_move rfl rfl) ?_
      refine ops_ex rfl (guard_none rfl) rfl rfl (ex_move rfl rfl) ?_
      refine ops_ex rfl (guard_none rfl) rfl rfl (ex_move rfl rfl) ?_
      refine ops_ex rfl (guard_none rfl) rfl rfl (ex_move rfl rfl) ?_
      have hc397 : CellsAt _ (sb p0) (so p0 + (a388).toNat * 1) [(.int .i64 (gt x0 a388))] := rd_plain hp0 e396
      refine ops_ex rfl (guard_none rfl) rfl rfl (ex_indexAddr (d := kInt) rfl rfl rfl Tryz.underlying60 tsz2 hp0 (idx_lo e396) (idx_hi e396)) ?_
      refine ops_ex rfl (guard_none rfl) rfl rfl (ex_load1 rfl rfl Tryz.underlying2 rfl ((HM.at_ hc397) 0 _ rfl)) ?_
      refine ops_ex rfl (guard_none rfl) rfl rfl (ex_indexAddr (d := kInt) rfl rfl rfl Tryz.underlying60 tsz2 (HM.own_rd 0 rfl) (idx_lo e398) (idx_hi e398)) ?_
      refine ops_doesS rfl (guard_none rfl) rfl (does_setElem (vs := [(.int .i64 (gt x0 a388))]) (y := (gt x0 a388)) kInt rfl rfl rfl rfl rfl tsz2 rfl rfl (idx_nat e398) (fun _ _ h => ⟨rfl, h⟩) (HM.emp.front 1 rfl rfl)) ?_
      rintro w399 HM
      refine ops_nil ?_
      refine at_block ?_
      refine at_then ?_
      refine run_region rfl ?_
      refine ops_ex rfl (guard_none rfl) rfl rfl (ex_move rfl rfl) ?_
      refine ops_ex rfl (guard_none rfl) rfl rfl (ex_add rfl rfl rfl) ?_
      refine ops_ex rfl (guard_none rfl) rfl rfl (ex_assign rfl rfl) ?_
      refine ops_nil ?_
      exact at_again k393 (ρ1 := [(0, p0), (3, v385), (4, .int .i64 (wrap64 (a388 + 1)))]) (Nat.lt_succ_self _) ⟨_, _, _, ho380, rfl, HM⟩ (Sub.cons rfl (Sub.cons rfl (Sub.cons rfl Sub.nil)))
    · replace ho380 := cond_f hb395 ho380
      refine run_exit ?_
      refine at_then_exit ?_
      refine at_then_exit ?_
      refine at_block_exit ?_
      exact at_mid (ρ' := [(3, v385)]) ⟨_, _, (Option.some.inj ho380), rfl, HM⟩ (Sub.cons rfl Sub.nil)
  · rintro _ w400 ⟨v376, a377, rfl, rfl, HM⟩
    refine run_seq ?_
    refine run_region rfl ?_
    refine ops_ex rfl (guard_none rfl) rfl rfl (ex_move rfl rfl) ?_
    refine ops_ex rfl (guard_none rfl) rfl rfl (ex_assign rfl rfl) ?_
    refine ops_nil ?_
    refine at_then ?_
    refine run_ret ?_
    have hR := Option.some.inj H
    subst hR
    exact at_ret1 rfl rfl ⟨_, rfl, _, rfl, HM⟩

def laws_toRule.f (k : Nat) (x0 : Rule) : Option Rule := ((laws_toInt64S.f k x0.fKeys).bind fun t417 => some (⟨t417, x0.fNeed, x0.fAfter⟩ : Rule))
theorem laws_toRule.calls {k : Nat} {x0 : Rule} {p0_0 : Value} {w : World} (hp0_0 : RdS kInt w p0_0 x0.fKeys) {r : Rule} (H : laws_toRule.f k x0 = some r) :
    Calls Tryz.prog 116 ([.agg #[p0_0, (.int .i64 x0.fNeed), (.int .i64 x0.fAfter)]] : List Value).toArray w (fun e w_ => ∃ v, e = .returned v ∧ ∃ u0 : Value, v = (.agg #[u0, .int .i64 r.fNeed, .int .i64 r.fAfter]) ∧ Mem w [] w_ [own kInt 2 u0 r.fKeys]) := by
  have HM := Mem.start w
  refine calls_run (N := 15) Tryz.func116 rfl rfl rfl rfl ?_
  unfold laws_toRule.f at H
  refine run_seq ?_
  refine run_region rfl ?_
  refine ops_does rfl (guard_none rfl) rfl rfl (does_box (cs := [p0_0, .int .i64 x0.fNeed, .int .i64 x0.fAfter]) rfl rfl rfl HM) ?_
  rintro _ w411 ⟨b405, rfl, HM⟩
  refine ops_does rfl (guard_none rfl) rfl rfl (does_alloc (cs := [.slice none 0 0, .int .i64 0, .int .i64 0]) rfl tz73 rfl HM) ?_
  rintro _ w412 ⟨b408, rfl, HM⟩
  refine ops_nil ?_
  refine at_then ?_
  refine run_seq ?_
  refine run_region rfl ?_
  refine ops_does rfl (guard_none rfl) rfl rfl (does_alloc (cs := [.slice none 0 0, .int .i64 0, .int .i64 0]) rfl tz73 rfl HM) ?_
  rintro _ w416 ⟨b413, rfl, HM⟩
  refine ops_nil ?_
  refine at_then ?_
  refine run_seq ?_
  obtain ⟨t417, h418, H⟩ := bind_some H
  refine run_region rfl ?_
  refine ops_ex rfl (guard_none rfl) rfl rfl (ex_fieldAddr (off' := 0) rfl rfl Tryz.underlying62 rfl tsz60 rfl) ?_
  refine ops_ex rfl (guard_none rfl) rfl rfl (ex_load1 rfl rfl Tryz.underlying60 rfl ((HM.box_at 2 rfl) 0 _ rfl)) ?_
  refine ops_does rfl (guard_none rfl) rfl rfl (does_callk rfl callok146 rfl (laws_toInt64S.calls (x0 := x0.fKeys) (HM.rd hp0_0) h418)) ?_
  rintro u419 w421 ⟨_, rfl, hn⟩
  replace HM : Mem w [] w421 [own kInt 2 u419 t417, box b413 73 [.slice none 0 0, .int .i64 0, .int .i64 0], box b408 73 [.slice none 0 0, .int .i64 0, .int .i64 0], box b405 62 [p0_0, .int .i64 x0.fNeed, .int .i64 x0.fAfter]] := HM.call hn
  refine ops_ex rfl (guard_none rfl) rfl rfl (ex_fieldAddr (off' := 0) rfl rfl Tryz.underlying73 rfl tsz60 rfl) ?_
  replace HM := HM.front 1 rfl rfl
  refine ops_doesS rfl (guard_none rfl) rfl (does_store (vs := [u419]) (cs' := [u419, .int .i64 0, .int .i64 0]) rfl rfl rfl (rd_cells (HM.own_rd 1 rfl)) tsz60 (Ones.rd (HM.own_rd 1 rfl) Ones.nil) rfl rfl HM) ?_
  rintro w422 HM
  refine ops_nil ?_
  refine at_then ?_
  refine run_seq ?_
  refine run_region rfl ?_
  refine ops_ex rfl (guard_none rfl) rfl rfl (ex_fieldAddr (off' := 1) rfl rfl Tryz.underlying62 rfl tsz2 rfl) ?_
  refine ops_ex rfl (guard_none rfl) rfl rfl (ex_load1 rfl rfl Tryz.underlying2 rfl ((HM.box_at 3 rfl) 1 _ rfl)) ?_
  refine ops_ex rfl (guard_none rfl) rfl rfl (ex_fieldAddr (off' := 1) rfl rfl Tryz.underlying73 rfl tsz2 rfl) ?_
  refine ops_doesS rfl (guard_none rfl) rfl (does_store (vs := [.int .i64 x0.fNeed]) (cs' := [u419, .int .i64 x0.fNeed, .int .i64 0]) rfl rfl rfl rfl tsz2 (Ones.int Ones.nil) rfl rfl HM) ?_
  rintro w423 HM
  refine ops_nil ?_
  refine at_then ?_
  refine run_seq ?_
  refine run_region rfl ?_
  refine ops_ex rfl (guard_none rfl) rfl rfl (ex_fieldAddr (off' := 2) rfl rfl Tryz.underlying62 rfl tsz2 rfl) ?_
  refine ops_ex rfl (guard_none rfl) rfl rfl (ex_load1 rfl rfl Tryz.underlying2 rfl ((HM.box_at 3 rfl) 2 _ rfl)) ?_
  refine ops_ex rfl (guard_none rfl) rfl rfl (ex_fieldAddr (off' := 2) rfl rfl Tryz.underlying73 rfl tsz2 rfl) ?_
  refine ops_doesS rfl (guard_none rfl) rfl (does_store (vs := [.int .i64 x0.fAfter]) (cs' := [u419, .int .i64 x0.fNeed, .int .i64 x0.fAfter]) rfl rfl rfl rfl tsz2 (Ones.int Ones.nil) rfl rfl HM) ?_
  rintro w424 HM
  refine ops_nil ?_
  refine at_then ?_
  refine run_seq ?_
  refine run_region rfl ?_
  refine ops_ex rfl (guard_none rfl) rfl rfl (ex_loadN (cs := [u419, (.int .i64 x0.fNeed), (.int .i64 x0.fAfter)]) rfl rfl Tryz.underlying73 rfl tsz73 rfl ((HM.box_at 0 rfl).sub 0 3 rfl)) ?_
  replace HM := HM.front 2 rfl rfl
  refine ops_doesS rfl (guard_none rfl) rfl (does_store (vs := [u419, .int .i64 x0.fNeed, .int .i64 x0.fAfter]) (cs' := [u419, .int .i64 x0.fNeed, .int .i64 x0.fAfter]) rfl rfl rfl rfl tsz73 (Ones.rd (HM.own_rd 2 rfl) (Ones.int (Ones.int Ones.nil))) rfl rfl HM) ?_
  rintro w425 HM
  refine ops_nil ?_
  refine at_then ?_
  refine run_ret ?_
  replace HM := (HM.front 1 rfl rfl).drop
  replace HM := (HM.front 2 rfl rfl).drop
  have hcb0 := HM.box_at 0 rfl
  replace HM := (HM.front 0 rfl rfl).drop
  have hR := Option.some.inj H
  subst hR
  exact at_retN rfl rfl Tryz.underlying73 rfl tsz73 rfl hcb0 ⟨_, rfl, _, rfl, HM⟩

def laws_toOut.f (k : Nat) (x0 : Out) : Option Out := ((laws_toRule.f k x0.fRule).bind fun t443 => some (⟨x0.fValue, t443⟩ : Out))
theorem laws_toOut.calls {k : Nat} {x0 : Out} {p0_0 : Value} {w : World} (hp0_0 : RdS kInt w p0_0 x0.fRule.fKeys) {r : Out} (H : laws_toOut.f k x0 = some r) :
    Calls Tryz.prog 79 ([.agg #[(.int .i64 x0.fValue), p0_0, (.int .i64 x0.fRule.fNeed), (.int .i64 x0.fRule.fAfter)]] : List Value).toArray w (fun e w_ => ∃ v, e = .returned v ∧ ∃ u0 : Value, v = (.agg #[.int .i64 r.fValue, u0, .int .i64 r.fRule.fNeed, .int .i64 r.fRule.fAfter]) ∧ Mem w [] w_ [own kInt 2 u0 r.fRule.fKeys]) := by
  have HM := Mem.start w
  refine calls_run (N := 12) Tryz.func79 rfl rfl rfl rfl ?_
  unfold laws_toOut.f at H
  refine run_seq ?_
  refine run_region rfl ?_
  refine ops_does rfl (guard_none rfl) rfl rfl (does_box (cs := [.int .i64 x0.fValue, p0_0, .int .i64 x0.fRule.fNeed, .int .i64 x0.fRule.fAfter]) rfl rfl rfl HM) ?_
  rintro _ w436 ⟨b430, rfl, HM⟩
  refine ops_does rfl (guard_none rfl) rfl rfl (does_alloc (cs := [.int .i64 0, .slice none 0 0, .int .i64 0, .int .i64 0]) rfl tz75 rfl HM) ?_
  rintro _ w437 ⟨b433, rfl, HM⟩
  refine ops_nil ?_
  refine at_then ?_
  refine run_seq ?_
  refine run_region rfl ?_
  refine ops_does rfl (guard_none rfl) rfl rfl (does_alloc (cs := [.int .i64 0, .slice none 0 0, .int .i64 0, .int .i64 0]) rfl tz75 rfl HM) ?_
  rintro _ w441 ⟨b438, rfl, HM⟩
  refine ops_nil ?_
  refine at_then ?_
  refine run_seq ?_
  refine run_region rfl ?_
  refine ops_ex rfl (guard_none rfl) rfl rfl (ex_fieldAddr (off' := 0) rfl rfl Tryz.underlying64 rfl tsz2 rfl) ?_
  refine ops_ex rfl (guard_none rfl) rfl rfl (ex_load1 rfl rfl Tryz.underlying2 rfl ((HM.box_at 2 rfl) 0 _ rfl)) ?_
  refine ops_ex rfl (guard_none rfl) rfl rfl (ex_fieldAddr (off' := 0) rfl rfl Tryz.underlying75 rfl tsz2 rfl) ?_
  refine ops_doesS rfl (guard_none rfl) rfl (does_store (vs := [.int .i64 x0.fValue]) (cs' := [.int .i64 x0.fValue, .slice none 0 0, .int .i64 0, .int .i64 0]) rfl rfl rfl rfl tsz2 (Ones.int Ones.nil) rfl rfl HM) ?_
  rintro w442 HM
  refine ops_nil ?_
  refine at_then ?_
  refine run_seq ?_
  obtain ⟨t443, h444, H⟩ := bind_some H
  refine run_region rfl ?_
  refine ops_ex rfl (guard_none rfl) rfl rfl (ex_fieldAddr (off' := 1) rfl rfl Tryz.underlying64 rfl tsz62 rfl) ?_
  refine ops_ex rfl (guard_none rfl) rfl rfl (ex_loadN (cs := [p0_0, (.int .i64 x0.fRule.fNeed), (.int .i64 x0.fRule.fAfter)]) rfl rfl Tryz.underlying62 rfl tsz62 rfl ((HM.box_at 2 rfl).sub 1 3 rfl)) ?_
  refine ops_does rfl (guard_none rfl) rfl rfl (does_callk rfl callok116 rfl (laws_toRule.calls (x0 := x0.fRule) (HM.rd hp0_0) h444)) ?_
  rintro _ w447 ⟨u445, rfl, hn⟩
  replace HM : Mem w [] w447 [own kInt 2 u445 t443.fKeys, box b438 75 [.int .i64 x0.fValue, .slice none 0 0, .int .i64 0, .int .i64 0], box b433 75 [.int .i64 0, .slice none 0 0, .int .i64 0, .int .i64 0], box b430 64 [.int .i64 x0.fValue, p0_0, .int .i64 x0.fRule.fNeed, .int .i64 x0.fRule.fAfter]] := HM.call hn
  refine ops_ex rfl (guard_none rfl) rfl rfl (ex_fieldAddr (off' := 1) rfl rfl Tryz.underlying75 rfl tsz73 rfl) ?_
  replace HM := HM.front 1 rfl rfl
  refine ops_doesS rfl (guard_none rfl) rfl (does_store (vs := [u445, .int .i64 t443.fNeed, .int .i64 t443.fAfter]) (cs' := [.int .i64 x0.fValue, u445, .int .i64 t443.fNeed, .int .i64 t443.fAfter]) rfl rfl rfl rfl tsz73 (Ones.rd (HM.own_rd 1 rfl) (Ones.int (Ones.int Ones.nil))) rfl rfl HM) ?_
  rintro w448 HM
  refine ops_nil ?_
  refine at_then ?_
  refine run_seq ?_
  refine run_region rfl ?_
  refine ops_ex rfl (guard_none rfl) rfl rfl (ex_loadN (cs := [(.int .i64 x0.fValue), u445, (.int .i64 t443.fNeed), (.int .i64 t443.fAfter)]) rfl rfl Tryz.underlying75 rfl tsz75 rfl ((HM.box_at 0 rfl).sub 0 4 rfl)) ?_
  replace HM := HM.front 2 rfl rfl
  refine ops_doesS rfl (guard_none rfl) rfl (does_store (vs := [.int .i64 x0.fValue, u445, .int .i64 t443.fNeed, .int .i64 t443.fAfter]) (cs' := [.int .i64 x0.fValue, u445, .int .i64 t443.fNeed, .int .i64 t443.fAfter]) rfl rfl rfl rfl tsz75 (Ones.int (Ones.rd (HM.own_rd 2 rfl) (Ones.int (Ones.int Ones.nil)))) rfl rfl HM) ?_
  rintro w449 HM
  refine ops_nil ?_
  refine at_then ?_
  refine run_ret ?_
  replace HM := (HM.front 1 rfl rfl).drop
  replace HM := (HM.front 2 rfl rfl).drop
  have hcb0 := HM.box_at 0 rfl
  replace HM := (HM.front 0 rfl rfl).drop
  have hR := Option.some.inj H
  subst hR
  exact at_retN rfl rfl Tryz.underlying75 rfl tsz75 rfl hcb0 ⟨_, rfl, _, rfl, HM⟩

def laws_toCoin.f (k : Nat) (x0 : Coin) : Option Coin := ((laws_toRef.f k x0.fRef).bind fun t466 => ((laws_toOut.f k x0.fOut).bind fun t470 => some (⟨t466, t470, x0.fHeight, x0.fMined⟩ : Coin)))
theorem laws_toCoin.calls {k : Nat} {x0 : Coin} {p0_0 : Value} {w : World} (hp0_0 : RdS kInt w p0_0 x0.fOut.fRule.fKeys) {r : Coin} (H : laws_toCoin.f k x0 = some r) :
    Calls Tryz.prog 35 ([.agg #[(.int .i64 x0.fRef.fTx), (.int .i64 x0.fRef.fAt), (.int .i64 x0.fOut.fValue), p0_0, (.int .i64 x0.fOut.fRule.fNeed), (.int .i64 x0.fOut.fRule.fAfter), (.int .i64 x0.fHeight), (.bool x0.fMined)]] : List Value).toArray w (fun e w_ => ∃ v, e = .returned v ∧ ∃ u0 : Value, v = (.agg #[.int .i64 r.fRef.fTx, .int .i64 r.fRef.fAt, .int .i64 r.fOut.fValue, u0, .int .i64 r.fOut.fRule.fNeed, .int .i64 r.fOut.fRule.fAfter, .int .i64 r.fHeight, .bool r.fMined]) ∧ Mem w [] w_ [own kInt 2 u0 r.fOut.fRule.fKeys]) := by
  have HM := Mem.start w
  refine calls_run (N := 19) Tryz.func35 rfl rfl rfl rfl ?_
  unfold laws_toCoin.f at H
  refine run_seq ?_
  refine run_region rfl ?_
  refine ops_does rfl (guard_none rfl) rfl rfl (does_box (cs := [.int .i64 x0.fRef.fTx, .int .i64 x0.fRef.fAt, .int .i64 x0.fOut.fValue, p0_0, .int .i64 x0.fOut.fRule.fNeed, .int .i64 x0.fOut.fRule.fAfter, .int .i64 x0.fHeight, .bool x0.fMined]) rfl rfl rfl HM) ?_
  rintro _ w460 ⟨b454, rfl, HM⟩
  refine ops_does rfl (guard_none rfl) rfl rfl (does_alloc (cs := [.int .i64 0, .int .i64 0, .int .i64 0, .slice none 0 0, .int .i64 0, .int .i64 0, .int .i64 0, .bool false]) rfl tz77 rfl HM) ?_
  rintro _ w461 ⟨b457, rfl, HM⟩
  refine ops_nil ?_
  refine at_then ?_
  refine run_seq ?_
  refine run_region rfl ?_
  refine ops_does rfl (guard_none rfl) rfl rfl (does_alloc (cs := [.int .i64 0, .int .i64 0, .int .i64 0, .slice none 0 0, .int .i64 0, .int .i64 0, .int .i64 0, .bool false]) rfl tz77 rfl HM) ?_
  rintro _ w465 ⟨b462, rfl, HM⟩
  refine ops_nil ?_
  refine at_then ?_
  refine run_seq ?_
  obtain ⟨t466, h467, H⟩ := bind_some H
  refine run_region rfl ?_
  refine ops_ex rfl (guard_none rfl) rfl rfl (ex_fieldAddr (off' := 0) rfl rfl Tryz.underlying66 rfl tsz59 rfl) ?_
  refine ops_ex rfl (guard_none rfl) rfl rfl (ex_loadN (cs := [(.int .i64 x0.fRef.fTx), (.int .i64 x0.fRef.fAt)]) rfl rfl Tryz.underlying59 rfl tsz59 rfl ((HM.box_at 2 rfl).sub 0 2 rfl)) ?_
  refine ops_does rfl (guard_none rfl) rfl rfl (does_callk rfl callok78 rfl (laws_toRef.calls (x0 := x0.fRef) h467)) ?_
  rintro _ w468 ⟨rfl, hn⟩
  replace HM : Mem w [] w468 [box b462 77 [.int .i64 0, .int .i64 0, .int .i64 0, .slice none 0 0, .int .i64 0, .int .i64 0, .int .i64 0, .bool false], box b457 77 [.int .i64 0, .int .i64 0, .int .i64 0, .slice none 0 0, .int .i64 0, .int .i64 0, .int .i64 0, .bool false], box b454 66 [.int .i64 x0.fRef.fTx, .int .i64 x0.fRef.fAt, .int .i64 x0.fOut.fValue, p0_0, .int .i64 x0.fOut.fRule.fNeed, .int .i64 x0.fOut.fRule.fAfter, .int .i64 x0.fHeight, .bool x0.fMined]] := HM.call hn
  refine ops_ex rfl (guard_none rfl) rfl rfl (ex_fieldAddr (off' := 0) rfl rfl Tryz.underlying77 rfl tsz56 rfl) ?_
  refine ops_doesS rfl (guard_none rfl) rfl (does_store (vs := [.int .i64 t466.fTx, .int .i64 t466.fAt]) (cs' := [.int .i64 t466.fTx, .int .i64 t466.fAt, .int .i64 0, .slice none 0 0, .int .i64 0, .int .i64 0, .int .i64 0, .bool false]) rfl rfl rfl rfl tsz56 (Ones.int (Ones.int Ones.nil)) rfl rfl HM) ?_
  rintro w469 HM
  refine ops_nil ?_
  refine at_then ?_
  refine run_seq ?_
  obtain ⟨t470, h471, H⟩ := bind_some H
  refine run_region rfl ?_
  refine ops_ex rfl (guard_none rfl) rfl rfl (ex_fieldAddr (off' := 2) rfl rfl Tryz.underlying66 rfl tsz64 rfl) ?_
  refine ops_ex rfl (guard_none rfl) rfl rfl (ex_loadN (cs := [(.int .i64 x0.fOut.fValue), p0_0, (.int .i64 x0.fOut.fRule.fNeed), (.int .i64 x0.fOut.fRule.fAfter)]) rfl rfl Tryz.underlying64 rfl tsz64 rfl ((HM.box_at 2 rfl).sub 2 4 rfl)) ?_
  refine ops_does rfl (guard_none rfl) rfl rfl (does_callk rfl callok79 rfl (laws_toOut.calls (x0 := x0.fOut) (HM.rd hp0_0) h471)) ?_
  rintro _ w474 ⟨u472, rfl, hn⟩
  replace HM : Mem w [] w474 [own kInt 2 u472 t470.fRule.fKeys, box b462 77 [.int .i64 t466.fTx, .int .i64 t466.fAt, .int .i64 0, .slice none 0 0, .int .i64 0, .int .i64 0, .int .i64 0, .bool false], box b457 77 [.int .i64 0, .int .i64 0, .int .i64 0, .slice none 0 0, .int .i64 0, .int .i64 0, .int .i64 0, .bool false], box b454 66 [.int .i64 x0.fRef.fTx, .int .i64 x0.fRef.fAt, .int .i64 x0.fOut.fValue, p0_0, .int .i64 x0.fOut.fRule.fNeed, .int .i64 x0.fOut.fRule.fAfter, .int .i64 x0.fHeight, .bool x0.fMined]] := HM.call hn
  refine ops_ex rfl (guard_none rfl) rfl rfl (ex_fieldAddr (off' := 2) rfl rfl Tryz.underlying77 rfl tsz75 rfl) ?_
  replace HM := HM.front 1 rfl rfl
  refine ops_doesS rfl (guard_none rfl) rfl (does_store (vs := [.int .i64 t470.fValue, u472, .int .i64 t470.fRule.fNeed, .int .i64 t470.fRule.fAfter]) (cs' := [.int .i64 t466.fTx, .int .i64 t466.fAt, .int .i64 t470.fValue, u472, .int .i64 t470.fRule.fNeed, .int .i64 t470.fRule.fAfter, .int .i64 0, .bool false]) rfl rfl rfl rfl tsz75 (Ones.int (Ones.rd (HM.own_rd 1 rfl) (Ones.int (Ones.int Ones.nil)))) rfl rfl HM) ?_
  rintro w475 HM
  refine ops_nil ?_
  refine at_then ?_
  refine run_seq ?_
  refine run_region rfl ?_
  refine ops_ex rfl (guard_none rfl) rfl rfl (ex_fieldAddr (off' := 6) rfl rfl Tryz.underlying66 rfl tsz2 rfl) ?_
  refine ops_ex rfl (guard_none rfl) rfl rfl (ex_load1 rfl rfl Tryz.underlying2 rfl ((HM.box_at 3 rfl) 6 _ rfl)) ?_
  refine ops_ex rfl (guard_none rfl) rfl rfl (ex_fieldAddr (off' := 6) rfl rfl Tryz.underlying77 rfl tsz2 rfl) ?_
  refine ops_doesS rfl (guard_none rfl) rfl (does_store (vs := [.int .i64 x0.fHeight]) (cs' := [.int .i64 t466.fTx, .int .i64 t466.fAt, .int .i64 t470.fValue, u472, .int .i64 t470.fRule.fNeed, .int .i64 t470.fRule.fAfter, .int .i64 x0.fHeight, .bool false]) rfl rfl rfl rfl tsz2 (Ones.int Ones.nil) rfl rfl HM) ?_
  rintro w476 HM
  refine ops_nil ?_
  refine at_then ?_
  refine run_seq ?_
  refine run_region rfl ?_
  refine ops_ex rfl (guard_none rfl) rfl rfl (ex_fieldAddr (off' := 7) rfl rfl Tryz.underlying66 rfl tsz4 rfl) ?_
  refine ops_ex rfl (guard_none rfl) rfl rfl (ex_load1 rfl rfl Tryz.underlying4 rfl ((HM.box_at 3 rfl) 7 _ rfl)) ?_
  refine ops_ex rfl (guard_none rfl) rfl rfl (ex_fieldAddr (off' := 7) rfl rfl Tryz.underlying77 rfl tsz4 rfl) ?_
  refine ops_doesS rfl (guard_none rfl) rfl (does_store (vs := [.bool x0.fMined]) (cs' := [.int .i64 t466.fTx, .int .i64 t466.fAt, .int .i64 t470.fValue, u472, .int .i64 t470.fRule.fNeed, .int .i64 t470.fRule.fAfter, .int .i64 x0.fHeight, .bool x0.fMined]) rfl rfl rfl rfl tsz4 (Ones.bool Ones.nil) rfl rfl HM) ?_
  rintro w477 HM
  refine ops_nil ?_
  refine at_then ?_
  refine run_seq ?_
  refine run_region rfl ?_
  refine ops_ex rfl (guard_none rfl) rfl rfl (ex_loadN (cs := [(.int .i64 t466.fTx), (.int .i64 t466.fAt), (.int .i64 t470.fValue), u472, (.int .i64 t470.fRule.fNeed), (.int .i64 t470.fRule.fAfter), (.int .i64 x0.fHeight), (.bool x0.fMined)]) rfl rfl Tryz.underlying77 rfl tsz77 rfl ((HM.box_at 0 rfl).sub 0 8 rfl)) ?_
  replace HM := HM.front 2 rfl rfl
  refine ops_doesS rfl (guard_none rfl) rfl (does_store (vs := [.int .i64 t466.fTx, .int .i64 t466.fAt, .int .i64 t470.fValue, u472, .int .i64 t470.fRule.fNeed, .int .i64 t470.fRule.fAfter, .int .i64 x0.fHeight, .bool x0.fMined]) (cs' := [.int .i64 t466.fTx, .int .i64 t466.fAt, .int .i64 t470.fValue, u472, .int .i64 t470.fRule.fNeed, .int .i64 t470.fRule.fAfter, .int .i64 x0.fHeight, .bool x0.fMined]) rfl rfl rfl rfl tsz77 (Ones.int (Ones.int (Ones.int (Ones.rd (HM.own_rd 2 rfl) (Ones.int (Ones.int (Ones.int (Ones.bool Ones.nil)))))))) rfl rfl HM) ?_
  rintro w478 HM
  refine ops_nil ?_
  refine at_then ?_
  refine run_ret ?_
  replace HM := (HM.front 1 rfl rfl).drop
  replace HM := (HM.front 2 rfl rfl).drop
  have hcb0 := HM.box_at 0 rfl
  replace HM := (HM.front 0 rfl rfl).drop
  have hR := Option.some.inj H
  subst hR
  exact at_retN rfl rfl Tryz.underlying77 rfl tsz77 rfl hcb0 ⟨_, rfl, _, rfl, HM⟩
end Go.Proofs.YtcamddjlhchkfaaGreat.Zk
