/- What functions of the program compute, each as a plain function, and that they do. Conditions: as each theorem states them. -/
import Derived.Test.YtecgbhfgkkpmhabGreatUndoTxZkTy
namespace Go.Proofs.YtecgbhfgkkpmhabGreat.Zk
open Go Go.RowKit Go.IntWalk Go.Proofs
set_option linter.unusedVariables false
set_option linter.unusedSimpArgs false
set_option maxRecDepth 100000
set_option maxHeartbeats 4000000
def laws_szInt64S.f (k : Nat) (x0 : List Int) (x1 : Int) : Option Int := (bif (decide ((wrap64 (x1 - (x0.length : Int))) < 0)) then some (-1) else some (wrap64 (x1 - (x0.length : Int))))
theorem laws_szInt64S.calls {k : Nat} {x0 : List Int} {x1 : Int} {p0 : Value} {w : World} (hp0 : RdS kInt w p0 x0) {r : Int} (H : laws_szInt64S.f k x0 x1 = some r) :
    Calls Tryz.prog 98 ([p0, .int .i64 x1] : List Value).toArray w (fun e w_ => ∃ v, e = .returned v ∧ v = (.int .i64 r) ∧ Mem w [] w_ []) := by
  have HM := Mem.start w
  refine calls_run (N := 12) Tryz.func98 rfl rfl rfl rfl ?_
  unfold laws_szInt64S.f at H
  refine run_seq ?_
  refine run_region rfl ?_
  refine ox rfl rfl rfl rfl (ex_assign rfl rfl) ?_
  refine ops_nil (at_then (run_seq ?_))
  refine run_region rfl ?_
  refine ox rfl rfl rfl rfl (ex_move rfl rfl) ?_
  refine ox rfl rfl rfl rfl (ex_move rfl rfl) ?_
  refine ox rfl rfl rfl rfl (ex_len (d := kInt) (xs := x0) rfl rfl Tryz.underlying49 hp0) ?_
  refine ox rfl rfl rfl rfl (ex_sub rfl rfl rfl) ?_
  refine ox rfl rfl rfl rfl (ex_assign rfl rfl) ?_
  refine ops_nil (at_then (run_seq ?_))
  refine run_seq ?_
  refine run_region rfl ?_
  refine ox rfl rfl rfl rfl (ex_move rfl rfl) ?_
  refine ox rfl rfl rfl rfl (ex_lss rfl rfl rfl) ?_
  refine ops_nil (at_then ?_)
  refine run_cond (b := (decide ((wrap64 (x1 - (x0.length : Int))) < 0))) rfl (fun hb21 => ?_) (fun hb21 => ?_)
  · replace H := cond_t hb21 H
    refine run_seq ?_
    refine run_region rfl ?_
    refine ox rfl rfl rfl rfl (ex_assign rfl rfl) ?_
    refine ops_nil (at_then ?_)
    refine run_ret ?_
    refine at_then_ret ?_
    have hR := Option.some.inj H
    subst hR
    exact at_ret1 rfl rfl ⟨_, rfl, rfl, HM⟩
  · replace H := cond_f hb21 H
    refine run_skip ?_
    refine at_then ?_
    refine run_seq ?_
    refine run_region rfl ?_
    refine ox rfl rfl rfl rfl (ex_move rfl rfl) ?_
    refine ox rfl rfl rfl rfl (ex_assign rfl rfl) ?_
    refine ops_nil (at_then ?_)
    refine run_ret ?_
    have hR := Option.some.inj H
    subst hR
    exact at_ret1 rfl rfl ⟨_, rfl, rfl, HM⟩

def laws_szRule.f (k : Nat) (x0 : Rule) (x1 : Int) : Option Int := ((laws_szInt64S.f k x0.fKeys x1).bind fun t29 => (bif (decide (t29 < 0)) then some (-1) else some t29))
theorem laws_szRule.calls {k : Nat} {x0 : Rule} {x1 : Int} {p0_0 : Value} {w : World} (hp0_0 : RdS kInt w p0_0 x0.fKeys) {r : Int} (H : laws_szRule.f k x0 x1 = some r) :
    Calls Tryz.prog 75 ([.agg #[p0_0, (.int .i64 x0.fNeed), (.int .i64 x0.fAfter)], .int .i64 x1] : List Value).toArray w (fun e w_ => ∃ v, e = .returned v ∧ v = (.int .i64 r) ∧ Mem w [] w_ []) := by
  have HM := Mem.start w
  refine calls_run (N := 12) Tryz.func75 rfl rfl rfl rfl ?_
  unfold laws_szRule.f at H
  refine run_seq ?_
  refine run_region rfl ?_
  refine od rfl rfl rfl rfl (does_box (cs := [p0_0, .int .i64 x0.fNeed, .int .i64 x0.fAfter]) rfl rfl rfl HM) ?_
  rintro _ w28 ⟨b25, rfl, HM⟩
  refine ox rfl rfl rfl rfl (ex_assign rfl rfl) ?_
  refine ops_nil (at_then (run_seq ?_))
  obtain ⟨t29, h30, H⟩ := bind_some H
  refine run_region rfl ?_
  refine ox rfl rfl rfl rfl (ex_fieldAddr (off' := 0) rfl rfl Tryz.underlying51 rfl tsz49 rfl) ?_
  refine ox rfl rfl rfl rfl (ex_load1 rfl rfl Tryz.underlying49 rfl ((HM.box_at 0 rfl) 0 _ rfl)) ?_
  refine ox rfl rfl rfl rfl (ex_move rfl rfl) ?_
  refine od rfl rfl rfl rfl (does_callk rfl callok98 rfl (laws_szInt64S.calls (x0 := x0.fKeys) (x1 := x1) (HM.rd hp0_0) h30)) ?_
  rintro _ w31 ⟨rfl, hn⟩
  replace HM : Mem w [] w31 [box b25 51 [p0_0, .int .i64 x0.fNeed, .int .i64 x0.fAfter]] := HM.call hn
  refine ox rfl rfl rfl rfl (ex_assign rfl rfl) ?_
  refine ops_nil (at_then (run_seq ?_))
  refine run_seq ?_
  refine run_region rfl ?_
  refine ox rfl rfl rfl rfl (ex_move rfl rfl) ?_
  refine ox rfl rfl rfl rfl (ex_lss rfl rfl rfl) ?_
  refine ops_nil (at_then ?_)
  refine run_cond (b := (decide (t29 < 0))) rfl (fun hb32 => ?_) (fun hb32 => ?_)
  · replace H := cond_t hb32 H
    refine run_seq ?_
    refine run_region rfl ?_
    refine ox rfl rfl rfl rfl (ex_assign rfl rfl) ?_
    refine ops_nil (at_then ?_)
    refine run_ret ?_
    refine at_then_ret ?_
    replace HM := (HM.front 0 rfl rfl).drop
    have hR := Option.some.inj H
    subst hR
    exact at_ret1 rfl rfl ⟨_, rfl, rfl, HM⟩
  · replace H := cond_f hb32 H
    refine run_skip ?_
    refine at_then ?_
    refine run_seq ?_
    refine run_region rfl ?_
    refine ox rfl rfl rfl rfl (ex_move rfl rfl) ?_
    refine ox rfl rfl rfl rfl (ex_assign rfl rfl) ?_
    refine ops_nil (at_then ?_)
    refine run_ret ?_
    replace HM := (HM.front 0 rfl rfl).drop
    have hR := Option.some.inj H
    subst hR
    exact at_ret1 rfl rfl ⟨_, rfl, rfl, HM⟩

def laws_szOut.f (k : Nat) (x0 : Out) (x1 : Int) : Option Int := ((laws_szRule.f k x0.fRule x1).bind fun t40 => (bif (decide (t40 < 0)) then some (-1) else some t40))
theorem laws_szOut.calls {k : Nat} {x0 : Out} {x1 : Int} {p0_0 : Value} {w : World} (hp0_0 : RdS kInt w p0_0 x0.fRule.fKeys) {r : Int} (H : laws_szOut.f k x0 x1 = some r) :
    Calls Tryz.prog 40 ([.agg #[(.int .i64 x0.fValue), p0_0, (.int .i64 x0.fRule.fNeed), (.int .i64 x0.fRule.fAfter)], .int .i64 x1] : List Value).toArray w (fun e w_ => ∃ v, e = .returned v ∧ v = (.int .i64 r) ∧ Mem w [] w_ []) := by
  have HM := Mem.start w
  refine calls_run (N := 12) Tryz.func40 rfl rfl rfl rfl ?_
  unfold laws_szOut.f at H
  refine run_seq ?_
  refine run_region rfl ?_
  refine od rfl rfl rfl rfl (does_box (cs := [.int .i64 x0.fValue, p0_0, .int .i64 x0.fRule.fNeed, .int .i64 x0.fRule.fAfter]) rfl rfl rfl HM) ?_
  rintro _ w39 ⟨b36, rfl, HM⟩
  refine ox rfl rfl rfl rfl (ex_assign rfl rfl) ?_
  refine ops_nil (at_then (run_seq ?_))
  obtain ⟨t40, h41, H⟩ := bind_some H
  refine run_region rfl ?_
  refine ox rfl rfl rfl rfl (ex_fieldAddr (off' := 1) rfl rfl Tryz.underlying53 rfl tsz51 rfl) ?_
  refine ox rfl rfl rfl rfl (ex_loadN (cs := [p0_0, (.int .i64 x0.fRule.fNeed), (.int .i64 x0.fRule.fAfter)]) rfl rfl Tryz.underlying51 rfl tsz51 rfl ((HM.box_at 0 rfl).sub 1 3 rfl)) ?_
  refine ox rfl rfl rfl rfl (ex_move rfl rfl) ?_
  refine od rfl rfl rfl rfl (does_callk rfl callok75 rfl (laws_szRule.calls (x0 := x0.fRule) (x1 := x1) (HM.rd hp0_0) h41)) ?_
  rintro _ w42 ⟨rfl, hn⟩
  replace HM : Mem w [] w42 [box b36 53 [.int .i64 x0.fValue, p0_0, .int .i64 x0.fRule.fNeed, .int .i64 x0.fRule.fAfter]] := HM.call hn
  refine ox rfl rfl rfl rfl (ex_assign rfl rfl) ?_
  refine ops_nil (at_then (run_seq ?_))
  refine run_seq ?_
  refine run_region rfl ?_
  refine ox rfl rfl rfl rfl (ex_move rfl rfl) ?_
  refine ox rfl rfl rfl rfl (ex_lss rfl rfl rfl) ?_
  refine ops_nil (at_then ?_)
  refine run_cond (b := (decide (t40 < 0))) rfl (fun hb43 => ?_) (fun hb43 => ?_)
  · replace H := cond_t hb43 H
    refine run_seq ?_
    refine run_region rfl ?_
    refine ox rfl rfl rfl rfl (ex_assign rfl rfl) ?_
    refine ops_nil (at_then ?_)
    refine run_ret ?_
    refine at_then_ret ?_
    replace HM := (HM.front 0 rfl rfl).drop
    have hR := Option.some.inj H
    subst hR
    exact at_ret1 rfl rfl ⟨_, rfl, rfl, HM⟩
  · replace H := cond_f hb43 H
    refine run_skip ?_
    refine at_then ?_
    refine run_seq ?_
    refine run_region rfl ?_
    refine ox rfl rfl rfl rfl (ex_move rfl rfl) ?_
    refine ox rfl rfl rfl rfl (ex_assign rfl rfl) ?_
    refine ops_nil (at_then ?_)
    refine run_ret ?_
    replace HM := (HM.front 0 rfl rfl).drop
    have hR := Option.some.inj H
    subst hR
    exact at_ret1 rfl rfl ⟨_, rfl, rfl, HM⟩

def laws_szCoin.f (k : Nat) (x0 : Coin) (x1 : Int) : Option Int := ((laws_szOut.f k x0.fOut x1).bind fun t51 => (bif (decide (t51 < 0)) then some (-1) else some t51))
theorem laws_szCoin.calls {k : Nat} {x0 : Coin} {x1 : Int} {p0_0 : Value} {w : World} (hp0_0 : RdS kInt w p0_0 x0.fOut.fRule.fKeys) {r : Int} (H : laws_szCoin.f k x0 x1 = some r) :
    Calls Tryz.prog 17 ([.agg #[(.int .i64 x0.fRef.fTx), (.int .i64 x0.fRef.fAt), (.int .i64 x0.fOut.fValue), p0_0, (.int .i64 x0.fOut.fRule.fNeed), (.int .i64 x0.fOut.fRule.fAfter), (.int .i64 x0.fHeight), (.bool x0.fMined)], .int .i64 x1] : List Value).toArray w (fun e w_ => ∃ v, e = .returned v ∧ v = (.int .i64 r) ∧ Mem w [] w_ []) := by
  have HM := Mem.start w
  refine calls_run (N := 12) Tryz.func17 rfl rfl rfl rfl ?_
  unfold laws_szCoin.f at H
  refine run_seq ?_
  refine run_region rfl ?_
  refine od rfl rfl rfl rfl (does_box (cs := [.int .i64 x0.fRef.fTx, .int .i64 x0.fRef.fAt, .int .i64 x0.fOut.fValue, p0_0, .int .i64 x0.fOut.fRule.fNeed, .int .i64 x0.fOut.fRule.fAfter, .int .i64 x0.fHeight, .bool x0.fMined]) rfl rfl rfl HM) ?_
  rintro _ w50 ⟨b47, rfl, HM⟩
  refine ox rfl rfl rfl rfl (ex_assign rfl rfl) ?_
  refine ops_nil (at_then (run_seq ?_))
  obtain ⟨t51, h52, H⟩ := bind_some H
  refine run_region rfl ?_
  refine ox rfl rfl rfl rfl (ex_fieldAddr (off' := 2) rfl rfl Tryz.underlying55 rfl tsz53 rfl) ?_
  refine ox rfl rfl rfl rfl (ex_loadN (cs := [(.int .i64 x0.fOut.fValue), p0_0, (.int .i64 x0.fOut.fRule.fNeed), (.int .i64 x0.fOut.fRule.fAfter)]) rfl rfl Tryz.underlying53 rfl tsz53 rfl ((HM.box_at 0 rfl).sub 2 4 rfl)) ?_
  refine ox rfl rfl rfl rfl (ex_move rfl rfl) ?_
  refine od rfl rfl rfl rfl (does_callk rfl callok40 rfl (laws_szOut.calls (x0 := x0.fOut) (x1 := x1) (HM.rd hp0_0) h52)) ?_
  rintro _ w53 ⟨rfl, hn⟩
  replace HM : Mem w [] w53 [box b47 55 [.int .i64 x0.fRef.fTx, .int .i64 x0.fRef.fAt, .int .i64 x0.fOut.fValue, p0_0, .int .i64 x0.fOut.fRule.fNeed, .int .i64 x0.fOut.fRule.fAfter, .int .i64 x0.fHeight, .bool x0.fMined]] := HM.call hn
  refine ox rfl rfl rfl rfl (ex_assign rfl rfl) ?_
  refine ops_nil (at_then (run_seq ?_))
  refine run_seq ?_
  refine run_region rfl ?_
  refine ox rfl rfl rfl rfl (ex_move rfl rfl) ?_
  refine ox rfl rfl rfl rfl (ex_lss rfl rfl rfl) ?_
  refine ops_nil (at_then ?_)
  refine run_cond (b := (decide (t51 < 0))) rfl (fun hb54 => ?_) (fun hb54 => ?_)
  · replace H := cond_t hb54 H
    refine run_seq ?_
    refine run_region rfl ?_
    refine ox rfl rfl rfl rfl (ex_assign rfl rfl) ?_
    refine ops_nil (at_then ?_)
    refine run_ret ?_
    refine at_then_ret ?_
    replace HM := (HM.front 0 rfl rfl).drop
    have hR := Option.some.inj H
    subst hR
    exact at_ret1 rfl rfl ⟨_, rfl, rfl, HM⟩
  · replace H := cond_f hb54 H
    refine run_skip ?_
    refine at_then ?_
    refine run_seq ?_
    refine run_region rfl ?_
    refine ox rfl rfl rfl rfl (ex_move rfl rfl) ?_
    refine ox rfl rfl rfl rfl (ex_assign rfl rfl) ?_
    refine ops_nil (at_then ?_)
    refine run_ret ?_
    replace HM := (HM.front 0 rfl rfl).drop
    have hR := Option.some.inj H
    subst hR
    exact at_ret1 rfl rfl ⟨_, rfl, rfl, HM⟩

def laws_szCoinS.l0 (x0 : List Coin) : Nat → Int → Int → Option (Int ⊕ Int)
  | 0, _, _ => none
  | k + 1, a118, a119 => (bif (decide (a119 < (x0.length : Int))) then (chk (idxOk a119 x0.length) ((laws_szCoin.f k (gt x0 a119) a118).bind fun t135 => (bif (decide (t135 < 0)) then some (.inl (-1)) else laws_szCoinS.l0 x0 k t135 (wrap64 (a119 + 1))))) else some (.inr a118))
theorem laws_szCoinS.l0_z (x0 : List Coin) (a118 : Int) (a119 : Int) : laws_szCoinS.l0 x0 0 a118 a119 = none := rfl
theorem laws_szCoinS.l0_s (x0 : List Coin) (k : Nat) (a118 : Int) (a119 : Int) : laws_szCoinS.l0 x0 (k + 1) a118 a119 = (bif (decide (a119 < (x0.length : Int))) then (chk (idxOk a119 x0.length) ((laws_szCoin.f k (gt x0 a119) a118).bind fun t135 => (bif (decide (t135 < 0)) then some (.inl (-1)) else laws_szCoinS.l0 x0 k t135 (wrap64 (a119 + 1))))) else some (.inr a118)) := rfl
def laws_szCoinS.f (k : Nat) (x0 : List Coin) (x1 : Int) : Option Int := (bif (decide ((wrap64 (x1 - (x0.length : Int))) < 0)) then some (-1) else ((laws_szCoinS.l0 x0 k (wrap64 (x1 - (x0.length : Int))) 0).bind fun o108 => thn o108 (fun r => some r) (fun a107 => some a107)))
theorem laws_szCoinS.calls {k : Nat} {x0 : List Coin} {x1 : Int} {p0 : Value} {w : World} (hp0 : RdS kCoin w p0 x0) {r : Int} (H : laws_szCoinS.f k x0 x1 = some r) :
    Calls Tryz.prog 4 ([p0, .int .i64 x1] : List Value).toArray w (fun e w_ => ∃ v, e = .returned v ∧ v = (.int .i64 r) ∧ Mem w [] w_ []) := by
  have HM := Mem.start w
  refine calls_run (N := 27) Tryz.func4 rfl rfl rfl rfl ?_
  unfold laws_szCoinS.f at H
  refine run_seq ?_
  refine run_region rfl ?_
  refine ox rfl rfl rfl rfl (ex_assign rfl rfl) ?_
  refine ops_nil (at_then (run_seq ?_))
  refine run_region rfl ?_
  refine ox rfl rfl rfl rfl (ex_move rfl rfl) ?_
  refine ox rfl rfl rfl rfl (ex_move rfl rfl) ?_
  refine ox rfl rfl rfl rfl (ex_len (d := kCoin) (xs := x0) rfl rfl Tryz.underlying22 hp0) ?_
  refine ox rfl rfl rfl rfl (ex_sub rfl rfl rfl) ?_
  refine ox rfl rfl rfl rfl (ex_assign rfl rfl) ?_
  refine ops_nil (at_then (run_seq ?_))
  refine run_seq ?_
  refine run_region rfl ?_
  refine ox rfl rfl rfl rfl (ex_move rfl rfl) ?_
  refine ox rfl rfl rfl rfl (ex_lss rfl rfl rfl) ?_
  refine ops_nil (at_then ?_)
  refine run_cond (b := (decide ((wrap64 (x1 - (x0.length : Int))) < 0))) rfl (fun hb80 => ?_) (fun hb80 => ?_)
  · replace H := cond_t hb80 H
    refine run_seq ?_
    refine run_region rfl ?_
    refine ox rfl rfl rfl rfl (ex_assign rfl rfl) ?_
    refine ops_nil (at_then ?_)
    refine run_ret ?_
    refine at_then_ret ?_
    have hR := Option.some.inj H
    subst hR
    exact at_ret1 rfl rfl ⟨_, rfl, rfl, HM⟩
  · replace H := cond_f hb80 H
    refine run_skip ?_
    refine at_then ?_
    obtain ⟨o108, ho109, H⟩ := bind_some H
    refine run_mid (fun ρ_ w_ => ∃ a107 : Int, Sum.inr a107 = o108 ∧ ρ_ = [(1, .int .i64 a107)] ∧ Mem w [] w_ []) ?_ ?_
    · skip
      refine run_seq ?_
      refine run_region rfl ?_
      refine ox rfl rfl rfl rfl (ex_assign rfl rfl) ?_
      refine ops_nil (at_then ?_)
      refine run_block ?_
      refine run_loop (fun k_ ρ_ w_ => ∃ a118 : Int, ∃ a119 : Int, laws_szCoinS.l0 x0 k_ a118 a119 = some o108 ∧ ρ_ = [(0, p0), (1, .int .i64 a118), (5, .int .i64 a119)] ∧ Mem w [] w_ []) k (ρ1 := [(0, p0), (1, .int .i64 (wrap64 (x1 - (x0.length : Int)))), (5, .int .i64 0)]) ⟨_, _, ho109, rfl, HM⟩ (Sub.cons rfl (Sub.cons rfl (Sub.cons rfl Sub.nil))) ?_
      clear HM ho109
      rintro k128 _ w129 ⟨a118, a119, ho109, rfl, HM⟩
      obtain _ | k128 := k128
      · exact nomatch ((laws_szCoinS.l0_z x0 a118 a119).symm.trans ho109)
      replace ho109 := (laws_szCoinS.l0_s x0 k128 a118 a119).symm.trans ho109
      refine run_seq ?_
      refine run_seq ?_
      refine run_region rfl ?_
      refine ox rfl rfl rfl rfl (ex_move rfl rfl) ?_
      refine ox rfl rfl rfl rfl (ex_move rfl rfl) ?_
      refine ox rfl rfl rfl rfl (ex_len (d := kCoin) (xs := x0) rfl rfl Tryz.underlying22 hp0) ?_
      refine ox rfl rfl rfl rfl (ex_lss rfl rfl rfl) ?_
      refine ops_nil (at_then ?_)
      refine run_cond (b := (decide (a119 < (x0.length : Int)))) rfl (fun hb130 => ?_) (fun hb130 => ?_)
      · replace ho109 := cond_t hb130 ho109
        refine run_skip ?_
        refine at_then ?_
        refine run_seq ?_
        refine run_block ?_
        refine run_seq ?_
        obtain ⟨e131, ho109⟩ := chk_some ho109
        obtain ⟨t135, h136, ho109⟩ := bind_some ho109
        refine run_region rfl ?_
        refine ox rfl rfl rfl rfl (ex_move rfl rfl) ?_
        refine ox rfl rfl rfl rfl (ex_move rfl rfl) ?_
        obtain ⟨kv133, hc132, hk134⟩ : ∃ u, CellsAt _ (sb p0) (so p0 + (a119).toNat * 8) [(.int .i64 ((gt x0 a119).fRef.fTx)), (.int .i64 ((gt x0 a119).fRef.fAt)), (.int .i64 ((gt x0 a119).fOut.fValue)), u, (.int .i64 ((gt x0 a119).fOut.fRule.fNeed)), (.int .i64 ((gt x0 a119).fOut.fRule.fAfter)), (.int .i64 ((gt x0 a119).fHeight)), (.bool ((gt x0 a119).fMined))] ∧ RdS kInt _ u ((gt x0 a119).fOut.fRule.fKeys) := rd_with1 hp0 e131
        refine ox rfl rfl rfl rfl (ex_indexAddr (d := kCoin) rfl rfl rfl Tryz.underlying22 tsz55 hp0 (idx_lo e131) (idx_hi e131)) ?_
        refine ox rfl rfl rfl rfl (ex_loadN (cs := [(.int .i64 ((gt x0 a119).fRef.fTx)), (.int .i64 ((gt x0 a119).fRef.fAt)), (.int .i64 ((gt x0 a119).fOut.fValue)), kv133, (.int .i64 ((gt x0 a119).fOut.fRule.fNeed)), (.int .i64 ((gt x0 a119).fOut.fRule.fAfter)), (.int .i64 ((gt x0 a119).fHeight)), (.bool ((gt x0 a119).fMined))]) rfl rfl Tryz.underlying55 rfl tsz55 rfl ((HM.at_ hc132).sub 0 8 rfl)) ?_
        refine ox rfl rfl rfl rfl (ex_move rfl rfl) ?_
        refine od rfl rfl rfl rfl (does_callk rfl callok17 rfl (laws_szCoin.calls (x0 := (gt x0 a119)) (x1 := a118) (HM.rd hk134) h136)) ?_
        rintro _ w137 ⟨rfl, hn⟩
        replace HM : Mem w [] w137 [] := HM.call hn
        refine ox rfl rfl rfl rfl (ex_assign rfl rfl) ?_
        refine ops_nil (at_then (run_seq ?_))
        refine run_region rfl ?_
        refine ox rfl rfl rfl rfl (ex_move rfl rfl) ?_
        refine ox rfl rfl rfl rfl (ex_lss rfl rfl rfl) ?_
        refine ops_nil (at_then ?_)
        refine run_cond (b := (decide (t135 < 0))) rfl (fun hb138 => ?_) (fun hb138 => ?_)
        · replace ho109 := cond_t hb138 ho109
          refine run_seq ?_
          refine run_region rfl ?_
          refine ox rfl rfl rfl rfl (ex_assign rfl rfl) ?_
          refine ops_nil (at_then ?_)
          refine run_ret ?_
          refine at_block_ret ?_
          refine at_then_ret ?_
          refine at_then_ret ?_
          refine at_block_ret ?_
          refine at_then_ret ?_
          have hR := Option.some.inj ho109
          subst hR
          have hT := thn_inl H
          have hR := Option.some.inj hT
          subst hR
          exact at_ret1 rfl rfl ⟨_, rfl, rfl, HM⟩
        · replace ho109 := cond_f hb138 ho109
          refine run_skip ?_
          refine at_block ?_
          refine at_then ?_
          refine run_region rfl ?_
          refine ox rfl rfl rfl rfl (ex_move rfl rfl) ?_
          refine ox rfl rfl rfl rfl (ex_add rfl rfl rfl) ?_
          refine ox rfl rfl rfl rfl (ex_assign rfl rfl) ?_
          refine ops_nil ?_
          exact at_again k128 (ρ1 := [(0, p0), (1, .int .i64 t135), (5, .int .i64 (wrap64 (a119 + 1)))]) (Nat.lt_succ_self _) ⟨_, _, ho109, rfl, HM⟩ (Sub.cons rfl (Sub.cons rfl (Sub.cons rfl Sub.nil)))
      · replace ho109 := cond_f hb130 ho109
        refine run_exit ?_
        refine at_then_exit ?_
        refine at_then_exit ?_
        refine at_block_exit ?_
        exact at_mid (ρ' := [(1, .int .i64 a118)]) ⟨_, (Option.some.inj ho109), rfl, HM⟩ (Sub.cons rfl Sub.nil)
    · rintro _ w139 ⟨a107, rfl, rfl, HM⟩
      replace H := (thn_inr H)
      refine run_seq ?_
      refine run_region rfl ?_
      refine ox rfl rfl rfl rfl (ex_move rfl rfl) ?_
      refine ox rfl rfl rfl rfl (ex_assign rfl rfl) ?_
      refine ops_nil (at_then ?_)
      refine run_ret ?_
      have hR := Option.some.inj H
      subst hR
      exact at_ret1 rfl rfl ⟨_, rfl, rfl, HM⟩

def laws_szRefS.f (k : Nat) (x0 : List Ref) (x1 : Int) : Option Int := (bif (decide ((wrap64 (x1 - (x0.length : Int))) < 0)) then some (-1) else some (wrap64 (x1 - (x0.length : Int))))
theorem laws_szRefS.calls {k : Nat} {x0 : List Ref} {x1 : Int} {p0 : Value} {w : World} (hp0 : RdS kRef w p0 x0) {r : Int} (H : laws_szRefS.f k x0 x1 = some r) :
    Calls Tryz.prog 18 ([p0, .int .i64 x1] : List Value).toArray w (fun e w_ => ∃ v, e = .returned v ∧ v = (.int .i64 r) ∧ Mem w [] w_ []) := by
  have HM := Mem.start w
  refine calls_run (N := 12) Tryz.func18 rfl rfl rfl rfl ?_
  unfold laws_szRefS.f at H
  refine run_seq ?_
  refine run_region rfl ?_
  refine ox rfl rfl rfl rfl (ex_assign rfl rfl) ?_
  refine ops_nil (at_then (run_seq ?_))
  refine run_region rfl ?_
  refine ox rfl rfl rfl rfl (ex_move rfl rfl) ?_
  refine ox rfl rfl rfl rfl (ex_move rfl rfl) ?_
  refine ox rfl rfl rfl rfl (ex_len (d := kRef) (xs := x0) rfl rfl Tryz.underlying23 hp0) ?_
  refine ox rfl rfl rfl rfl (ex_sub rfl rfl rfl) ?_
  refine ox rfl rfl rfl rfl (ex_assign rfl rfl) ?_
  refine ops_nil (at_then (run_seq ?_))
  refine run_seq ?_
  refine run_region rfl ?_
  refine ox rfl rfl rfl rfl (ex_move rfl rfl) ?_
  refine ox rfl rfl rfl rfl (ex_lss rfl rfl rfl) ?_
  refine ops_nil (at_then ?_)
  refine run_cond (b := (decide ((wrap64 (x1 - (x0.length : Int))) < 0))) rfl (fun hb148 => ?_) (fun hb148 => ?_)
  · replace H := cond_t hb148 H
    refine run_seq ?_
    refine run_region rfl ?_
    refine ox rfl rfl rfl rfl (ex_assign rfl rfl) ?_
    refine ops_nil (at_then ?_)
    refine run_ret ?_
    refine at_then_ret ?_
    have hR := Option.some.inj H
    subst hR
    exact at_ret1 rfl rfl ⟨_, rfl, rfl, HM⟩
  · replace H := cond_f hb148 H
    refine run_skip ?_
    refine at_then ?_
    refine run_seq ?_
    refine run_region rfl ?_
    refine ox rfl rfl rfl rfl (ex_move rfl rfl) ?_
    refine ox rfl rfl rfl rfl (ex_assign rfl rfl) ?_
    refine ops_nil (at_then ?_)
    refine run_ret ?_
    have hR := Option.some.inj H
    subst hR
    exact at_ret1 rfl rfl ⟨_, rfl, rfl, HM⟩

def laws_szOutS.l0 (x0 : List Out) : Nat → Int → Int → Option (Int ⊕ Int)
  | 0, _, _ => none
  | k + 1, a223, a224 => (bif (decide (a224 < (x0.length : Int))) then (chk (idxOk a224 x0.length) ((laws_szOut.f k (gt x0 a224) a223).bind fun t240 => (bif (decide (t240 < 0)) then some (.inl (-1)) else laws_szOutS.l0 x0 k t240 (wrap64 (a224 + 1))))) else some (.inr a223))
theorem laws_szOutS.l0_z (x0 : List Out) (a223 : Int) (a224 : Int) : laws_szOutS.l0 x0 0 a223 a224 = none := rfl
theorem laws_szOutS.l0_s (x0 : List Out) (k : Nat) (a223 : Int) (a224 : Int) : laws_szOutS.l0 x0 (k + 1) a223 a224 = (bif (decide (a224 < (x0.length : Int))) then (chk (idxOk a224 x0.length) ((laws_szOut.f k (gt x0 a224) a223).bind fun t240 => (bif (decide (t240 < 0)) then some (.inl (-1)) else laws_szOutS.l0 x0 k t240 (wrap64 (a224 + 1))))) else some (.inr a223)) := rfl
def laws_szOutS.f (k : Nat) (x0 : List Out) (x1 : Int) : Option Int := (bif (decide ((wrap64 (x1 - (x0.length : Int))) < 0)) then some (-1) else ((laws_szOutS.l0 x0 k (wrap64 (x1 - (x0.length : Int))) 0).bind fun o213 => thn o213 (fun r => some r) (fun a212 => some a212)))
theorem laws_szOutS.calls {k : Nat} {x0 : List Out} {x1 : Int} {p0 : Value} {w : World} (hp0 : RdS kOut w p0 x0) {r : Int} (H : laws_szOutS.f k x0 x1 = some r) :
    Calls Tryz.prog 19 ([p0, .int .i64 x1] : List Value).toArray w (fun e w_ => ∃ v, e = .returned v ∧ v = (.int .i64 r) ∧ Mem w [] w_ []) := by
  have HM := Mem.start w
  refine calls_run (N := 27) Tryz.func19 rfl rfl rfl rfl ?_
  unfold laws_szOutS.f at H
  refine run_seq ?_
  refine run_region rfl ?_
  refine ox rfl rfl rfl rfl (ex_assign rfl rfl) ?_
  refine ops_nil (at_then (run_seq ?_))
  refine run_region rfl ?_
  refine ox rfl rfl rfl rfl (ex_move rfl rfl) ?_
  refine ox rfl rfl rfl rfl (ex_move rfl rfl) ?_
  refine ox rfl rfl rfl rfl (ex_len (d := kOut) (xs := x0) rfl rfl Tryz.underlying24 hp0) ?_
  refine ox rfl rfl rfl rfl (ex_sub rfl rfl rfl) ?_
  refine ox rfl rfl rfl rfl (ex_assign rfl rfl) ?_
  refine ops_nil (at_then (run_seq ?_))
  refine run_seq ?_
  refine run_region rfl ?_
  refine ox rfl rfl rfl rfl (ex_move rfl rfl) ?_
  refine ox rfl rfl rfl rfl (ex_lss rfl rfl rfl) ?_
  refine ops_nil (at_then ?_)
  refine run_cond (b := (decide ((wrap64 (x1 - (x0.length : Int))) < 0))) rfl (fun hb185 => ?_) (fun hb185 => ?_)
  · replace H := cond_t hb185 H
    refine run_seq ?_
    refine run_region rfl ?_
    refine ox rfl rfl rfl rfl (ex_assign rfl rfl) ?_
    refine ops_nil (at_then ?_)
    refine run_ret ?_
    refine at_then_ret ?_
    have hR := Option.some.inj H
    subst hR
    exact at_ret1 rfl rfl ⟨_, rfl, rfl, HM⟩
  · replace H := cond_f hb185 H
    refine run_skip ?_
    refine at_then ?_
    obtain ⟨o213, ho214, H⟩ := bind_some H
    refine run_mid (fun ρ_ w_ => ∃ a212 : Int, Sum.inr a212 = o213 ∧ ρ_ = [(1, .int .i64 a212)] ∧ Mem w [] w_ []) ?_ ?_
    · skip
      refine run_seq ?_
      refine run_region rfl ?_
      refine ox rfl rfl rfl rfl (ex_assign rfl rfl) ?_
      refine ops_nil (at_then ?_)
      refine run_block ?_
      refine run_loop (fun k_ ρ_ w_ => ∃ a223 : Int, ∃ a224 : Int, laws_szOutS.l0 x0 k_ a223 a224 = some o213 ∧ ρ_ = [(0, p0), (1, .int .i64 a223), (5, .int .i64 a224)] ∧ Mem w [] w_ []) k (ρ1 := [(0, p0), (1, .int .i64 (wrap64 (x1 - (x0.length : Int)))), (5, .int .i64 0)]) ⟨_, _, ho214, rfl, HM⟩ (Sub.cons rfl (Sub.cons rfl (Sub.cons rfl Sub.nil))) ?_
      clear HM ho214
      rintro k233 _ w234 ⟨a223, a224, ho214, rfl, HM⟩
      obtain _ | k233 := k233
      · exact nomatch ((laws_szOutS.l0_z x0 a223 a224).symm.trans ho214)
      replace ho214 := (laws_szOutS.l0_s x0 k233 a223 a224).symm.trans ho214
      refine run_seq ?_
      refine run_seq ?_
      refine run_region rfl ?_
      refine ox rfl rfl rfl rfl (ex_move rfl rfl) ?_
      refine ox rfl rfl rfl rfl (ex_move rfl rfl) ?_
      refine ox rfl rfl rfl rfl (ex_len (d := kOut) (xs := x0) rfl rfl Tryz.underlying24 hp0) ?_
      refine ox rfl rfl rfl rfl (ex_lss rfl rfl rfl) ?_
      refine ops_nil (at_then ?_)
      refine run_cond (b := (decide (a224 < (x0.length : Int)))) rfl (fun hb235 => ?_) (fun hb235 => ?_)
      · replace ho214 := cond_t hb235 ho214
        refine run_skip ?_
        refine at_then ?_
        refine run_seq ?_
        refine run_block ?_
        refine run_seq ?_
        obtain ⟨e236, ho214⟩ := chk_some ho214
        obtain ⟨t240, h241, ho214⟩ := bind_some ho214
        refine run_region rfl ?_
        refine ox rfl rfl rfl rfl (ex_move rfl rfl) ?_
        refine ox rfl rfl rfl rfl (ex_move rfl rfl) ?_
        obtain ⟨kv238, hc237, hk239⟩ : ∃ u, CellsAt _ (sb p0) (so p0 + (a224).toNat * 4) [(.int .i64 ((gt x0 a224).fValue)), u, (.int .i64 ((gt x0 a224).fRule.fNeed)), (.int .i64 ((gt x0 a224).fRule.fAfter))] ∧ RdS kInt _ u ((gt x0 a224).fRule.fKeys) := rd_with1 hp0 e236
        refine ox rfl rfl rfl rfl (ex_indexAddr (d := kOut) rfl rfl rfl Tryz.underlying24 tsz53 hp0 (idx_lo e236) (idx_hi e236)) ?_
        refine ox rfl rfl rfl rfl (ex_loadN (cs := [(.int .i64 ((gt x0 a224).fValue)), kv238, (.int .i64 ((gt x0 a224).fRule.fNeed)), (.int .i64 ((gt x0 a224).fRule.fAfter))]) rfl rfl Tryz.underlying53 rfl tsz53 rfl ((HM.at_ hc237).sub 0 4 rfl)) ?_
        refine ox rfl rfl rfl rfl (ex_move rfl rfl) ?_
        refine od rfl rfl rfl rfl (does_callk rfl callok40 rfl (laws_szOut.calls (x0 := (gt x0 a224)) (x1 := a223) (HM.rd hk239) h241)) ?_
        rintro _ w242 ⟨rfl, hn⟩
        replace HM : Mem w [] w242 [] := HM.call hn
        refine ox rfl rfl rfl rfl (ex_assign rfl rfl) ?_
        refine ops_nil (at_then (run_seq ?_))
        refine run_region rfl ?_
        refine ox rfl rfl rfl rfl (ex_move rfl rfl) ?_
        refine ox rfl rfl rfl rfl (ex_lss rfl rfl rfl) ?_
        refine ops_nil (at_then ?_)
        refine run_cond (b := (decide (t240 < 0))) rfl (fun hb243 => ?_) (fun hb243 => ?_)
        · replace ho214 := cond_t hb243 ho214
          refine run_seq ?_
          refine run_region rfl ?_
          refine ox rfl rfl rfl rfl (ex_assign rfl rfl) ?_
          refine ops_nil (at_then ?_)
          refine run_ret ?_
          refine at_block_ret ?_
          refine at_then_ret ?_
          refine at_then_ret ?_
          refine at_block_ret ?_
          refine at_then_ret ?_
          have hR := Option.some.inj ho214
          subst hR
          have hT := thn_inl H
          have hR := Option.some.inj hT
          subst hR
          exact at_ret1 rfl rfl ⟨_, rfl, rfl, HM⟩
        · replace ho214 := cond_f hb243 ho214
          refine run_skip ?_
          refine at_block ?_
          refine at_then ?_
          refine run_region rfl ?_
          refine ox rfl rfl rfl rfl (ex_move rfl rfl) ?_
          refine ox rfl rfl rfl rfl (ex_add rfl rfl rfl) ?_
          refine ox rfl rfl rfl rfl (ex_assign rfl rfl) ?_
          refine ops_nil ?_
          exact at_again k233 (ρ1 := [(0, p0), (1, .int .i64 t240), (5, .int .i64 (wrap64 (a224 + 1)))]) (Nat.lt_succ_self _) ⟨_, _, ho214, rfl, HM⟩ (Sub.cons rfl (Sub.cons rfl (Sub.cons rfl Sub.nil)))
      · replace ho214 := cond_f hb235 ho214
        refine run_exit ?_
        refine at_then_exit ?_
        refine at_then_exit ?_
        refine at_block_exit ?_
        exact at_mid (ρ' := [(1, .int .i64 a223)]) ⟨_, (Option.some.inj ho214), rfl, HM⟩ (Sub.cons rfl Sub.nil)
    · rintro _ w244 ⟨a212, rfl, rfl, HM⟩
      replace H := (thn_inr H)
      refine run_seq ?_
      refine run_region rfl ?_
      refine ox rfl rfl rfl rfl (ex_move rfl rfl) ?_
      refine ox rfl rfl rfl rfl (ex_assign rfl rfl) ?_
      refine ops_nil (at_then ?_)
      refine run_ret ?_
      have hR := Option.some.inj H
      subst hR
      exact at_ret1 rfl rfl ⟨_, rfl, rfl, HM⟩

def laws_szTx.f (k : Nat) (x0 : Tx) (x1 : Int) : Option Int := ((laws_szRefS.f k x0.fIns x1).bind fun t252 => (bif (decide (t252 < 0)) then some (-1) else ((laws_szOutS.f k x0.fOuts t252).bind fun t257 => (bif (decide (t257 < 0)) then some (-1) else some t257))))
theorem laws_szTx.calls {k : Nat} {x0 : Tx} {x1 : Int} {p0_0 : Value} {p0_1 : Value} {w : World} (hp0_0 : RdS kRef w p0_0 x0.fIns) (hp0_1 : RdS kOut w p0_1 x0.fOuts) {r : Int} (H : laws_szTx.f k x0 x1 = some r) :
    Calls Tryz.prog 5 ([.agg #[(.int .i64 x0.fKind), (.int .i64 x0.fMember), p0_0, p0_1], .int .i64 x1] : List Value).toArray w (fun e w_ => ∃ v, e = .returned v ∧ v = (.int .i64 r) ∧ Mem w [] w_ []) := by
  have HM := Mem.start w
  refine calls_run (N := 18) Tryz.func5 rfl rfl rfl rfl ?_
  unfold laws_szTx.f at H
  refine run_seq ?_
  refine run_region rfl ?_
  refine od rfl rfl rfl rfl (does_box (cs := [.int .i64 x0.fKind, .int .i64 x0.fMember, p0_0, p0_1]) rfl rfl rfl HM) ?_
  rintro _ w251 ⟨b248, rfl, HM⟩
  refine ox rfl rfl rfl rfl (ex_assign rfl rfl) ?_
  refine ops_nil (at_then (run_seq ?_))
  obtain ⟨t252, h253, H⟩ := bind_some H
  refine run_region rfl ?_
  refine ox rfl rfl rfl rfl (ex_fieldAddr (off' := 2) rfl rfl Tryz.underlying26 rfl tsz23 rfl) ?_
  refine ox rfl rfl rfl rfl (ex_load1 rfl rfl Tryz.underlying23 rfl ((HM.box_at 0 rfl) 2 _ rfl)) ?_
  refine ox rfl rfl rfl rfl (ex_move rfl rfl) ?_
  refine od rfl rfl rfl rfl (does_callk rfl callok18 rfl (laws_szRefS.calls (x0 := x0.fIns) (x1 := x1) (HM.rd hp0_0) h253)) ?_
  rintro _ w254 ⟨rfl, hn⟩
  replace HM : Mem w [] w254 [box b248 26 [.int .i64 x0.fKind, .int .i64 x0.fMember, p0_0, p0_1]] := HM.call hn
  refine ox rfl rfl rfl rfl (ex_assign rfl rfl) ?_
  refine ops_nil (at_then (run_seq ?_))
  refine run_seq ?_
  refine run_region rfl ?_
  refine ox rfl rfl rfl rfl (ex_move rfl rfl) ?_
  refine ox rfl rfl rfl rfl (ex_lss rfl rfl rfl) ?_
  refine ops_nil (at_then ?_)
  refine run_cond (b := (decide (t252 < 0))) rfl (fun hb256 => ?_) (fun hb256 => ?_)
  · replace H := cond_t hb256 H
    refine run_seq ?_
    refine run_region rfl ?_
    refine ox rfl rfl rfl rfl (ex_assign rfl rfl) ?_
    refine ops_nil (at_then ?_)
    refine run_ret ?_
    refine at_then_ret ?_
    replace HM := (HM.front 0 rfl rfl).drop
    have hR := Option.some.inj H
    subst hR
    exact at_ret1 rfl rfl ⟨_, rfl, rfl, HM⟩
  · replace H := cond_f hb256 H
    refine run_skip ?_
    refine at_then ?_
    refine run_seq ?_
    obtain ⟨t257, h258, H⟩ := bind_some H
    refine run_region rfl ?_
    refine ox rfl rfl rfl rfl (ex_fieldAddr (off' := 3) rfl rfl Tryz.underlying26 rfl tsz24 rfl) ?_
    refine ox rfl rfl rfl rfl (ex_load1 rfl rfl Tryz.underlying24 rfl ((HM.box_at 0 rfl) 3 _ rfl)) ?_
    refine ox rfl rfl rfl rfl (ex_move rfl rfl) ?_
    refine od rfl rfl rfl rfl (does_callk rfl callok19 rfl (laws_szOutS.calls (x0 := x0.fOuts) (x1 := t252) (HM.rd hp0_1) h258)) ?_
    rintro _ w259 ⟨rfl, hn⟩
    replace HM : Mem w [] w259 [box b248 26 [.int .i64 x0.fKind, .int .i64 x0.fMember, p0_0, p0_1]] := HM.call hn
    refine ox rfl rfl rfl rfl (ex_assign rfl rfl) ?_
    refine ops_nil (at_then (run_seq ?_))
    refine run_seq ?_
    refine run_region rfl ?_
    refine ox rfl rfl rfl rfl (ex_move rfl rfl) ?_
    refine ox rfl rfl rfl rfl (ex_lss rfl rfl rfl) ?_
    refine ops_nil (at_then ?_)
    refine run_cond (b := (decide (t257 < 0))) rfl (fun hb260 => ?_) (fun hb260 => ?_)
    · replace H := cond_t hb260 H
      refine run_seq ?_
      refine run_region rfl ?_
      refine ox rfl rfl rfl rfl (ex_assign rfl rfl) ?_
      refine ops_nil (at_then ?_)
      refine run_ret ?_
      refine at_then_ret ?_
      replace HM := (HM.front 0 rfl rfl).drop
      have hR := Option.some.inj H
      subst hR
      exact at_ret1 rfl rfl ⟨_, rfl, rfl, HM⟩
    · replace H := cond_f hb260 H
      refine run_skip ?_
      refine at_then ?_
      refine run_seq ?_
      refine run_region rfl ?_
      refine ox rfl rfl rfl rfl (ex_move rfl rfl) ?_
      refine ox rfl rfl rfl rfl (ex_assign rfl rfl) ?_
      refine ops_nil (at_then ?_)
      refine run_ret ?_
      replace HM := (HM.front 0 rfl rfl).drop
      have hR := Option.some.inj H
      subst hR
      exact at_ret1 rfl rfl ⟨_, rfl, rfl, HM⟩

def laws_toRef.f (k : Nat) (x0 : Ref) : Option Ref := some x0
theorem laws_toRef.calls {k : Nat} {x0 : Ref}  {w : World}  {r : Ref} (H : laws_toRef.f k x0 = some r) :
    Calls Tryz.prog 51 ([.agg #[(.int .i64 x0.fTx), (.int .i64 x0.fAt)]] : List Value).toArray w (fun e w_ => ∃ v, e = .returned v ∧ v = (.agg #[.int .i64 r.fTx, .int .i64 r.fAt]) ∧ Mem w [] w_ []) := by
  have HM := Mem.start w
  refine calls_run (N := 11) Tryz.func51 rfl rfl rfl rfl ?_
  unfold laws_toRef.f at H
  refine run_seq ?_
  refine run_region rfl ?_
  refine od rfl rfl rfl rfl (does_box (cs := [.int .i64 x0.fTx, .int .i64 x0.fAt]) rfl rfl rfl HM) ?_
  rintro _ w303 ⟨b297, rfl, HM⟩
  refine od rfl rfl rfl rfl (does_alloc (cs := [.int .i64 0, .int .i64 0]) rfl tz66 rfl HM) ?_
  rintro _ w304 ⟨b300, rfl, HM⟩
  refine ops_nil (at_then (run_seq ?_))
  refine run_region rfl ?_
  refine od rfl rfl rfl rfl (does_alloc (cs := [.int .i64 0, .int .i64 0]) rfl tz66 rfl HM) ?_
  rintro _ w308 ⟨b305, rfl, HM⟩
  refine ops_nil (at_then (run_seq ?_))
  refine run_region rfl ?_
  refine ox rfl rfl rfl rfl (ex_fieldAddr (off' := 0) rfl rfl Tryz.underlying48 rfl tsz2 rfl) ?_
  refine ox rfl rfl rfl rfl (ex_load1 rfl rfl Tryz.underlying2 rfl ((HM.box_at 2 rfl) 0 _ rfl)) ?_
  refine ox rfl rfl rfl rfl (ex_fieldAddr (off' := 0) rfl rfl Tryz.underlying66 rfl tsz2 rfl) ?_
  refine odS rfl rfl rfl (does_store (vs := [.int .i64 x0.fTx]) (cs' := [.int .i64 x0.fTx, .int .i64 0]) rfl rfl rfl rfl tsz2 (Ones.int Ones.nil) rfl rfl HM) ?_
  rintro w309 HM
  refine ops_nil (at_then (run_seq ?_))
  refine run_region rfl ?_
  refine ox rfl rfl rfl rfl (ex_fieldAddr (off' := 1) rfl rfl Tryz.underlying48 rfl tsz2 rfl) ?_
  refine ox rfl rfl rfl rfl (ex_load1 rfl rfl Tryz.underlying2 rfl ((HM.box_at 2 rfl) 1 _ rfl)) ?_
  refine ox rfl rfl rfl rfl (ex_fieldAddr (off' := 1) rfl rfl Tryz.underlying66 rfl tsz2 rfl) ?_
  refine odS rfl rfl rfl (does_store (vs := [.int .i64 x0.fAt]) (cs' := [.int .i64 x0.fTx, .int .i64 x0.fAt]) rfl rfl rfl rfl tsz2 (Ones.int Ones.nil) rfl rfl HM) ?_
  rintro w310 HM
  refine ops_nil (at_then (run_seq ?_))
  refine run_region rfl ?_
  refine ox rfl rfl rfl rfl (ex_loadN (cs := [(.int .i64 x0.fTx), (.int .i64 x0.fAt)]) rfl rfl Tryz.underlying66 rfl tsz66 rfl ((HM.box_at 0 rfl).sub 0 2 rfl)) ?_
  replace HM := HM.front 1 rfl rfl
  refine odS rfl rfl rfl (does_store (vs := [.int .i64 x0.fTx, .int .i64 x0.fAt]) (cs' := [.int .i64 x0.fTx, .int .i64 x0.fAt]) rfl rfl rfl rfl tsz66 (Ones.int (Ones.int Ones.nil)) rfl rfl HM) ?_
  rintro w311 HM
  refine ops_nil (at_then ?_)
  refine run_ret ?_
  replace HM := (HM.front 1 rfl rfl).drop
  replace HM := (HM.front 1 rfl rfl).drop
  have hcb0 := HM.box_at 0 rfl
  replace HM := (HM.front 0 rfl rfl).drop
  have hR := Option.some.inj H
  subst hR
  exact at_retN rfl rfl Tryz.underlying66 rfl tsz66 rfl hcb0 ⟨_, rfl, rfl, HM⟩

def laws_toInt64S.l0 (x0 : List Int) : Nat → (List Int) → Int → Option ((List Int))
  | 0, _, _ => none
  | k + 1, a390, a392 => (bif (decide (a392 < (x0.length : Int))) then (chk (idxOk a392 x0.length) (chk (idxOk a392 a390.length) (laws_toInt64S.l0 x0 k (a390.set (a392).toNat (gt x0 a392)) (wrap64 (a392 + 1))))) else some a390)
theorem laws_toInt64S.l0_z (x0 : List Int) (a390 : List Int) (a392 : Int) : laws_toInt64S.l0 x0 0 a390 a392 = none := rfl
theorem laws_toInt64S.l0_s (x0 : List Int) (k : Nat) (a390 : List Int) (a392 : Int) : laws_toInt64S.l0 x0 (k + 1) a390 a392 = (bif (decide (a392 < (x0.length : Int))) then (chk (idxOk a392 x0.length) (chk (idxOk a392 a390.length) (laws_toInt64S.l0 x0 k (a390.set (a392).toNat (gt x0 a392)) (wrap64 (a392 + 1))))) else some a390) := rfl
def laws_toInt64S.f (k : Nat) (x0 : List Int) : Option ((List Int)) := (chk (decide (0 ≤ (x0.length : Int))) (chk (leB (((x0.length : Int)).toNat * 8) 281474976710656) ((laws_toInt64S.l0 x0 k (List.replicate ((x0.length : Int)).toNat 0) 0).bind (fun a381 => some a381))))
theorem laws_toInt64S.calls {k : Nat} {x0 : List Int} {p0 : Value} {w : World} (hp0 : RdS kInt w p0 x0) {r : (List Int)} (H : laws_toInt64S.f k x0 = some r) :
    Calls Tryz.prog 99 ([p0] : List Value).toArray w (fun e w_ => ∃ v, e = .returned v ∧ ∃ u0 : Value, v = u0 ∧ Mem w [] w_ [own kInt 2 u0 r]) := by
  have HM := Mem.start w
  refine calls_run (N := 22) Tryz.func99 rfl rfl rfl rfl ?_
  unfold laws_toInt64S.f at H
  refine run_seq ?_
  refine run_region rfl ?_
  refine ox rfl rfl rfl rfl (ex_assign rfl rfl) ?_
  refine ops_nil (at_then (run_seq ?_))
  obtain ⟨e361, H⟩ := chk_some H
  obtain ⟨e362, H⟩ := chk_some H
  refine run_region rfl ?_
  refine ox rfl rfl rfl rfl (ex_move rfl rfl) ?_
  refine ox rfl rfl rfl rfl (ex_len (d := kInt) (xs := x0) rfl rfl Tryz.underlying49 hp0) ?_
  refine od rfl rfl rfl rfl (does_make (x := 0) kInt rfl rfl rfl Tryz.underlying49 tsz2 tby2 tz2 rfl rfl (fun _ => ⟨rfl, rfl⟩) (of_decide_eq_true e361) rfl (leB_le e362) rfl HM) ?_
  rintro v358 w363 HM
  refine ox rfl rfl rfl rfl (ex_assign rfl rfl) ?_
  refine ops_nil (at_then ?_)
  obtain ⟨o383, ho384, H⟩ := bind_some H
  refine run_mid (fun ρ_ w_ => ∃ v380 : Value, ∃ a381 : List Int, a381 = o383 ∧ ρ_ = [(3, v380)] ∧ Mem w [] w_ [own kInt 2 v380 a381]) ?_ ?_
  · clear H
    refine run_seq ?_
    refine run_region rfl ?_
    refine ox rfl rfl rfl rfl (ex_assign rfl rfl) ?_
    refine ops_nil (at_then ?_)
    refine run_block ?_
    refine run_loop (fun k_ ρ_ w_ => ∃ v389 : Value, ∃ a390 : List Int, ∃ a392 : Int, laws_toInt64S.l0 x0 k_ a390 a392 = some o383 ∧ ρ_ = [(0, p0), (3, v389), (4, .int .i64 a392)] ∧ Mem w [] w_ [own kInt 2 v389 a390]) k (ρ1 := [(0, p0), (3, v358), (4, .int .i64 0)]) ⟨_, _, _, ho384, rfl, HM⟩ (Sub.cons rfl (Sub.cons rfl (Sub.cons rfl Sub.nil))) ?_
    clear HM ho384
    rintro k397 _ w398 ⟨v389, a390, a392, ho384, rfl, HM⟩
    obtain _ | k397 := k397
    · exact nomatch ((laws_toInt64S.l0_z x0 a390 a392).symm.trans ho384)
    replace ho384 := (laws_toInt64S.l0_s x0 k397 a390 a392).symm.trans ho384
    refine run_seq ?_
    refine run_seq ?_
    refine run_region rfl ?_
    refine ox rfl rfl rfl rfl (ex_move rfl rfl) ?_
    refine ox rfl rfl rfl rfl (ex_move rfl rfl) ?_
    refine ox rfl rfl rfl rfl (ex_len (d := kInt) (xs := x0) rfl rfl Tryz.underlying49 hp0) ?_
    refine ox rfl rfl rfl rfl (ex_lss rfl rfl rfl) ?_
    refine ops_nil (at_then ?_)
    refine run_cond (b := (decide (a392 < (x0.length : Int)))) rfl (fun hb399 => ?_) (fun hb399 => ?_)
    · replace ho384 := cond_t hb399 ho384
      refine run_skip ?_
      refine at_then ?_
      refine run_seq ?_
      refine run_block ?_
      obtain ⟨e400, ho384⟩ := chk_some ho384
      obtain ⟨e402, ho384⟩ := chk_some ho384
      refine run_region rfl ?_
      refine ox rfl rfl rfl rfl (ex_move rfl rfl) ?_
      refine ox rfl rfl rfl rfl (ex_move rfl rfl) ?_
      refine ox rfl rfl rfl rfl (ex_move rfl rfl) ?_
      refine ox rfl rfl rfl rfl (ex_move rfl rfl) ?_
      have hc401 : CellsAt _ (sb p0) (so p0 + (a392).toNat * 1) [(.int .i64 (gt x0 a392))] := rd_plain hp0 e400
      refine ox rfl rfl rfl rfl (ex_indexAddr (d := kInt) rfl rfl rfl Tryz.underlying49 tsz2 hp0 (idx_lo e400) (idx_hi e400)) ?_
      refine ox rfl rfl rfl rfl (ex_load1 rfl rfl Tryz.underlying2 rfl ((HM.at_ hc401) 0 _ rfl)) ?_
      refine ox rfl rfl rfl rfl (ex_indexAddr (d := kInt) rfl rfl rfl Tryz.underlying49 tsz2 (HM.own_rd 0 rfl) (idx_lo e402) (idx_hi e402)) ?_
      refine odS rfl rfl rfl (does_setElem (vs := [(.int .i64 (gt x0 a392))]) (y := (gt x0 a392)) kInt rfl rfl rfl rfl rfl tsz2 rfl rfl (idx_nat e402) (fun _ _ h => ⟨rfl, h⟩) (HM.emp.front 1 rfl rfl)) ?_
      rintro w403 HM
      refine ops_nil ?_
      refine at_block ?_
      refine at_then ?_
      refine run_region rfl ?_
      refine ox rfl rfl rfl rfl (ex_move rfl rfl) ?_
      refine ox rfl rfl rfl rfl (ex_add rfl rfl rfl) ?_
      refine ox rfl rfl rfl rfl (ex_assign rfl rfl) ?_
      refine ops_nil ?_
      exact at_again k397 (ρ1 := [(0, p0), (3, v389), (4, .int .i64 (wrap64 (a392 + 1)))]) (Nat.lt_succ_self _) ⟨_, _, _, ho384, rfl, HM⟩ (Sub.cons rfl (Sub.cons rfl (Sub.cons rfl Sub.nil)))
    · replace ho384 := cond_f hb399 ho384
      refine run_exit ?_
      refine at_then_exit ?_
      refine at_then_exit ?_
      refine at_block_exit ?_
      exact at_mid (ρ' := [(3, v389)]) ⟨_, _, (Option.some.inj ho384), rfl, HM⟩ (Sub.cons rfl Sub.nil)
  · rintro _ w404 ⟨v380, a381, rfl, rfl, HM⟩
    refine run_seq ?_
    refine run_region rfl ?_
    refine ox rfl rfl rfl rfl (ex_move rfl rfl) ?_
    refine ox rfl rfl rfl rfl (ex_assign rfl rfl) ?_
    refine ops_nil (at_then ?_)
    refine run_ret ?_
    have hR := Option.some.inj H
    subst hR
    exact at_ret1 rfl rfl ⟨_, rfl, _, rfl, HM⟩

def laws_toRule.f (k : Nat) (x0 : Rule) : Option Rule := ((laws_toInt64S.f k x0.fKeys).bind fun t421 => some (⟨t421, x0.fNeed, x0.fAfter⟩ : Rule))
theorem laws_toRule.calls {k : Nat} {x0 : Rule} {p0_0 : Value} {w : World} (hp0_0 : RdS kInt w p0_0 x0.fKeys) {r : Rule} (H : laws_toRule.f k x0 = some r) :
    Calls Tryz.prog 79 ([.agg #[p0_0, (.int .i64 x0.fNeed), (.int .i64 x0.fAfter)]] : List Value).toArray w (fun e w_ => ∃ v, e = .returned v ∧ ∃ u0 : Value, v = (.agg #[u0, .int .i64 r.fNeed, .int .i64 r.fAfter]) ∧ Mem w [] w_ [own kInt 2 u0 r.fKeys]) := by
  have HM := Mem.start w
  refine calls_run (N := 15) Tryz.func79 rfl rfl rfl rfl ?_
  unfold laws_toRule.f at H
  refine run_seq ?_
  refine run_region rfl ?_
  refine od rfl rfl rfl rfl (does_box (cs := [p0_0, .int .i64 x0.fNeed, .int .i64 x0.fAfter]) rfl rfl rfl HM) ?_
  rintro _ w415 ⟨b409, rfl, HM⟩
  refine od rfl rfl rfl rfl (does_alloc (cs := [.slice none 0 0, .int .i64 0, .int .i64 0]) rfl tz68 rfl HM) ?_
  rintro _ w416 ⟨b412, rfl, HM⟩
  refine ops_nil (at_then (run_seq ?_))
  refine run_region rfl ?_
  refine od rfl rfl rfl rfl (does_alloc (cs := [.slice none 0 0, .int .i64 0, .int .i64 0]) rfl tz68 rfl HM) ?_
  rintro _ w420 ⟨b417, rfl, HM⟩
  refine ops_nil (at_then (run_seq ?_))
  obtain ⟨t421, h422, H⟩ := bind_some H
  refine run_region rfl ?_
  refine ox rfl rfl rfl rfl (ex_fieldAddr (off' := 0) rfl rfl Tryz.underlying51 rfl tsz49 rfl) ?_
  refine ox rfl rfl rfl rfl (ex_load1 rfl rfl Tryz.underlying49 rfl ((HM.box_at 2 rfl) 0 _ rfl)) ?_
  refine od rfl rfl rfl rfl (does_callk rfl callok99 rfl (laws_toInt64S.calls (x0 := x0.fKeys) (HM.rd hp0_0) h422)) ?_
  rintro u423 w425 ⟨_, rfl, hn⟩
  replace HM : Mem w [] w425 [own kInt 2 u423 t421, box b417 68 [.slice none 0 0, .int .i64 0, .int .i64 0], box b412 68 [.slice none 0 0, .int .i64 0, .int .i64 0], box b409 51 [p0_0, .int .i64 x0.fNeed, .int .i64 x0.fAfter]] := HM.call hn
  refine ox rfl rfl rfl rfl (ex_fieldAddr (off' := 0) rfl rfl Tryz.underlying68 rfl tsz49 rfl) ?_
  replace HM := HM.front 1 rfl rfl
  refine odS rfl rfl rfl (does_store (vs := [u423]) (cs' := [u423, .int .i64 0, .int .i64 0]) rfl rfl rfl (rd_cells (HM.own_rd 1 rfl)) tsz49 (Ones.rd (HM.own_rd 1 rfl) Ones.nil) rfl rfl HM) ?_
  rintro w426 HM
  refine ops_nil (at_then (run_seq ?_))
  refine run_region rfl ?_
  refine ox rfl rfl rfl rfl (ex_fieldAddr (off' := 1) rfl rfl Tryz.underlying51 rfl tsz2 rfl) ?_
  refine ox rfl rfl rfl rfl (ex_load1 rfl rfl Tryz.underlying2 rfl ((HM.box_at 3 rfl) 1 _ rfl)) ?_
  refine ox rfl rfl rfl rfl (ex_fieldAddr (off' := 1) rfl rfl Tryz.underlying68 rfl tsz2 rfl) ?_
  refine odS rfl rfl rfl (does_store (vs := [.int .i64 x0.fNeed]) (cs' := [u423, .int .i64 x0.fNeed, .int .i64 0]) rfl rfl rfl rfl tsz2 (Ones.int Ones.nil) rfl rfl HM) ?_
  rintro w427 HM
  refine ops_nil (at_then (run_seq ?_))
  refine run_region rfl ?_
  refine ox rfl rfl rfl rfl (ex_fieldAddr (off' := 2) rfl rfl Tryz.underlying51 rfl tsz2 rfl) ?_
  refine ox rfl rfl rfl rfl (ex_load1 rfl rfl Tryz.underlying2 rfl ((HM.box_at 3 rfl) 2 _ rfl)) ?_
  refine ox rfl rfl rfl rfl (ex_fieldAddr (off' := 2) rfl rfl Tryz.underlying68 rfl tsz2 rfl) ?_
  refine odS rfl rfl rfl (does_store (vs := [.int .i64 x0.fAfter]) (cs' := [u423, .int .i64 x0.fNeed, .int .i64 x0.fAfter]) rfl rfl rfl rfl tsz2 (Ones.int Ones.nil) rfl rfl HM) ?_
  rintro w428 HM
  refine ops_nil (at_then (run_seq ?_))
  refine run_region rfl ?_
  refine ox rfl rfl rfl rfl (ex_loadN (cs := [u423, (.int .i64 x0.fNeed), (.int .i64 x0.fAfter)]) rfl rfl Tryz.underlying68 rfl tsz68 rfl ((HM.box_at 0 rfl).sub 0 3 rfl)) ?_
  replace HM := HM.front 2 rfl rfl
  refine odS rfl rfl rfl (does_store (vs := [u423, .int .i64 x0.fNeed, .int .i64 x0.fAfter]) (cs' := [u423, .int .i64 x0.fNeed, .int .i64 x0.fAfter]) rfl rfl rfl rfl tsz68 (Ones.rd (HM.own_rd 2 rfl) (Ones.int (Ones.int Ones.nil))) rfl rfl HM) ?_
  rintro w429 HM
  refine ops_nil (at_then ?_)
  refine run_ret ?_
  replace HM := (HM.front 1 rfl rfl).drop
  replace HM := (HM.front 2 rfl rfl).drop
  have hcb0 := HM.box_at 0 rfl
  replace HM := (HM.front 0 rfl rfl).drop
  have hR := Option.some.inj H
  subst hR
  exact at_retN rfl rfl Tryz.underlying68 rfl tsz68 rfl hcb0 ⟨_, rfl, _, rfl, HM⟩

def laws_toOut.f (k : Nat) (x0 : Out) : Option Out := ((laws_toRule.f k x0.fRule).bind fun t447 => some (⟨x0.fValue, t447⟩ : Out))
theorem laws_toOut.calls {k : Nat} {x0 : Out} {p0_0 : Value} {w : World} (hp0_0 : RdS kInt w p0_0 x0.fRule.fKeys) {r : Out} (H : laws_toOut.f k x0 = some r) :
    Calls Tryz.prog 52 ([.agg #[(.int .i64 x0.fValue), p0_0, (.int .i64 x0.fRule.fNeed), (.int .i64 x0.fRule.fAfter)]] : List Value).toArray w (fun e w_ => ∃ v, e = .returned v ∧ ∃ u0 : Value, v = (.agg #[.int .i64 r.fValue, u0, .int .i64 r.fRule.fNeed, .int .i64 r.fRule.fAfter]) ∧ Mem w [] w_ [own kInt 2 u0 r.fRule.fKeys]) := by
  have HM := Mem.start w
  refine calls_run (N := 12) Tryz.func52 rfl rfl rfl rfl ?_
  unfold laws_toOut.f at H
  refine run_seq ?_
  refine run_region rfl ?_
  refine od rfl rfl rfl rfl (does_box (cs := [.int .i64 x0.fValue, p0_0, .int .i64 x0.fRule.fNeed, .int .i64 x0.fRule.fAfter]) rfl rfl rfl HM) ?_
  rintro _ w440 ⟨b434, rfl, HM⟩
  refine od rfl rfl rfl rfl (does_alloc (cs := [.int .i64 0, .slice none 0 0, .int .i64 0, .int .i64 0]) rfl tz70 rfl HM) ?_
  rintro _ w441 ⟨b437, rfl, HM⟩
  refine ops_nil (at_then (run_seq ?_))
  refine run_region rfl ?_
  refine od rfl rfl rfl rfl (does_alloc (cs := [.int .i64 0, .slice none 0 0, .int .i64 0, .int .i64 0]) rfl tz70 rfl HM) ?_
  rintro _ w445 ⟨b442, rfl, HM⟩
  refine ops_nil (at_then (run_seq ?_))
  refine run_region rfl ?_
  refine ox rfl rfl rfl rfl (ex_fieldAddr (off' := 0) rfl rfl Tryz.underlying53 rfl tsz2 rfl) ?_
  refine ox rfl rfl rfl rfl (ex_load1 rfl rfl Tryz.underlying2 rfl ((HM.box_at 2 rfl) 0 _ rfl)) ?_
  refine ox rfl rfl rfl rfl (ex_fieldAddr (off' := 0) rfl rfl Tryz.underlying70 rfl tsz2 rfl) ?_
  refine odS rfl rfl rfl (does_store (vs := [.int .i64 x0.fValue]) (cs' := [.int .i64 x0.fValue, .slice none 0 0, .int .i64 0, .int .i64 0]) rfl rfl rfl rfl tsz2 (Ones.int Ones.nil) rfl rfl HM) ?_
  rintro w446 HM
  refine ops_nil (at_then (run_seq ?_))
  obtain ⟨t447, h448, H⟩ := bind_some H
  refine run_region rfl ?_
  refine ox rfl rfl rfl rfl (ex_fieldAddr (off' := 1) rfl rfl Tryz.underlying53 rfl tsz51 rfl) ?_
  refine ox rfl rfl rfl rfl (ex_loadN (cs := [p0_0, (.int .i64 x0.fRule.fNeed), (.int .i64 x0.fRule.fAfter)]) rfl rfl Tryz.underlying51 rfl tsz51 rfl ((HM.box_at 2 rfl).sub 1 3 rfl)) ?_
  refine od rfl rfl rfl rfl (does_callk rfl callok79 rfl (laws_toRule.calls (x0 := x0.fRule) (HM.rd hp0_0) h448)) ?_
  rintro _ w451 ⟨u449, rfl, hn⟩
  replace HM : Mem w [] w451 [own kInt 2 u449 t447.fKeys, box b442 70 [.int .i64 x0.fValue, .slice none 0 0, .int .i64 0, .int .i64 0], box b437 70 [.int .i64 0, .slice none 0 0, .int .i64 0, .int .i64 0], box b434 53 [.int .i64 x0.fValue, p0_0, .int .i64 x0.fRule.fNeed, .int .i64 x0.fRule.fAfter]] := HM.call hn
  refine ox rfl rfl rfl rfl (ex_fieldAddr (off' := 1) rfl rfl Tryz.underlying70 rfl tsz68 rfl) ?_
  replace HM := HM.front 1 rfl rfl
  refine odS rfl rfl rfl (does_store (vs := [u449, .int .i64 t447.fNeed, .int .i64 t447.fAfter]) (cs' := [.int .i64 x0.fValue, u449, .int .i64 t447.fNeed, .int .i64 t447.fAfter]) rfl rfl rfl rfl tsz68 (Ones.rd (HM.own_rd 1 rfl) (Ones.int (Ones.int Ones.nil))) rfl rfl HM) ?_
  rintro w452 HM
  refine ops_nil (at_then (run_seq ?_))
  refine run_region rfl ?_
  refine ox rfl rfl rfl rfl (ex_loadN (cs := [(.int .i64 x0.fValue), u449, (.int .i64 t447.fNeed), (.int .i64 t447.fAfter)]) rfl rfl Tryz.underlying70 rfl tsz70 rfl ((HM.box_at 0 rfl).sub 0 4 rfl)) ?_
  replace HM := HM.front 2 rfl rfl
  refine odS rfl rfl rfl (does_store (vs := [.int .i64 x0.fValue, u449, .int .i64 t447.fNeed, .int .i64 t447.fAfter]) (cs' := [.int .i64 x0.fValue, u449, .int .i64 t447.fNeed, .int .i64 t447.fAfter]) rfl rfl rfl rfl tsz70 (Ones.int (Ones.rd (HM.own_rd 2 rfl) (Ones.int (Ones.int Ones.nil)))) rfl rfl HM) ?_
  rintro w453 HM
  refine ops_nil (at_then ?_)
  refine run_ret ?_
  replace HM := (HM.front 1 rfl rfl).drop
  replace HM := (HM.front 2 rfl rfl).drop
  have hcb0 := HM.box_at 0 rfl
  replace HM := (HM.front 0 rfl rfl).drop
  have hR := Option.some.inj H
  subst hR
  exact at_retN rfl rfl Tryz.underlying70 rfl tsz70 rfl hcb0 ⟨_, rfl, _, rfl, HM⟩

def laws_toCoin.f (k : Nat) (x0 : Coin) : Option Coin := ((laws_toRef.f k x0.fRef).bind fun t470 => ((laws_toOut.f k x0.fOut).bind fun t474 => some (⟨t470, t474, x0.fHeight, x0.fMined⟩ : Coin)))
theorem laws_toCoin.calls {k : Nat} {x0 : Coin} {p0_0 : Value} {w : World} (hp0_0 : RdS kInt w p0_0 x0.fOut.fRule.fKeys) {r : Coin} (H : laws_toCoin.f k x0 = some r) :
    Calls Tryz.prog 27 ([.agg #[(.int .i64 x0.fRef.fTx), (.int .i64 x0.fRef.fAt), (.int .i64 x0.fOut.fValue), p0_0, (.int .i64 x0.fOut.fRule.fNeed), (.int .i64 x0.fOut.fRule.fAfter), (.int .i64 x0.fHeight), (.bool x0.fMined)]] : List Value).toArray w (fun e w_ => ∃ v, e = .returned v ∧ ∃ u0 : Value, v = (.agg #[.int .i64 r.fRef.fTx, .int .i64 r.fRef.fAt, .int .i64 r.fOut.fValue, u0, .int .i64 r.fOut.fRule.fNeed, .int .i64 r.fOut.fRule.fAfter, .int .i64 r.fHeight, .bool r.fMined]) ∧ Mem w [] w_ [own kInt 2 u0 r.fOut.fRule.fKeys]) := by
  have HM := Mem.start w
  refine calls_run (N := 19) Tryz.func27 rfl rfl rfl rfl ?_
  unfold laws_toCoin.f at H
  refine run_seq ?_
  refine run_region rfl ?_
  refine od rfl rfl rfl rfl (does_box (cs := [.int .i64 x0.fRef.fTx, .int .i64 x0.fRef.fAt, .int .i64 x0.fOut.fValue, p0_0, .int .i64 x0.fOut.fRule.fNeed, .int .i64 x0.fOut.fRule.fAfter, .int .i64 x0.fHeight, .bool x0.fMined]) rfl rfl rfl HM) ?_
  rintro _ w464 ⟨b458, rfl, HM⟩
  refine od rfl rfl rfl rfl (does_alloc (cs := [.int .i64 0, .int .i64 0, .int .i64 0, .slice none 0 0, .int .i64 0, .int .i64 0, .int .i64 0, .bool false]) rfl tz72 rfl HM) ?_
  rintro _ w465 ⟨b461, rfl, HM⟩
  refine ops_nil (at_then (run_seq ?_))
  refine run_region rfl ?_
  refine od rfl rfl rfl rfl (does_alloc (cs := [.int .i64 0, .int .i64 0, .int .i64 0, .slice none 0 0, .int .i64 0, .int .i64 0, .int .i64 0, .bool false]) rfl tz72 rfl HM) ?_
  rintro _ w469 ⟨b466, rfl, HM⟩
  refine ops_nil (at_then (run_seq ?_))
  obtain ⟨t470, h471, H⟩ := bind_some H
  refine run_region rfl ?_
  refine ox rfl rfl rfl rfl (ex_fieldAddr (off' := 0) rfl rfl Tryz.underlying55 rfl tsz48 rfl) ?_
  refine ox rfl rfl rfl rfl (ex_loadN (cs := [(.int .i64 x0.fRef.fTx), (.int .i64 x0.fRef.fAt)]) rfl rfl Tryz.underlying48 rfl tsz48 rfl ((HM.box_at 2 rfl).sub 0 2 rfl)) ?_
  refine od rfl rfl rfl rfl (does_callk rfl callok51 rfl (laws_toRef.calls (x0 := x0.fRef) h471)) ?_
  rintro _ w472 ⟨rfl, hn⟩
  replace HM : Mem w [] w472 [box b466 72 [.int .i64 0, .int .i64 0, .int .i64 0, .slice none 0 0, .int .i64 0, .int .i64 0, .int .i64 0, .bool false], box b461 72 [.int .i64 0, .int .i64 0, .int .i64 0, .slice none 0 0, .int .i64 0, .int .i64 0, .int .i64 0, .bool false], box b458 55 [.int .i64 x0.fRef.fTx, .int .i64 x0.fRef.fAt, .int .i64 x0.fOut.fValue, p0_0, .int .i64 x0.fOut.fRule.fNeed, .int .i64 x0.fOut.fRule.fAfter, .int .i64 x0.fHeight, .bool x0.fMined]] := HM.call hn
  refine ox rfl rfl rfl rfl (ex_fieldAddr (off' := 0) rfl rfl Tryz.underlying72 rfl tsz66 rfl) ?_
  refine odS rfl rfl rfl (does_store (vs := [.int .i64 t470.fTx, .int .i64 t470.fAt]) (cs' := [.int .i64 t470.fTx, .int .i64 t470.fAt, .int .i64 0, .slice none 0 0, .int .i64 0, .int .i64 0, .int .i64 0, .bool false]) rfl rfl rfl rfl tsz66 (Ones.int (Ones.int Ones.nil)) rfl rfl HM) ?_
  rintro w473 HM
  refine ops_nil (at_then (run_seq ?_))
  obtain ⟨t474, h475, H⟩ := bind_some H
  refine run_region rfl ?_
  refine ox rfl rfl rfl rfl (ex_fieldAddr (off' := 2) rfl rfl Tryz.underlying55 rfl tsz53 rfl) ?_
  refine ox rfl rfl rfl rfl (ex_loadN (cs := [(.int .i64 x0.fOut.fValue), p0_0, (.int .i64 x0.fOut.fRule.fNeed), (.int .i64 x0.fOut.fRule.fAfter)]) rfl rfl Tryz.underlying53 rfl tsz53 rfl ((HM.box_at 2 rfl).sub 2 4 rfl)) ?_
  refine od rfl rfl rfl rfl (does_callk rfl callok52 rfl (laws_toOut.calls (x0 := x0.fOut) (HM.rd hp0_0) h475)) ?_
  rintro _ w478 ⟨u476, rfl, hn⟩
  replace HM : Mem w [] w478 [own kInt 2 u476 t474.fRule.fKeys, box b466 72 [.int .i64 t470.fTx, .int .i64 t470.fAt, .int .i64 0, .slice none 0 0, .int .i64 0, .int .i64 0, .int .i64 0, .bool false], box b461 72 [.int .i64 0, .int .i64 0, .int .i64 0, .slice none 0 0, .int .i64 0, .int .i64 0, .int .i64 0, .bool false], box b458 55 [.int .i64 x0.fRef.fTx, .int .i64 x0.fRef.fAt, .int .i64 x0.fOut.fValue, p0_0, .int .i64 x0.fOut.fRule.fNeed, .int .i64 x0.fOut.fRule.fAfter, .int .i64 x0.fHeight, .bool x0.fMined]] := HM.call hn
  refine ox rfl rfl rfl rfl (ex_fieldAddr (off' := 2) rfl rfl Tryz.underlying72 rfl tsz70 rfl) ?_
  replace HM := HM.front 1 rfl rfl
  refine odS rfl rfl rfl (does_store (vs := [.int .i64 t474.fValue, u476, .int .i64 t474.fRule.fNeed, .int .i64 t474.fRule.fAfter]) (cs' := [.int .i64 t470.fTx, .int .i64 t470.fAt, .int .i64 t474.fValue, u476, .int .i64 t474.fRule.fNeed, .int .i64 t474.fRule.fAfter, .int .i64 0, .bool false]) rfl rfl rfl rfl tsz70 (Ones.int (Ones.rd (HM.own_rd 1 rfl) (Ones.int (Ones.int Ones.nil)))) rfl rfl HM) ?_
  rintro w479 HM
  refine ops_nil (at_then (run_seq ?_))
  refine run_region rfl ?_
  refine ox rfl rfl rfl rfl (ex_fieldAddr (off' := 6) rfl rfl Tryz.underlying55 rfl tsz2 rfl) ?_
  refine ox rfl rfl rfl rfl (ex_load1 rfl rfl Tryz.underlying2 rfl ((HM.box_at 3 rfl) 6 _ rfl)) ?_
  refine ox rfl rfl rfl rfl (ex_fieldAddr (off' := 6) rfl rfl Tryz.underlying72 rfl tsz2 rfl) ?_
  refine odS rfl rfl rfl (does_store (vs := [.int .i64 x0.fHeight]) (cs' := [.int .i64 t470.fTx, .int .i64 t470.fAt, .int .i64 t474.fValue, u476, .int .i64 t474.fRule.fNeed, .int .i64 t474.fRule.fAfter, .int .i64 x0.fHeight, .bool false]) rfl rfl rfl rfl tsz2 (Ones.int Ones.nil) rfl rfl HM) ?_
  rintro w480 HM
  refine ops_nil (at_then (run_seq ?_))
  refine run_region rfl ?_
  refine ox rfl rfl rfl rfl (ex_fieldAddr (off' := 7) rfl rfl Tryz.underlying55 rfl tsz4 rfl) ?_
  refine ox rfl rfl rfl rfl (ex_load1 rfl rfl Tryz.underlying4 rfl ((HM.box_at 3 rfl) 7 _ rfl)) ?_
  refine ox rfl rfl rfl rfl (ex_fieldAddr (off' := 7) rfl rfl Tryz.underlying72 rfl tsz4 rfl) ?_
  refine odS rfl rfl rfl (does_store (vs := [.bool x0.fMined]) (cs' := [.int .i64 t470.fTx, .int .i64 t470.fAt, .int .i64 t474.fValue, u476, .int .i64 t474.fRule.fNeed, .int .i64 t474.fRule.fAfter, .int .i64 x0.fHeight, .bool x0.fMined]) rfl rfl rfl rfl tsz4 (Ones.bool Ones.nil) rfl rfl HM) ?_
  rintro w481 HM
  refine ops_nil (at_then (run_seq ?_))
  refine run_region rfl ?_
  refine ox rfl rfl rfl rfl (ex_loadN (cs := [(.int .i64 t470.fTx), (.int .i64 t470.fAt), (.int .i64 t474.fValue), u476, (.int .i64 t474.fRule.fNeed), (.int .i64 t474.fRule.fAfter), (.int .i64 x0.fHeight), (.bool x0.fMined)]) rfl rfl Tryz.underlying72 rfl tsz72 rfl ((HM.box_at 0 rfl).sub 0 8 rfl)) ?_
  replace HM := HM.front 2 rfl rfl
  refine odS rfl rfl rfl (does_store (vs := [.int .i64 t470.fTx, .int .i64 t470.fAt, .int .i64 t474.fValue, u476, .int .i64 t474.fRule.fNeed, .int .i64 t474.fRule.fAfter, .int .i64 x0.fHeight, .bool x0.fMined]) (cs' := [.int .i64 t470.fTx, .int .i64 t470.fAt, .int .i64 t474.fValue, u476, .int .i64 t474.fRule.fNeed, .int .i64 t474.fRule.fAfter, .int .i64 x0.fHeight, .bool x0.fMined]) rfl rfl rfl rfl tsz72 (Ones.int (Ones.int (Ones.int (Ones.rd (HM.own_rd 2 rfl) (Ones.int (Ones.int (Ones.int (Ones.bool Ones.nil)))))))) rfl rfl HM) ?_
  rintro w482 HM
  refine ops_nil (at_then ?_)
  refine run_ret ?_
  replace HM := (HM.front 1 rfl rfl).drop
  replace HM := (HM.front 2 rfl rfl).drop
  have hcb0 := HM.box_at 0 rfl
  replace HM := (HM.front 0 rfl rfl).drop
  have hR := Option.some.inj H
  subst hR
  exact at_retN rfl rfl Tryz.underlying72 rfl tsz72 rfl hcb0 ⟨_, rfl, _, rfl, HM⟩

def laws_toCoinS.l0 (x0 : List Coin) : Nat → (List Coin) → Int → Option ((List Coin))
  | 0, _, _ => none
  | k + 1, a573, a575 => (bif (decide (a575 < (x0.length : Int))) then (chk (idxOk a575 x0.length) ((laws_toCoin.f k (gt x0 a575)).bind fun t593 => (chk (idxOk a575 a573.length) (laws_toCoinS.l0 x0 k (a573.set (a575).toNat t593) (wrap64 (a575 + 1)))))) else some a573)
theorem laws_toCoinS.l0_z (x0 : List Coin) (a573 : List Coin) (a575 : Int) : laws_toCoinS.l0 x0 0 a573 a575 = none := rfl
theorem laws_toCoinS.l0_s (x0 : List Coin) (k : Nat) (a573 : List Coin) (a575 : Int) : laws_toCoinS.l0 x0 (k + 1) a573 a575 = (bif (decide (a575 < (x0.length : Int))) then (chk (idxOk a575 x0.length) ((laws_toCoin.f k (gt x0 a575)).bind fun t593 => (chk (idxOk a575 a573.length) (laws_toCoinS.l0 x0 k (a573.set (a575).toNat t593) (wrap64 (a575 + 1)))))) else some a573) := rfl
def laws_toCoinS.f (k : Nat) (x0 : List Coin) : Option ((List Coin)) := (chk (decide (0 ≤ (x0.length : Int))) (chk (leB (((x0.length : Int)).toNat * 80) 281474976710656) ((laws_toCoinS.l0 x0 k (List.replicate ((x0.length : Int)).toNat (⟨(⟨0, 0⟩ : Ref), (⟨0, (⟨[], 0, 0⟩ : Rule)⟩ : Out), 0, false⟩ : Coin)) 0).bind (fun a558 => some a558))))
theorem laws_toCoinS.calls {k : Nat} {x0 : List Coin} {p0 : Value} {w : World} (hp0 : RdS kCoin w p0 x0) {r : (List Coin)} (H : laws_toCoinS.f k x0 = some r) :
    Calls Tryz.prog 7 ([p0] : List Value).toArray w (fun e w_ => ∃ v, e = .returned v ∧ ∃ u0 : Value, v = u0 ∧ Mem w [] w_ [own kCoin 72 u0 r]) := by
  have HM := Mem.start w
  refine calls_run (N := 23) Tryz.func7 rfl rfl rfl rfl ?_
  unfold laws_toCoinS.f at H
  refine run_seq ?_
  refine run_region rfl ?_
  refine ox rfl rfl rfl rfl (ex_assign rfl rfl) ?_
  refine ops_nil (at_then (run_seq ?_))
  obtain ⟨e520, H⟩ := chk_some H
  obtain ⟨e521, H⟩ := chk_some H
  refine run_region rfl ?_
  refine ox rfl rfl rfl rfl (ex_move rfl rfl) ?_
  refine ox rfl rfl rfl rfl (ex_len (d := kCoin) (xs := x0) rfl rfl Tryz.underlying22 hp0) ?_
  refine od rfl rfl rfl rfl (does_make (x := (⟨(⟨0, 0⟩ : Ref), (⟨0, (⟨[], 0, 0⟩ : Rule)⟩ : Out), 0, false⟩ : Coin)) kCoin rfl rfl rfl Tryz.underlying29 tsz72 tby72 tz72 rfl rfl (fun _ => ⟨.slice none 0 0, rfl, OwS.nil _ _ _ _⟩) (of_decide_eq_true e520) rfl (leB_le e521) rfl HM) ?_
  rintro v517 w522 HM
  refine ox rfl rfl rfl rfl (ex_assign rfl rfl) ?_
  refine ops_nil (at_then ?_)
  obtain ⟨o560, ho561, H⟩ := bind_some H
  refine run_mid (fun ρ_ w_ => ∃ v557 : Value, ∃ a558 : List Coin, a558 = o560 ∧ ρ_ = [(3, v557)] ∧ Mem w [] w_ [own kCoin 72 v557 a558]) ?_ ?_
  · clear H
    refine run_seq ?_
    refine run_region rfl ?_
    refine ox rfl rfl rfl rfl (ex_assign rfl rfl) ?_
    refine ops_nil (at_then ?_)
    refine run_block ?_
    refine run_loop (fun k_ ρ_ w_ => ∃ v572 : Value, ∃ a573 : List Coin, ∃ a575 : Int, laws_toCoinS.l0 x0 k_ a573 a575 = some o560 ∧ ρ_ = [(0, p0), (3, v572), (4, .int .i64 a575)] ∧ Mem w [] w_ [own kCoin 72 v572 a573]) k (ρ1 := [(0, p0), (3, v517), (4, .int .i64 0)]) ⟨_, _, _, ho561, rfl, HM⟩ (Sub.cons rfl (Sub.cons rfl (Sub.cons rfl Sub.nil))) ?_
    clear HM ho561
    rintro k586 _ w587 ⟨v572, a573, a575, ho561, rfl, HM⟩
    obtain _ | k586 := k586
    · exact nomatch ((laws_toCoinS.l0_z x0 a573 a575).symm.trans ho561)
    replace ho561 := (laws_toCoinS.l0_s x0 k586 a573 a575).symm.trans ho561
    refine run_seq ?_
    refine run_seq ?_
    refine run_region rfl ?_
    refine ox rfl rfl rfl rfl (ex_move rfl rfl) ?_
    refine ox rfl rfl rfl rfl (ex_move rfl rfl) ?_
    refine ox rfl rfl rfl rfl (ex_len (d := kCoin) (xs := x0) rfl rfl Tryz.underlying22 hp0) ?_
    refine ox rfl rfl rfl rfl (ex_lss rfl rfl rfl) ?_
    refine ops_nil (at_then ?_)
    refine run_cond (b := (decide (a575 < (x0.length : Int)))) rfl (fun hb588 => ?_) (fun hb588 => ?_)
    · replace ho561 := cond_t hb588 ho561
      refine run_skip ?_
      refine at_then ?_
      refine run_seq ?_
      refine run_block ?_
      obtain ⟨e589, ho561⟩ := chk_some ho561
      obtain ⟨t593, h594, ho561⟩ := bind_some ho561
      obtain ⟨e597, ho561⟩ := chk_some ho561
      refine run_region rfl ?_
      refine ox rfl rfl rfl rfl (ex_move rfl rfl) ?_
      refine ox rfl rfl rfl rfl (ex_move rfl rfl) ?_
      refine ox rfl rfl rfl rfl (ex_move rfl rfl) ?_
      refine ox rfl rfl rfl rfl (ex_move rfl rfl) ?_
      obtain ⟨kv591, hc590, hk592⟩ : ∃ u, CellsAt _ (sb p0) (so p0 + (a575).toNat * 8) [(.int .i64 ((gt x0 a575).fRef.fTx)), (.int .i64 ((gt x0 a575).fRef.fAt)), (.int .i64 ((gt x0 a575).fOut.fValue)), u, (.int .i64 ((gt x0 a575).fOut.fRule.fNeed)), (.int .i64 ((gt x0 a575).fOut.fRule.fAfter)), (.int .i64 ((gt x0 a575).fHeight)), (.bool ((gt x0 a575).fMined))] ∧ RdS kInt _ u ((gt x0 a575).fOut.fRule.fKeys) := rd_with1 hp0 e589
      refine ox rfl rfl rfl rfl (ex_indexAddr (d := kCoin) rfl rfl rfl Tryz.underlying22 tsz55 hp0 (idx_lo e589) (idx_hi e589)) ?_
      refine ox rfl rfl rfl rfl (ex_loadN (cs := [(.int .i64 ((gt x0 a575).fRef.fTx)), (.int .i64 ((gt x0 a575).fRef.fAt)), (.int .i64 ((gt x0 a575).fOut.fValue)), kv591, (.int .i64 ((gt x0 a575).fOut.fRule.fNeed)), (.int .i64 ((gt x0 a575).fOut.fRule.fAfter)), (.int .i64 ((gt x0 a575).fHeight)), (.bool ((gt x0 a575).fMined))]) rfl rfl Tryz.underlying55 rfl tsz55 rfl ((HM.at_ hc590).sub 0 8 rfl)) ?_
      refine od rfl rfl rfl rfl (does_callk rfl callok27 rfl (laws_toCoin.calls (x0 := (gt x0 a575)) (HM.rd hk592) h594)) ?_
      rintro _ w598 ⟨u595, rfl, hn⟩
      replace HM : Mem w [] w598 [own kInt 2 u595 t593.fOut.fRule.fKeys, own kCoin 72 v572 a573] := HM.call hn
      refine ox rfl rfl rfl rfl (ex_indexAddr (d := kCoin) rfl rfl rfl Tryz.underlying29 tsz72 (HM.own_rd 1 rfl) (idx_lo e597) (idx_hi e597)) ?_
      replace HM := HM.front 1 rfl rfl
      refine odS rfl rfl rfl (does_setElem (vs := [(.int .i64 t593.fRef.fTx), (.int .i64 t593.fRef.fAt), (.int .i64 t593.fOut.fValue), u595, (.int .i64 t593.fOut.fRule.fNeed), (.int .i64 t593.fOut.fRule.fAfter), (.int .i64 t593.fHeight), (.bool t593.fMined)]) (y := t593) kCoin rfl rfl rfl rfl rfl tsz72 rfl rfl (idx_nat e597) (fun _ _ h => ⟨_, rfl, h⟩) HM) ?_
      rintro w599 HM
      refine ops_nil ?_
      refine at_block ?_
      refine at_then ?_
      refine run_region rfl ?_
      refine ox rfl rfl rfl rfl (ex_move rfl rfl) ?_
      refine ox rfl rfl rfl rfl (ex_add rfl rfl rfl) ?_
      refine ox rfl rfl rfl rfl (ex_assign rfl rfl) ?_
      refine ops_nil ?_
      exact at_again k586 (ρ1 := [(0, p0), (3, v572), (4, .int .i64 (wrap64 (a575 + 1)))]) (Nat.lt_succ_self _) ⟨_, _, _, ho561, rfl, HM⟩ (Sub.cons rfl (Sub.cons rfl (Sub.cons rfl Sub.nil)))
    · replace ho561 := cond_f hb588 ho561
      refine run_exit ?_
      refine at_then_exit ?_
      refine at_then_exit ?_
      refine at_block_exit ?_
      exact at_mid (ρ' := [(3, v572)]) ⟨_, _, (Option.some.inj ho561), rfl, HM⟩ (Sub.cons rfl Sub.nil)
  · rintro _ w600 ⟨v557, a558, rfl, rfl, HM⟩
    refine run_seq ?_
    refine run_region rfl ?_
    refine ox rfl rfl rfl rfl (ex_move rfl rfl) ?_
    refine ox rfl rfl rfl rfl (ex_assign rfl rfl) ?_
    refine ops_nil (at_then ?_)
    refine run_ret ?_
    have hR := Option.some.inj H
    subst hR
    exact at_ret1 rfl rfl ⟨_, rfl, _, rfl, HM⟩
end Go.Proofs.YtecgbhfgkkpmhabGreat.Zk
