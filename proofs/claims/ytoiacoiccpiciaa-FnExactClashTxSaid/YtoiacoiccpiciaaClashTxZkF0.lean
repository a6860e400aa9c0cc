/- What functions of the program compute, each as a plain function, and that they do. Conditions: as each theorem states them. -/
import Derived.Test.YtoiacoiccpiciaaClashTxZkTy
namespace Go.Proofs.Ytoiacoiccpiciaa.Zk
open Go Go.RowKit Go.IntWalk Go.Proofs
set_option linter.unusedVariables false
set_option linter.unusedSimpArgs false
set_option maxRecDepth 100000
set_option maxHeartbeats 4000000
def laws_szRefS.f (k : Nat) (x0 : List Ref) (x1 : Int) : Option Int := (bif (decide ((wrap64 (x1 - (x0.length : Int))) < 0)) then some (-1) else some (wrap64 (x1 - (x0.length : Int))))
theorem laws_szRefS.calls {k : Nat} {x0 : List Ref} {x1 : Int} {p0 : Value} {w : World} (hp0 : RdS kRef w p0 x0) {r : Int} (H : laws_szRefS.f k x0 x1 = some r) :
    Calls Try.prog 68 ([p0, .int .i64 x1] : List Value).toArray w (fun e w_ => ∃ v, e = .returned v ∧ v = (.int .i64 r) ∧ Mem w [] w_ []) := by
  have HM := Mem.start w
  refine calls_run (N := 12) Try.func68 rfl rfl rfl rfl ?_
  unfold laws_szRefS.f at H
  refine run_seq ?_
  refine run_region rfl ?_
  refine ops_ex rfl (guard_none rfl) rfl rfl (ex_assign rfl rfl) ?_
  refine ops_nil ?_
  refine at_then ?_
  refine run_seq ?_
  refine run_region rfl ?_
  refine ops_ex rfl (guard_none rfl) rfl rfl (ex_move rfl rfl) ?_
  refine ops_ex rfl (guard_none rfl) rfl rfl (ex_move rfl rfl) ?_
  refine ops_ex rfl (guard_none rfl) rfl rfl (ex_len (d := kRef) (xs := x0) rfl rfl Try.underlying28 hp0) ?_
  refine ops_ex rfl (guard_none rfl) rfl rfl (ex_sub rfl rfl rfl) ?_
  refine ops_ex rfl (guard_none rfl) rfl rfl (ex_assign rfl rfl) ?_
  refine ops_nil ?_
  refine at_then ?_
  refine run_seq ?_
  refine run_seq ?_
  refine run_region rfl ?_
  refine ops_ex rfl (guard_none rfl) rfl rfl (ex_move rfl rfl) ?_
  refine ops_ex rfl (guard_none rfl) rfl rfl (ex_lss rfl rfl rfl) ?_
  refine ops_nil ?_
  refine at_then ?_
  refine run_cond (b := (decide ((wrap64 (x1 - (x0.length : Int))) < 0))) rfl (fun hb11 => ?_) (fun hb11 => ?_)
  · replace H := cond_t hb11 H
    refine run_seq ?_
    refine run_region rfl ?_
    refine ops_ex rfl (guard_none rfl) rfl rfl (ex_assign rfl rfl) ?_
    refine ops_nil ?_
    refine at_then ?_
    refine run_ret ?_
    refine at_then_ret ?_
    have hR := Option.some.inj H
    subst hR
    exact at_ret1 rfl rfl ⟨_, rfl, rfl, HM⟩
  · replace H := cond_f hb11 H
    refine run_skip ?_
    refine at_then ?_
    refine run_seq ?_
    refine run_region rfl ?_
    refine ops_ex rfl (guard_none rfl) rfl rfl (ex_move rfl rfl) ?_
    refine ops_ex rfl (guard_none rfl) rfl rfl (ex_assign rfl rfl) ?_
    refine ops_nil ?_
    refine at_then ?_
    refine run_ret ?_
    have hR := Option.some.inj H
    subst hR
    exact at_ret1 rfl rfl ⟨_, rfl, rfl, HM⟩

def laws_szInt64S.f (k : Nat) (x0 : List Int) (x1 : Int) : Option Int := (bif (decide ((wrap64 (x1 - (x0.length : Int))) < 0)) then some (-1) else some (wrap64 (x1 - (x0.length : Int))))
theorem laws_szInt64S.calls {k : Nat} {x0 : List Int} {x1 : Int} {p0 : Value} {w : World} (hp0 : RdS kInt w p0 x0) {r : Int} (H : laws_szInt64S.f k x0 x1 = some r) :
    Calls Try.prog 168 ([p0, .int .i64 x1] : List Value).toArray w (fun e w_ => ∃ v, e = .returned v ∧ v = (.int .i64 r) ∧ Mem w [] w_ []) := by
  have HM := Mem.start w
  refine calls_run (N := 12) Try.func168 rfl rfl rfl rfl ?_
  unfold laws_szInt64S.f at H
  refine run_seq ?_
  refine run_region rfl ?_
  refine ops_ex rfl (guard_none rfl) rfl rfl (ex_assign rfl rfl) ?_
  refine ops_nil ?_
  refine at_then ?_
  refine run_seq ?_
  refine run_region rfl ?_
  refine ops_ex rfl (guard_none rfl) rfl rfl (ex_move rfl rfl) ?_
  refine ops_ex rfl (guard_none rfl) rfl rfl (ex_move rfl rfl) ?_
  refine ops_ex rfl (guard_none rfl) rfl rfl (ex_len (d := kInt) (xs := x0) rfl rfl Try.underlying74 hp0) ?_
  refine ops_ex rfl (guard_none rfl) rfl rfl (ex_sub rfl rfl rfl) ?_
  refine ops_ex rfl (guard_none rfl) rfl rfl (ex_assign rfl rfl) ?_
  refine ops_nil ?_
  refine at_then ?_
  refine run_seq ?_
  refine run_seq ?_
  refine run_region rfl ?_
  refine ops_ex rfl (guard_none rfl) rfl rfl (ex_move rfl rfl) ?_
  refine ops_ex rfl (guard_none rfl) rfl rfl (ex_lss rfl rfl rfl) ?_
  refine ops_nil ?_
  refine at_then ?_
  refine run_cond (b := (decide ((wrap64 (x1 - (x0.length : Int))) < 0))) rfl (fun hb30 => ?_) (fun hb30 => ?_)
  · replace H := cond_t hb30 H
    refine run_seq ?_
    refine run_region rfl ?_
    refine ops_ex rfl (guard_none rfl) rfl rfl (ex_assign rfl rfl) ?_
    refine ops_nil ?_
    refine at_then ?_
    refine run_ret ?_
    refine at_then_ret ?_
    have hR := Option.some.inj H
    subst hR
    exact at_ret1 rfl rfl ⟨_, rfl, rfl, HM⟩
  · replace H := cond_f hb30 H
    refine run_skip ?_
    refine at_then ?_
    refine run_seq ?_
    refine run_region rfl ?_
    refine ops_ex rfl (guard_none rfl) rfl rfl (ex_move rfl rfl) ?_
    refine ops_ex rfl (guard_none rfl) rfl rfl (ex_assign rfl rfl) ?_
    refine ops_nil ?_
    refine at_then ?_
    refine run_ret ?_
    have hR := Option.some.inj H
    subst hR
    exact at_ret1 rfl rfl ⟨_, rfl, rfl, HM⟩

def laws_szRule.f (k : Nat) (x0 : Rule) (x1 : Int) : Option Int := ((laws_szInt64S.f k x0.fKeys x1).bind fun t38 => (bif (decide (t38 < 0)) then some (-1) else some t38))
theorem laws_szRule.calls {k : Nat} {x0 : Rule} {x1 : Int} {p0_0 : Value} {w : World} (hp0_0 : RdS kInt w p0_0 x0.fKeys) {r : Int} (H : laws_szRule.f k x0 x1 = some r) :
    Calls Try.prog 156 ([.agg #[p0_0, (.int .i64 x0.fNeed), (.int .i64 x0.fAfter)], .int .i64 x1] : List Value).toArray w (fun e w_ => ∃ v, e = .returned v ∧ v = (.int .i64 r) ∧ Mem w [] w_ []) := by
  have HM := Mem.start w
  refine calls_run (N := 12) Try.func156 rfl rfl rfl rfl ?_
  unfold laws_szRule.f at H
  refine run_seq ?_
  refine run_region rfl ?_
  refine ops_does rfl (guard_none rfl) rfl rfl (does_box (cs := [p0_0, .int .i64 x0.fNeed, .int .i64 x0.fAfter]) rfl rfl rfl HM) ?_
  rintro _ w37 ⟨b34, rfl, HM⟩
  refine ops_ex rfl (guard_none rfl) rfl rfl (ex_assign rfl rfl) ?_
  refine ops_nil ?_
  refine at_then ?_
  refine run_seq ?_
  obtain ⟨t38, h39, H⟩ := bind_some H
  refine run_region rfl ?_
  refine ops_ex rfl (guard_none rfl) rfl rfl (ex_fieldAddr (off' := 0) rfl rfl Try.underlying94 rfl tsz74 rfl) ?_
  refine ops_ex rfl (guard_none rfl) rfl rfl (ex_load1 rfl rfl Try.underlying74 rfl ((HM.box_at 0 rfl) 0 _ rfl)) ?_
  refine ops_ex rfl (guard_none rfl) rfl rfl (ex_move rfl rfl) ?_
  refine ops_does rfl (guard_none rfl) rfl rfl (does_callk rfl callok168 rfl (laws_szInt64S.calls (x0 := x0.fKeys) (x1 := x1) (HM.rd hp0_0) h39)) ?_
  rintro _ w40 ⟨rfl, hn⟩
  replace HM : Mem w [] w40 [box b34 94 [p0_0, .int .i64 x0.fNeed, .int .i64 x0.fAfter]] := HM.call hn
  refine ops_ex rfl (guard_none rfl) rfl rfl (ex_assign rfl rfl) ?_
  refine ops_nil ?_
  refine at_then ?_
  refine run_seq ?_
  refine run_seq ?_
  refine run_region rfl ?_
  refine ops_ex rfl (guard_none rfl) rfl rfl (ex_move rfl rfl) ?_
  refine ops_ex rfl (guard_none rfl) rfl rfl (ex_lss rfl rfl rfl) ?_
  refine ops_nil ?_
  refine at_then ?_
  refine run_cond (b := (decide (t38 < 0))) rfl (fun hb41 => ?_) (fun hb41 => ?_)
  · replace H := cond_t hb41 H
    refine run_seq ?_
    refine run_region rfl ?_
    refine ops_ex rfl (guard_none rfl) rfl rfl (ex_assign rfl rfl) ?_
    refine ops_nil ?_
    refine at_then ?_
    refine run_ret ?_
    refine at_then_ret ?_
    replace HM := (HM.front 0 rfl rfl).drop
    have hR := Option.some.inj H
    subst hR
    exact at_ret1 rfl rfl ⟨_, rfl, rfl, HM⟩
  · replace H := cond_f hb41 H
    refine run_skip ?_
    refine at_then ?_
    refine run_seq ?_
    refine run_region rfl ?_
    refine ops_ex rfl (guard_none rfl) rfl rfl (ex_move rfl rfl) ?_
    refine ops_ex rfl (guard_none rfl) rfl rfl (ex_assign rfl rfl) ?_
    refine ops_nil ?_
    refine at_then ?_
    refine run_ret ?_
    replace HM := (HM.front 0 rfl rfl).drop
    have hR := Option.some.inj H
    subst hR
    exact at_ret1 rfl rfl ⟨_, rfl, rfl, HM⟩

def laws_szOut.f (k : Nat) (x0 : Out) (x1 : Int) : Option Int := ((laws_szRule.f k x0.fRule x1).bind fun t49 => (bif (decide (t49 < 0)) then some (-1) else some t49))
theorem laws_szOut.calls {k : Nat} {x0 : Out} {x1 : Int} {p0_0 : Value} {w : World} (hp0_0 : RdS kInt w p0_0 x0.fRule.fKeys) {r : Int} (H : laws_szOut.f k x0 x1 = some r) :
    Calls Try.prog 120 ([.agg #[(.int .i64 x0.fValue), p0_0, (.int .i64 x0.fRule.fNeed), (.int .i64 x0.fRule.fAfter)], .int .i64 x1] : List Value).toArray w (fun e w_ => ∃ v, e = .returned v ∧ v = (.int .i64 r) ∧ Mem w [] w_ []) := by
  have HM := Mem.start w
  refine calls_run (N := 12) Try.func120 rfl rfl rfl rfl ?_
  unfold laws_szOut.f at H
  refine run_seq ?_
  refine run_region rfl ?_
  refine ops_does rfl (guard_none rfl) rfl rfl (does_box (cs := [.int .i64 x0.fValue, p0_0, .int .i64 x0.fRule.fNeed, .int .i64 x0.fRule.fAfter]) rfl rfl rfl HM) ?_
  rintro _ w48 ⟨b45, rfl, HM⟩
  refine ops_ex rfl (guard_none rfl) rfl rfl (ex_assign rfl rfl) ?_
  refine ops_nil ?_
  refine at_then ?_
  refine run_seq ?_
  obtain ⟨t49, h50, H⟩ := bind_some H
  refine run_region rfl ?_
  refine ops_ex rfl (guard_none rfl) rfl rfl (ex_fieldAddr (off' := 1) rfl rfl Try.underlying96 rfl tsz94 rfl) ?_
  refine ops_ex rfl (guard_none rfl) rfl rfl (ex_loadN (cs := [p0_0, (.int .i64 x0.fRule.fNeed), (.int .i64 x0.fRule.fAfter)]) rfl rfl Try.underlying94 rfl tsz94 rfl ((HM.box_at 0 rfl).sub 1 3 rfl)) ?_
  refine ops_ex rfl (guard_none rfl) rfl rfl (ex_move rfl rfl) ?_
  refine ops_does rfl (guard_none rfl) rfl rfl (does_callk rfl callok156 rfl (laws_szRule.calls (x0 := x0.fRule) (x1 := x1) (HM.rd hp0_0) h50)) ?_
  rintro _ w51 ⟨rfl, hn⟩
  replace HM : Mem w [] w51 [box b45 96 [.int .i64 x0.fValue, p0_0, .int .i64 x0.fRule.fNeed, .int .i64 x0.fRule.fAfter]] := HM.call hn
  refine ops_ex rfl (guard_none rfl) rfl rfl (ex_assign rfl rfl) ?_
  refine ops_nil ?_
  refine at_then ?_
  refine run_seq ?_
  refine run_seq ?_
  refine run_region rfl ?_
  refine ops_ex rfl (guard_none rfl) rfl rfl (ex_move rfl rfl) ?_
  refine ops_ex rfl (guard_none rfl) rfl rfl (ex_lss rfl rfl rfl) ?_
  refine ops_nil ?_
  refine at_then ?_
  refine run_cond (b := (decide (t49 < 0))) rfl (fun hb52 => ?_) (fun hb52 => ?_)
  · replace H := cond_t hb52 H
    refine run_seq ?_
    refine run_region rfl ?_
    refine ops_ex rfl (guard_none rfl) rfl rfl (ex_assign rfl rfl) ?_
    refine ops_nil ?_
    refine at_then ?_
    refine run_ret ?_
    refine at_then_ret ?_
    replace HM := (HM.front 0 rfl rfl).drop
    have hR := Option.some.inj H
    subst hR
    exact at_ret1 rfl rfl ⟨_, rfl, rfl, HM⟩
  · replace H := cond_f hb52 H
    refine run_skip ?_
    refine at_then ?_
    refine run_seq ?_
    refine run_region rfl ?_
    refine ops_ex rfl (guard_none rfl) rfl rfl (ex_move rfl rfl) ?_
    refine ops_ex rfl (guard_none rfl) rfl rfl (ex_assign rfl rfl) ?_
    refine ops_nil ?_
    refine at_then ?_
    refine run_ret ?_
    replace HM := (HM.front 0 rfl rfl).drop
    have hR := Option.some.inj H
    subst hR
    exact at_ret1 rfl rfl ⟨_, rfl, rfl, HM⟩

def laws_szOutS.l0 (x0 : List Out) : Nat → Int → Int → Option (Int ⊕ Int)
  | 0, _, _ => none
  | k + 1, a116, a117 => (bif (decide (a117 < (x0.length : Int))) then (chk (idxOk a117 x0.length) ((laws_szOut.f k (gt x0 a117) a116).bind fun t133 => (bif (decide (t133 < 0)) then some (.inl (-1)) else laws_szOutS.l0 x0 k t133 (wrap64 (a117 + 1))))) else some (.inr a116))
theorem laws_szOutS.l0_z (x0 : List Out) (a116 : Int) (a117 : Int) : laws_szOutS.l0 x0 0 a116 a117 = none := rfl
theorem laws_szOutS.l0_s (x0 : List Out) (k : Nat) (a116 : Int) (a117 : Int) : laws_szOutS.l0 x0 (k + 1) a116 a117 = (bif (decide (a117 < (x0.length : Int))) then (chk (idxOk a117 x0.length) ((laws_szOut.f k (gt x0 a117) a116).bind fun t133 => (bif (decide (t133 < 0)) then some (.inl (-1)) else laws_szOutS.l0 x0 k t133 (wrap64 (a117 + 1))))) else some (.inr a116)) := rfl
def laws_szOutS.f (k : Nat) (x0 : List Out) (x1 : Int) : Option Int := (bif (decide ((wrap64 (x1 - (x0.length : Int))) < 0)) then some (-1) else ((laws_szOutS.l0 x0 k (wrap64 (x1 - (x0.length : Int))) 0).bind fun o106 => thn o106 (fun r => some r) (fun a105 => some a105)))
theorem laws_szOutS.calls {k : Nat} {x0 : List Out} {x1 : Int} {p0 : Value} {w : World} (hp0 : RdS kOut w p0 x0) {r : Int} (H : laws_szOutS.f k x0 x1 = some r) :
    Calls Try.prog 69 ([p0, .int .i64 x1] : List Value).toArray w (fun e w_ => ∃ v, e = .returned v ∧ v = (.int .i64 r) ∧ Mem w [] w_ []) := by
  have HM := Mem.start w
  refine calls_run (N := 27) Try.func69 rfl rfl rfl rfl ?_
  unfold laws_szOutS.f at H
  refine run_seq ?_
  refine run_region rfl ?_
  refine ops_ex rfl (guard_none rfl) rfl rfl (ex_assign rfl rfl) ?_
  refine ops_nil ?_
  refine at_then ?_
  refine run_seq ?_
  refine run_region rfl ?_
  refine ops_ex rfl (guard_none rfl) rfl rfl (ex_move rfl rfl) ?_
  refine ops_ex rfl (guard_none rfl) rfl rfl (ex_move rfl rfl) ?_
  refine ops_ex rfl (guard_none rfl) rfl rfl (ex_len (d := kOut) (xs := x0) rfl rfl Try.underlying29 hp0) ?_
  refine ops_ex rfl (guard_none rfl) rfl rfl (ex_sub rfl rfl rfl) ?_
  refine ops_ex rfl (guard_none rfl) rfl rfl (ex_assign rfl rfl) ?_
  refine ops_nil ?_
  refine at_then ?_
  refine run_seq ?_
  refine run_seq ?_
  refine run_region rfl ?_
  refine ops_ex rfl (guard_none rfl) rfl rfl (ex_move rfl rfl) ?_
  refine ops_ex rfl (guard_none rfl) rfl rfl (ex_lss rfl rfl rfl) ?_
  refine ops_nil ?_
  refine at_then ?_
  refine run_cond (b := (decide ((wrap64 (x1 - (x0.length : Int))) < 0))) rfl (fun hb78 => ?_) (fun hb78 => ?_)
  · replace H := cond_t hb78 H
    refine run_seq ?_
    refine run_region rfl ?_
    refine ops_ex rfl (guard_none rfl) rfl rfl (ex_assign rfl rfl) ?_
    refine ops_nil ?_
    refine at_then ?_
    refine run_ret ?_
    refine at_then_ret ?_
    have hR := Option.some.inj H
    subst hR
    exact at_ret1 rfl rfl ⟨_, rfl, rfl, HM⟩
  · replace H := cond_f hb78 H
    refine run_skip ?_
    refine at_then ?_
    obtain ⟨o106, ho107, H⟩ := bind_some H
    refine run_mid (fun ρ_ w_ => ∃ a105 : Int, Sum.inr a105 = o106 ∧ ρ_ = [(1, .int .i64 a105)] ∧ Mem w [] w_ []) ?_ ?_
    · skip
      refine run_seq ?_
      refine run_region rfl ?_
      refine ops_ex rfl (guard_none rfl) rfl rfl (ex_assign rfl rfl) ?_
      refine ops_nil ?_
      refine at_then ?_
      refine run_block ?_
      refine run_loop (fun k_ ρ_ w_ => ∃ a116 : Int, ∃ a117 : Int, laws_szOutS.l0 x0 k_ a116 a117 = some o106 ∧ ρ_ = [(0, p0), (1, .int .i64 a116), (5, .int .i64 a117)] ∧ Mem w [] w_ []) k (ρ1 := [(0, p0), (1, .int .i64 (wrap64 (x1 - (x0.length : Int)))), (5, .int .i64 0)]) ⟨_, _, ho107, rfl, HM⟩ (Sub.cons rfl (Sub.cons rfl (Sub.cons rfl Sub.nil))) ?_
      clear HM ho107
      rintro k126 _ w127 ⟨a116, a117, ho107, rfl, HM⟩
      obtain _ | k126 := k126
      · exact nomatch ((laws_szOutS.l0_z x0 a116 a117).symm.trans ho107)
      replace ho107 := (laws_szOutS.l0_s x0 k126 a116 a117).symm.trans ho107
      refine run_seq ?_
      refine run_seq ?_
      refine run_region rfl ?_
      refine ops_ex rfl (guard_none rfl) rfl rfl (ex_move rfl rfl) ?_
      refine ops_ex rfl (guard_none rfl) rfl rfl (ex_move rfl rfl) ?_
      refine ops_ex rfl (guard_none rfl) rfl rfl (ex_len (d := kOut) (xs := x0) rfl rfl Try.underlying29 hp0) ?_
      refine ops_ex rfl (guard_none rfl) rfl rfl (ex_lss rfl rfl rfl) ?_
      refine ops_nil ?_
      refine at_then ?_
      refine run_cond (b := (decide (a117 < (x0.length : Int)))) rfl (fun hb128 => ?_) (fun hb128 => ?_)
      · replace ho107 := cond_t hb128 ho107
        refine run_skip ?_
        refine at_then ?_
        refine run_seq ?_
        refine run_block ?_
        refine run_seq ?_
        obtain ⟨e129, ho107⟩ := chk_some ho107
        obtain ⟨t133, h134, ho107⟩ := bind_some ho107
        refine run_region rfl ?_
        refine ops_ex rfl (guard_none rfl) rfl rfl (ex_move rfl rfl) ?_
        refine ops_ex rfl (guard_none rfl) rfl rfl (ex_move rfl rfl) ?_
        obtain ⟨kv131, hc130, hk132⟩ : ∃ u, CellsAt _ (sb p0) (so p0 + (a117).toNat * 4) [(.int .i64 ((gt x0 a117).fValue)), u, (.int .i64 ((gt x0 a117).fRule.fNeed)), (.int .i64 ((gt x0 a117).fRule.fAfter))] ∧ RdS kInt _ u ((gt x0 a117).fRule.fKeys) := rd_with1 hp0 e129
        refine ops_ex rfl (guard_none rfl) rfl rfl (ex_indexAddr (d := kOut) rfl rfl rfl Try.underlying29 tsz96 hp0 (idx_lo e129) (idx_hi e129)) ?_
        refine ops_ex rfl (guard_none rfl) rfl rfl (ex_loadN (cs := [(.int .i64 ((gt x0 a117).fValue)), kv131, (.int .i64 ((gt x0 a117).fRule.fNeed)), (.int .i64 ((gt x0 a117).fRule.fAfter))]) rfl rfl Try.underlying96 rfl tsz96 rfl ((HM.at_ hc130).sub 0 4 rfl)) ?_
        refine ops_ex rfl (guard_none rfl) rfl rfl (ex_move rfl rfl) ?_
        refine ops_does rfl (guard_none rfl) rfl rfl (does_callk rfl callok120 rfl (laws_szOut.calls (x0 := (gt x0 a117)) (x1 := a116) (HM.rd hk132) h134)) ?_
        rintro _ w135 ⟨rfl, hn⟩
        replace HM : Mem w [] w135 [] := HM.call hn
        refine ops_ex rfl (guard_none rfl) rfl rfl (ex_assign rfl rfl) ?_
        refine ops_nil ?_
        refine at_then ?_
        refine run_seq ?_
        refine run_region rfl ?_
        refine ops_ex rfl (guard_none rfl) rfl rfl (ex_move rfl rfl) ?_
        refine ops_ex rfl (guard_none rfl) rfl rfl (ex_lss rfl rfl rfl) ?_
        refine ops_nil ?_
        refine at_then ?_
        refine run_cond (b := (decide (t133 < 0))) rfl (fun hb136 => ?_) (fun hb136 => ?_)
        · replace ho107 := cond_t hb136 ho107
          refine run_seq ?_
          refine run_region rfl ?_
          refine ops_ex rfl (guard_none rfl) rfl rfl (ex_assign rfl rfl) ?_
          refine ops_nil ?_
          refine at_then ?_
          refine run_ret ?_
          refine at_block_ret ?_
          refine at_then_ret ?_
          refine at_then_ret ?_
          refine at_block_ret ?_
          refine at_then_ret ?_
          have hR := Option.some.inj ho107
          subst hR
          have hT := thn_inl H
          have hR := Option.some.inj hT
          subst hR
          exact at_ret1 rfl rfl ⟨_, rfl, rfl, HM⟩
        · replace ho107 := cond_f hb136 ho107
          refine run_skip ?_
          refine at_block ?_
          refine at_then ?_
          refine run_region rfl ?_
          refine ops_ex rfl (guard_none rfl) rfl rfl (ex_move rfl rfl) ?_
          refine ops_ex rfl (guard_none rfl) rfl rfl (ex_add rfl rfl rfl) ?_
          refine ops_ex rfl (guard_none rfl) rfl rfl (ex_assign rfl rfl) ?_
          refine ops_nil ?_
          exact at_again k126 (ρ1 := [(0, p0), (1, .int .i64 t133), (5, .int .i64 (wrap64 (a117 + 1)))]) (Nat.lt_succ_self _) ⟨_, _, ho107, rfl, HM⟩ (Sub.cons rfl (Sub.cons rfl (Sub.cons rfl Sub.nil)))
      · replace ho107 := cond_f hb128 ho107
        refine run_exit ?_
        refine at_then_exit ?_
        refine at_then_exit ?_
        refine at_block_exit ?_
        exact at_mid (ρ' := [(1, .int .i64 a116)]) ⟨_, (Option.some.inj ho107), rfl, HM⟩ (Sub.cons rfl Sub.nil)
    · rintro _ w137 ⟨a105, rfl, rfl, HM⟩
      replace H := (thn_inr H)
      refine run_seq ?_
      refine run_region rfl ?_
      refine ops_ex rfl (guard_none rfl) rfl rfl (ex_move rfl rfl) ?_
      refine ops_ex rfl (guard_none rfl) rfl rfl (ex_assign rfl rfl) ?_
      refine ops_nil ?_
      refine at_then ?_
      refine run_ret ?_
      have hR := Option.some.inj H
      subst hR
      exact at_ret1 rfl rfl ⟨_, rfl, rfl, HM⟩

def laws_szTx.f (k : Nat) (x0 : Tx) (x1 : Int) : Option Int := ((laws_szRefS.f k x0.fIns x1).bind fun t145 => (bif (decide (t145 < 0)) then some (-1) else ((laws_szOutS.f k x0.fOuts t145).bind fun t150 => (bif (decide (t150 < 0)) then some (-1) else some t150))))
theorem laws_szTx.calls {k : Nat} {x0 : Tx} {x1 : Int} {p0_0 : Value} {p0_1 : Value} {w : World} (hp0_0 : RdS kRef w p0_0 x0.fIns) (hp0_1 : RdS kOut w p0_1 x0.fOuts) {r : Int} (H : laws_szTx.f k x0 x1 = some r) :
    Calls Try.prog 20 ([.agg #[(.int .i64 x0.fKind), (.int .i64 x0.fMember), p0_0, p0_1], .int .i64 x1] : List Value).toArray w (fun e w_ => ∃ v, e = .returned v ∧ v = (.int .i64 r) ∧ Mem w [] w_ []) := by
  have HM := Mem.start w
  refine calls_run (N := 18) Try.func20 rfl rfl rfl rfl ?_
  unfold laws_szTx.f at H
  refine run_seq ?_
  refine run_region rfl ?_
  refine ops_does rfl (guard_none rfl) rfl rfl (does_box (cs := [.int .i64 x0.fKind, .int .i64 x0.fMember, p0_0, p0_1]) rfl rfl rfl HM) ?_
  rintro _ w144 ⟨b141, rfl, HM⟩
  refine ops_ex rfl (guard_none rfl) rfl rfl (ex_assign rfl rfl) ?_
  refine ops_nil ?_
  refine at_then ?_
  refine run_seq ?_
  obtain ⟨t145, h146, H⟩ := bind_some H
  refine run_region rfl ?_
  refine ops_ex rfl (guard_none rfl) rfl rfl (ex_fieldAddr (off' := 2) rfl rfl Try.underlying31 rfl tsz28 rfl) ?_
  refine ops_ex rfl (guard_none rfl) rfl rfl (ex_load1 rfl rfl Try.underlying28 rfl ((HM.box_at 0 rfl) 2 _ rfl)) ?_
  refine ops_ex rfl (guard_none rfl) rfl rfl (ex_move rfl rfl) ?_
  refine ops_does rfl (guard_none rfl) rfl rfl (does_callk rfl callok68 rfl (laws_szRefS.calls (x0 := x0.fIns) (x1 := x1) (HM.rd hp0_0) h146)) ?_
  rintro _ w147 ⟨rfl, hn⟩
  replace HM : Mem w [] w147 [box b141 31 [.int .i64 x0.fKind, .int .i64 x0.fMember, p0_0, p0_1]] := HM.call hn
  refine ops_ex rfl (guard_none rfl) rfl rfl (ex_assign rfl rfl) ?_
  refine ops_nil ?_
  refine at_then ?_
  refine run_seq ?_
  refine run_seq ?_
  refine run_region rfl ?_
  refine ops_ex rfl (guard_none rfl) rfl rfl (ex_move rfl rfl) ?_
  refine ops_ex rfl (guard_none rfl) rfl rfl (ex_lss rfl rfl rfl) ?_
  refine ops_nil ?_
  refine at_then ?_
  refine run_cond (b := (decide (t145 < 0))) rfl (fun hb149 => ?_) (fun hb149 => ?_)
  · replace H := cond_t hb149 H
    refine run_seq ?_
    refine run_region rfl ?_
    refine ops_ex rfl (guard_none rfl) rfl rfl (ex_assign rfl rfl) ?_
    refine ops_nil ?_
    refine at_then ?_
    refine run_ret ?_
    refine at_then_ret ?_
    replace HM := (HM.front 0 rfl rfl).drop
    have hR := Option.some.inj H
    subst hR
    exact at_ret1 rfl rfl ⟨_, rfl, rfl, HM⟩
  · replace H := cond_f hb149 H
    refine run_skip ?_
    refine at_then ?_
    refine run_seq ?_
    obtain ⟨t150, h151, H⟩ := bind_some H
    refine run_region rfl ?_
    refine ops_ex rfl (guard_none rfl) rfl rfl (ex_fieldAddr (off' := 3) rfl rfl Try.underlying31 rfl tsz29 rfl) ?_
    refine ops_ex rfl (guard_none rfl) rfl rfl (ex_load1 rfl rfl Try.underlying29 rfl ((HM.box_at 0 rfl) 3 _ rfl)) ?_
    refine ops_ex rfl (guard_none rfl) rfl rfl (ex_move rfl rfl) ?_
    refine ops_does rfl (guard_none rfl) rfl rfl (does_callk rfl callok69 rfl (laws_szOutS.calls (x0 := x0.fOuts) (x1 := t145) (HM.rd hp0_1) h151)) ?_
    rintro _ w152 ⟨rfl, hn⟩
    replace HM : Mem w [] w152 [box b141 31 [.int .i64 x0.fKind, .int .i64 x0.fMember, p0_0, p0_1]] := HM.call hn
    refine ops_ex rfl (guard_none rfl) rfl rfl (ex_assign rfl rfl) ?_
    refine ops_nil ?_
    refine at_then ?_
    refine run_seq ?_
    refine run_seq ?_
    refine run_region rfl ?_
    refine ops_ex rfl (guard_none rfl) rfl rfl (ex_move rfl rfl) ?_
    refine ops_ex rfl (guard_none rfl) rfl rfl (ex_lss rfl rfl rfl) ?_
    refine ops_nil ?_
    refine at_then ?_
    refine run_cond (b := (decide (t150 < 0))) rfl (fun hb153 => ?_) (fun hb153 => ?_)
    · replace H := cond_t hb153 H
      refine run_seq ?_
      refine run_region rfl ?_
      refine ops_ex rfl (guard_none rfl) rfl rfl (ex_assign rfl rfl) ?_
      refine ops_nil ?_
      refine at_then ?_
      refine run_ret ?_
      refine at_then_ret ?_
      replace HM := (HM.front 0 rfl rfl).drop
      have hR := Option.some.inj H
      subst hR
      exact at_ret1 rfl rfl ⟨_, rfl, rfl, HM⟩
    · replace H := cond_f hb153 H
      refine run_skip ?_
      refine at_then ?_
      refine run_seq ?_
      refine run_region rfl ?_
      refine ops_ex rfl (guard_none rfl) rfl rfl (ex_move rfl rfl) ?_
      refine ops_ex rfl (guard_none rfl) rfl rfl (ex_assign rfl rfl) ?_
      refine ops_nil ?_
      refine at_then ?_
      refine run_ret ?_
      replace HM := (HM.front 0 rfl rfl).drop
      have hR := Option.some.inj H
      subst hR
      exact at_ret1 rfl rfl ⟨_, rfl, rfl, HM⟩

def laws_toRef.f (k : Nat) (x0 : Ref) : Option Ref := some x0
theorem laws_toRef.calls {k : Nat} {x0 : Ref}  {w : World}  {r : Ref} (H : laws_toRef.f k x0 = some r) :
    Calls Try.prog 122 ([.agg #[(.int .i64 x0.fTx), (.int .i64 x0.fAt)]] : List Value).toArray w (fun e w_ => ∃ v, e = .returned v ∧ v = (.agg #[.int .i64 r.fTx, .int .i64 r.fAt]) ∧ Mem w [] w_ []) := by
  have HM := Mem.start w
  refine calls_run (N := 11) Try.func122 rfl rfl rfl rfl ?_
  unfold laws_toRef.f at H
  refine run_seq ?_
  refine run_region rfl ?_
  refine ops_does rfl (guard_none rfl) rfl rfl (does_box (cs := [.int .i64 x0.fTx, .int .i64 x0.fAt]) rfl rfl rfl HM) ?_
  rintro _ w194 ⟨b188, rfl, HM⟩
  refine ops_does rfl (guard_none rfl) rfl rfl (does_alloc (cs := [.int .i64 0, .int .i64 0]) rfl tz99 rfl HM) ?_
  rintro _ w195 ⟨b191, rfl, HM⟩
  refine ops_nil ?_
  refine at_then ?_
  refine run_seq ?_
  refine run_region rfl ?_
  refine ops_does rfl (guard_none rfl) rfl rfl (does_alloc (cs := [.int .i64 0, .int .i64 0]) rfl tz99 rfl HM) ?_
  rintro _ w199 ⟨b196, rfl, HM⟩
  refine ops_nil ?_
  refine at_then ?_
  refine run_seq ?_
  refine run_region rfl ?_
  refine ops_ex rfl (guard_none rfl) rfl rfl (ex_fieldAddr (off' := 0) rfl rfl Try.underlying92 rfl tsz2 rfl) ?_
  refine ops_ex rfl (guard_none rfl) rfl rfl (ex_load1 rfl rfl Try.underlying2 rfl ((HM.box_at 2 rfl) 0 _ rfl)) ?_
  refine ops_ex rfl (guard_none rfl) rfl rfl (ex_fieldAddr (off' := 0) rfl rfl Try.underlying99 rfl tsz2 rfl) ?_
  refine ops_doesS rfl (guard_none rfl) rfl (does_store (vs := [.int .i64 x0.fTx]) (cs' := [.int .i64 x0.fTx, .int .i64 0]) rfl rfl rfl rfl tsz2 (Ones.int Ones.nil) rfl rfl HM) ?_
  rintro w200 HM
  refine ops_nil ?_
  refine at_then ?_
  refine run_seq ?_
  refine run_region rfl ?_
  refine ops_ex rfl (guard_none rfl) rfl rfl (ex_fieldAddr (off' := 1) rfl rfl Try.underlying92 rfl tsz2 rfl) ?_
  refine ops_ex rfl (guard_none rfl) rfl rfl (ex_load1 rfl rfl Try.underlying2 rfl ((HM.box_at 2 rfl) 1 _ rfl)) ?_
  refine ops_ex rfl (guard_none rfl) rfl rfl (ex_fieldAddr (off' := 1) rfl rfl Try.underlying99 rfl tsz2 rfl) ?_
  refine ops_doesS rfl (guard_none rfl) rfl (does_store (vs := [.int .i64 x0.fAt]) (cs' := [.int .i64 x0.fTx, .int .i64 x0.fAt]) rfl rfl rfl rfl tsz2 (Ones.int Ones.nil) rfl rfl HM) ?_
  rintro w201 HM
  refine ops_nil ?_
  refine at_then ?_
  refine run_seq ?_
  refine run_region rfl ?_
  refine ops_ex rfl (guard_none rfl) rfl rfl (ex_loadN (cs := [(.int .i64 x0.fTx), (.int .i64 x0.fAt)]) rfl rfl Try.underlying99 rfl tsz99 rfl ((HM.box_at 0 rfl).sub 0 2 rfl)) ?_
  replace HM := HM.front 1 rfl rfl
  refine ops_doesS rfl (guard_none rfl) rfl (does_store (vs := [.int .i64 x0.fTx, .int .i64 x0.fAt]) (cs' := [.int .i64 x0.fTx, .int .i64 x0.fAt]) rfl rfl rfl rfl tsz99 (Ones.int (Ones.int Ones.nil)) rfl rfl HM) ?_
  rintro w202 HM
  refine ops_nil ?_
  refine at_then ?_
  refine run_ret ?_
  replace HM := (HM.front 1 rfl rfl).drop
  replace HM := (HM.front 1 rfl rfl).drop
  have hcb0 := HM.box_at 0 rfl
  replace HM := (HM.front 0 rfl rfl).drop
  have hR := Option.some.inj H
  subst hR
  exact at_retN rfl rfl Try.underlying99 rfl tsz99 rfl hcb0 ⟨_, rfl, rfl, HM⟩

def laws_toRefS.l0 (x0 : List Ref) : Nat → (List Ref) → Int → Option ((List Ref))
  | 0, _, _ => none
  | k + 1, a267, a269 => (bif (decide (a269 < (x0.length : Int))) then (chk (idxOk a269 x0.length) ((laws_toRef.f k (gt x0 a269)).bind fun t281 => (chk (idxOk a269 a267.length) (laws_toRefS.l0 x0 k (a267.set (a269).toNat t281) (wrap64 (a269 + 1)))))) else some a267)
theorem laws_toRefS.l0_z (x0 : List Ref) (a267 : List Ref) (a269 : Int) : laws_toRefS.l0 x0 0 a267 a269 = none := rfl
theorem laws_toRefS.l0_s (x0 : List Ref) (k : Nat) (a267 : List Ref) (a269 : Int) : laws_toRefS.l0 x0 (k + 1) a267 a269 = (bif (decide (a269 < (x0.length : Int))) then (chk (idxOk a269 x0.length) ((laws_toRef.f k (gt x0 a269)).bind fun t281 => (chk (idxOk a269 a267.length) (laws_toRefS.l0 x0 k (a267.set (a269).toNat t281) (wrap64 (a269 + 1)))))) else some a267) := rfl
def laws_toRefS.f (k : Nat) (x0 : List Ref) : Option ((List Ref)) := (chk (decide (0 ≤ (x0.length : Int))) (chk (leB (((x0.length : Int)).toNat * 16) 281474976710656) ((laws_toRefS.l0 x0 k (List.replicate ((x0.length : Int)).toNat (⟨0, 0⟩ : Ref)) 0).bind (fun a256 => some a256))))
theorem laws_toRefS.calls {k : Nat} {x0 : List Ref} {p0 : Value} {w : World} (hp0 : RdS kRef w p0 x0) {r : (List Ref)} (H : laws_toRefS.f k x0 = some r) :
    Calls Try.prog 71 ([p0] : List Value).toArray w (fun e w_ => ∃ v, e = .returned v ∧ ∃ u0 : Value, v = u0 ∧ Mem w [] w_ [own kRef 99 u0 r]) := by
  have HM := Mem.start w
  refine calls_run (N := 23) Try.func71 rfl rfl rfl rfl ?_
  unfold laws_toRefS.f at H
  refine run_seq ?_
  refine run_region rfl ?_
  refine ops_ex rfl (guard_none rfl) rfl rfl (ex_assign rfl rfl) ?_
  refine ops_nil ?_
  refine at_then ?_
  refine run_seq ?_
  obtain ⟨e230, H⟩ := chk_some H
  obtain ⟨e231, H⟩ := chk_some H
  refine run_region rfl ?_
  refine ops_ex rfl (guard_none rfl) rfl rfl (ex_move rfl rfl) ?_
  refine ops_ex rfl (guard_none rfl) rfl rfl (ex_len (d := kRef) (xs := x0) rfl rfl Try.underlying28 hp0) ?_
  refine ops_does rfl (guard_none rfl) rfl rfl (does_make (x := (⟨0, 0⟩ : Ref)) kRef rfl rfl rfl Try.underlying34 tsz99 tby99 tz99 rfl rfl (fun _ => ⟨rfl, rfl⟩) (of_decide_eq_true e230) rfl (leB_le e231) rfl HM) ?_
  rintro v227 w232 HM
  refine ops_ex rfl (guard_none rfl) rfl rfl (ex_assign rfl rfl) ?_
  refine ops_nil ?_
  refine at_then ?_
  obtain ⟨o258, ho259, H⟩ := bind_some H
  refine run_mid (fun ρ_ w_ => ∃ v255 : Value, ∃ a256 : List Ref, a256 = o258 ∧ ρ_ = [(3, v255)] ∧ Mem w [] w_ [own kRef 99 v255 a256]) ?_ ?_
  · clear H
    refine run_seq ?_
    refine run_region rfl ?_
    refine ops_ex rfl (guard_none rfl) rfl rfl (ex_assign rfl rfl) ?_
    refine ops_nil ?_
    refine at_then ?_
    refine run_block ?_
    refine run_loop (fun k_ ρ_ w_ => ∃ v266 : Value, ∃ a267 : List Ref, ∃ a269 : Int, laws_toRefS.l0 x0 k_ a267 a269 = some o258 ∧ ρ_ = [(0, p0), (3, v266), (4, .int .i64 a269)] ∧ Mem w [] w_ [own kRef 99 v266 a267]) k (ρ1 := [(0, p0), (3, v227), (4, .int .i64 0)]) ⟨_, _, _, ho259, rfl, HM⟩ (Sub.cons rfl (Sub.cons rfl (Sub.cons rfl Sub.nil))) ?_
    clear HM ho259
    rintro k276 _ w277 ⟨v266, a267, a269, ho259, rfl, HM⟩
    obtain _ | k276 := k276
    · exact nomatch ((laws_toRefS.l0_z x0 a267 a269).symm.trans ho259)
    replace ho259 := (laws_toRefS.l0_s x0 k276 a267 a269).symm.trans ho259
    refine run_seq ?_
    refine run_seq ?_
    refine run_region rfl ?_
    refine ops_ex rfl (guard_none rfl) rfl rfl (ex_move rfl rfl) ?_
    refine ops_ex rfl (guard_none rfl) rfl rfl (ex_move rfl rfl) ?_
    refine ops_ex rfl (guard_none rfl) rfl rfl (ex_len (d := kRef) (xs := x0) rfl rfl Try.underlying28 hp0) ?_
    refine ops_ex rfl (guard_none rfl) rfl rfl (ex_lss rfl rfl rfl) ?_
    refine ops_nil ?_
    refine at_then ?_
    refine run_cond (b := (decide (a269 < (x0.length : Int)))) rfl (fun hb278 => ?_) (fun hb278 => ?_)
    · replace ho259 := cond_t hb278 ho259
      refine run_skip ?_
      refine at_then ?_
      refine run_seq ?_
      refine run_block ?_
      obtain ⟨e279, ho259⟩ := chk_some ho259
      obtain ⟨t281, h282, ho259⟩ := bind_some ho259
      obtain ⟨e283, ho259⟩ := chk_some ho259
      refine run_region rfl ?_
      refine ops_ex rfl (guard_none rfl) rfl rfl (ex_move rfl rfl) ?_
      refine ops_ex rfl (guard_none rfl) rfl rfl (ex_move rfl rfl) ?_
      refine ops_ex rfl (guard_none rfl) rfl rfl (ex_move rfl rfl) ?_
      refine ops_ex rfl (guard_none rfl) rfl rfl (ex_move rfl rfl) ?_
      have hc280 : CellsAt _ (sb p0) (so p0 + (a269).toNat * 2) [(.int .i64 ((gt x0 a269).fTx)), (.int .i64 ((gt x0 a269).fAt))] := rd_plain hp0 e279
      refine ops_ex rfl (guard_none rfl) rfl rfl (ex_indexAddr (d := kRef) rfl rfl rfl Try.underlying28 tsz92 hp0 (idx_lo e279) (idx_hi e279)) ?_
      refine ops_ex rfl (guard_none rfl) rfl rfl (ex_loadN (cs := [(.int .i64 ((gt x0 a269).fTx)), (.int .i64 ((gt x0 a269).fAt))]) rfl rfl Try.underlying92 rfl tsz92 rfl ((HM.at_ hc280).sub 0 2 rfl)) ?_
      refine ops_does rfl (guard_none rfl) rfl rfl (does_callk rfl callok122 rfl (laws_toRef.calls (x0 := (gt x0 a269)) h282)) ?_
      rintro _ w284 ⟨rfl, hn⟩
      replace HM : Mem w [] w284 [own kRef 99 v266 a267] := HM.call hn
      refine ops_ex rfl (guard_none rfl) rfl rfl (ex_indexAddr (d := kRef) rfl rfl rfl Try.underlying34 tsz99 (HM.own_rd 0 rfl) (idx_lo e283) (idx_hi e283)) ?_
      refine ops_doesS rfl (guard_none rfl) rfl (does_setElem (vs := [(.int .i64 t281.fTx), (.int .i64 t281.fAt)]) (y := t281) kRef rfl rfl rfl rfl rfl tsz99 rfl rfl (idx_nat e283) (fun _ _ h => ⟨rfl, h⟩) (HM.emp.front 1 rfl rfl)) ?_
      rintro w285 HM
      refine ops_nil ?_
      refine at_block ?_
      refine at_then ?_
      refine run_region rfl ?_
      refine ops_ex rfl (guard_none rfl) rfl rfl (ex_move rfl rfl) ?_
      refine ops_ex rfl (guard_none rfl) rfl rfl (ex_add rfl rfl rfl) ?_
      refine ops_ex rfl (guard_none rfl) rfl rfl (ex_assign rfl rfl) ?_
      refine ops_nil ?_
      exact at_again k276 (ρ1 := [(0, p0), (3, v266), (4, .int .i64 (wrap64 (a269 + 1)))]) (Nat.lt_succ_self _) ⟨_, _, _, ho259, rfl, HM⟩ (Sub.cons rfl (Sub.cons rfl (Sub.cons rfl Sub.nil)))
    · replace ho259 := cond_f hb278 ho259
      refine run_exit ?_
      refine at_then_exit ?_
      refine at_then_exit ?_
      refine at_block_exit ?_
      exact at_mid (ρ' := [(3, v266)]) ⟨_, _, (Option.some.inj ho259), rfl, HM⟩ (Sub.cons rfl Sub.nil)
  · rintro _ w286 ⟨v255, a256, rfl, rfl, HM⟩
    refine run_seq ?_
    refine run_region rfl ?_
    refine ops_ex rfl (guard_none rfl) rfl rfl (ex_move rfl rfl) ?_
    refine ops_ex rfl (guard_none rfl) rfl rfl (ex_assign rfl rfl) ?_
    refine ops_nil ?_
    refine at_then ?_
    refine run_ret ?_
    have hR := Option.some.inj H
    subst hR
    exact at_ret1 rfl rfl ⟨_, rfl, _, rfl, HM⟩

def laws_toInt64S.l0 (x0 : List Int) : Nat → (List Int) → Int → Option ((List Int))
  | 0, _, _ => none
  | k + 1, a377, a379 => (bif (decide (a379 < (x0.length : Int))) then (chk (idxOk a379 x0.length) (chk (idxOk a379 a377.length) (laws_toInt64S.l0 x0 k (a377.set (a379).toNat (gt x0 a379)) (wrap64 (a379 + 1))))) else some a377)
theorem laws_toInt64S.l0_z (x0 : List Int) (a377 : List Int) (a379 : Int) : laws_toInt64S.l0 x0 0 a377 a379 = none := rfl
theorem laws_toInt64S.l0_s (x0 : List Int) (k : Nat) (a377 : List Int) (a379 : Int) : laws_toInt64S.l0 x0 (k + 1) a377 a379 = (bif (decide (a379 < (x0.length : Int))) then (chk (idxOk a379 x0.length) (chk (idxOk a379 a377.length) (laws_toInt64S.l0 x0 k (a377.set (a379).toNat (gt x0 a379)) (wrap64 (a379 + 1))))) else some a377) := rfl
def laws_toInt64S.f (k : Nat) (x0 : List Int) : Option ((List Int)) := (chk (decide (0 ≤ (x0.length : Int))) (chk (leB (((x0.length : Int)).toNat * 8) 281474976710656) ((laws_toInt64S.l0 x0 k (List.replicate ((x0.length : Int)).toNat 0) 0).bind (fun a368 => some a368))))
theorem laws_toInt64S.calls {k : Nat} {x0 : List Int} {p0 : Value} {w : World} (hp0 : RdS kInt w p0 x0) {r : (List Int)} (H : laws_toInt64S.f k x0 = some r) :
    Calls Try.prog 169 ([p0] : List Value).toArray w (fun e w_ => ∃ v, e = .returned v ∧ ∃ u0 : Value, v = u0 ∧ Mem w [] w_ [own kInt 2 u0 r]) := by
  have HM := Mem.start w
  refine calls_run (N := 22) Try.func169 rfl rfl rfl rfl ?_
  unfold laws_toInt64S.f at H
  refine run_seq ?_
  refine run_region rfl ?_
  refine ops_ex rfl (guard_none rfl) rfl rfl (ex_assign rfl rfl) ?_
  refine ops_nil ?_
  refine at_then ?_
  refine run_seq ?_
  obtain ⟨e348, H⟩ := chk_some H
  obtain ⟨e349, H⟩ := chk_some H
  refine run_region rfl ?_
  refine ops_ex rfl (guard_none rfl) rfl rfl (ex_move rfl rfl) ?_
  refine ops_ex rfl (guard_none rfl) rfl rfl (ex_len (d := kInt) (xs := x0) rfl rfl Try.underlying74 hp0) ?_
  refine ops_does rfl (guard_none rfl) rfl rfl (does_make (x := 0) kInt rfl rfl rfl Try.underlying74 tsz2 tby2 tz2 rfl rfl (fun _ => ⟨rfl, rfl⟩) (of_decide_eq_true e348) rfl (leB_le e349) rfl HM) ?_
  rintro v345 w350 HM
  refine ops_ex rfl (guard_none rfl) rfl rfl (ex_assign rfl rfl) ?_
  refine ops_nil ?_
  refine at_then ?_
  obtain ⟨o370, ho371, H⟩ := bind_some H
  refine run_mid (fun ρ_ w_ => ∃ v367 : Value, ∃ a368 : List Int, a368 = o370 ∧ ρ_ = [(3, v367)] ∧ Mem w [] w_ [own kInt 2 v367 a368]) ?_ ?_
  · clear H
    refine run_seq ?_
    refine run_region rfl ?_
    refine ops_ex rfl (guard_none rfl) rfl rfl (ex_assign rfl rfl) ?_
    refine ops_nil ?_
    refine at_then ?_
    refine run_block ?_
    refine run_loop (fun k_ ρ_ w_ => ∃ v376 : Value, ∃ a377 : List Int, ∃ a379 : Int, laws_toInt64S.l0 x0 k_ a377 a379 = some o370 ∧ ρ_ = [(0, p0), (3, v376), (4, .int .i64 a379)] ∧ Mem w [] w_ [own kInt 2 v376 a377]) k (ρ1 := [(0, p0), (3, v345), (4, .int .i64 0)]) ⟨_, _, _, ho371, rfl, HM⟩ (Sub.cons rfl (Sub.cons rfl (Sub.cons rfl Sub.nil))) ?_
    clear HM ho371
    rintro k384 _ w385 ⟨v376, a377, a379, ho371, rfl, HM⟩
    obtain _ | k384 := k384
    · exact nomatch ((laws_toInt64S.l0_z x0 a377 a379).symm.trans ho371)
    replace ho371 := (laws_toInt64S.l0_s x0 k384 a377 a379).symm.trans ho371
    refine run_seq ?_
    refine run_seq ?_
    refine run_region rfl ?_
    refine ops_ex rfl (guard_none rfl) rfl rfl (ex_move rfl rfl) ?_
    refine ops_ex rfl (guard_none rfl) rfl rfl (ex_move rfl rfl) ?_
    refine ops_ex rfl (guard_none rfl) rfl rfl (ex_len (d := kInt) (xs := x0) rfl rfl Try.underlying74 hp0) ?_
    refine ops_ex rfl (guard_none rfl) rfl rfl (ex_lss rfl rfl rfl) ?_
    refine ops_nil ?_
    refine at_then ?_
    refine run_cond (b := (decide (a379 < (x0.length : Int)))) rfl (fun hb386 => ?_) (fun hb386 => ?_)
    · replace ho371 := cond_t hb386 ho371
      refine run_skip ?_
      refine at_then ?_
      refine run_seq ?_
      refine run_block ?_
      obtain ⟨e387, ho371⟩ := chk_some ho371
      obtain ⟨e389, ho371⟩ := chk_some ho371
      refine run_region rfl ?_
      refine ops_ex rfl (guard_none rfl) rfl rfl (ex_move rfl rfl) ?_
      refine ops_ex rfl (guard_none rfl) rfl rfl (ex_move rfl rfl) ?_
      refine ops_ex rfl (guard_none rfl) rfl rfl (ex_move rfl rfl) ?_
      refine ops_ex rfl (guard_none rfl) rfl rfl (ex_move rfl rfl) ?_
      have hc388 : CellsAt _ (sb p0) (so p0 + (a379).toNat * 1) [(.int .i64 (gt x0 a379))] := rd_plain hp0 e387
      refine ops_ex rfl (guard_none rfl) rfl rfl (ex_indexAddr (d := kInt) rfl rfl rfl Try.underlying74 tsz2 hp0 (idx_lo e387) (idx_hi e387)) ?_
      refine ops_ex rfl (guard_none rfl) rfl rfl (ex_load1 rfl rfl Try.underlying2 rfl ((HM.at_ hc388) 0 _ rfl)) ?_
      refine ops_ex rfl (guard_none rfl) rfl rfl (ex_indexAddr (d := kInt) rfl rfl rfl Try.underlying74 tsz2 (HM.own_rd 0 rfl) (idx_lo e389) (idx_hi e389)) ?_
      refine ops_doesS rfl (guard_none rfl) rfl (does_setElem (vs := [(.int .i64 (gt x0 a379))]) (y := (gt x0 a379)) kInt rfl rfl rfl rfl rfl tsz2 rfl rfl (idx_nat e389) (fun _ _ h => ⟨rfl, h⟩) (HM.emp.front 1 rfl rfl)) ?_
      rintro w390 HM
      refine ops_nil ?_
      refine at_block ?_
      refine at_then ?_
      refine run_region rfl ?_
      refine ops_ex rfl (guard_none rfl) rfl rfl (ex_move rfl rfl) ?_
      refine ops_ex rfl (guard_none rfl) rfl rfl (ex_add rfl rfl rfl) ?_
      refine ops_ex rfl (guard_none rfl) rfl rfl (ex_assign rfl rfl) ?_
      refine ops_nil ?_
      exact at_again k384 (ρ1 := [(0, p0), (3, v376), (4, .int .i64 (wrap64 (a379 + 1)))]) (Nat.lt_succ_self _) ⟨_, _, _, ho371, rfl, HM⟩ (Sub.cons rfl (Sub.cons rfl (Sub.cons rfl Sub.nil)))
    · replace ho371 := cond_f hb386 ho371
      refine run_exit ?_
      refine at_then_exit ?_
      refine at_then_exit ?_
      refine at_block_exit ?_
      exact at_mid (ρ' := [(3, v376)]) ⟨_, _, (Option.some.inj ho371), rfl, HM⟩ (Sub.cons rfl Sub.nil)
  · rintro _ w391 ⟨v367, a368, rfl, rfl, HM⟩
    refine run_seq ?_
    refine run_region rfl ?_
    refine ops_ex rfl (guard_none rfl) rfl rfl (ex_move rfl rfl) ?_
    refine ops_ex rfl (guard_none rfl) rfl rfl (ex_assign rfl rfl) ?_
    refine ops_nil ?_
    refine at_then ?_
    refine run_ret ?_
    have hR := Option.some.inj H
    subst hR
    exact at_ret1 rfl rfl ⟨_, rfl, _, rfl, HM⟩

def laws_toRule.f (k : Nat) (x0 : Rule) : Option Rule := ((laws_toInt64S.f k x0.fKeys).bind fun t408 => some (⟨t408, x0.fNeed, x0.fAfter⟩ : Rule))
theorem laws_toRule.calls {k : Nat} {x0 : Rule} {p0_0 : Value} {w : World} (hp0_0 : RdS kInt w p0_0 x0.fKeys) {r : Rule} (H : laws_toRule.f k x0 = some r) :
    Calls Try.prog 158 ([.agg #[p0_0, (.int .i64 x0.fNeed), (.int .i64 x0.fAfter)]] : List Value).toArray w (fun e w_ => ∃ v, e = .returned v ∧ ∃ u0 : Value, v = (.agg #[u0, .int .i64 r.fNeed, .int .i64 r.fAfter]) ∧ Mem w [] w_ [own kInt 2 u0 r.fKeys]) := by
  have HM := Mem.start w
  refine calls_run (N := 15) Try.func158 rfl rfl rfl rfl ?_
  unfold laws_toRule.f at H
  refine run_seq ?_
  refine run_region rfl ?_
  refine ops_does rfl (guard_none rfl) rfl rfl (does_box (cs := [p0_0, .int .i64 x0.fNeed, .int .i64 x0.fAfter]) rfl rfl rfl HM) ?_
  rintro _ w402 ⟨b396, rfl, HM⟩
  refine ops_does rfl (guard_none rfl) rfl rfl (does_alloc (cs := [.slice none 0 0, .int .i64 0, .int .i64 0]) rfl tz100 rfl HM) ?_
  rintro _ w403 ⟨b399, rfl, HM⟩
  refine ops_nil ?_
  refine at_then ?_
  refine run_seq ?_
  refine run_region rfl ?_
  refine ops_does rfl (guard_none rfl) rfl rfl (does_alloc (cs := [.slice none 0 0, .int .i64 0, .int .i64 0]) rfl tz100 rfl HM) ?_
  rintro _ w407 ⟨b404, rfl, HM⟩
  refine ops_nil ?_
  refine at_then ?_
  refine run_seq ?_
  obtain ⟨t408, h409, H⟩ := bind_some H
  refine run_region rfl ?_
  refine ops_ex rfl (guard_none rfl) rfl rfl (ex_fieldAddr (off' := 0) rfl rfl Try.underlying94 rfl tsz74 rfl) ?_
  refine ops_ex rfl (guard_none rfl) rfl rfl (ex_load1 rfl rfl Try.underlying74 rfl ((HM.box_at 2 rfl) 0 _ rfl)) ?_
  refine ops_does rfl (guard_none rfl) rfl rfl (does_callk rfl callok169 rfl (laws_toInt64S.calls (x0 := x0.fKeys) (HM.rd hp0_0) h409)) ?_
  rintro u410 w412 ⟨_, rfl, hn⟩
  replace HM : Mem w [] w412 [own kInt 2 u410 t408, box b404 100 [.slice none 0 0, .int .i64 0, .int .i64 0], box b399 100 [.slice none 0 0, .int .i64 0, .int .i64 0], box b396 94 [p0_0, .int .i64 x0.fNeed, .int .i64 x0.fAfter]] := HM.call hn
  refine ops_ex rfl (guard_none rfl) rfl rfl (ex_fieldAddr (off' := 0) rfl rfl Try.underlying100 rfl tsz74 rfl) ?_
  replace HM := HM.front 1 rfl rfl
  refine ops_doesS rfl (guard_none rfl) rfl (does_store (vs := [u410]) (cs' := [u410, .int .i64 0, .int .i64 0]) rfl rfl rfl (rd_cells (HM.own_rd 1 rfl)) tsz74 (Ones.rd (HM.own_rd 1 rfl) Ones.nil) rfl rfl HM) ?_
  rintro w413 HM
  refine ops_nil ?_
  refine at_then ?_
  refine run_seq ?_
  refine run_region rfl ?_
  refine ops_ex rfl (guard_none rfl) rfl rfl (ex_fieldAddr (off' := 1) rfl rfl Try.underlying94 rfl tsz2 rfl) ?_
  refine ops_ex rfl (guard_none rfl) rfl rfl (ex_load1 rfl rfl Try.underlying2 rfl ((HM.box_at 3 rfl) 1 _ rfl)) ?_
  refine ops_ex rfl (guard_none rfl) rfl rfl (ex_fieldAddr (off' := 1) rfl rfl Try.underlying100 rfl tsz2 rfl) ?_
  refine ops_doesS rfl (guard_none rfl) rfl (does_store (vs := [.int .i64 x0.fNeed]) (cs' := [u410, .int .i64 x0.fNeed, .int .i64 0]) rfl rfl rfl rfl tsz2 (Ones.int Ones.nil) rfl rfl HM) ?_
  rintro w414 HM
  refine ops_nil ?_
  refine at_then ?_
  refine run_seq ?_
  refine run_region rfl ?_
  refine ops_ex rfl (guard_none rfl) rfl rfl (ex_fieldAddr (off' := 2) rfl rfl Try.underlying94 rfl tsz2 rfl) ?_
  refine ops_ex rfl (guard_none rfl) rfl rfl (ex_load1 rfl rfl Try.underlying2 rfl ((HM.box_at 3 rfl) 2 _ rfl)) ?_
  refine ops_ex rfl (guard_none rfl) rfl rfl (ex_fieldAddr (off' := 2) rfl rfl Try.underlying100 rfl tsz2 rfl) ?_
  refine ops_doesS rfl (guard_none rfl) rfl (does_store (vs := [.int .i64 x0.fAfter]) (cs' := [u410, .int .i64 x0.fNeed, .int .i64 x0.fAfter]) rfl rfl rfl rfl tsz2 (Ones.int Ones.nil) rfl rfl HM) ?_
  rintro w415 HM
  refine ops_nil ?_
  refine at_then ?_
  refine run_seq ?_
  refine run_region rfl ?_
  refine ops_ex rfl (guard_none rfl) rfl rfl (ex_loadN (cs := [u410, (.int .i64 x0.fNeed), (.int .i64 x0.fAfter)]) rfl rfl Try.underlying100 rfl tsz100 rfl ((HM.box_at 0 rfl).sub 0 3 rfl)) ?_
  replace HM := HM.front 2 rfl rfl
  refine ops_doesS rfl (guard_none rfl) rfl (does_store (vs := [u410, .int .i64 x0.fNeed, .int .i64 x0.fAfter]) (cs' := [u410, .int .i64 x0.fNeed, .int .i64 x0.fAfter]) rfl rfl rfl rfl tsz100 (Ones.rd (HM.own_rd 2 rfl) (Ones.int (Ones.int Ones.nil))) rfl rfl HM) ?_
  rintro w416 HM
  refine ops_nil ?_
  refine at_then ?_
  refine run_ret ?_
  replace HM := (HM.front 1 rfl rfl).drop
  replace HM := (HM.front 2 rfl rfl).drop
  have hcb0 := HM.box_at 0 rfl
  replace HM := (HM.front 0 rfl rfl).drop
  have hR := Option.some.inj H
  subst hR
  exact at_retN rfl rfl Try.underlying100 rfl tsz100 rfl hcb0 ⟨_, rfl, _, rfl, HM⟩

def laws_toOut.f (k : Nat) (x0 : Out) : Option Out := ((laws_toRule.f k x0.fRule).bind fun t434 => some (⟨x0.fValue, t434⟩ : Out))
theorem laws_toOut.calls {k : Nat} {x0 : Out} {p0_0 : Value} {w : World} (hp0_0 : RdS kInt w p0_0 x0.fRule.fKeys) {r : Out} (H : laws_toOut.f k x0 = some r) :
    Calls Try.prog 123 ([.agg #[(.int .i64 x0.fValue), p0_0, (.int .i64 x0.fRule.fNeed), (.int .i64 x0.fRule.fAfter)]] : List Value).toArray w (fun e w_ => ∃ v, e = .returned v ∧ ∃ u0 : Value, v = (.agg #[.int .i64 r.fValue, u0, .int .i64 r.fRule.fNeed, .int .i64 r.fRule.fAfter]) ∧ Mem w [] w_ [own kInt 2 u0 r.fRule.fKeys]) := by
  have HM := Mem.start w
  refine calls_run (N := 12) Try.func123 rfl rfl rfl rfl ?_
  unfold laws_toOut.f at H
  refine run_seq ?_
  refine run_region rfl ?_
  refine ops_does rfl (guard_none rfl) rfl rfl (does_box (cs := [.int .i64 x0.fValue, p0_0, .int .i64 x0.fRule.fNeed, .int .i64 x0.fRule.fAfter]) rfl rfl rfl HM) ?_
  rintro _ w427 ⟨b421, rfl, HM⟩
  refine ops_does rfl (guard_none rfl) rfl rfl (does_alloc (cs := [.int .i64 0, .slice none 0 0, .int .i64 0, .int .i64 0]) rfl tz102 rfl HM) ?_
  rintro _ w428 ⟨b424, rfl, HM⟩
  refine ops_nil ?_
  refine at_then ?_
  refine run_seq ?_
  refine run_region rfl ?_
  refine ops_does rfl (guard_none rfl) rfl rfl (does_alloc (cs := [.int .i64 0, .slice none 0 0, .int .i64 0, .int .i64 0]) rfl tz102 rfl HM) ?_
  rintro _ w432 ⟨b429, rfl, HM⟩
  refine ops_nil ?_
  refine at_then ?_
  refine run_seq ?_
  refine run_region rfl ?_
  refine ops_ex rfl (guard_none rfl) rfl rfl (ex_fieldAddr (off' := 0) rfl rfl Try.underlying96 rfl tsz2 rfl) ?_
  refine ops_ex rfl (guard_none rfl) rfl rfl (ex_load1 rfl rfl Try.underlying2 rfl ((HM.box_at 2 rfl) 0 _ rfl)) ?_
  refine ops_ex rfl (guard_none rfl) rfl rfl (ex_fieldAddr (off' := 0) rfl rfl Try.underlying102 rfl tsz2 rfl) ?_
  refine ops_doesS rfl (guard_none rfl) rfl (does_store (vs := [.int .i64 x0.fValue]) (cs' := [.int .i64 x0.fValue, .slice none 0 0, .int .i64 0, .int .i64 0]) rfl rfl rfl rfl tsz2 (Ones.int Ones.nil) rfl rfl HM) ?_
  rintro w433 HM
  refine ops_nil ?_
  refine at_then ?_
  refine run_seq ?_
  obtain ⟨t434, h435, H⟩ := bind_some H
  refine run_region rfl ?_
  refine ops_ex rfl (guard_none rfl) rfl rfl (ex_fieldAddr (off' := 1) rfl rfl Try.underlying96 rfl tsz94 rfl) ?_
  refine ops_ex rfl (guard_none rfl) rfl rfl (ex_loadN (cs := [p0_0, (.int .i64 x0.fRule.fNeed), (.int .i64 x0.fRule.fAfter)]) rfl rfl Try.underlying94 rfl tsz94 rfl ((HM.box_at 2 rfl).sub 1 3 rfl)) ?_
  refine ops_does rfl (guard_none rfl) rfl rfl (does_callk rfl callok158 rfl (laws_toRule.calls (x0 := x0.fRule) (HM.rd hp0_0) h435)) ?_
  rintro _ w438 ⟨u436, rfl, hn⟩
  replace HM : Mem w [] w438 [own kInt 2 u436 t434.fKeys, box b429 102 [.int .i64 x0.fValue, .slice none 0 0, .int .i64 0, .int .i64 0], box b424 102 [.int .i64 0, .slice none 0 0, .int .i64 0, .int .i64 0], box b421 96 [.int .i64 x0.fValue, p0_0, .int .i64 x0.fRule.fNeed, .int .i64 x0.fRule.fAfter]] := HM.call hn
  refine ops_ex rfl (guard_none rfl) rfl rfl (ex_fieldAddr (off' := 1) rfl rfl Try.underlying102 rfl tsz100 rfl) ?_
  replace HM := HM.front 1 rfl rfl
  refine ops_doesS rfl (guard_none rfl) rfl (does_store (vs := [u436, .int .i64 t434.fNeed, .int .i64 t434.fAfter]) (cs' := [.int .i64 x0.fValue, u436, .int .i64 t434.fNeed, .int .i64 t434.fAfter]) rfl rfl rfl rfl tsz100 (Ones.rd (HM.own_rd 1 rfl) (Ones.int (Ones.int Ones.nil))) rfl rfl HM) ?_
  rintro w439 HM
  refine ops_nil ?_
  refine at_then ?_
  refine run_seq ?_
  refine run_region rfl ?_
  refine ops_ex rfl (guard_none rfl) rfl rfl (ex_loadN (cs := [(.int .i64 x0.fValue), u436, (.int .i64 t434.fNeed), (.int .i64 t434.fAfter)]) rfl rfl Try.underlying102 rfl tsz102 rfl ((HM.box_at 0 rfl).sub 0 4 rfl)) ?_
  replace HM := HM.front 2 rfl rfl
  refine ops_doesS rfl (guard_none rfl) rfl (does_store (vs := [.int .i64 x0.fValue, u436, .int .i64 t434.fNeed, .int .i64 t434.fAfter]) (cs' := [.int .i64 x0.fValue, u436, .int .i64 t434.fNeed, .int .i64 t434.fAfter]) rfl rfl rfl rfl tsz102 (Ones.int (Ones.rd (HM.own_rd 2 rfl) (Ones.int (Ones.int Ones.nil)))) rfl rfl HM) ?_
  rintro w440 HM
  refine ops_nil ?_
  refine at_then ?_
  refine run_ret ?_
  replace HM := (HM.front 1 rfl rfl).drop
  replace HM := (HM.front 2 rfl rfl).drop
  have hcb0 := HM.box_at 0 rfl
  replace HM := (HM.front 0 rfl rfl).drop
  have hR := Option.some.inj H
  subst hR
  exact at_retN rfl rfl Try.underlying102 rfl tsz102 rfl hcb0 ⟨_, rfl, _, rfl, HM⟩

def laws_toOutS.l0 (x0 : List Out) : Nat → (List Out) → Int → Option ((List Out))
  | 0, _, _ => none
  | k + 1, a531, a533 => (bif (decide (a533 < (x0.length : Int))) then (chk (idxOk a533 x0.length) ((laws_toOut.f k (gt x0 a533)).bind fun t551 => (chk (idxOk a533 a531.length) (laws_toOutS.l0 x0 k (a531.set (a533).toNat t551) (wrap64 (a533 + 1)))))) else some a531)
theorem laws_toOutS.l0_z (x0 : List Out) (a531 : List Out) (a533 : Int) : laws_toOutS.l0 x0 0 a531 a533 = none := rfl
theorem laws_toOutS.l0_s (x0 : List Out) (k : Nat) (a531 : List Out) (a533 : Int) : laws_toOutS.l0 x0 (k + 1) a531 a533 = (bif (decide (a533 < (x0.length : Int))) then (chk (idxOk a533 x0.length) ((laws_toOut.f k (gt x0 a533)).bind fun t551 => (chk (idxOk a533 a531.length) (laws_toOutS.l0 x0 k (a531.set (a533).toNat t551) (wrap64 (a533 + 1)))))) else some a531) := rfl
def laws_toOutS.f (k : Nat) (x0 : List Out) : Option ((List Out)) := (chk (decide (0 ≤ (x0.length : Int))) (chk (leB (((x0.length : Int)).toNat * 48) 281474976710656) ((laws_toOutS.l0 x0 k (List.replicate ((x0.length : Int)).toNat (⟨0, (⟨[], 0, 0⟩ : Rule)⟩ : Out)) 0).bind (fun a516 => some a516))))
theorem laws_toOutS.calls {k : Nat} {x0 : List Out} {p0 : Value} {w : World} (hp0 : RdS kOut w p0 x0) {r : (List Out)} (H : laws_toOutS.f k x0 = some r) :
    Calls Try.prog 72 ([p0] : List Value).toArray w (fun e w_ => ∃ v, e = .returned v ∧ ∃ u0 : Value, v = u0 ∧ Mem w [] w_ [own kOut 102 u0 r]) := by
  have HM := Mem.start w
  refine calls_run (N := 23) Try.func72 rfl rfl rfl rfl ?_
  unfold laws_toOutS.f at H
  refine run_seq ?_
  refine run_region rfl ?_
  refine ops_ex rfl (guard_none rfl) rfl rfl (ex_assign rfl rfl) ?_
  refine ops_nil ?_
  refine at_then ?_
  refine run_seq ?_
  obtain ⟨e478, H⟩ := chk_some H
  obtain ⟨e479, H⟩ := chk_some H
  refine run_region rfl ?_
  refine ops_ex rfl (guard_none rfl) rfl rfl (ex_move rfl rfl) ?_
  refine ops_ex rfl (guard_none rfl) rfl rfl (ex_len (d := kOut) (xs := x0) rfl rfl Try.underlying29 hp0) ?_
  refine ops_does rfl (guard_none rfl) rfl rfl (does_make (x := (⟨0, (⟨[], 0, 0⟩ : Rule)⟩ : Out)) kOut rfl rfl rfl Try.underlying35 tsz102 tby102 tz102 rfl rfl (fun _ => ⟨.slice none 0 0, rfl, OwS.nil _ _ _ _⟩) (of_decide_eq_true e478) rfl (leB_le e479) rfl HM) ?_
  rintro v475 w480 HM
  refine ops_ex rfl (guard_none rfl) rfl rfl (ex_assign rfl rfl) ?_
  refine ops_nil ?_
  refine at_then ?_
  obtain ⟨o518, ho519, H⟩ := bind_some H
  refine run_mid (fun ρ_ w_ => ∃ v515 : Value, ∃ a516 : List Out, a516 = o518 ∧ ρ_ = [(3, v515)] ∧ Mem w [] w_ [own kOut 102 v515 a516]) ?_ ?_
  · clear H
    refine run_seq ?_
    refine run_region rfl ?_
    refine ops_ex rfl (guard_none rfl) rfl rfl (ex_assign rfl rfl) ?_
    refine ops_nil ?_
    refine at_then ?_
    refine run_block ?_
    refine run_loop (fun k_ ρ_ w_ => ∃ v530 : Value, ∃ a531 : List Out, ∃ a533 : Int, laws_toOutS.l0 x0 k_ a531 a533 = some o518 ∧ ρ_ = [(0, p0), (3, v530), (4, .int .i64 a533)] ∧ Mem w [] w_ [own kOut 102 v530 a531]) k (ρ1 := [(0, p0), (3, v475), (4, .int .i64 0)]) ⟨_, _, _, ho519, rfl, HM⟩ (Sub.cons rfl (Sub.cons rfl (Sub.cons rfl Sub.nil))) ?_
    clear HM ho519
    rintro k544 _ w545 ⟨v530, a531, a533, ho519, rfl, HM⟩
    obtain _ | k544 := k544
    · exact nomatch ((laws_toOutS.l0_z x0 a531 a533).symm.trans ho519)
    replace ho519 := (laws_toOutS.l0_s x0 k544 a531 a533).symm.trans ho519
    refine run_seq ?_
    refine run_seq ?_
    refine run_region rfl ?_
    refine ops_ex rfl (guard_none rfl) rfl rfl (ex_move rfl rfl) ?_
    refine ops_ex rfl (guard_none rfl) rfl rfl (ex_move rfl rfl) ?_
    refine ops_ex rfl (guard_none rfl) rfl rfl (ex_len (d := kOut) (xs := x0) rfl rfl Try.underlying29 hp0) ?_
    refine ops_ex rfl (guard_none rfl) rfl rfl (ex_lss rfl rfl rfl) ?_
    refine ops_nil ?_
    refine at_then ?_
    refine run_cond (b := (decide (a533 < (x0.length : Int)))) rfl (fun hb546 => ?_) (fun hb546 => ?_)
    · replace ho519 := cond_t hb546 ho519
      refine run_skip ?_
      refine at_then ?_
      refine run_seq ?_
      refine run_block ?_
      obtain ⟨e547, ho519⟩ := chk_some ho519
      obtain ⟨t551, h552, ho519⟩ := bind_some ho519
      obtain ⟨e555, ho519⟩ := chk_some ho519
      refine run_region rfl ?_
      refine ops_ex rfl (guard_none rfl) rfl rfl (ex_move rfl rfl) ?_
      refine ops_ex rfl (guard_none rfl) rfl rfl (ex_move rfl rfl) ?_
      refine ops_ex rfl (guard_none rfl) rfl rfl (ex_move rfl rfl) ?_
      refine ops_ex rfl (guard_none rfl) rfl rfl (ex_move rfl rfl) ?_
      obtain ⟨kv549, hc548, hk550⟩ : ∃ u, CellsAt _ (sb p0) (so p0 + (a533).toNat * 4) [(.int .i64 ((gt x0 a533).fValue)), u, (.int .i64 ((gt x0 a533).fRule.fNeed)), (.int .i64 ((gt x0 a533).fRule.fAfter))] ∧ RdS kInt _ u ((gt x0 a533).fRule.fKeys) := rd_with1 hp0 e547
      refine ops_ex rfl (guard_none rfl) rfl rfl (ex_indexAddr (d := kOut) rfl rfl rfl Try.underlying29 tsz96 hp0 (idx_lo e547) (idx_hi e547)) ?_
      refine ops_ex rfl (guard_none rfl) rfl rfl (ex_loadN (cs := [(.int .i64 ((gt x0 a533).fValue)), kv549, (.int .i64 ((gt x0 a533).fRule.fNeed)), (.int .i64 ((gt x0 a533).fRule.fAfter))]) rfl rfl Try.underlying96 rfl tsz96 rfl ((HM.at_ hc548).sub 0 4 rfl)) ?_
      refine ops_does rfl (guard_none rfl) rfl rfl (does_callk rfl callok123 rfl (laws_toOut.calls (x0 := (gt x0 a533)) (HM.rd hk550) h552)) ?_
      rintro _ w556 ⟨u553, rfl, hn⟩
      replace HM : Mem w [] w556 [own kInt 2 u553 t551.fRule.fKeys, own kOut 102 v530 a531] := HM.call hn
      refine ops_ex rfl (guard_none rfl) rfl rfl (ex_indexAddr (d := kOut) rfl rfl rfl Try.underlying35 tsz102 (HM.own_rd 1 rfl) (idx_lo e555) (idx_hi e555)) ?_
      replace HM := HM.front 1 rfl rfl
      refine ops_doesS rfl (guard_none rfl) rfl (does_setElem (vs := [(.int .i64 t551.fValue), u553, (.int .i64 t551.fRule.fNeed), (.int .i64 t551.fRule.fAfter)]) (y := t551) kOut rfl rfl rfl rfl rfl tsz102 rfl rfl (idx_nat e555) (fun _ _ h => ⟨_, rfl, h⟩) HM) ?_
      rintro w557 HM
      refine ops_nil ?_
      refine at_block ?_
      refine at_then ?_
      refine run_region rfl ?_
      refine ops_ex rfl (guard_none rfl) rfl rfl (ex_move rfl rfl) ?_
      refine ops_ex rfl (guard_none rfl) rfl rfl (ex_add rfl rfl rfl) ?_
      refine ops_ex rfl (guard_none rfl) rfl rfl (ex_assign rfl rfl) ?_
      refine ops_nil ?_
      exact at_again k544 (ρ1 := [(0, p0), (3, v530), (4, .int .i64 (wrap64 (a533 + 1)))]) (Nat.lt_succ_self _) ⟨_, _, _, ho519, rfl, HM⟩ (Sub.cons rfl (Sub.cons rfl (Sub.cons rfl Sub.nil)))
    · replace ho519 := cond_f hb546 ho519
      refine run_exit ?_
      refine at_then_exit ?_
      refine at_then_exit ?_
      refine at_block_exit ?_
      exact at_mid (ρ' := [(3, v530)]) ⟨_, _, (Option.some.inj ho519), rfl, HM⟩ (Sub.cons rfl Sub.nil)
  · rintro _ w558 ⟨v515, a516, rfl, rfl, HM⟩
    refine run_seq ?_
    refine run_region rfl ?_
    refine ops_ex rfl (guard_none rfl) rfl rfl (ex_move rfl rfl) ?_
    refine ops_ex rfl (guard_none rfl) rfl rfl (ex_assign rfl rfl) ?_
    refine ops_nil ?_
    refine at_then ?_
    refine run_ret ?_
    have hR := Option.some.inj H
    subst hR
    exact at_ret1 rfl rfl ⟨_, rfl, _, rfl, HM⟩

def laws_toTx.f (k : Nat) (x0 : Tx) : Option Tx := ((laws_toRefS.f k x0.fIns).bind fun t577 => ((laws_toOutS.f k x0.fOuts).bind fun t583 => some (⟨x0.fKind, x0.fMember, t577, t583⟩ : Tx)))
theorem laws_toTx.calls {k : Nat} {x0 : Tx} {p0_0 : Value} {p0_1 : Value} {w : World} (hp0_0 : RdS kRef w p0_0 x0.fIns) (hp0_1 : RdS kOut w p0_1 x0.fOuts) {r : Tx} (H : laws_toTx.f k x0 = some r) :
    Calls Try.prog 22 ([.agg #[(.int .i64 x0.fKind), (.int .i64 x0.fMember), p0_0, p0_1]] : List Value).toArray w (fun e w_ => ∃ v, e = .returned v ∧ ∃ u0 : Value, ∃ u1 : Value, v = (.agg #[.int .i64 r.fKind, .int .i64 r.fMember, u0, u1]) ∧ Mem w [] w_ [own kRef 99 u0 r.fIns, own kOut 102 u1 r.fOuts]) := by
  have HM := Mem.start w
  refine calls_run (N := 19) Try.func22 rfl rfl rfl rfl ?_
  unfold laws_toTx.f at H
  refine run_seq ?_
  refine run_region rfl ?_
  refine ops_does rfl (guard_none rfl) rfl rfl (does_box (cs := [.int .i64 x0.fKind, .int .i64 x0.fMember, p0_0, p0_1]) rfl rfl rfl HM) ?_
  rintro _ w569 ⟨b563, rfl, HM⟩
  refine ops_does rfl (guard_none rfl) rfl rfl (does_alloc (cs := [.int .i64 0, .int .i64 0, .slice none 0 0, .slice none 0 0]) rfl tz37 rfl HM) ?_
  rintro _ w570 ⟨b566, rfl, HM⟩
  refine ops_nil ?_
  refine at_then ?_
  refine run_seq ?_
  refine run_region rfl ?_
  refine ops_does rfl (guard_none rfl) rfl rfl (does_alloc (cs := [.int .i64 0, .int .i64 0, .slice none 0 0, .slice none 0 0]) rfl tz37 rfl HM) ?_
  rintro _ w574 ⟨b571, rfl, HM⟩
  refine ops_nil ?_
  refine at_then ?_
  refine run_seq ?_
  refine run_region rfl ?_
  refine ops_ex rfl (guard_none rfl) rfl rfl (ex_fieldAddr (off' := 0) rfl rfl Try.underlying31 rfl tsz2 rfl) ?_
  refine ops_ex rfl (guard_none rfl) rfl rfl (ex_load1 rfl rfl Try.underlying2 rfl ((HM.box_at 2 rfl) 0 _ rfl)) ?_
  refine ops_ex rfl (guard_none rfl) rfl rfl (ex_fieldAddr (off' := 0) rfl rfl Try.underlying37 rfl tsz2 rfl) ?_
  refine ops_doesS rfl (guard_none rfl) rfl (does_store (vs := [.int .i64 x0.fKind]) (cs' := [.int .i64 x0.fKind, .int .i64 0, .slice none 0 0, .slice none 0 0]) rfl rfl rfl rfl tsz2 (Ones.int Ones.nil) rfl rfl HM) ?_
  rintro w575 HM
  refine ops_nil ?_
  refine at_then ?_
  refine run_seq ?_
  refine run_region rfl ?_
  refine ops_ex rfl (guard_none rfl) rfl rfl (ex_fieldAddr (off' := 1) rfl rfl Try.underlying31 rfl tsz2 rfl) ?_
  refine ops_ex rfl (guard_none rfl) rfl rfl (ex_load1 rfl rfl Try.underlying2 rfl ((HM.box_at 2 rfl) 1 _ rfl)) ?_
  refine ops_ex rfl (guard_none rfl) rfl rfl (ex_fieldAddr (off' := 1) rfl rfl Try.underlying37 rfl tsz2 rfl) ?_
  refine ops_doesS rfl (guard_none rfl) rfl (does_store (vs := [.int .i64 x0.fMember]) (cs' := [.int .i64 x0.fKind, .int .i64 x0.fMember, .slice none 0 0, .slice none 0 0]) rfl rfl rfl rfl tsz2 (Ones.int Ones.nil) rfl rfl HM) ?_
  rintro w576 HM
  refine ops_nil ?_
  refine at_then ?_
  refine run_seq ?_
  obtain ⟨t577, h578, H⟩ := bind_some H
  refine run_region rfl ?_
  refine ops_ex rfl (guard_none rfl) rfl rfl (ex_fieldAddr (off' := 2) rfl rfl Try.underlying31 rfl tsz28 rfl) ?_
  refine ops_ex rfl (guard_none rfl) rfl rfl (ex_load1 rfl rfl Try.underlying28 rfl ((HM.box_at 2 rfl) 2 _ rfl)) ?_
  refine ops_does rfl (guard_none rfl) rfl rfl (does_callk rfl callok71 rfl (laws_toRefS.calls (x0 := x0.fIns) (HM.rd hp0_0) h578)) ?_
  rintro u579 w581 ⟨_, rfl, hn⟩
  replace HM : Mem w [] w581 [own kRef 99 u579 t577, box b571 37 [.int .i64 x0.fKind, .int .i64 x0.fMember, .slice none 0 0, .slice none 0 0], box b566 37 [.int .i64 0, .int .i64 0, .slice none 0 0, .slice none 0 0], box b563 31 [.int .i64 x0.fKind, .int .i64 x0.fMember, p0_0, p0_1]] := HM.call hn
  refine ops_ex rfl (guard_none rfl) rfl rfl (ex_fieldAddr (off' := 2) rfl rfl Try.underlying37 rfl tsz34 rfl) ?_
  replace HM := HM.front 1 rfl rfl
  refine ops_doesS rfl (guard_none rfl) rfl (does_store (vs := [u579]) (cs' := [.int .i64 x0.fKind, .int .i64 x0.fMember, u579, .slice none 0 0]) rfl rfl rfl (rd_cells (HM.own_rd 1 rfl)) tsz34 (Ones.rd (HM.own_rd 1 rfl) Ones.nil) rfl rfl HM) ?_
  rintro w582 HM
  refine ops_nil ?_
  refine at_then ?_
  refine run_seq ?_
  obtain ⟨t583, h584, H⟩ := bind_some H
  refine run_region rfl ?_
  refine ops_ex rfl (guard_none rfl) rfl rfl (ex_fieldAddr (off' := 3) rfl rfl Try.underlying31 rfl tsz29 rfl) ?_
  refine ops_ex rfl (guard_none rfl) rfl rfl (ex_load1 rfl rfl Try.underlying29 rfl ((HM.box_at 3 rfl) 3 _ rfl)) ?_
  refine ops_does rfl (guard_none rfl) rfl rfl (does_callk rfl callok72 rfl (laws_toOutS.calls (x0 := x0.fOuts) (HM.rd hp0_1) h584)) ?_
  rintro u585 w587 ⟨_, rfl, hn⟩
  replace HM : Mem w [] w587 [own kOut 102 u585 t583, box b571 37 [.int .i64 x0.fKind, .int .i64 x0.fMember, u579, .slice none 0 0], own kRef 99 u579 t577, box b566 37 [.int .i64 0, .int .i64 0, .slice none 0 0, .slice none 0 0], box b563 31 [.int .i64 x0.fKind, .int .i64 x0.fMember, p0_0, p0_1]] := HM.call hn
  refine ops_ex rfl (guard_none rfl) rfl rfl (ex_fieldAddr (off' := 3) rfl rfl Try.underlying37 rfl tsz35 rfl) ?_
  replace HM := HM.front 1 rfl rfl
  refine ops_doesS rfl (guard_none rfl) rfl (does_store (vs := [u585]) (cs' := [.int .i64 x0.fKind, .int .i64 x0.fMember, u579, u585]) rfl rfl rfl (rd_cells (HM.own_rd 1 rfl)) tsz35 (Ones.rd (HM.own_rd 1 rfl) Ones.nil) rfl rfl HM) ?_
  rintro w588 HM
  refine ops_nil ?_
  refine at_then ?_
  refine run_seq ?_
  refine run_region rfl ?_
  refine ops_ex rfl (guard_none rfl) rfl rfl (ex_loadN (cs := [(.int .i64 x0.fKind), (.int .i64 x0.fMember), u579, u585]) rfl rfl Try.underlying37 rfl tsz37 rfl ((HM.box_at 0 rfl).sub 0 4 rfl)) ?_
  replace HM := HM.front 3 rfl rfl
  refine ops_doesS rfl (guard_none rfl) rfl (does_store (vs := [.int .i64 x0.fKind, .int .i64 x0.fMember, u579, u585]) (cs' := [.int .i64 x0.fKind, .int .i64 x0.fMember, u579, u585]) rfl rfl rfl rfl tsz37 (Ones.int (Ones.int (Ones.rd (HM.own_rd 3 rfl) (Ones.rd (HM.own_rd 2 rfl) Ones.nil)))) rfl rfl HM) ?_
  rintro w589 HM
  refine ops_nil ?_
  refine at_then ?_
  refine run_ret ?_
  replace HM := (HM.front 1 rfl rfl).drop
  replace HM := (HM.front 3 rfl rfl).drop
  replace HM := HM.front 1 rfl rfl
  replace HM := HM.front 2 rfl rfl
  replace HM := HM.front 2 rfl rfl
  have hcb0 := HM.box_at 0 rfl
  replace HM := (HM.front 0 rfl rfl).drop
  have hR := Option.some.inj H
  subst hR
  exact at_retN rfl rfl Try.underlying37 rfl tsz37 rfl hcb0 ⟨_, rfl, _, _, rfl, HM⟩
end Go.Proofs.Ytoiacoiccpiciaa.Zk
