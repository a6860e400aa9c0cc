/- What functions of the program compute, each as a plain function, and that they do. Conditions: as each theorem states them. -/
import Derived.Test.YtdhkcglfeiapoaaDoorRuleTextZkF1
namespace Go.Proofs.YtdhkcglfeiapoaaDoor.Zk
open Go Go.RowKit Go.IntWalk Go.Proofs
set_option linter.unusedVariables false
set_option linter.unusedSimpArgs false
set_option maxRecDepth 100000
set_option maxHeartbeats 4000000
def laws_eqTextResult.f (k : Nat) (x0 : TextResult) (x1 : TextResult) : Option Bool := (bif (x0.fCode != x1.fCode) then some false else (bif (!sEq x0.fText x1.fText) then some false else some true))
theorem laws_eqTextResult.calls {k : Nat} {x0 : TextResult} {x1 : TextResult}  {w : World}  {r : Bool} (H : laws_eqTextResult.f k x0 x1 = some r) :
    Calls Tryd.prog 9 ([.agg #[(.int .i64 x0.fCode), (.string x0.fText)], .agg #[(.int .i64 x1.fCode), (.string x1.fText)]] : List Value).toArray w (fun e w_ => ∃ v, e = .returned v ∧ v = (.bool r) ∧ Mem w [] w_ []) := by
  have HM := Mem.start w
  refine calls_run (N := 15) Tryd.func9 rfl rfl rfl rfl ?_
  unfold laws_eqTextResult.f at H
  refine run_seq ?_
  refine run_region rfl ?_
  refine ops_does rfl (guard_none rfl) rfl rfl (does_box (cs := [.int .i64 x0.fCode, .string x0.fText]) rfl rfl rfl HM) ?_
  rintro _ w935 ⟨b929, rfl, HM⟩
  refine ops_does rfl (guard_none rfl) rfl rfl (does_box (cs := [.int .i64 x1.fCode, .string x1.fText]) rfl rfl rfl HM) ?_
  rintro _ w936 ⟨b932, rfl, HM⟩
  refine ops_ex rfl (guard_none rfl) rfl rfl (ex_assign rfl rfl) ?_
  refine ops_nil ?_
  refine at_then ?_
  refine run_seq ?_
  refine run_seq ?_
  refine run_region rfl ?_
  refine ops_ex rfl (guard_none rfl) rfl rfl (ex_fieldAddr (off' := 0) rfl rfl Tryd.underlying27 rfl tsz2 rfl) ?_
  refine ops_ex rfl (guard_none rfl) rfl rfl (ex_load1 rfl rfl Tryd.underlying2 rfl ((HM.box_at 1 rfl) 0 _ rfl)) ?_
  refine ops_ex rfl (guard_none rfl) rfl rfl (ex_fieldAddr (off' := 0) rfl rfl Tryd.underlying27 rfl tsz2 rfl) ?_
  refine ops_ex rfl (guard_none rfl) rfl rfl (ex_load1 rfl rfl Tryd.underlying2 rfl ((HM.box_at 0 rfl) 0 _ rfl)) ?_
  refine ops_ex rfl (guard_none rfl) rfl rfl (ex_neq rfl rfl rfl) ?_
  refine ops_nil ?_
  refine at_then ?_
  refine run_cond (b := (x0.fCode != x1.fCode)) rfl (fun hb938 => ?_) (fun hb938 => ?_)
  · replace H := cond_t hb938 H
    refine run_seq ?_
    refine run_region rfl ?_
    refine ops_ex rfl (guard_none rfl) rfl rfl (ex_assign rfl rfl) ?_
    refine ops_nil ?_
    refine at_then ?_
    refine run_ret ?_
    refine at_then_ret ?_
    replace HM := (HM.front 0 rfl rfl).drop
    replace HM := (HM.front 0 rfl rfl).drop
    have hR := Option.some.inj H
    subst hR
    exact at_ret1 rfl rfl ⟨_, rfl, rfl, HM⟩
  · replace H := cond_f hb938 H
    refine run_skip ?_
    refine at_then ?_
    refine run_seq ?_
    refine run_seq ?_
    refine run_region rfl ?_
    refine ops_ex rfl (guard_none rfl) rfl rfl (ex_fieldAddr (off' := 1) rfl rfl Tryd.underlying27 rfl tsz9 rfl) ?_
    refine ops_ex rfl (guard_none rfl) rfl rfl (ex_load1 rfl rfl Tryd.underlying9 rfl ((HM.box_at 1 rfl) 1 _ rfl)) ?_
    refine ops_ex rfl (guard_none rfl) rfl rfl (ex_fieldAddr (off' := 1) rfl rfl Tryd.underlying27 rfl tsz9 rfl) ?_
    refine ops_ex rfl (guard_none rfl) rfl rfl (ex_load1 rfl rfl Tryd.underlying9 rfl ((HM.box_at 0 rfl) 1 _ rfl)) ?_
    refine ops_ex rfl (guard_none rfl) rfl rfl (ex_sneq rfl rfl rfl) ?_
    refine ops_nil ?_
    refine at_then ?_
    refine run_cond (b := (!sEq x0.fText x1.fText)) rfl (fun hb939 => ?_) (fun hb939 => ?_)
    · replace H := cond_t hb939 H
      refine run_seq ?_
      refine run_region rfl ?_
      refine ops_ex rfl (guard_none rfl) rfl rfl (ex_assign rfl rfl) ?_
      refine ops_nil ?_
      refine at_then ?_
      refine run_ret ?_
      refine at_then_ret ?_
      replace HM := (HM.front 0 rfl rfl).drop
      replace HM := (HM.front 0 rfl rfl).drop
      have hR := Option.some.inj H
      subst hR
      exact at_ret1 rfl rfl ⟨_, rfl, rfl, HM⟩
    · replace H := cond_f hb939 H
      refine run_skip ?_
      refine at_then ?_
      refine run_seq ?_
      refine run_region rfl ?_
      refine ops_ex rfl (guard_none rfl) rfl rfl (ex_assign rfl rfl) ?_
      refine ops_nil ?_
      refine at_then ?_
      refine run_ret ?_
      replace HM := (HM.front 0 rfl rfl).drop
      replace HM := (HM.front 0 rfl rfl).drop
      have hR := Option.some.inj H
      subst hR
      exact at_ret1 rfl rfl ⟨_, rfl, rfl, HM⟩

def laws_eqInt64S.l0 (x0 : List Int) (x1 : List Int) : Nat → Int → Option (Bool ⊕ Unit)
  | 0, _ => none
  | k + 1, a1008 => (bif (decide (a1008 < (x0.length : Int))) then (chk (idxOk a1008 x0.length) (chk (idxOk a1008 x1.length) (bif ((gt x0 a1008) != (gt x1 a1008)) then some (.inl false) else laws_eqInt64S.l0 x0 x1 k (wrap64 (a1008 + 1))))) else some (.inr ()))
theorem laws_eqInt64S.l0_z (x0 : List Int) (x1 : List Int) (a1008 : Int) : laws_eqInt64S.l0 x0 x1 0 a1008 = none := rfl
theorem laws_eqInt64S.l0_s (x0 : List Int) (x1 : List Int) (k : Nat) (a1008 : Int) : laws_eqInt64S.l0 x0 x1 (k + 1) a1008 = (bif (decide (a1008 < (x0.length : Int))) then (chk (idxOk a1008 x0.length) (chk (idxOk a1008 x1.length) (bif ((gt x0 a1008) != (gt x1 a1008)) then some (.inl false) else laws_eqInt64S.l0 x0 x1 k (wrap64 (a1008 + 1))))) else some (.inr ())) := rfl
def laws_eqInt64S.f (k : Nat) (x0 : List Int) (x1 : List Int) : Option Bool := (bif ((x0.length : Int) != (x1.length : Int)) then some false else ((laws_eqInt64S.l0 x0 x1 k 0).bind fun o1000 => thn o1000 (fun r => some r) (fun _ => some true)))
theorem laws_eqInt64S.calls {k : Nat} {x0 : List Int} {x1 : List Int} {p0 : Value} {p1 : Value} {w : World} (hp0 : RdS kInt w p0 x0) (hp1 : RdS kInt w p1 x1) {r : Bool} (H : laws_eqInt64S.f k x0 x1 = some r) :
    Calls Tryd.prog 22 ([p0, p1] : List Value).toArray w (fun e w_ => ∃ v, e = .returned v ∧ v = (.bool r) ∧ Mem w [] w_ []) := by
  have HM := Mem.start w
  refine calls_run (N := 26) Tryd.func22 rfl rfl rfl rfl ?_
  unfold laws_eqInt64S.f at H
  refine run_seq ?_
  refine run_region rfl ?_
  refine ops_ex rfl (guard_none rfl) rfl rfl (ex_assign rfl rfl) ?_
  refine ops_nil ?_
  refine at_then ?_
  refine run_seq ?_
  refine run_seq ?_
  refine run_region rfl ?_
  refine ops_ex rfl (guard_none rfl) rfl rfl (ex_move rfl rfl) ?_
  refine ops_ex rfl (guard_none rfl) rfl rfl (ex_len (d := kInt) (xs := x0) rfl rfl Tryd.underlying22 hp0) ?_
  refine ops_ex rfl (guard_none rfl) rfl rfl (ex_move rfl rfl) ?_
  refine ops_ex rfl (guard_none rfl) rfl rfl (ex_len (d := kInt) (xs := x1) rfl rfl Tryd.underlying22 hp1) ?_
  refine ops_ex rfl (guard_none rfl) rfl rfl (ex_neq rfl rfl rfl) ?_
  refine ops_nil ?_
  refine at_then ?_
  refine run_cond (b := ((x0.length : Int) != (x1.length : Int))) rfl (fun hb980 => ?_) (fun hb980 => ?_)
  · replace H := cond_t hb980 H
    refine run_seq ?_
    refine run_region rfl ?_
    refine ops_ex rfl (guard_none rfl) rfl rfl (ex_assign rfl rfl) ?_
    refine ops_nil ?_
    refine at_then ?_
    refine run_ret ?_
    refine at_then_ret ?_
    have hR := Option.some.inj H
    subst hR
    exact at_ret1 rfl rfl ⟨_, rfl, rfl, HM⟩
  · replace H := cond_f hb980 H
    refine run_skip ?_
    refine at_then ?_
    obtain ⟨o1000, ho1001, H⟩ := bind_some H
    refine run_mid (fun ρ_ w_ => Sum.inr () = o1000 ∧ ρ_ = [] ∧ Mem w [] w_ []) ?_ ?_
    · skip
      refine run_seq ?_
      refine run_region rfl ?_
      refine ops_ex rfl (guard_none rfl) rfl rfl (ex_assign rfl rfl) ?_
      refine ops_nil ?_
      refine at_then ?_
      refine run_block ?_
      refine run_loop (fun k_ ρ_ w_ => ∃ a1008 : Int, laws_eqInt64S.l0 x0 x1 k_ a1008 = some o1000 ∧ ρ_ = [(0, p0), (1, p1), (5, .int .i64 a1008)] ∧ Mem w [] w_ []) k (ρ1 := [(0, p0), (1, p1), (5, .int .i64 0)]) ⟨_, ho1001, rfl, HM⟩ (Sub.cons rfl (Sub.cons rfl (Sub.cons rfl Sub.nil))) ?_
      clear HM ho1001
      rintro k1015 _ w1016 ⟨a1008, ho1001, rfl, HM⟩
      obtain _ | k1015 := k1015
      · exact nomatch ((laws_eqInt64S.l0_z x0 x1 a1008).symm.trans ho1001)
      replace ho1001 := (laws_eqInt64S.l0_s x0 x1 k1015 a1008).symm.trans ho1001
      refine run_seq ?_
      refine run_seq ?_
      refine run_region rfl ?_
      refine ops_ex rfl (guard_none rfl) rfl rfl (ex_move rfl rfl) ?_
      refine ops_ex rfl (guard_none rfl) rfl rfl (ex_move rfl rfl) ?_
      refine ops_ex rfl (guard_none rfl) rfl rfl (ex_len (d := kInt) (xs := x0) rfl rfl Tryd.underlying22 hp0) ?_
      refine ops_ex rfl (guard_none rfl) rfl rfl (ex_lss rfl rfl rfl) ?_
      refine ops_nil ?_
      refine at_then ?_
      refine run_cond (b := (decide (a1008 < (x0.length : Int)))) rfl (fun hb1017 => ?_) (fun hb1017 => ?_)
      · replace ho1001 := cond_t hb1017 ho1001
        refine run_skip ?_
        refine at_then ?_
        refine run_seq ?_
        refine run_block ?_
        refine run_seq ?_
        obtain ⟨e1018, ho1001⟩ := chk_some ho1001
        obtain ⟨e1020, ho1001⟩ := chk_some ho1001
        refine run_drawf (fun w_ => Mem w [] w_ []) [(0, true), (1, true), (2, true), (3, true), (4, true), (5, true), (6, true), (7, true), (8, true)] mixed rfl rfl (by kernel_rfl) ?_
        replace HM := HM.grow (fr_drew _)
        have hS := Mem.suf (M := []) HM
        refine drwp_take rfl (guard_none rfl) rfl rfl (fun w_ hS_ => (ex_move rfl rfl)) hS ?_
        refine drwp_take rfl (guard_none rfl) rfl rfl (fun w_ hS_ => (ex_move rfl rfl)) hS ?_
        have hc1019 : CellsAt _ (sb p0) (so p0 + (a1008).toNat * 1) [(.int .i64 (gt x0 a1008))] := rd_plain hp0 e1018
        refine drwp_take rfl (guard_none rfl) rfl rfl (fun w_ hS_ => (ex_indexAddr (d := kInt) rfl rfl rfl Tryd.underlying22 tsz2 hp0 (idx_lo e1018) (idx_hi e1018))) hS ?_
        refine drwp_take rfl (guard_none rfl) rfl rfl (fun w_ hS_ => (ex_load1 rfl rfl Tryd.underlying2 rfl ((hS_.at_ hc1019) 0 _ rfl))) hS ?_
        refine drwp_take rfl (guard_none rfl) rfl rfl (fun w_ hS_ => (ex_move rfl rfl)) hS ?_
        refine drwp_take rfl (guard_none rfl) rfl rfl (fun w_ hS_ => (ex_move rfl rfl)) hS ?_
        have hc1021 : CellsAt _ (sb p1) (so p1 + (a1008).toNat * 1) [(.int .i64 (gt x1 a1008))] := rd_plain hp1 e1020
        refine drwp_take rfl (guard_none rfl) rfl rfl (fun w_ hS_ => (ex_indexAddr (d := kInt) rfl rfl rfl Tryd.underlying22 tsz2 hp1 (idx_lo e1020) (idx_hi e1020))) hS ?_
        refine drwp_take rfl (guard_none rfl) rfl rfl (fun w_ hS_ => (ex_load1 rfl rfl Tryd.underlying2 rfl ((hS_.at_ hc1021) 0 _ rfl))) hS ?_
        refine drwp_take rfl (guard_none rfl) rfl rfl (fun w_ hS_ => (ex_neq rfl rfl rfl)) hS ?_
        refine drwp_done ?_
        refine at_then ?_
        refine run_cond (b := ((gt x0 a1008) != (gt x1 a1008))) rfl (fun hb1022 => ?_) (fun hb1022 => ?_)
        · replace ho1001 := cond_t hb1022 ho1001
          refine run_seq ?_
          refine run_region rfl ?_
          refine ops_ex rfl (guard_none rfl) rfl rfl (ex_assign rfl rfl) ?_
          refine ops_nil ?_
          refine at_then ?_
          refine run_ret ?_
          refine at_block_ret ?_
          refine at_then_ret ?_
          refine at_then_ret ?_
          refine at_block_ret ?_
          refine at_then_ret ?_
          have hR := Option.some.inj ho1001
          subst hR
          have hT := thn_inl H
          have hR := Option.some.inj hT
          subst hR
          exact at_ret1 rfl rfl ⟨_, rfl, rfl, HM⟩
        · replace ho1001 := cond_f hb1022 ho1001
          refine run_skip ?_
          refine at_block ?_
          refine at_then ?_
          refine run_region rfl ?_
          refine ops_ex rfl (guard_none rfl) rfl rfl (ex_move rfl rfl) ?_
          refine ops_ex rfl (guard_none rfl) rfl rfl (ex_add rfl rfl rfl) ?_
          refine ops_ex rfl (guard_none rfl) rfl rfl (ex_assign rfl rfl) ?_
          refine ops_nil ?_
          exact at_again k1015 (ρ1 := [(0, p0), (1, p1), (5, .int .i64 (wrap64 (a1008 + 1)))]) (Nat.lt_succ_self _) ⟨_, ho1001, rfl, HM⟩ (Sub.cons rfl (Sub.cons rfl (Sub.cons rfl Sub.nil)))
      · replace ho1001 := cond_f hb1017 ho1001
        refine run_exit ?_
        refine at_then_exit ?_
        refine at_then_exit ?_
        refine at_block_exit ?_
        exact at_mid (ρ' := []) ⟨(Option.some.inj ho1001), rfl, HM⟩ Sub.nil
    · rintro _ w1023 ⟨rfl, rfl, HM⟩
      replace H := (thn_inr H)
      refine run_seq ?_
      refine run_region rfl ?_
      refine ops_ex rfl (guard_none rfl) rfl rfl (ex_assign rfl rfl) ?_
      refine ops_nil ?_
      refine at_then ?_
      refine run_ret ?_
      have hR := Option.some.inj H
      subst hR
      exact at_ret1 rfl rfl ⟨_, rfl, rfl, HM⟩

def laws_eqRule.f (k : Nat) (x0 : Rule) (x1 : Rule) : Option Bool := ((laws_eqInt64S.f k x0.fKeys x1.fKeys).bind fun t1044 => (bif !t1044 then some false else (bif (x0.fNeed != x1.fNeed) then some false else (bif (x0.fAfter != x1.fAfter) then some false else some true))))
theorem laws_eqRule.calls {k : Nat} {x0 : Rule} {x1 : Rule} {p0_0 : Value} {p1_0 : Value} {w : World} (hp0_0 : RdS kInt w p0_0 x0.fKeys) (hp1_0 : RdS kInt w p1_0 x1.fKeys) {r : Bool} (H : laws_eqRule.f k x0 x1 = some r) :
    Calls Tryd.prog 10 ([.agg #[p0_0, (.int .i64 x0.fNeed), (.int .i64 x0.fAfter)], .agg #[p1_0, (.int .i64 x1.fNeed), (.int .i64 x1.fAfter)]] : List Value).toArray w (fun e w_ => ∃ v, e = .returned v ∧ v = (.bool r) ∧ Mem w [] w_ []) := by
  have HM := Mem.start w
  refine calls_run (N := 21) Tryd.func10 rfl rfl rfl rfl ?_
  unfold laws_eqRule.f at H
  refine run_seq ?_
  refine run_region rfl ?_
  refine ops_does rfl (guard_none rfl) rfl rfl (does_box (cs := [p0_0, .int .i64 x0.fNeed, .int .i64 x0.fAfter]) rfl rfl rfl HM) ?_
  rintro _ w1039 ⟨b1033, rfl, HM⟩
  refine ops_does rfl (guard_none rfl) rfl rfl (does_box (cs := [p1_0, .int .i64 x1.fNeed, .int .i64 x1.fAfter]) rfl rfl rfl HM) ?_
  rintro _ w1040 ⟨b1036, rfl, HM⟩
  refine ops_ex rfl (guard_none rfl) rfl rfl (ex_assign rfl rfl) ?_
  refine ops_nil ?_
  refine at_then ?_
  refine run_seq ?_
  refine run_seq ?_
  obtain ⟨t1044, h1045, H⟩ := bind_some H
  refine run_region rfl ?_
  refine ops_ex rfl (guard_none rfl) rfl rfl (ex_fieldAddr (off' := 0) rfl rfl Tryd.underlying29 rfl tsz22 rfl) ?_
  refine ops_ex rfl (guard_none rfl) rfl rfl (ex_load1 rfl rfl Tryd.underlying22 rfl ((HM.box_at 1 rfl) 0 _ rfl)) ?_
  refine ops_ex rfl (guard_none rfl) rfl rfl (ex_fieldAddr (off' := 0) rfl rfl Tryd.underlying29 rfl tsz22 rfl) ?_
  refine ops_ex rfl (guard_none rfl) rfl rfl (ex_load1 rfl rfl Tryd.underlying22 rfl ((HM.box_at 0 rfl) 0 _ rfl)) ?_
  refine ops_does rfl (guard_none rfl) rfl rfl (does_callk rfl callok22 rfl (laws_eqInt64S.calls (x0 := x0.fKeys) (x1 := x1.fKeys) (HM.rd hp0_0) (HM.rd hp1_0) h1045)) ?_
  rintro _ w1046 ⟨rfl, hn⟩
  replace HM : Mem w [] w1046 [box b1036 29 [p1_0, .int .i64 x1.fNeed, .int .i64 x1.fAfter], box b1033 29 [p0_0, .int .i64 x0.fNeed, .int .i64 x0.fAfter]] := HM.call hn
  refine ops_ex rfl (guard_none rfl) rfl rfl (ex_not rfl rfl) ?_
  refine ops_nil ?_
  refine at_then ?_
  refine run_cond (b := !t1044) rfl (fun hb1047 => ?_) (fun hb1047 => ?_)
  · replace H := cond_t hb1047 H
    refine run_seq ?_
    refine run_region rfl ?_
    refine ops_ex rfl (guard_none rfl) rfl rfl (ex_assign rfl rfl) ?_
    refine ops_nil ?_
    refine at_then ?_
    refine run_ret ?_
    refine at_then_ret ?_
    replace HM := (HM.front 0 rfl rfl).drop
    replace HM := (HM.front 0 rfl rfl).drop
    have hR := Option.some.inj H
    subst hR
    exact at_ret1 rfl rfl ⟨_, rfl, rfl, HM⟩
  · replace H := cond_f hb1047 H
    refine run_skip ?_
    refine at_then ?_
    refine run_seq ?_
    refine run_seq ?_
    refine run_region rfl ?_
    refine ops_ex rfl (guard_none rfl) rfl rfl (ex_fieldAddr (off' := 1) rfl rfl Tryd.underlying29 rfl tsz2 rfl) ?_
    refine ops_ex rfl (guard_none rfl) rfl rfl (ex_load1 rfl rfl Tryd.underlying2 rfl ((HM.box_at 1 rfl) 1 _ rfl)) ?_
    refine ops_ex rfl (guard_none rfl) rfl rfl (ex_fieldAddr (off' := 1) rfl rfl Tryd.underlying29 rfl tsz2 rfl) ?_
    refine ops_ex rfl (guard_none rfl) rfl rfl (ex_load1 rfl rfl Tryd.underlying2 rfl ((HM.box_at 0 rfl) 1 _ rfl)) ?_
    refine ops_ex rfl (guard_none rfl) rfl rfl (ex_neq rfl rfl rfl) ?_
    refine ops_nil ?_
    refine at_then ?_
    refine run_cond (b := (x0.fNeed != x1.fNeed)) rfl (fun hb1049 => ?_) (fun hb1049 => ?_)
    · replace H := cond_t hb1049 H
      refine run_seq ?_
      refine run_region rfl ?_
      refine ops_ex rfl (guard_none rfl) rfl rfl (ex_assign rfl rfl) ?_
      refine ops_nil ?_
      refine at_then ?_
      refine run_ret ?_
      refine at_then_ret ?_
      replace HM := (HM.front 0 rfl rfl).drop
      replace HM := (HM.front 0 rfl rfl).drop
      have hR := Option.some.inj H
      subst hR
      exact at_ret1 rfl rfl ⟨_, rfl, rfl, HM⟩
    · replace H := cond_f hb1049 H
      refine run_skip ?_
      refine at_then ?_
      refine run_seq ?_
      refine run_seq ?_
      refine run_region rfl ?_
      refine ops_ex rfl (guard_none rfl) rfl rfl (ex_fieldAddr (off' := 2) rfl rfl Tryd.underlying29 rfl tsz2 rfl) ?_
      refine ops_ex rfl (guard_none rfl) rfl rfl (ex_load1 rfl rfl Tryd.underlying2 rfl ((HM.box_at 1 rfl) 2 _ rfl)) ?_
      refine ops_ex rfl (guard_none rfl) rfl rfl (ex_fieldAddr (off' := 2) rfl rfl Tryd.underlying29 rfl tsz2 rfl) ?_
      refine ops_ex rfl (guard_none rfl) rfl rfl (ex_load1 rfl rfl Tryd.underlying2 rfl ((HM.box_at 0 rfl) 2 _ rfl)) ?_
      refine ops_ex rfl (guard_none rfl) rfl rfl (ex_neq rfl rfl rfl) ?_
      refine ops_nil ?_
      refine at_then ?_
      refine run_cond (b := (x0.fAfter != x1.fAfter)) rfl (fun hb1050 => ?_) (fun hb1050 => ?_)
      · replace H := cond_t hb1050 H
        refine run_seq ?_
        refine run_region rfl ?_
        refine ops_ex rfl (guard_none rfl) rfl rfl (ex_assign rfl rfl) ?_
        refine ops_nil ?_
        refine at_then ?_
        refine run_ret ?_
        refine at_then_ret ?_
        replace HM := (HM.front 0 rfl rfl).drop
        replace HM := (HM.front 0 rfl rfl).drop
        have hR := Option.some.inj H
        subst hR
        exact at_ret1 rfl rfl ⟨_, rfl, rfl, HM⟩
      · replace H := cond_f hb1050 H
        refine run_skip ?_
        refine at_then ?_
        refine run_seq ?_
        refine run_region rfl ?_
        refine ops_ex rfl (guard_none rfl) rfl rfl (ex_assign rfl rfl) ?_
        refine ops_nil ?_
        refine at_then ?_
        refine run_ret ?_
        replace HM := (HM.front 0 rfl rfl).drop
        replace HM := (HM.front 0 rfl rfl).drop
        have hR := Option.some.inj H
        subst hR
        exact at_ret1 rfl rfl ⟨_, rfl, rfl, HM⟩

def laws_FnExactRuleText.f (k : Nat) (x0 : Rule) : Option Bool := ((laws_szRule.f k x0 1048576).bind fun t1058 => (bif (decide (t1058 < 0)) then some true else ((laws_toRule.f k x0).bind fun t1063 => ((spec_RuleText.f k t1063).bind fun t1067 => ((laws_toRule.f k x0).bind fun t1076 => ((impl_RuleText.f k t1076).bind fun t1086 => ((laws_eqTextResult.f k t1086 t1067).bind fun t1097 => (bif !t1097 then some false else ((laws_toRule.f k x0).bind fun t1101 => ((laws_eqRule.f k t1076 t1101).bind fun t1105 => (bif !t1105 then some false else some true)))))))))))
theorem laws_FnExactRuleText.calls {k : Nat} {x0 : Rule} {p0_0 : Value} {w : World} (htab : Tab w) (hp0_0 : RdS kInt w p0_0 x0.fKeys) {r : Bool} (H : laws_FnExactRuleText.f k x0 = some r) :
    Calls Tryd.prog 3 ([.agg #[p0_0, (.int .i64 x0.fNeed), (.int .i64 x0.fAfter)]] : List Value).toArray w (fun e w_ => ∃ v, e = .returned v ∧ v = (.bool r) ∧ Mem w [] w_ []) := by
  have HM := Mem.start w
  refine calls_run (N := 28) Tryd.func3 rfl rfl rfl rfl ?_
  unfold laws_FnExactRuleText.f at H
  refine run_seq ?_
  refine run_region rfl ?_
  refine ops_does rfl (guard_none rfl) rfl rfl (does_box (cs := [p0_0, .int .i64 x0.fNeed, .int .i64 x0.fAfter]) rfl rfl rfl HM) ?_
  rintro _ w1057 ⟨b1054, rfl, HM⟩
  refine ops_ex rfl (guard_none rfl) rfl rfl (ex_assign rfl rfl) ?_
  refine ops_nil ?_
  refine at_then ?_
  refine run_seq ?_
  refine run_region rfl ?_
  refine ops_ex rfl (guard_none rfl) rfl rfl (ex_assign rfl rfl) ?_
  refine ops_nil ?_
  refine at_then ?_
  refine run_seq ?_
  obtain ⟨t1058, h1059, H⟩ := bind_some H
  refine run_region rfl ?_
  refine ops_ex rfl (guard_none rfl) rfl rfl (ex_loadN (cs := [p0_0, (.int .i64 x0.fNeed), (.int .i64 x0.fAfter)]) rfl rfl Tryd.underlying24 rfl tsz24 rfl ((HM.box_at 0 rfl).sub 0 3 rfl)) ?_
  refine ops_ex rfl (guard_none rfl) rfl rfl (ex_move rfl rfl) ?_
  refine ops_does rfl (guard_none rfl) rfl rfl (does_callk rfl callok5 rfl (laws_szRule.calls (x0 := x0) (x1 := 1048576) (HM.rd hp0_0) h1059)) ?_
  rintro _ w1060 ⟨rfl, hn⟩
  replace HM : Mem w [] w1060 [box b1054 24 [p0_0, .int .i64 x0.fNeed, .int .i64 x0.fAfter]] := HM.call hn
  refine ops_ex rfl (guard_none rfl) rfl rfl (ex_assign rfl rfl) ?_
  refine ops_nil ?_
  refine at_then ?_
  refine run_seq ?_
  refine run_seq ?_
  refine run_region rfl ?_
  refine ops_ex rfl (guard_none rfl) rfl rfl (ex_move rfl rfl) ?_
  refine ops_ex rfl (guard_none rfl) rfl rfl (ex_lss rfl rfl rfl) ?_
  refine ops_nil ?_
  refine at_then ?_
  refine run_cond (b := (decide (t1058 < 0))) rfl (fun hb1062 => ?_) (fun hb1062 => ?_)
  · replace H := cond_t hb1062 H
    refine run_seq ?_
    refine run_region rfl ?_
    refine ops_ex rfl (guard_none rfl) rfl rfl (ex_assign rfl rfl) ?_
    refine ops_nil ?_
    refine at_then ?_
    refine run_ret ?_
    refine at_then_ret ?_
    replace HM := (HM.front 0 rfl rfl).drop
    have hR := Option.some.inj H
    subst hR
    exact at_ret1 rfl rfl ⟨_, rfl, rfl, HM⟩
  · replace H := cond_f hb1062 H
    refine run_skip ?_
    refine at_then ?_
    refine run_seq ?_
    obtain ⟨t1063, h1064, H⟩ := bind_some H
    obtain ⟨t1067, h1068, H⟩ := bind_some H
    refine run_region rfl ?_
    refine ops_ex rfl (guard_none rfl) rfl rfl (ex_loadN (cs := [p0_0, (.int .i64 x0.fNeed), (.int .i64 x0.fAfter)]) rfl rfl Tryd.underlying24 rfl tsz24 rfl ((HM.box_at 0 rfl).sub 0 3 rfl)) ?_
    refine ops_does rfl (guard_none rfl) rfl rfl (does_callk rfl callok7 rfl (laws_toRule.calls (x0 := x0) (HM.rd hp0_0) h1064)) ?_
    rintro _ w1072 ⟨u1065, rfl, hn⟩
    replace HM : Mem w [] w1072 [own kInt 2 u1065 t1063.fKeys, box b1054 24 [p0_0, .int .i64 x0.fNeed, .int .i64 x0.fAfter]] := HM.call hn
    refine ops_does rfl (guard_none rfl) rfl rfl (does_callk rfl callok6 rfl (spec_RuleText.calls (x0 := t1063) (HM.own_rd 0 rfl) h1068)) ?_
    rintro _ w1073 ⟨rfl, hn⟩
    replace HM : Mem w [] w1073 [own kInt 2 u1065 t1063.fKeys, box b1054 24 [p0_0, .int .i64 x0.fNeed, .int .i64 x0.fAfter]] := HM.call hn
    refine ops_does rfl (guard_none rfl) rfl rfl (does_alloc (cs := [.int .i64 0, .string (⟨#[]⟩ : ByteArray)]) rfl tz27 rfl HM) ?_
    rintro _ w1074 ⟨b1069, rfl, HM⟩
    refine ops_doesS rfl (guard_none rfl) rfl (does_store (vs := [.int .i64 t1067.fCode, .string t1067.fText]) (cs' := [.int .i64 t1067.fCode, .string t1067.fText]) rfl rfl rfl rfl tsz27 (Ones.int (Ones.str Ones.nil)) rfl rfl HM) ?_
    rintro w1075 HM
    refine ops_nil ?_
    refine at_then ?_
    refine run_seq ?_
    obtain ⟨t1076, h1077, H⟩ := bind_some H
    refine run_region rfl ?_
    refine ops_ex rfl (guard_none rfl) rfl rfl (ex_loadN (cs := [p0_0, (.int .i64 x0.fNeed), (.int .i64 x0.fAfter)]) rfl rfl Tryd.underlying24 rfl tsz24 rfl ((HM.box_at 2 rfl).sub 0 3 rfl)) ?_
    refine ops_does rfl (guard_none rfl) rfl rfl (does_callk rfl callok7 rfl (laws_toRule.calls (x0 := x0) (HM.rd hp0_0) h1077)) ?_
    rintro _ w1083 ⟨u1078, rfl, hn⟩
    replace HM : Mem w [] w1083 [own kInt 2 u1078 t1076.fKeys, box b1069 27 [.int .i64 t1067.fCode, .string t1067.fText], own kInt 2 u1065 t1063.fKeys, box b1054 24 [p0_0, .int .i64 x0.fNeed, .int .i64 x0.fAfter]] := HM.call hn
    refine ops_does rfl (guard_none rfl) rfl rfl (does_alloc (cs := [.slice none 0 0, .int .i64 0, .int .i64 0]) rfl tz29 rfl HM) ?_
    rintro _ w1084 ⟨b1080, rfl, HM⟩
    refine ops_doesS rfl (guard_none rfl) rfl (does_store (vs := [u1078, .int .i64 t1076.fNeed, .int .i64 t1076.fAfter]) (cs' := [u1078, .int .i64 t1076.fNeed, .int .i64 t1076.fAfter]) rfl rfl rfl rfl tsz29 (Ones.rd (HM.own_rd 1 rfl) (Ones.int (Ones.int Ones.nil))) rfl rfl HM) ?_
    rintro w1085 HM
    refine ops_nil ?_
    refine at_then ?_
    refine run_seq ?_
    obtain ⟨t1086, h1087, H⟩ := bind_some H
    refine run_region rfl ?_
    refine ops_ex rfl (guard_none rfl) rfl rfl (ex_loadN (cs := [u1078, (.int .i64 t1076.fNeed), (.int .i64 t1076.fAfter)]) rfl rfl Tryd.underlying29 rfl tsz29 rfl ((HM.box_at 0 rfl).sub 0 3 rfl)) ?_
    refine ops_does rfl (guard_none rfl) rfl rfl (does_callk rfl callok8 rfl (impl_RuleText.calls (x0 := t1076) (HM.tab htab) (HM.own_rd 1 rfl) h1087)) ?_
    rintro _ w1091 ⟨rfl, hn⟩
    replace HM : Mem w [] w1091 [box b1080 29 [u1078, .int .i64 t1076.fNeed, .int .i64 t1076.fAfter], own kInt 2 u1078 t1076.fKeys, box b1069 27 [.int .i64 t1067.fCode, .string t1067.fText], own kInt 2 u1065 t1063.fKeys, box b1054 24 [p0_0, .int .i64 x0.fNeed, .int .i64 x0.fAfter]] := HM.call hn
    refine ops_does rfl (guard_none rfl) rfl rfl (does_alloc (cs := [.int .i64 0, .string (⟨#[]⟩ : ByteArray)]) rfl tz27 rfl HM) ?_
    rintro _ w1092 ⟨b1088, rfl, HM⟩
    refine ops_doesS rfl (guard_none rfl) rfl (does_store (vs := [.int .i64 t1086.fCode, .string t1086.fText]) (cs' := [.int .i64 t1086.fCode, .string t1086.fText]) rfl rfl rfl rfl tsz27 (Ones.int (Ones.str Ones.nil)) rfl rfl HM) ?_
    rintro w1093 HM
    refine ops_nil ?_
    refine at_then ?_
    refine run_seq ?_
    refine run_seq ?_
    obtain ⟨t1097, h1098, H⟩ := bind_some H
    refine run_region rfl ?_
    refine ops_ex rfl (guard_none rfl) rfl rfl (ex_loadN (cs := [(.int .i64 t1086.fCode), (.string t1086.fText)]) rfl rfl Tryd.underlying27 rfl tsz27 rfl ((HM.box_at 0 rfl).sub 0 2 rfl)) ?_
    refine ops_ex rfl (guard_none rfl) rfl rfl (ex_loadN (cs := [(.int .i64 t1067.fCode), (.string t1067.fText)]) rfl rfl Tryd.underlying27 rfl tsz27 rfl ((HM.box_at 3 rfl).sub 0 2 rfl)) ?_
    refine ops_does rfl (guard_none rfl) rfl rfl (does_callk rfl callok9 rfl (laws_eqTextResult.calls (x0 := t1086) (x1 := t1067) h1098)) ?_
    rintro _ w1099 ⟨rfl, hn⟩
    replace HM : Mem w [] w1099 [box b1088 27 [.int .i64 t1086.fCode, .string t1086.fText], box b1080 29 [u1078, .int .i64 t1076.fNeed, .int .i64 t1076.fAfter], own kInt 2 u1078 t1076.fKeys, box b1069 27 [.int .i64 t1067.fCode, .string t1067.fText], own kInt 2 u1065 t1063.fKeys, box b1054 24 [p0_0, .int .i64 x0.fNeed, .int .i64 x0.fAfter]] := HM.call hn
    refine ops_ex rfl (guard_none rfl) rfl rfl (ex_not rfl rfl) ?_
    refine ops_nil ?_
    refine at_then ?_
    refine run_cond (b := !t1097) rfl (fun hb1100 => ?_) (fun hb1100 => ?_)
    · replace H := cond_t hb1100 H
      refine run_seq ?_
      refine run_region rfl ?_
      refine ops_ex rfl (guard_none rfl) rfl rfl (ex_assign rfl rfl) ?_
      refine ops_nil ?_
      refine at_then ?_
      refine run_ret ?_
      refine at_then_ret ?_
      replace HM := (HM.front 0 rfl rfl).drop
      replace HM := (HM.front 0 rfl rfl).drop
      replace HM := (HM.front 0 rfl rfl).drop
      replace HM := (HM.front 0 rfl rfl).drop
      replace HM := (HM.front 0 rfl rfl).drop
      replace HM := (HM.front 0 rfl rfl).drop
      have hR := Option.some.inj H
      subst hR
      exact at_ret1 rfl rfl ⟨_, rfl, rfl, HM⟩
    · replace H := cond_f hb1100 H
      refine run_skip ?_
      refine at_then ?_
      refine run_seq ?_
      refine run_seq ?_
      obtain ⟨t1101, h1102, H⟩ := bind_some H
      obtain ⟨t1105, h1106, H⟩ := bind_some H
      refine run_drawf (fun w_ => Mem w [] w_ [box b1088 27 [.int .i64 t1086.fCode, .string t1086.fText], box b1080 29 [u1078, .int .i64 t1076.fNeed, .int .i64 t1076.fAfter], own kInt 2 u1078 t1076.fKeys, box b1069 27 [.int .i64 t1067.fCode, .string t1067.fText], own kInt 2 u1065 t1063.fKeys, box b1054 24 [p0_0, .int .i64 x0.fNeed, .int .i64 x0.fAfter]]) [(0, true), (1, true), (2, false), (3, false), (4, true)] mixed rfl rfl (by kernel_rfl) ?_
      replace HM := HM.grow (fr_drew _)
      have hS := Mem.suf (M := []) HM
      refine drwp_take rfl (guard_none rfl) rfl rfl (fun w_ hS_ => (ex_loadN (cs := [u1078, (.int .i64 t1076.fNeed), (.int .i64 t1076.fAfter)]) rfl rfl Tryd.underlying29 rfl tsz29 rfl ((hS_.box_at 1 rfl).sub 0 3 rfl))) hS ?_
      refine drwp_take rfl (guard_none rfl) rfl rfl (fun w_ hS_ => (ex_loadN (cs := [p0_0, (.int .i64 x0.fNeed), (.int .i64 x0.fAfter)]) rfl rfl Tryd.underlying24 rfl tsz24 rfl ((hS_.box_at 5 rfl).sub 0 3 rfl))) hS ?_
      refine drwp_one rfl (guard_none rfl) rfl rfl (does_callk rfl callok7 rfl (laws_toRule.calls (x0 := x0) (HM.rd hp0_0) h1102)) ?_
      rintro _ w1107 ⟨u1103, rfl, hn⟩
      replace HM : Mem w [] w1107 [own kInt 2 u1103 t1101.fKeys, box b1088 27 [.int .i64 t1086.fCode, .string t1086.fText], box b1080 29 [u1078, .int .i64 t1076.fNeed, .int .i64 t1076.fAfter], own kInt 2 u1078 t1076.fKeys, box b1069 27 [.int .i64 t1067.fCode, .string t1067.fText], own kInt 2 u1065 t1063.fKeys, box b1054 24 [p0_0, .int .i64 x0.fNeed, .int .i64 x0.fAfter]] := HM.call hn
      refine ⟨Mem.suf (M := [own kInt 2 u1103 t1101.fKeys]) HM, ?_⟩
      have hS := Mem.suf (M := [own kInt 2 u1103 t1101.fKeys]) HM
      refine drwp_one rfl (guard_none rfl) rfl rfl (does_callk rfl callok10 rfl (laws_eqRule.calls (x0 := t1076) (x1 := t1101) (HM.own_rd 3 rfl) (HM.own_rd 0 rfl) h1106)) ?_
      rintro _ w1108 ⟨rfl, hn⟩
      replace HM : Mem w [] w1108 [own kInt 2 u1103 t1101.fKeys, box b1088 27 [.int .i64 t1086.fCode, .string t1086.fText], box b1080 29 [u1078, .int .i64 t1076.fNeed, .int .i64 t1076.fAfter], own kInt 2 u1078 t1076.fKeys, box b1069 27 [.int .i64 t1067.fCode, .string t1067.fText], own kInt 2 u1065 t1063.fKeys, box b1054 24 [p0_0, .int .i64 x0.fNeed, .int .i64 x0.fAfter]] := HM.call hn
      refine ⟨Mem.suf (M := [own kInt 2 u1103 t1101.fKeys]) HM, ?_⟩
      have hS := Mem.suf (M := [own kInt 2 u1103 t1101.fKeys]) HM
      refine drwp_take rfl (guard_none rfl) rfl rfl (fun w_ hS_ => (ex_not rfl rfl)) hS ?_
      refine drwp_done ?_
      refine at_then ?_
      refine run_cond (b := !t1105) rfl (fun hb1109 => ?_) (fun hb1109 => ?_)
      · replace H := cond_t hb1109 H
        refine run_seq ?_
        refine run_region rfl ?_
        refine ops_ex rfl (guard_none rfl) rfl rfl (ex_assign rfl rfl) ?_
        refine ops_nil ?_
        refine at_then ?_
        refine run_ret ?_
        refine at_then_ret ?_
        replace HM := (HM.front 0 rfl rfl).drop
        replace HM := (HM.front 0 rfl rfl).drop
        replace HM := (HM.front 0 rfl rfl).drop
        replace HM := (HM.front 0 rfl rfl).drop
        replace HM := (HM.front 0 rfl rfl).drop
        replace HM := (HM.front 0 rfl rfl).drop
        replace HM := (HM.front 0 rfl rfl).drop
        have hR := Option.some.inj H
        subst hR
        exact at_ret1 rfl rfl ⟨_, rfl, rfl, HM⟩
      · replace H := cond_f hb1109 H
        refine run_skip ?_
        refine at_then ?_
        refine run_seq ?_
        refine run_region rfl ?_
        refine ops_ex rfl (guard_none rfl) rfl rfl (ex_assign rfl rfl) ?_
        refine ops_nil ?_
        refine at_then ?_
        refine run_ret ?_
        replace HM := (HM.front 0 rfl rfl).drop
        replace HM := (HM.front 0 rfl rfl).drop
        replace HM := (HM.front 0 rfl rfl).drop
        replace HM := (HM.front 0 rfl rfl).drop
        replace HM := (HM.front 0 rfl rfl).drop
        replace HM := (HM.front 0 rfl rfl).drop
        replace HM := (HM.front 0 rfl rfl).drop
        have hR := Option.some.inj H
        subst hR
        exact at_ret1 rfl rfl ⟨_, rfl, rfl, HM⟩
end Go.Proofs.YtdhkcglfeiapoaaDoor.Zk
