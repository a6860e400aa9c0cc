/- What functions of the program compute, each as a plain function, and that they do. Conditions: as each theorem states them. -/
import Derived.Test.YtmaolhocmkkmjaaGreatDoorFnTextsZkF6
namespace Go.Proofs.YtmaolhocmkkmjaaGreatDoor.Zk
open Go Go.RowKit Go.IntWalk Go.Proofs
set_option linter.unusedVariables false
set_option linter.unusedSimpArgs false
set_option maxRecDepth 100000
set_option maxHeartbeats 4000000
def spec_l2Fault.l0 (x0 : Rule) : Nat → Int → Option (Int ⊕ Unit)
  | 0, _ => none
  | k + 1, a5291 => (bif (decide (a5291 < (x0.fKeys.length : Int))) then (chk (idxOk a5291 x0.fKeys.length) ((spec_l1Key.f k (gt x0.fKeys a5291)).bind fun t5303 => (bif !t5303 then some (.inl 3) else spec_l2Fault.l0 x0 k (wrap64 (a5291 + 1))))) else some (.inr ()))
theorem spec_l2Fault.l0_z (x0 : Rule) (a5291 : Int) : spec_l2Fault.l0 x0 0 a5291 = none := rfl
theorem spec_l2Fault.l0_s (x0 : Rule) (k : Nat) (a5291 : Int) : spec_l2Fault.l0 x0 (k + 1) a5291 = (bif (decide (a5291 < (x0.fKeys.length : Int))) then (chk (idxOk a5291 x0.fKeys.length) ((spec_l1Key.f k (gt x0.fKeys a5291)).bind fun t5303 => (bif !t5303 then some (.inl 3) else spec_l2Fault.l0 x0 k (wrap64 (a5291 + 1))))) else some (.inr ())) := rfl
def spec_l2Fault.l1 (x0 : Rule) : Nat → Int → Option (Int ⊕ Unit)
  | 0, _ => none
  | k + 1, a5350 => (bif (decide (a5350 < (x0.fKeys.length : Int))) then (chk (idxOk a5350 x0.fKeys.length) (chk (idxOk (wrap64 (a5350 - 1)) x0.fKeys.length) (bif (decide ((gt x0.fKeys a5350) ≤ (gt x0.fKeys (wrap64 (a5350 - 1))))) then some (.inl 1) else spec_l2Fault.l1 x0 k (wrap64 (a5350 + 1))))) else some (.inr ()))
theorem spec_l2Fault.l1_z (x0 : Rule) (a5350 : Int) : spec_l2Fault.l1 x0 0 a5350 = none := rfl
theorem spec_l2Fault.l1_s (x0 : Rule) (k : Nat) (a5350 : Int) : spec_l2Fault.l1 x0 (k + 1) a5350 = (bif (decide (a5350 < (x0.fKeys.length : Int))) then (chk (idxOk a5350 x0.fKeys.length) (chk (idxOk (wrap64 (a5350 - 1)) x0.fKeys.length) (bif (decide ((gt x0.fKeys a5350) ≤ (gt x0.fKeys (wrap64 (a5350 - 1))))) then some (.inl 1) else spec_l2Fault.l1 x0 k (wrap64 (a5350 + 1))))) else some (.inr ())) := rfl
def spec_l2Fault.f (k : Nat) (x0 : Rule) : Option Int := ((spec_l1In.f k (x0.fKeys.length : Int) 1 3).bind fun t5260 => (bif !t5260 then some 2 else ((spec_l2Fault.l0 x0 k 0).bind fun o5283 => thn o5283 (fun r => some r) (fun _ => ((spec_l1In.f k x0.fNeed 1 (x0.fKeys.length : Int)).bind fun t5313 => ((bif (!(!t5313)) then spec_l2Height.f k x0.fAfter else some default).bind fun t5315 => (bif ((!t5313) || (!t5315)) then some 3 else ((spec_l2Fault.l1 x0 k 1).bind fun o5342 => thn o5342 (fun r => some r) (fun _ => some 0)))))))))
theorem spec_l2Fault.calls {k : Nat} {x0 : Rule} {b0 f0 : Nat} {p0_0 : Value} {w : World} (hc0 : CellsAt w b0 f0 [p0_0, .int .i64 x0.fNeed, .int .i64 x0.fAfter]) (hp0_0 : RdS kInt w p0_0 x0.fKeys) {r : Int} (H : spec_l2Fault.f k x0 = some r) :
    Calls Tryz.prog 75 ([.pointer (some ⟨b0, f0, none⟩)] : List Value).toArray w (fun e w_ => ∃ v, e = .returned v ∧ v = (.int .i64 r) ∧ Mem w [] w_ []) := by
  have HM := Mem.start w
  refine calls_run (N := 72) Tryz.func75 rfl rfl rfl rfl ?_
  unfold spec_l2Fault.f at H
  refine run_seq ?_
  refine run_region rfl ?_
  refine ox rfl rfl rfl rfl (ex_assign rfl rfl) ?_
  refine ops_nil (at_then (run_seq ?_))
  refine run_region rfl ?_
  refine ox rfl rfl rfl rfl (ex_move rfl rfl) ?_
  refine ox rfl rfl rfl rfl (ex_nilCheck rfl rfl) ?_
  refine ox rfl rfl rfl rfl (ex_fieldAddr (off' := f0) rfl rfl Tryz.underlying42 rfl tsz40 rfl) ?_
  refine ox rfl rfl rfl rfl (ex_load1 rfl rfl Tryz.underlying40 rfl ((HM.at_ hc0) 0 _ rfl)) ?_
  refine ox rfl rfl rfl rfl (ex_len (d := kInt) (xs := x0.fKeys) rfl rfl Tryz.underlying40 hp0_0) ?_
  refine ox rfl rfl rfl rfl (ex_assign rfl rfl) ?_
  refine ops_nil (at_then (run_seq ?_))
  refine run_seq ?_
  obtain ⟨t5260, h5261, H⟩ := bind_some H
  refine run_region rfl ?_
  refine ox rfl rfl rfl rfl (ex_move rfl rfl) ?_
  refine od rfl rfl rfl rfl (does_callk rfl callok56 rfl (spec_l1In.calls (x0 := (x0.fKeys.length : Int)) (x1 := 1) (x2 := 3) h5261)) ?_
  rintro _ w5262 ⟨rfl, hn⟩
  replace HM : Mem w [] w5262 [] := HM.call hn
  refine ox rfl rfl rfl rfl (ex_not rfl rfl) ?_
  refine ops_nil (at_then ?_)
  refine run_cond (b := !t5260) rfl (fun hb5263 => ?_) (fun hb5263 => ?_)
  · replace H := cond_t hb5263 H
    refine run_seq ?_
    refine run_region rfl ?_
    refine ox rfl rfl rfl rfl (ex_assign rfl rfl) ?_
    refine ops_nil (at_then ?_)
    refine run_ret ?_
    refine at_then_ret ?_
    have hR := Option.some.inj H
    subst hR
    exact at_ret1 rfl rfl ⟨_, rfl, rfl, HM⟩
  · replace H := cond_f hb5263 H
    refine run_skip ?_
    refine at_then ?_
    obtain ⟨o5283, ho5284, H⟩ := bind_some H
    refine run_mid (fun ρ_ w_ => Sum.inr () = o5283 ∧ ρ_ = [(0, .pointer (some ⟨b0, f0, none⟩)), (3, .int .i64 (x0.fKeys.length : Int))] ∧ Mem w [] w_ []) ?_ ?_
    · skip
      refine run_seq ?_
      refine run_region rfl ?_
      refine ox rfl rfl rfl rfl (ex_assign rfl rfl) ?_
      refine ops_nil (at_then ?_)
      refine run_block ?_
      refine run_loop (fun k_ ρ_ w_ => ∃ a5291 : Int, spec_l2Fault.l0 x0 k_ a5291 = some o5283 ∧ ρ_ = [(0, .pointer (some ⟨b0, f0, none⟩)), (3, .int .i64 (x0.fKeys.length : Int)), (4, .int .i64 a5291)] ∧ Mem w [] w_ []) k (ρ1 := [(0, .pointer (some ⟨b0, f0, none⟩)), (3, .int .i64 (x0.fKeys.length : Int)), (4, .int .i64 0)]) ⟨_, ho5284, rfl, HM⟩ (Sub.cons rfl (Sub.cons rfl (Sub.cons rfl Sub.nil))) ?_
      clear HM ho5284
      rintro k5298 _ w5299 ⟨a5291, ho5284, rfl, HM⟩
      obtain _ | k5298 := k5298
      · exact nomatch ((spec_l2Fault.l0_z x0 a5291).symm.trans ho5284)
      replace ho5284 := (spec_l2Fault.l0_s x0 k5298 a5291).symm.trans ho5284
      refine run_seq ?_
      refine run_seq ?_
      refine run_region rfl ?_
      refine ox rfl rfl rfl rfl (ex_move rfl rfl) ?_
      refine ox rfl rfl rfl rfl (ex_move rfl rfl) ?_
      refine ox rfl rfl rfl rfl (ex_nilCheck rfl rfl) ?_
      refine ox rfl rfl rfl rfl (ex_fieldAddr (off' := f0) rfl rfl Tryz.underlying42 rfl tsz40 rfl) ?_
      refine ox rfl rfl rfl rfl (ex_load1 rfl rfl Tryz.underlying40 rfl ((HM.at_ hc0) 0 _ rfl)) ?_
      refine ox rfl rfl rfl rfl (ex_len (d := kInt) (xs := x0.fKeys) rfl rfl Tryz.underlying40 hp0_0) ?_
      refine ox rfl rfl rfl rfl (ex_lss rfl rfl rfl) ?_
      refine ops_nil (at_then ?_)
      refine run_cond (b := (decide (a5291 < (x0.fKeys.length : Int)))) rfl (fun hb5300 => ?_) (fun hb5300 => ?_)
      · replace ho5284 := cond_t hb5300 ho5284
        refine run_skip ?_
        refine at_then ?_
        refine run_seq ?_
        refine run_block ?_
        refine run_seq ?_
        obtain ⟨e5301, ho5284⟩ := chk_some ho5284
        obtain ⟨t5303, h5304, ho5284⟩ := bind_some ho5284
        refine run_region rfl ?_
        refine ox rfl rfl rfl rfl (ex_move rfl rfl) ?_
        refine ox rfl rfl rfl rfl (ex_nilCheck rfl rfl) ?_
        refine ox rfl rfl rfl rfl (ex_fieldAddr (off' := f0) rfl rfl Tryz.underlying42 rfl tsz40 rfl) ?_
        refine ox rfl rfl rfl rfl (ex_load1 rfl rfl Tryz.underlying40 rfl ((HM.at_ hc0) 0 _ rfl)) ?_
        refine ox rfl rfl rfl rfl (ex_move rfl rfl) ?_
        have hc5302 : CellsAt _ (sb p0_0) (so p0_0 + (a5291).toNat * 1) [(.int .i64 (gt x0.fKeys a5291))] := rd_plain hp0_0 e5301
        refine ox rfl rfl rfl rfl (ex_indexAddr (d := kInt) rfl rfl rfl Tryz.underlying40 tsz2 hp0_0 (idx_lo e5301) (idx_hi e5301)) ?_
        refine ox rfl rfl rfl rfl (ex_load1 rfl rfl Tryz.underlying2 rfl ((HM.at_ hc5302) 0 _ rfl)) ?_
        refine od rfl rfl rfl rfl (does_callk rfl callok57 rfl (spec_l1Key.calls (x0 := (gt x0.fKeys a5291)) h5304)) ?_
        rintro _ w5305 ⟨rfl, hn⟩
        replace HM : Mem w [] w5305 [] := HM.call hn
        refine ox rfl rfl rfl rfl (ex_not rfl rfl) ?_
        refine ops_nil (at_then ?_)
        refine run_cond (b := !t5303) rfl (fun hb5306 => ?_) (fun hb5306 => ?_)
        · replace ho5284 := cond_t hb5306 ho5284
          refine run_seq ?_
          refine run_region rfl ?_
          refine ox rfl rfl rfl rfl (ex_assign rfl rfl) ?_
          refine ops_nil (at_then ?_)
          refine run_ret ?_
          refine at_block_ret ?_
          refine at_then_ret ?_
          refine at_then_ret ?_
          refine at_block_ret ?_
          refine at_then_ret ?_
          have hR := Option.some.inj ho5284
          subst hR
          have hT := thn_inl H
          have hR := Option.some.inj hT
          subst hR
          exact at_ret1 rfl rfl ⟨_, rfl, rfl, HM⟩
        · replace ho5284 := cond_f hb5306 ho5284
          refine run_skip ?_
          refine at_block ?_
          refine at_then ?_
          refine run_region rfl ?_
          refine ox rfl rfl rfl rfl (ex_move rfl rfl) ?_
          refine ox rfl rfl rfl rfl (ex_add rfl rfl rfl) ?_
          refine ox rfl rfl rfl rfl (ex_assign rfl rfl) ?_
          refine ops_nil ?_
          exact at_again k5298 (ρ1 := [(0, .pointer (some ⟨b0, f0, none⟩)), (3, .int .i64 (x0.fKeys.length : Int)), (4, .int .i64 (wrap64 (a5291 + 1)))]) (Nat.lt_succ_self _) ⟨_, ho5284, rfl, HM⟩ (Sub.cons rfl (Sub.cons rfl (Sub.cons rfl Sub.nil)))
      · replace ho5284 := cond_f hb5300 ho5284
        refine run_exit ?_
        refine at_then_exit ?_
        refine at_then_exit ?_
        refine at_block_exit ?_
        exact at_mid (ρ' := [(0, .pointer (some ⟨b0, f0, none⟩)), (3, .int .i64 (x0.fKeys.length : Int))]) ⟨(Option.some.inj ho5284), rfl, HM⟩ (Sub.cons rfl (Sub.cons rfl Sub.nil))
    · rintro _ w5307 ⟨rfl, rfl, HM⟩
      replace H := (thn_inr H)
      refine run_seq ?_
      refine run_seq ?_
      obtain ⟨t5313, h5314, H⟩ := bind_some H
      obtain ⟨t5315, h5316, H⟩ := bind_some H
      refine run_meet (fun ρ_ w_ => ρ_ = [(0, .pointer (some ⟨b0, f0, none⟩)), (46, .bool ((!t5313) || (!t5315)))] ∧ Mem w [] w_ []) ?_ ?_
      · skip
        refine run_region rfl ?_
        refine ox rfl rfl rfl rfl (ex_move rfl rfl) ?_
        refine ox rfl rfl rfl rfl (ex_nilCheck rfl rfl) ?_
        refine ox rfl rfl rfl rfl (ex_fieldAddr (off' := f0 + 1) rfl rfl Tryz.underlying42 rfl tsz2 rfl) ?_
        refine ox rfl rfl rfl rfl (ex_load1 rfl rfl Tryz.underlying2 rfl ((HM.at_ hc0) 1 _ rfl)) ?_
        refine ox rfl rfl rfl rfl (ex_move rfl rfl) ?_
        refine od rfl rfl rfl rfl (does_callk rfl callok56 rfl (spec_l1In.calls (x0 := x0.fNeed) (x1 := 1) (x2 := (x0.fKeys.length : Int)) h5314)) ?_
        rintro _ w5317 ⟨rfl, hn⟩
        replace HM : Mem w [] w5317 [] := HM.call hn
        refine ox rfl rfl rfl rfl (ex_not rfl rfl) ?_
        refine ox rfl rfl rfl rfl (ex_move rfl rfl) ?_
        refine bool_cases (!t5313) (fun hg5318 => ?_) (fun hg5318 => ?_)
        · skip
          refine ops_off rfl (guard_off rfl rfl rfl hg5318) rfl rfl ?_
          refine ops_off rfl (guard_off rfl rfl rfl hg5318) rfl rfl ?_
          refine ops_off rfl (guard_off rfl rfl rfl hg5318) rfl rfl ?_
          refine ops_off rfl (guard_off rfl rfl rfl hg5318) rfl rfl ?_
          refine ops_off rfl (guard_off rfl rfl rfl hg5318) rfl rfl ?_
          refine ops_off rfl (guard_off rfl rfl rfl hg5318) rfl rfl ?_
          have hg5319 : ((!t5313) || (!t5315)) = true := by simp only [hg5318, Bool.and_true, Bool.true_and, Bool.and_false, Bool.false_and, Bool.or_true, Bool.true_or, Bool.or_false, Bool.false_or, Bool.not_true, Bool.not_false, Bool.not_not]
          refine ops_ex (v := .bool ((!t5313) || (!t5315))) rfl (guard_none rfl) rfl rfl (ex_por_t rfl rfl hg5318) ?_
          refine ops_nil ?_
          exact at_meet [(0, .pointer (some ⟨b0, f0, none⟩)), (46, .bool ((!t5313) || (!t5315)))] ⟨rfl, HM⟩ (Sub.cons rfl (Sub.cons rfl Sub.nil))
        · skip
          refine ops_ex rfl (guard_on rfl rfl rfl hg5318) rfl rfl (ex_move rfl rfl) ?_
          refine ops_ex rfl (guard_on rfl rfl rfl hg5318) rfl rfl (ex_nilCheck rfl rfl) ?_
          refine ops_ex rfl (guard_on rfl rfl rfl hg5318) rfl rfl (ex_fieldAddr (off' := f0 + 2) rfl rfl Tryz.underlying42 rfl tsz2 rfl) ?_
          refine ops_ex rfl (guard_on rfl rfl rfl hg5318) rfl rfl (ex_load1 rfl rfl Tryz.underlying2 rfl ((HM.at_ hc0) 2 _ rfl)) ?_
          refine ops_does rfl (guard_on rfl rfl rfl hg5318) rfl rfl (does_callk rfl callok91 rfl (spec_l2Height.calls (x0 := x0.fAfter) (cond_t (not_mk hg5318) h5316))) ?_
          rintro _ w5320 ⟨rfl, hn⟩
          replace HM : Mem w [] w5320 [] := HM.call hn
          refine ops_ex rfl (guard_on rfl rfl rfl hg5318) rfl rfl (ex_not rfl rfl) ?_
          refine ops_ex (v := .bool ((!t5313) || (!t5315))) rfl (guard_none rfl) rfl rfl (ex_por_f rfl rfl hg5318 rfl) ?_
          refine ops_nil ?_
          exact at_meet [(0, .pointer (some ⟨b0, f0, none⟩)), (46, .bool ((!t5313) || (!t5315)))] ⟨rfl, HM⟩ (Sub.cons rfl (Sub.cons rfl Sub.nil))
      · rintro _ w5321 ⟨rfl, HM⟩
        refine at_then ?_
        refine run_cond (b := ((!t5313) || (!t5315))) rfl (fun hb5322 => ?_) (fun hb5322 => ?_)
        · replace H := cond_t hb5322 H
          refine run_seq ?_
          refine run_region rfl ?_
          refine ox rfl rfl rfl rfl (ex_assign rfl rfl) ?_
          refine ops_nil (at_then ?_)
          refine run_ret ?_
          refine at_then_ret ?_
          have hR := Option.some.inj H
          subst hR
          exact at_ret1 rfl rfl ⟨_, rfl, rfl, HM⟩
        · replace H := cond_f hb5322 H
          refine run_skip ?_
          refine at_then ?_
          obtain ⟨o5342, ho5343, H⟩ := bind_some H
          refine run_mid (fun ρ_ w_ => Sum.inr () = o5342 ∧ ρ_ = [] ∧ Mem w [] w_ []) ?_ ?_
          · skip
            refine run_seq ?_
            refine run_region rfl ?_
            refine ox rfl rfl rfl rfl (ex_assign rfl rfl) ?_
            refine ops_nil (at_then ?_)
            refine run_block ?_
            refine run_loop (fun k_ ρ_ w_ => ∃ a5350 : Int, spec_l2Fault.l1 x0 k_ a5350 = some o5342 ∧ ρ_ = [(0, .pointer (some ⟨b0, f0, none⟩)), (5, .int .i64 a5350)] ∧ Mem w [] w_ []) k (ρ1 := [(0, .pointer (some ⟨b0, f0, none⟩)), (5, .int .i64 1)]) ⟨_, ho5343, rfl, HM⟩ (Sub.cons rfl (Sub.cons rfl Sub.nil)) ?_
            clear HM ho5343
            rintro k5357 _ w5358 ⟨a5350, ho5343, rfl, HM⟩
            obtain _ | k5357 := k5357
            · exact nomatch ((spec_l2Fault.l1_z x0 a5350).symm.trans ho5343)
            replace ho5343 := (spec_l2Fault.l1_s x0 k5357 a5350).symm.trans ho5343
            refine run_seq ?_
            refine run_seq ?_
            refine run_region rfl ?_
            refine ox rfl rfl rfl rfl (ex_move rfl rfl) ?_
            refine ox rfl rfl rfl rfl (ex_move rfl rfl) ?_
            refine ox rfl rfl rfl rfl (ex_nilCheck rfl rfl) ?_
            refine ox rfl rfl rfl rfl (ex_fieldAddr (off' := f0) rfl rfl Tryz.underlying42 rfl tsz40 rfl) ?_
            refine ox rfl rfl rfl rfl (ex_load1 rfl rfl Tryz.underlying40 rfl ((HM.at_ hc0) 0 _ rfl)) ?_
            refine ox rfl rfl rfl rfl (ex_len (d := kInt) (xs := x0.fKeys) rfl rfl Tryz.underlying40 hp0_0) ?_
            refine ox rfl rfl rfl rfl (ex_lss rfl rfl rfl) ?_
            refine ops_nil (at_then ?_)
            refine run_cond (b := (decide (a5350 < (x0.fKeys.length : Int)))) rfl (fun hb5359 => ?_) (fun hb5359 => ?_)
            · replace ho5343 := cond_t hb5359 ho5343
              refine run_skip ?_
              refine at_then ?_
              refine run_seq ?_
              refine run_block ?_
              refine run_seq ?_
              obtain ⟨e5360, ho5343⟩ := chk_some ho5343
              obtain ⟨e5362, ho5343⟩ := chk_some ho5343
              refine run_drawf (fun w_ => Mem w [] w_ []) [(0, true), (1, true), (2, true), (3, true), (4, true), (5, true), (6, true), (7, true), (8, true), (9, true), (10, true), (11, true), (12, true), (13, true), (14, true), (15, true)] mixed rfl rfl (by kernel_rfl) ?_
              replace HM := HM.grow (fr_drew _)
              have hS := Mem.suf (M := []) HM
              refine dp rfl rfl rfl rfl (ex_move rfl rfl) hS ?_
              refine dp rfl rfl rfl rfl (ex_nilCheck rfl rfl) hS ?_
              refine dp rfl rfl rfl rfl (ex_fieldAddr (off' := f0) rfl rfl Tryz.underlying42 rfl tsz40 rfl) hS ?_
              refine drwp_take rfl (guard_none rfl) rfl rfl (fun w_ hS_ => (ex_load1 rfl rfl Tryz.underlying40 rfl ((hS_.at_ hc0) 0 _ rfl))) hS ?_
              refine dp rfl rfl rfl rfl (ex_move rfl rfl) hS ?_
              have hc5361 : CellsAt _ (sb p0_0) (so p0_0 + (a5350).toNat * 1) [(.int .i64 (gt x0.fKeys a5350))] := rd_plain hp0_0 e5360
              refine dp rfl rfl rfl rfl (ex_indexAddr (d := kInt) rfl rfl rfl Tryz.underlying40 tsz2 hp0_0 (idx_lo e5360) (idx_hi e5360)) hS ?_
              refine drwp_take rfl (guard_none rfl) rfl rfl (fun w_ hS_ => (ex_load1 rfl rfl Tryz.underlying2 rfl ((hS_.at_ hc5361) 0 _ rfl))) hS ?_
              refine dp rfl rfl rfl rfl (ex_move rfl rfl) hS ?_
              refine dp rfl rfl rfl rfl (ex_nilCheck rfl rfl) hS ?_
              refine dp rfl rfl rfl rfl (ex_fieldAddr (off' := f0) rfl rfl Tryz.underlying42 rfl tsz40 rfl) hS ?_
              refine drwp_take rfl (guard_none rfl) rfl rfl (fun w_ hS_ => (ex_load1 rfl rfl Tryz.underlying40 rfl ((hS_.at_ hc0) 0 _ rfl))) hS ?_
              refine dp rfl rfl rfl rfl (ex_move rfl rfl) hS ?_
              refine dp rfl rfl rfl rfl (ex_sub rfl rfl rfl) hS ?_
              have hc5363 : CellsAt _ (sb p0_0) (so p0_0 + (wrap64 (a5350 - 1)).toNat * 1) [(.int .i64 (gt x0.fKeys (wrap64 (a5350 - 1))))] := rd_plain hp0_0 e5362
              refine dp rfl rfl rfl rfl (ex_indexAddr (d := kInt) rfl rfl rfl Tryz.underlying40 tsz2 hp0_0 (idx_lo e5362) (idx_hi e5362)) hS ?_
              refine drwp_take rfl (guard_none rfl) rfl rfl (fun w_ hS_ => (ex_load1 rfl rfl Tryz.underlying2 rfl ((hS_.at_ hc5363) 0 _ rfl))) hS ?_
              refine dp rfl rfl rfl rfl (ex_leq rfl rfl rfl) hS ?_
              refine drwp_done ?_
              refine at_then ?_
              refine run_cond (b := (decide ((gt x0.fKeys a5350) ≤ (gt x0.fKeys (wrap64 (a5350 - 1)))))) rfl (fun hb5364 => ?_) (fun hb5364 => ?_)
              · replace ho5343 := cond_t hb5364 ho5343
                refine run_seq ?_
                refine run_region rfl ?_
                refine ox rfl rfl rfl rfl (ex_assign rfl rfl) ?_
                refine ops_nil (at_then ?_)
                refine run_ret ?_
                refine at_block_ret ?_
                refine at_then_ret ?_
                refine at_then_ret ?_
                refine at_block_ret ?_
                refine at_then_ret ?_
                have hR := Option.some.inj ho5343
                subst hR
                have hT := thn_inl H
                have hR := Option.some.inj hT
                subst hR
                exact at_ret1 rfl rfl ⟨_, rfl, rfl, HM⟩
              · replace ho5343 := cond_f hb5364 ho5343
                refine run_skip ?_
                refine at_block ?_
                refine at_then ?_
                refine run_region rfl ?_
                refine ox rfl rfl rfl rfl (ex_move rfl rfl) ?_
                refine ox rfl rfl rfl rfl (ex_add rfl rfl rfl) ?_
                refine ox rfl rfl rfl rfl (ex_assign rfl rfl) ?_
                refine ops_nil ?_
                exact at_again k5357 (ρ1 := [(0, .pointer (some ⟨b0, f0, none⟩)), (5, .int .i64 (wrap64 (a5350 + 1)))]) (Nat.lt_succ_self _) ⟨_, ho5343, rfl, HM⟩ (Sub.cons rfl (Sub.cons rfl Sub.nil))
            · replace ho5343 := cond_f hb5359 ho5343
              refine run_exit ?_
              refine at_then_exit ?_
              refine at_then_exit ?_
              refine at_block_exit ?_
              exact at_mid (ρ' := []) ⟨(Option.some.inj ho5343), rfl, HM⟩ Sub.nil
          · rintro _ w5365 ⟨rfl, rfl, HM⟩
            replace H := (thn_inr H)
            refine run_seq ?_
            refine run_region rfl ?_
            refine ox rfl rfl rfl rfl (ex_assign rfl rfl) ?_
            refine ops_nil (at_then ?_)
            refine run_ret ?_
            have hR := Option.some.inj H
            subst hR
            exact at_ret1 rfl rfl ⟨_, rfl, rfl, HM⟩

def spec_l2Parse.l0 (t5398 : (List ByteArray)) : Nat → Bool → (List Int) → Int → Option (Bool × (List Int))
  | 0, _, _, _ => none
  | k + 1, a5454, a5456, a5458 => (bif (decide (a5458 < (t5398.length : Int))) then (chk (idxOk a5458 t5398.length) ((spec_l2Number.f k (gt t5398 a5458) 3).bind fun t5474 => (chk (leB ((a5456.length + ([t5474.1] : List Int).length) * 8) 140737488355328) (spec_l2Parse.l0 t5398 k (a5454 && t5474.2) (a5456 ++ ([t5474.1] : List Int)) (wrap64 (a5458 + 1)))))) else some (a5454, a5456))
theorem spec_l2Parse.l0_z (t5398 : (List ByteArray)) (a5454 : Bool) (a5456 : List Int) (a5458 : Int) : spec_l2Parse.l0 t5398 0 a5454 a5456 a5458 = none := rfl
theorem spec_l2Parse.l0_s (t5398 : (List ByteArray)) (k : Nat) (a5454 : Bool) (a5456 : List Int) (a5458 : Int) : spec_l2Parse.l0 t5398 (k + 1) a5454 a5456 a5458 = (bif (decide (a5458 < (t5398.length : Int))) then (chk (idxOk a5458 t5398.length) ((spec_l2Number.f k (gt t5398 a5458) 3).bind fun t5474 => (chk (leB ((a5456.length + ([t5474.1] : List Int).length) * 8) 140737488355328) (spec_l2Parse.l0 t5398 k (a5454 && t5474.2) (a5456 ++ ([t5474.1] : List Int)) (wrap64 (a5458 + 1)))))) else some (a5454, a5456)) := rfl
def spec_l2Parse.f (k : Nat) (x0 : ByteArray) : Option (Rule × Bool) := ((spec_l2Cut.f k x0 32).bind fun t5372 => (chk (!(!(((t5372.length : Int) != 3) && ((t5372.length : Int) != 5))) || (idxOk (1 : Int) t5372.length)) (bif ((((t5372.length : Int) != 3) && ((t5372.length : Int) != 5)) || (!sEq (gt t5372 (1 : Int)) (⟨#[111, 102]⟩ : ByteArray))) then some ((⟨([] : List Int), 0, 0⟩ : Rule), false) else (chk (idxOk (0 : Int) t5372.length) ((spec_l2Number.f k (gt t5372 (0 : Int)) 1).bind fun t5389 => (chk (idxOk (2 : Int) t5372.length) ((spec_l2Cut.f k (gt t5372 (2 : Int)) 44).bind fun t5398 => ((spec_l2Parse.l0 t5398 k t5389.2 ([] : List Int) 0).bind (cur2 (fun a5438 a5440 => ((bif ((t5372.length : Int) == 5) then (chk (idxOk (4 : Int) t5372.length) ((spec_l2Number.f k (gt t5372 (4 : Int)) 3).bind fun t5506 => (chk (!(a5438 && t5506.2) || (idxOk (3 : Int) t5372.length)) (some ((((a5438 && t5506.2) && (sEq (gt t5372 (3 : Int)) (⟨#[97, 102, 116, 101, 114]⟩ : ByteArray))) && (decide (0 < t5506.1))), t5506.1))))) else some (a5438, 0)).bind (cur2 (fun a5500 a5501 => ((bif a5500 then spec_l2Fault.f k (⟨a5440, t5389.1, a5501⟩ : Rule) else some default).bind fun t5522 => some ((⟨a5440, t5389.1, a5501⟩ : Rule), (a5500 && (t5522 == 0)))))))))))))))))
theorem spec_l2Parse.calls {k : Nat} {x0 : ByteArray}  {w : World}  {r : Rule × Bool} (H : spec_l2Parse.f k x0 = some r) :
    Calls Tryz.prog 54 ([.string x0] : List Value).toArray w (fun e w_ => ∃ v, e = .returned v ∧ ∃ u0 : Value, v = (.tuple #[.agg #[u0, .int .i64 r.1.fNeed, .int .i64 r.1.fAfter], .bool r.2]) ∧ Mem w [] w_ [own kInt 2 u0 r.1.fKeys]) := by
  have HM := Mem.start w
  refine calls_run (N := 100) Tryz.func54 rfl rfl rfl rfl ?_
  unfold spec_l2Parse.f at H
  refine run_seq ?_
  refine run_region rfl ?_
  refine od rfl rfl rfl rfl (does_alloc (cs := [.slice none 0 0, .int .i64 0, .int .i64 0]) rfl tz42 rfl HM) ?_
  rintro _ w5371 ⟨b5368, rfl, HM⟩
  refine ox rfl rfl rfl rfl (ex_assign rfl rfl) ?_
  refine ops_nil (at_then (run_seq ?_))
  obtain ⟨t5372, h5373, H⟩ := bind_some H
  refine run_region rfl ?_
  refine ox rfl rfl rfl rfl (ex_move rfl rfl) ?_
  refine od rfl rfl rfl rfl (does_callk rfl callok51 rfl (spec_l2Cut.calls (x0 := x0) (x1 := 32) h5373)) ?_
  rintro u5374 w5376 ⟨_, rfl, hn⟩
  replace HM : Mem w [] w5376 [own kStr 9 u5374 t5372, box b5368 42 [.slice none 0 0, .int .i64 0, .int .i64 0]] := HM.call hn
  refine ox rfl rfl rfl rfl (ex_assign rfl rfl) ?_
  refine ops_nil (at_then (run_seq ?_))
  refine run_seq ?_
  obtain ⟨e5379, H⟩ := chk_some H
  refine run_meet (fun ρ_ w_ => ρ_ = [(2, .pointer (some ⟨b5368, 0, none⟩)), (4, u5374), (29, .bool ((((t5372.length : Int) != 3) && ((t5372.length : Int) != 5)) || (!sEq (gt t5372 (1 : Int)) (⟨#[111, 102]⟩ : ByteArray))))] ∧ Mem w [] w_ [box b5368 42 [.slice none 0 0, .int .i64 0, .int .i64 0], own kStr 9 u5374 t5372]) ?_ ?_
  · skip
    refine run_region rfl ?_
    refine ox rfl rfl rfl rfl (ex_move rfl rfl) ?_
    refine ox rfl rfl rfl rfl (ex_len (d := kStr) (xs := t5372) rfl rfl Tryz.underlying72 (HM.own_rd 0 rfl)) ?_
    refine ox rfl rfl rfl rfl (ex_neq rfl rfl rfl) ?_
    refine ox rfl rfl rfl rfl (ex_move rfl rfl) ?_
    refine bool_cases ((t5372.length : Int) != 3) (fun hg5380 => ?_) (fun hg5380 => ?_)
    · skip
      refine ops_ex rfl (guard_on rfl rfl rfl hg5380) rfl rfl (ex_move rfl rfl) ?_
      refine ops_ex rfl (guard_on rfl rfl rfl hg5380) rfl rfl (ex_len (d := kStr) (xs := t5372) rfl rfl Tryz.underlying72 (HM.own_rd 0 rfl)) ?_
      refine ops_ex rfl (guard_on rfl rfl rfl hg5380) rfl rfl (ex_neq rfl rfl rfl) ?_
      refine ops_ex (v := .bool (((t5372.length : Int) != 3) && ((t5372.length : Int) != 5))) rfl (guard_none rfl) rfl rfl (ex_pand_t rfl rfl hg5380 rfl) ?_
      refine ox rfl rfl rfl rfl (ex_move rfl rfl) ?_
      refine bool_cases (((t5372.length : Int) != 3) && ((t5372.length : Int) != 5)) (fun hg5381 => ?_) (fun hg5381 => ?_)
      · skip
        refine ops_off rfl (guard_off rfl rfl rfl hg5381) rfl rfl ?_
        refine ops_off rfl (guard_off rfl rfl rfl hg5381) rfl rfl ?_
        refine ops_off rfl (guard_off rfl rfl rfl hg5381) rfl rfl ?_
        refine ops_off rfl (guard_off rfl rfl rfl hg5381) rfl rfl ?_
        have hg5382 : ((((t5372.length : Int) != 3) && ((t5372.length : Int) != 5)) || (!sEq (gt t5372 (1 : Int)) (⟨#[111, 102]⟩ : ByteArray))) = true := by simp only [hg5381, Bool.and_true, Bool.true_and, Bool.and_false, Bool.false_and, Bool.or_true, Bool.true_or, Bool.or_false, Bool.false_or, Bool.not_true, Bool.not_false, Bool.not_not]
        refine ops_ex (v := .bool ((((t5372.length : Int) != 3) && ((t5372.length : Int) != 5)) || (!sEq (gt t5372 (1 : Int)) (⟨#[111, 102]⟩ : ByteArray)))) rfl (guard_none rfl) rfl rfl (ex_por_t rfl rfl hg5381) ?_
        refine ops_nil ?_
        replace HM := HM.front 1 rfl rfl
        exact at_meet [(2, .pointer (some ⟨b5368, 0, none⟩)), (4, u5374), (29, .bool ((((t5372.length : Int) != 3) && ((t5372.length : Int) != 5)) || (!sEq (gt t5372 (1 : Int)) (⟨#[111, 102]⟩ : ByteArray))))] ⟨rfl, HM⟩ (Sub.cons rfl (Sub.cons rfl (Sub.cons rfl Sub.nil)))
      · skip
        refine ops_ex rfl (guard_on rfl rfl rfl hg5381) rfl rfl (ex_move rfl rfl) ?_
        refine ops_ex rfl (guard_on rfl rfl rfl hg5381) rfl rfl (ex_indexAddr (d := kStr) rfl rfl rfl Tryz.underlying72 tsz9 (HM.own_rd 0 rfl) (idx_lo (or_t e5379 (not_mk hg5381))) (idx_hi (or_t e5379 (not_mk hg5381)))) ?_
        refine ops_ex rfl (guard_on rfl rfl rfl hg5381) rfl rfl (ex_load1 rfl rfl Tryz.underlying9 rfl ((rd_plain (HM.own_rd 0 rfl) (or_t e5379 (not_mk hg5381))) 0 _ rfl)) ?_
        refine ops_ex rfl (guard_on rfl rfl rfl hg5381) rfl rfl (ex_sneq rfl rfl rfl) ?_
        refine ops_ex (v := .bool ((((t5372.length : Int) != 3) && ((t5372.length : Int) != 5)) || (!sEq (gt t5372 (1 : Int)) (⟨#[111, 102]⟩ : ByteArray)))) rfl (guard_none rfl) rfl rfl (ex_por_f rfl rfl hg5381 rfl) ?_
        refine ops_nil ?_
        replace HM := HM.front 1 rfl rfl
        exact at_meet [(2, .pointer (some ⟨b5368, 0, none⟩)), (4, u5374), (29, .bool ((((t5372.length : Int) != 3) && ((t5372.length : Int) != 5)) || (!sEq (gt t5372 (1 : Int)) (⟨#[111, 102]⟩ : ByteArray))))] ⟨rfl, HM⟩ (Sub.cons rfl (Sub.cons rfl (Sub.cons rfl Sub.nil)))
    · skip
      refine ops_off rfl (guard_off rfl rfl rfl hg5380) rfl rfl ?_
      refine ops_off rfl (guard_off rfl rfl rfl hg5380) rfl rfl ?_
      refine ops_off rfl (guard_off rfl rfl rfl hg5380) rfl rfl ?_
      have hg5383 : (((t5372.length : Int) != 3) && ((t5372.length : Int) != 5)) = false := by simp only [hg5380, Bool.and_true, Bool.true_and, Bool.and_false, Bool.false_and, Bool.or_true, Bool.true_or, Bool.or_false, Bool.false_or, Bool.not_true, Bool.not_false, Bool.not_not]
      refine ops_ex (v := .bool (((t5372.length : Int) != 3) && ((t5372.length : Int) != 5))) rfl (guard_none rfl) rfl rfl (ex_pand_f rfl rfl hg5380) ?_
      refine ox rfl rfl rfl rfl (ex_move rfl rfl) ?_
      refine ops_ex rfl (guard_on rfl rfl rfl hg5383) rfl rfl (ex_move rfl rfl) ?_
      refine ops_ex rfl (guard_on rfl rfl rfl hg5383) rfl rfl (ex_indexAddr (d := kStr) rfl rfl rfl Tryz.underlying72 tsz9 (HM.own_rd 0 rfl) (idx_lo (or_t e5379 (not_mk hg5383))) (idx_hi (or_t e5379 (not_mk hg5383)))) ?_
      refine ops_ex rfl (guard_on rfl rfl rfl hg5383) rfl rfl (ex_load1 rfl rfl Tryz.underlying9 rfl ((rd_plain (HM.own_rd 0 rfl) (or_t e5379 (not_mk hg5383))) 0 _ rfl)) ?_
      refine ops_ex rfl (guard_on rfl rfl rfl hg5383) rfl rfl (ex_sneq rfl rfl rfl) ?_
      refine ops_ex (v := .bool ((((t5372.length : Int) != 3) && ((t5372.length : Int) != 5)) || (!sEq (gt t5372 (1 : Int)) (⟨#[111, 102]⟩ : ByteArray)))) rfl (guard_none rfl) rfl rfl (ex_por_f rfl rfl hg5383 rfl) ?_
      refine ops_nil ?_
      replace HM := HM.front 1 rfl rfl
      exact at_meet [(2, .pointer (some ⟨b5368, 0, none⟩)), (4, u5374), (29, .bool ((((t5372.length : Int) != 3) && ((t5372.length : Int) != 5)) || (!sEq (gt t5372 (1 : Int)) (⟨#[111, 102]⟩ : ByteArray))))] ⟨rfl, HM⟩ (Sub.cons rfl (Sub.cons rfl (Sub.cons rfl Sub.nil)))
  · rintro _ w5384 ⟨rfl, HM⟩
    refine at_then ?_
    refine run_cond (b := ((((t5372.length : Int) != 3) && ((t5372.length : Int) != 5)) || (!sEq (gt t5372 (1 : Int)) (⟨#[111, 102]⟩ : ByteArray)))) rfl (fun hb5385 => ?_) (fun hb5385 => ?_)
    · replace H := cond_t hb5385 H
      refine run_seq ?_
      refine run_region rfl ?_
      refine ox rfl rfl rfl rfl (ex_build (cells := #[(.slice none 0 0), (.int .i64 0), (.int .i64 0)]) rfl rfl (by kernel_rfl)) ?_
      refine odS rfl rfl rfl (does_store (vs := [.slice none 0 0, .int .i64 0, .int .i64 0]) (cs' := [.slice none 0 0, .int .i64 0, .int .i64 0]) rfl rfl rfl rfl tsz42 (Ones.sl (Ones.int (Ones.int Ones.nil))) rfl rfl HM) ?_
      rintro w5386 HM
      refine ox rfl rfl rfl rfl (ex_assign rfl rfl) ?_
      refine ops_nil (at_then ?_)
      refine run_ret ?_
      refine at_then_ret ?_
      replace HM := HM.empty kInt 2 none
      replace HM := (HM.front 2 rfl rfl).drop
      replace HM := HM.front 1 rfl rfl
      have hcb0 := HM.box_at 0 rfl
      replace HM := (HM.front 0 rfl rfl).drop
      have hR := Option.some.inj H
      subst hR
      exact at_retN1 rfl rfl rfl Tryz.underlying42 rfl tsz42 rfl hcb0 ⟨_, rfl, _, rfl, HM⟩
    · replace H := cond_f hb5385 H
      refine run_skip ?_
      refine at_then ?_
      refine run_seq ?_
      obtain ⟨e5388, H⟩ := chk_some H
      obtain ⟨t5389, h5390, H⟩ := bind_some H
      refine run_region rfl ?_
      refine ox rfl rfl rfl rfl (ex_move rfl rfl) ?_
      refine ox rfl rfl rfl rfl (ex_indexAddr (d := kStr) rfl rfl rfl Tryz.underlying72 tsz9 (HM.own_rd 1 rfl) (idx_lo e5388) (idx_hi e5388)) ?_
      refine ox rfl rfl rfl rfl (ex_load1 rfl rfl Tryz.underlying9 rfl ((rd_plain (HM.own_rd 1 rfl) e5388) 0 _ rfl)) ?_
      refine od rfl rfl rfl rfl (does_callk rfl callok52 rfl (spec_l2Number.calls (x0 := (gt t5372 (0 : Int))) (x1 := 1) h5390)) ?_
      rintro _ w5391 ⟨rfl, hn⟩
      replace HM : Mem w [] w5391 [box b5368 42 [.slice none 0 0, .int .i64 0, .int .i64 0], own kStr 9 u5374 t5372] := HM.call hn
      refine ox rfl rfl rfl rfl (ex_move rfl rfl) ?_
      refine ox rfl rfl rfl rfl (ex_extract rfl rfl rfl) ?_
      refine ox rfl rfl rfl rfl (ex_extract rfl rfl rfl) ?_
      refine ox rfl rfl rfl rfl (ex_assign rfl rfl) ?_
      refine ox rfl rfl rfl rfl (ex_assign rfl rfl) ?_
      refine ops_nil (at_then (run_seq ?_))
      refine run_region rfl ?_
      refine ox rfl rfl rfl rfl (ex_move rfl rfl) ?_
      refine ox rfl rfl rfl rfl (ex_build (cells := #[(.slice none 0 0), (.int .i64 t5389.1), (.int .i64 0)]) rfl rfl (by kernel_rfl)) ?_
      refine od rfl rfl rfl rfl (does_alloc (cs := [.slice none 0 0, .int .i64 0, .int .i64 0]) rfl tz42 rfl HM) ?_
      rintro _ w5395 ⟨b5392, rfl, HM⟩
      refine odS rfl rfl rfl (does_store (vs := [.slice none 0 0, .int .i64 t5389.1, .int .i64 0]) (cs' := [.slice none 0 0, .int .i64 t5389.1, .int .i64 0]) rfl rfl rfl rfl tsz42 (Ones.sl (Ones.int (Ones.int Ones.nil))) rfl rfl HM) ?_
      rintro w5396 HM
      refine ops_nil (at_then (run_seq ?_))
      obtain ⟨e5397, H⟩ := chk_some H
      obtain ⟨t5398, h5399, H⟩ := bind_some H
      refine run_region rfl ?_
      refine ox rfl rfl rfl rfl (ex_move rfl rfl) ?_
      refine ox rfl rfl rfl rfl (ex_indexAddr (d := kStr) rfl rfl rfl Tryz.underlying72 tsz9 (HM.own_rd 2 rfl) (idx_lo e5397) (idx_hi e5397)) ?_
      refine ox rfl rfl rfl rfl (ex_load1 rfl rfl Tryz.underlying9 rfl ((rd_plain (HM.own_rd 2 rfl) e5397) 0 _ rfl)) ?_
      refine od rfl rfl rfl rfl (does_callk rfl callok51 rfl (spec_l2Cut.calls (x0 := (gt t5372 (2 : Int))) (x1 := 44) h5399)) ?_
      rintro u5400 w5402 ⟨_, rfl, hn⟩
      replace HM : Mem w [] w5402 [own kStr 9 u5400 t5398, box b5392 42 [.slice none 0 0, .int .i64 t5389.1, .int .i64 0], box b5368 42 [.slice none 0 0, .int .i64 0, .int .i64 0], own kStr 9 u5374 t5372] := HM.call hn
      refine ox rfl rfl rfl rfl (ex_assign rfl rfl) ?_
      refine ops_nil (at_then ?_)
      obtain ⟨o5442, ho5443, H⟩ := bind_some H
      refine run_mid (fun ρ_ w_ => ∃ a5438 : Bool, ∃ v5439 : Value, ∃ a5440 : List Int, (a5438, a5440) = o5442 ∧ ρ_ = [(2, .pointer (some ⟨b5368, 0, none⟩)), (4, u5374), (6, .bool a5438), (7, .pointer (some ⟨b5392, 0, none⟩))] ∧ Mem w [] w_ [box b5368 42 [.slice none 0 0, .int .i64 0, .int .i64 0], own kStr 9 u5374 t5372, box b5392 42 [v5439, .int .i64 t5389.1, .int .i64 0], own kInt 2 v5439 a5440]) ?_ ?_
      · clear H
        refine run_seq ?_
        refine run_region rfl ?_
        refine ox rfl rfl rfl rfl (ex_assign rfl rfl) ?_
        refine ops_nil (at_then ?_)
        refine run_block ?_
        replace HM := HM.empty kInt 2 none
        replace HM := HM.front 1 rfl rfl
        replace HM := HM.front 1 rfl rfl
        replace HM := HM.front 2 rfl rfl
        replace HM := HM.front 4 rfl rfl
        replace HM := HM.front 4 rfl rfl
        refine run_loop (fun k_ ρ_ w_ => ∃ a5454 : Bool, ∃ v5455 : Value, ∃ a5456 : List Int, ∃ a5458 : Int, spec_l2Parse.l0 t5398 k_ a5454 a5456 a5458 = some o5442 ∧ ρ_ = [(2, .pointer (some ⟨b5368, 0, none⟩)), (4, u5374), (6, .bool a5454), (7, .pointer (some ⟨b5392, 0, none⟩)), (8, u5400), (9, .int .i64 a5458)] ∧ Mem w [] w_ [box b5368 42 [.slice none 0 0, .int .i64 0, .int .i64 0], own kStr 9 u5374 t5372, box b5392 42 [v5455, .int .i64 t5389.1, .int .i64 0], own kInt 2 v5455 a5456, own kStr 9 u5400 t5398]) k (ρ1 := [(2, .pointer (some ⟨b5368, 0, none⟩)), (4, u5374), (6, .bool t5389.2), (7, .pointer (some ⟨b5392, 0, none⟩)), (8, u5400), (9, .int .i64 0)]) ⟨_, _, _, _, ho5443, rfl, HM⟩ (Sub.cons rfl (Sub.cons rfl (Sub.cons rfl (Sub.cons rfl (Sub.cons rfl (Sub.cons rfl Sub.nil)))))) ?_
        clear HM ho5443
        rintro k5470 _ w5471 ⟨a5454, v5455, a5456, a5458, ho5443, rfl, HM⟩
        obtain _ | k5470 := k5470
        · exact nomatch ((spec_l2Parse.l0_z t5398 a5454 a5456 a5458).symm.trans ho5443)
        replace ho5443 := (spec_l2Parse.l0_s t5398 k5470 a5454 a5456 a5458).symm.trans ho5443
        refine run_seq ?_
        refine run_seq ?_
        refine run_region rfl ?_
        refine ox rfl rfl rfl rfl (ex_move rfl rfl) ?_
        refine ox rfl rfl rfl rfl (ex_move rfl rfl) ?_
        refine ox rfl rfl rfl rfl (ex_len (d := kStr) (xs := t5398) rfl rfl Tryz.underlying72 (HM.own_rd 4 rfl)) ?_
        refine ox rfl rfl rfl rfl (ex_lss rfl rfl rfl) ?_
        refine ops_nil (at_then ?_)
        refine run_cond (b := (decide (a5458 < (t5398.length : Int)))) rfl (fun hb5472 => ?_) (fun hb5472 => ?_)
        · replace ho5443 := cond_t hb5472 ho5443
          refine run_skip ?_
          refine at_then ?_
          refine run_seq ?_
          refine run_block ?_
          refine run_seq ?_
          obtain ⟨e5473, ho5443⟩ := chk_some ho5443
          obtain ⟨t5474, h5475, ho5443⟩ := bind_some ho5443
          refine run_region rfl ?_
          refine ox rfl rfl rfl rfl (ex_move rfl rfl) ?_
          refine ox rfl rfl rfl rfl (ex_move rfl rfl) ?_
          refine ox rfl rfl rfl rfl (ex_indexAddr (d := kStr) rfl rfl rfl Tryz.underlying72 tsz9 (HM.own_rd 4 rfl) (idx_lo e5473) (idx_hi e5473)) ?_
          refine ox rfl rfl rfl rfl (ex_load1 rfl rfl Tryz.underlying9 rfl ((rd_plain (HM.own_rd 4 rfl) e5473) 0 _ rfl)) ?_
          refine od rfl rfl rfl rfl (does_callk rfl callok52 rfl (spec_l2Number.calls (x0 := (gt t5398 a5458)) (x1 := 3) h5475)) ?_
          rintro _ w5476 ⟨rfl, hn⟩
          replace HM : Mem w [] w5476 [box b5368 42 [.slice none 0 0, .int .i64 0, .int .i64 0], own kStr 9 u5374 t5372, box b5392 42 [v5455, .int .i64 t5389.1, .int .i64 0], own kInt 2 v5455 a5456, own kStr 9 u5400 t5398] := HM.call hn
          refine ox rfl rfl rfl rfl (ex_move rfl rfl) ?_
          refine ox rfl rfl rfl rfl (ex_extract rfl rfl rfl) ?_
          refine ox rfl rfl rfl rfl (ex_extract rfl rfl rfl) ?_
          refine ox rfl rfl rfl rfl (ex_assign rfl rfl) ?_
          refine ox rfl rfl rfl rfl (ex_assign rfl rfl) ?_
          refine ops_nil (at_then (run_seq ?_))
          refine run_meet (fun ρ_ w_ => ρ_ = [(2, .pointer (some ⟨b5368, 0, none⟩)), (4, u5374), (6, .bool (a5454 && t5474.2)), (7, .pointer (some ⟨b5392, 0, none⟩)), (8, u5400), (9, .int .i64 a5458), (10, .int .i64 t5474.1)] ∧ Mem w [] w_ [box b5368 42 [.slice none 0 0, .int .i64 0, .int .i64 0], own kStr 9 u5374 t5372, box b5392 42 [v5455, .int .i64 t5389.1, .int .i64 0], own kInt 2 v5455 a5456, own kStr 9 u5400 t5398]) ?_ ?_
          · skip
            refine run_region rfl ?_
            refine ox rfl rfl rfl rfl (ex_move rfl rfl) ?_
            refine ox rfl rfl rfl rfl (ex_move rfl rfl) ?_
            refine bool_cases a5454 (fun hg5477 => ?_) (fun hg5477 => ?_)
            · skip
              refine ops_ex rfl (guard_on rfl rfl rfl hg5477) rfl rfl (ex_move rfl rfl) ?_
              refine ops_ex (v := .bool (a5454 && t5474.2)) rfl (guard_none rfl) rfl rfl (ex_pand_t rfl rfl hg5477 rfl) ?_
              refine ox rfl rfl rfl rfl (ex_assign rfl rfl) ?_
              refine ops_nil ?_
              exact at_meet [(2, .pointer (some ⟨b5368, 0, none⟩)), (4, u5374), (6, .bool (a5454 && t5474.2)), (7, .pointer (some ⟨b5392, 0, none⟩)), (8, u5400), (9, .int .i64 a5458), (10, .int .i64 t5474.1)] ⟨rfl, HM⟩ (Sub.cons rfl (Sub.cons rfl (Sub.cons rfl (Sub.cons rfl (Sub.cons rfl (Sub.cons rfl (Sub.cons rfl Sub.nil)))))))
            · skip
              refine ops_off rfl (guard_off rfl rfl rfl hg5477) rfl rfl ?_
              have hg5478 : (a5454 && t5474.2) = false := by simp only [hg5477, Bool.and_true, Bool.true_and, Bool.and_false, Bool.false_and, Bool.or_true, Bool.true_or, Bool.or_false, Bool.false_or, Bool.not_true, Bool.not_false, Bool.not_not]
              refine ops_ex (v := .bool (a5454 && t5474.2)) rfl (guard_none rfl) rfl rfl (ex_pand_f rfl rfl hg5477) ?_
              refine ox rfl rfl rfl rfl (ex_assign rfl rfl) ?_
              refine ops_nil ?_
              exact at_meet [(2, .pointer (some ⟨b5368, 0, none⟩)), (4, u5374), (6, .bool (a5454 && t5474.2)), (7, .pointer (some ⟨b5392, 0, none⟩)), (8, u5400), (9, .int .i64 a5458), (10, .int .i64 t5474.1)] ⟨rfl, HM⟩ (Sub.cons rfl (Sub.cons rfl (Sub.cons rfl (Sub.cons rfl (Sub.cons rfl (Sub.cons rfl (Sub.cons rfl Sub.nil)))))))
          · rintro _ w5479 ⟨rfl, HM⟩
            refine at_then ?_
            obtain ⟨e5483, ho5443⟩ := chk_some ho5443
            refine run_region rfl ?_
            refine ox rfl rfl rfl rfl (ex_fieldAddr (off' := 0) rfl rfl Tryz.underlying42 rfl tsz40 rfl) ?_
            refine ox rfl rfl rfl rfl (ex_load1 rfl rfl Tryz.underlying40 rfl ((HM.box_at 2 rfl) 0 _ rfl)) ?_
            refine ox rfl rfl rfl rfl (ex_move rfl rfl) ?_
            refine od rfl rfl rfl rfl (does_lit (e := 2) (cs := [.int .i64 t5474.1]) (xs := ([t5474.1] : List Int)) kInt rfl rfl (fun _ => by kernel_rfl) rfl rfl (fun _ _ h => by have h' : _ = [] := h; subst h'; exact (Elems.cons (d := kInt) (x := t5474.1) (f := []) ⟨rfl, rfl⟩ .nil)) HM.emp) ?_
            rintro v5480 w5486 HM
            replace HM := HM.front 4 rfl rfl
            refine od rfl rfl rfl rfl (does_appendR kInt flat_plain rfl rfl rfl Tryz.underlying40 tsz2 rfl tby2 tz2 rfl rfl (leB_le e5483) (HM.own_rd 1 rfl) HM) ?_
            rintro v5484 w5487 HM
            refine ox rfl rfl rfl rfl (ex_fieldAddr (off' := 0) rfl rfl Tryz.underlying42 rfl tsz40 rfl) ?_
            replace HM := HM.front 4 rfl rfl
            refine odS rfl rfl rfl (does_store (vs := [v5484]) (cs' := [v5484, .int .i64 t5389.1, .int .i64 0]) rfl rfl rfl (rd_cells (HM.own_rd 1 rfl)) tsz40 (Ones.rd (HM.own_rd 1 rfl) Ones.nil) rfl rfl HM) ?_
            rintro w5488 HM
            refine ops_nil ?_
            refine at_block ?_
            refine at_then ?_
            refine run_region rfl ?_
            refine ox rfl rfl rfl rfl (ex_move rfl rfl) ?_
            refine ox rfl rfl rfl rfl (ex_add rfl rfl rfl) ?_
            refine ox rfl rfl rfl rfl (ex_assign rfl rfl) ?_
            refine ops_nil ?_
            replace HM := (HM.front 2 rfl rfl).drop
            replace HM := HM.front 4 rfl rfl
            replace HM := HM.front 2 rfl rfl
            replace HM := HM.front 2 rfl rfl
            replace HM := HM.front 4 rfl rfl
            replace HM := HM.front 4 rfl rfl
            exact at_again k5470 (ρ1 := [(2, .pointer (some ⟨b5368, 0, none⟩)), (4, u5374), (6, .bool (a5454 && t5474.2)), (7, .pointer (some ⟨b5392, 0, none⟩)), (8, u5400), (9, .int .i64 (wrap64 (a5458 + 1)))]) (Nat.lt_succ_self _) ⟨_, _, _, _, ho5443, rfl, HM⟩ (Sub.cons rfl (Sub.cons rfl (Sub.cons rfl (Sub.cons rfl (Sub.cons rfl (Sub.cons rfl Sub.nil))))))
        · replace ho5443 := cond_f hb5472 ho5443
          refine run_exit ?_
          refine at_then_exit ?_
          refine at_then_exit ?_
          refine at_block_exit ?_
          replace HM := (HM.front 4 rfl rfl).drop
          exact at_mid (ρ' := [(2, .pointer (some ⟨b5368, 0, none⟩)), (4, u5374), (6, .bool a5454), (7, .pointer (some ⟨b5392, 0, none⟩))]) ⟨_, _, _, (Option.some.inj ho5443), rfl, HM⟩ (Sub.cons rfl (Sub.cons rfl (Sub.cons rfl (Sub.cons rfl Sub.nil))))
      · rintro _ w5489 ⟨a5438, v5439, a5440, rfl, rfl, HM⟩
        replace H := cur2_mk H
        obtain ⟨o5502, ho5503, H⟩ := bind_some H
        refine run_mid (fun ρ_ w_ => ∃ a5500 : Bool, ∃ a5501 : Int, (a5500, a5501) = o5502 ∧ ρ_ = [(2, .pointer (some ⟨b5368, 0, none⟩)), (6, .bool a5500), (7, .pointer (some ⟨b5392, 0, none⟩))] ∧ Mem w [] w_ [box b5368 42 [.slice none 0 0, .int .i64 0, .int .i64 0], box b5392 42 [v5439, .int .i64 t5389.1, .int .i64 a5501], own kInt 2 v5439 a5440]) ?_ ?_
        · clear H
          refine run_seq ?_
          refine run_region rfl ?_
          refine ox rfl rfl rfl rfl (ex_move rfl rfl) ?_
          refine ox rfl rfl rfl rfl (ex_len (d := kStr) (xs := t5372) rfl rfl Tryz.underlying72 (HM.own_rd 1 rfl)) ?_
          refine ox rfl rfl rfl rfl (ex_eql rfl rfl rfl) ?_
          refine ops_nil (at_then ?_)
          refine run_cond (b := ((t5372.length : Int) == 5)) rfl (fun hb5504 => ?_) (fun hb5504 => ?_)
          · replace ho5503 := cond_t hb5504 ho5503
            refine run_seq ?_
            obtain ⟨e5505, ho5503⟩ := chk_some ho5503
            obtain ⟨t5506, h5507, ho5503⟩ := bind_some ho5503
            refine run_region rfl ?_
            refine ox rfl rfl rfl rfl (ex_move rfl rfl) ?_
            refine ox rfl rfl rfl rfl (ex_indexAddr (d := kStr) rfl rfl rfl Tryz.underlying72 tsz9 (HM.own_rd 1 rfl) (idx_lo e5505) (idx_hi e5505)) ?_
            refine ox rfl rfl rfl rfl (ex_load1 rfl rfl Tryz.underlying9 rfl ((rd_plain (HM.own_rd 1 rfl) e5505) 0 _ rfl)) ?_
            refine od rfl rfl rfl rfl (does_callk rfl callok52 rfl (spec_l2Number.calls (x0 := (gt t5372 (4 : Int))) (x1 := 3) h5507)) ?_
            rintro _ w5508 ⟨rfl, hn⟩
            replace HM : Mem w [] w5508 [box b5368 42 [.slice none 0 0, .int .i64 0, .int .i64 0], own kStr 9 u5374 t5372, box b5392 42 [v5439, .int .i64 t5389.1, .int .i64 0], own kInt 2 v5439 a5440] := HM.call hn
            refine ox rfl rfl rfl rfl (ex_move rfl rfl) ?_
            refine ox rfl rfl rfl rfl (ex_extract rfl rfl rfl) ?_
            refine ox rfl rfl rfl rfl (ex_extract rfl rfl rfl) ?_
            refine ox rfl rfl rfl rfl (ex_assign rfl rfl) ?_
            refine ox rfl rfl rfl rfl (ex_assign rfl rfl) ?_
            refine ops_nil (at_then (run_seq ?_))
            obtain ⟨e5509, ho5503⟩ := chk_some ho5503
            refine run_meet (fun ρ_ w_ => ρ_ = [(2, .pointer (some ⟨b5368, 0, none⟩)), (6, .bool (((a5438 && t5506.2) && (sEq (gt t5372 (3 : Int)) (⟨#[97, 102, 116, 101, 114]⟩ : ByteArray))) && (decide (0 < t5506.1)))), (7, .pointer (some ⟨b5392, 0, none⟩)), (12, .int .i64 t5506.1)] ∧ Mem w [] w_ [box b5368 42 [.slice none 0 0, .int .i64 0, .int .i64 0], box b5392 42 [v5439, .int .i64 t5389.1, .int .i64 0], own kInt 2 v5439 a5440]) ?_ ?_
            · skip
              refine run_region rfl ?_
              refine ox rfl rfl rfl rfl (ex_move rfl rfl) ?_
              refine ox rfl rfl rfl rfl (ex_move rfl rfl) ?_
              refine bool_cases a5438 (fun hg5510 => ?_) (fun hg5510 => ?_)
              · skip
                refine ops_ex rfl (guard_on rfl rfl rfl hg5510) rfl rfl (ex_move rfl rfl) ?_
                refine ops_ex (v := .bool (a5438 && t5506.2)) rfl (guard_none rfl) rfl rfl (ex_pand_t rfl rfl hg5510 rfl) ?_
                refine ox rfl rfl rfl rfl (ex_move rfl rfl) ?_
                refine bool_cases (a5438 && t5506.2) (fun hg5511 => ?_) (fun hg5511 => ?_)
                · skip
                  refine ops_ex rfl (guard_on rfl rfl rfl hg5511) rfl rfl (ex_move rfl rfl) ?_
                  refine ops_ex rfl (guard_on rfl rfl rfl hg5511) rfl rfl (ex_indexAddr (d := kStr) rfl rfl rfl Tryz.underlying72 tsz9 (HM.own_rd 1 rfl) (idx_lo (or_t e5509 hg5511)) (idx_hi (or_t e5509 hg5511))) ?_
                  refine ops_ex rfl (guard_on rfl rfl rfl hg5511) rfl rfl (ex_load1 rfl rfl Tryz.underlying9 rfl ((rd_plain (HM.own_rd 1 rfl) (or_t e5509 hg5511)) 0 _ rfl)) ?_
                  refine ops_ex rfl (guard_on rfl rfl rfl hg5511) rfl rfl (ex_seql rfl rfl rfl) ?_
                  refine ops_ex (v := .bool ((a5438 && t5506.2) && (sEq (gt t5372 (3 : Int)) (⟨#[97, 102, 116, 101, 114]⟩ : ByteArray)))) rfl (guard_none rfl) rfl rfl (ex_pand_t rfl rfl hg5511 rfl) ?_
                  refine ox rfl rfl rfl rfl (ex_move rfl rfl) ?_
                  refine bool_cases ((a5438 && t5506.2) && (sEq (gt t5372 (3 : Int)) (⟨#[97, 102, 116, 101, 114]⟩ : ByteArray))) (fun hg5512 => ?_) (fun hg5512 => ?_)
                  · skip
                    refine ops_ex rfl (guard_on rfl rfl rfl hg5512) rfl rfl (ex_move rfl rfl) ?_
                    refine ops_ex rfl (guard_on rfl rfl rfl hg5512) rfl rfl (ex_gtr rfl rfl rfl) ?_
                    refine ops_ex (v := .bool (((a5438 && t5506.2) && (sEq (gt t5372 (3 : Int)) (⟨#[97, 102, 116, 101, 114]⟩ : ByteArray))) && (decide (0 < t5506.1)))) rfl (guard_none rfl) rfl rfl (ex_pand_t rfl rfl hg5512 rfl) ?_
                    refine ox rfl rfl rfl rfl (ex_assign rfl rfl) ?_
                    refine ops_nil ?_
                    replace HM := (HM.front 1 rfl rfl).drop
                    exact at_meet [(2, .pointer (some ⟨b5368, 0, none⟩)), (6, .bool (((a5438 && t5506.2) && (sEq (gt t5372 (3 : Int)) (⟨#[97, 102, 116, 101, 114]⟩ : ByteArray))) && (decide (0 < t5506.1)))), (7, .pointer (some ⟨b5392, 0, none⟩)), (12, .int .i64 t5506.1)] ⟨rfl, HM⟩ (Sub.cons rfl (Sub.cons rfl (Sub.cons rfl (Sub.cons rfl Sub.nil))))
                  · skip
                    refine ops_off rfl (guard_off rfl rfl rfl hg5512) rfl rfl ?_
                    refine ops_off rfl (guard_off rfl rfl rfl hg5512) rfl rfl ?_
                    have hg5513 : (((a5438 && t5506.2) && (sEq (gt t5372 (3 : Int)) (⟨#[97, 102, 116, 101, 114]⟩ : ByteArray))) && (decide (0 < t5506.1))) = false := by simp only [hg5512, Bool.and_true, Bool.true_and, Bool.and_false, Bool.false_and, Bool.or_true, Bool.true_or, Bool.or_false, Bool.false_or, Bool.not_true, Bool.not_false, Bool.not_not]
                    refine ops_ex (v := .bool (((a5438 && t5506.2) && (sEq (gt t5372 (3 : Int)) (⟨#[97, 102, 116, 101, 114]⟩ : ByteArray))) && (decide (0 < t5506.1)))) rfl (guard_none rfl) rfl rfl (ex_pand_f rfl rfl hg5512) ?_
                    refine ox rfl rfl rfl rfl (ex_assign rfl rfl) ?_
                    refine ops_nil ?_
                    replace HM := (HM.front 1 rfl rfl).drop
                    exact at_meet [(2, .pointer (some ⟨b5368, 0, none⟩)), (6, .bool (((a5438 && t5506.2) && (sEq (gt t5372 (3 : Int)) (⟨#[97, 102, 116, 101, 114]⟩ : ByteArray))) && (decide (0 < t5506.1)))), (7, .pointer (some ⟨b5392, 0, none⟩)), (12, .int .i64 t5506.1)] ⟨rfl, HM⟩ (Sub.cons rfl (Sub.cons rfl (Sub.cons rfl (Sub.cons rfl Sub.nil))))
                · skip
                  refine ops_off rfl (guard_off rfl rfl rfl hg5511) rfl rfl ?_
                  refine ops_off rfl (guard_off rfl rfl rfl hg5511) rfl rfl ?_
                  refine ops_off rfl (guard_off rfl rfl rfl hg5511) rfl rfl ?_
                  refine ops_off rfl (guard_off rfl rfl rfl hg5511) rfl rfl ?_
                  have hg5514 : ((a5438 && t5506.2) && (sEq (gt t5372 (3 : Int)) (⟨#[97, 102, 116, 101, 114]⟩ : ByteArray))) = false := by simp only [hg5511, Bool.and_true, Bool.true_and, Bool.and_false, Bool.false_and, Bool.or_true, Bool.true_or, Bool.or_false, Bool.false_or, Bool.not_true, Bool.not_false, Bool.not_not]
                  refine ops_ex (v := .bool ((a5438 && t5506.2) && (sEq (gt t5372 (3 : Int)) (⟨#[97, 102, 116, 101, 114]⟩ : ByteArray)))) rfl (guard_none rfl) rfl rfl (ex_pand_f rfl rfl hg5511) ?_
                  refine ox rfl rfl rfl rfl (ex_move rfl rfl) ?_
                  refine ops_off rfl (guard_off rfl rfl rfl hg5514) rfl rfl ?_
                  refine ops_off rfl (guard_off rfl rfl rfl hg5514) rfl rfl ?_
                  have hg5515 : (((a5438 && t5506.2) && (sEq (gt t5372 (3 : Int)) (⟨#[97, 102, 116, 101, 114]⟩ : ByteArray))) && (decide (0 < t5506.1))) = false := by simp only [hg5514, Bool.and_true, Bool.true_and, Bool.and_false, Bool.false_and, Bool.or_true, Bool.true_or, Bool.or_false, Bool.false_or, Bool.not_true, Bool.not_false, Bool.not_not]
                  refine ops_ex (v := .bool (((a5438 && t5506.2) && (sEq (gt t5372 (3 : Int)) (⟨#[97, 102, 116, 101, 114]⟩ : ByteArray))) && (decide (0 < t5506.1)))) rfl (guard_none rfl) rfl rfl (ex_pand_f rfl rfl hg5514) ?_
                  refine ox rfl rfl rfl rfl (ex_assign rfl rfl) ?_
                  refine ops_nil ?_
                  replace HM := (HM.front 1 rfl rfl).drop
                  exact at_meet [(2, .pointer (some ⟨b5368, 0, none⟩)), (6, .bool (((a5438 && t5506.2) && (sEq (gt t5372 (3 : Int)) (⟨#[97, 102, 116, 101, 114]⟩ : ByteArray))) && (decide (0 < t5506.1)))), (7, .pointer (some ⟨b5392, 0, none⟩)), (12, .int .i64 t5506.1)] ⟨rfl, HM⟩ (Sub.cons rfl (Sub.cons rfl (Sub.cons rfl (Sub.cons rfl Sub.nil))))
              · skip
                refine ops_off rfl (guard_off rfl rfl rfl hg5510) rfl rfl ?_
                have hg5516 : (a5438 && t5506.2) = false := by simp only [hg5510, Bool.and_true, Bool.true_and, Bool.and_false, Bool.false_and, Bool.or_true, Bool.true_or, Bool.or_false, Bool.false_or, Bool.not_true, Bool.not_false, Bool.not_not]
                refine ops_ex (v := .bool (a5438 && t5506.2)) rfl (guard_none rfl) rfl rfl (ex_pand_f rfl rfl hg5510) ?_
                refine ox rfl rfl rfl rfl (ex_move rfl rfl) ?_
                refine ops_off rfl (guard_off rfl rfl rfl hg5516) rfl rfl ?_
                refine ops_off rfl (guard_off rfl rfl rfl hg5516) rfl rfl ?_
                refine ops_off rfl (guard_off rfl rfl rfl hg5516) rfl rfl ?_
                refine ops_off rfl (guard_off rfl rfl rfl hg5516) rfl rfl ?_
                have hg5517 : ((a5438 && t5506.2) && (sEq (gt t5372 (3 : Int)) (⟨#[97, 102, 116, 101, 114]⟩ : ByteArray))) = false := by simp only [hg5516, Bool.and_true, Bool.true_and, Bool.and_false, Bool.false_and, Bool.or_true, Bool.true_or, Bool.or_false, Bool.false_or, Bool.not_true, Bool.not_false, Bool.not_not]
                refine ops_ex (v := .bool ((a5438 && t5506.2) && (sEq (gt t5372 (3 : Int)) (⟨#[97, 102, 116, 101, 114]⟩ : ByteArray)))) rfl (guard_none rfl) rfl rfl (ex_pand_f rfl rfl hg5516) ?_
                refine ox rfl rfl rfl rfl (ex_move rfl rfl) ?_
                refine ops_off rfl (guard_off rfl rfl rfl hg5517) rfl rfl ?_
                refine ops_off rfl (guard_off rfl rfl rfl hg5517) rfl rfl ?_
                have hg5518 : (((a5438 && t5506.2) && (sEq (gt t5372 (3 : Int)) (⟨#[97, 102, 116, 101, 114]⟩ : ByteArray))) && (decide (0 < t5506.1))) = false := by simp only [hg5517, Bool.and_true, Bool.true_and, Bool.and_false, Bool.false_and, Bool.or_true, Bool.true_or, Bool.or_false, Bool.false_or, Bool.not_true, Bool.not_false, Bool.not_not]
                refine ops_ex (v := .bool (((a5438 && t5506.2) && (sEq (gt t5372 (3 : Int)) (⟨#[97, 102, 116, 101, 114]⟩ : ByteArray))) && (decide (0 < t5506.1)))) rfl (guard_none rfl) rfl rfl (ex_pand_f rfl rfl hg5517) ?_
                refine ox rfl rfl rfl rfl (ex_assign rfl rfl) ?_
                refine ops_nil ?_
                replace HM := (HM.front 1 rfl rfl).drop
                exact at_meet [(2, .pointer (some ⟨b5368, 0, none⟩)), (6, .bool (((a5438 && t5506.2) && (sEq (gt t5372 (3 : Int)) (⟨#[97, 102, 116, 101, 114]⟩ : ByteArray))) && (decide (0 < t5506.1)))), (7, .pointer (some ⟨b5392, 0, none⟩)), (12, .int .i64 t5506.1)] ⟨rfl, HM⟩ (Sub.cons rfl (Sub.cons rfl (Sub.cons rfl (Sub.cons rfl Sub.nil))))
            · rintro _ w5519 ⟨rfl, HM⟩
              refine at_then ?_
              refine run_region rfl ?_
              refine ox rfl rfl rfl rfl (ex_move rfl rfl) ?_
              refine ox rfl rfl rfl rfl (ex_fieldAddr (off' := 2) rfl rfl Tryz.underlying42 rfl tsz2 rfl) ?_
              replace HM := HM.front 1 rfl rfl
              refine odS rfl rfl rfl (does_store (vs := [.int .i64 t5506.1]) (cs' := [v5439, .int .i64 t5389.1, .int .i64 t5506.1]) rfl rfl rfl rfl tsz2 (Ones.int Ones.nil) rfl rfl HM) ?_
              rintro w5520 HM
              refine ops_nil ?_
              replace HM := HM.front 2 rfl rfl
              replace HM := HM.front 1 rfl rfl
              replace HM := HM.front 2 rfl rfl
              exact at_mid (ρ' := [(2, .pointer (some ⟨b5368, 0, none⟩)), (6, .bool (((a5438 && t5506.2) && (sEq (gt t5372 (3 : Int)) (⟨#[97, 102, 116, 101, 114]⟩ : ByteArray))) && (decide (0 < t5506.1)))), (7, .pointer (some ⟨b5392, 0, none⟩))]) ⟨_, _, (Option.some.inj ho5503), rfl, HM⟩ (Sub.cons rfl (Sub.cons rfl (Sub.cons rfl Sub.nil)))
          · replace ho5503 := cond_f hb5504 ho5503
            refine run_skip ?_
            replace HM := (HM.front 1 rfl rfl).drop
            exact at_mid (ρ' := [(2, .pointer (some ⟨b5368, 0, none⟩)), (6, .bool a5438), (7, .pointer (some ⟨b5392, 0, none⟩))]) ⟨_, _, (Option.some.inj ho5503), rfl, HM⟩ (Sub.cons rfl (Sub.cons rfl (Sub.cons rfl Sub.nil)))
        · rintro _ w5521 ⟨a5500, a5501, rfl, rfl, HM⟩
          replace H := cur2_mk H
          refine run_seq ?_
          obtain ⟨t5522, h5523, H⟩ := bind_some H
          refine run_meet (fun ρ_ w_ => ρ_ = [(2, .pointer (some ⟨b5368, 0, none⟩)), (3, .bool (a5500 && (t5522 == 0)))] ∧ Mem w [] w_ [box b5368 42 [v5439, .int .i64 t5389.1, .int .i64 a5501], own kInt 2 v5439 a5440]) ?_ ?_
          · skip
            refine run_drawf (fun w_ => Mem w [] w_ [box b5392 42 [v5439, .int .i64 t5389.1, .int .i64 a5501], own kInt 2 v5439 a5440]) [(0, true), (1, true), (2, true), (3, false), (4, true), (5, true), (6, false), (7, true)] mixed rfl rfl (by kernel_rfl) ?_
            replace HM := HM.grow (fr_drew _)
            have hS := Mem.suf (M := [box b5368 42 [.slice none 0 0, .int .i64 0, .int .i64 0]]) HM
            refine drwp_take rfl (guard_none rfl) rfl rfl (fun w_ hS_ => (ex_loadN (cs := [v5439, (.int .i64 t5389.1), (.int .i64 a5501)]) rfl rfl Tryz.underlying42 rfl tsz42 rfl ((hS_.box_at 0 rfl).sub 0 3 rfl))) hS ?_
            refine dp rfl rfl rfl rfl (ex_move rfl rfl) hS ?_
            refine dp rfl rfl rfl rfl (ex_move rfl rfl) hS ?_
            refine bool_cases a5500 (fun hg5524 => ?_) (fun hg5524 => ?_)
            · skip
              refine drwp_one rfl (guard_on rfl rfl rfl hg5524) rfl rfl (does_callk rfl callok75 rfl (spec_l2Fault.calls (x0 := (⟨a5440, t5389.1, a5501⟩ : Rule)) (HM.box_at 1 rfl) (HM.own_rd 2 rfl) (cond_t hg5524 h5523))) ?_
              rintro _ w5525 ⟨rfl, hn⟩
              replace HM : Mem w [] w5525 [box b5368 42 [.slice none 0 0, .int .i64 0, .int .i64 0], box b5392 42 [v5439, .int .i64 t5389.1, .int .i64 a5501], own kInt 2 v5439 a5440] := HM.call hn
              have hS := Mem.suf (M := [box b5368 42 [.slice none 0 0, .int .i64 0, .int .i64 0]]) HM
              refine ⟨hS, ?_⟩
              refine drwp_take rfl (guard_on rfl rfl rfl hg5524) rfl rfl (fun w_ hS_ => (ex_eql rfl rfl rfl)) hS ?_
              refine drwp_take (v := .bool (a5500 && (t5522 == 0))) rfl (guard_none rfl) rfl rfl (fun w_ hS_ => (ex_pand_t rfl rfl hg5524 rfl)) hS ?_
              refine drwp_oneS rfl (guard_none rfl) rfl (does_store (vs := [v5439, .int .i64 t5389.1, .int .i64 a5501]) (cs' := [v5439, .int .i64 t5389.1, .int .i64 a5501]) rfl rfl rfl rfl tsz42 (Ones.rd (HM.own_rd 2 rfl) (Ones.int (Ones.int Ones.nil))) rfl rfl HM) ?_
              rintro w5526 HM
              have hS := Mem.suf (M := [box b5368 42 [v5439, .int .i64 t5389.1, .int .i64 a5501]]) HM
              refine ⟨hS, ?_⟩
              refine dp rfl rfl rfl rfl (ex_assign rfl rfl) hS ?_
              refine drwp_done ?_
              replace HM := (HM.front 1 rfl rfl).drop
              exact at_meet [(2, .pointer (some ⟨b5368, 0, none⟩)), (3, .bool (a5500 && (t5522 == 0)))] ⟨rfl, HM⟩ (Sub.cons rfl (Sub.cons rfl Sub.nil))
            · skip
              refine drwp_off1 rfl (guard_off rfl rfl rfl hg5524) rfl rfl ⟨hS, ?_⟩
              refine drwp_off rfl (guard_off rfl rfl rfl hg5524) rfl rfl hS ?_
              have hg5527 : (a5500 && (t5522 == 0)) = false := by simp only [hg5524, Bool.and_true, Bool.true_and, Bool.and_false, Bool.false_and, Bool.or_true, Bool.true_or, Bool.or_false, Bool.false_or, Bool.not_true, Bool.not_false, Bool.not_not]
              refine drwp_take (v := .bool (a5500 && (t5522 == 0))) rfl (guard_none rfl) rfl rfl (fun w_ hS_ => (ex_pand_f rfl rfl hg5524)) hS ?_
              refine drwp_oneS rfl (guard_none rfl) rfl (does_store (vs := [v5439, .int .i64 t5389.1, .int .i64 a5501]) (cs' := [v5439, .int .i64 t5389.1, .int .i64 a5501]) rfl rfl rfl rfl tsz42 (Ones.rd (HM.own_rd 2 rfl) (Ones.int (Ones.int Ones.nil))) rfl rfl HM) ?_
              rintro w5528 HM
              have hS := Mem.suf (M := [box b5368 42 [v5439, .int .i64 t5389.1, .int .i64 a5501]]) HM
              refine ⟨hS, ?_⟩
              refine dp rfl rfl rfl rfl (ex_assign rfl rfl) hS ?_
              refine drwp_done ?_
              replace HM := (HM.front 1 rfl rfl).drop
              exact at_meet [(2, .pointer (some ⟨b5368, 0, none⟩)), (3, .bool (a5500 && (t5522 == 0)))] ⟨rfl, HM⟩ (Sub.cons rfl (Sub.cons rfl Sub.nil))
          · rintro _ w5529 ⟨rfl, HM⟩
            refine at_then ?_
            refine run_ret ?_
            have hcb0 := HM.box_at 0 rfl
            replace HM := (HM.front 0 rfl rfl).drop
            have hR := Option.some.inj H
            subst hR
            exact at_retN1 rfl rfl rfl Tryz.underlying42 rfl tsz42 rfl hcb0 ⟨_, rfl, _, rfl, HM⟩
end Go.Proofs.YtmaolhocmkkmjaaGreatDoor.Zk
