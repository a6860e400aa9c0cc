/- What functions of the program compute, each as a plain function, and that they do. Conditions: as each theorem states them. -/
import Derived.Test.YtcpacdbdehphkaaDoorTxTextZkF0
namespace Go.Proofs.YtcpacdbdehphkaaDoor.Zk
open Go Go.RowKit Go.IntWalk Go.Proofs
set_option linter.unusedVariables false
set_option linter.unusedSimpArgs false
set_option maxRecDepth 100000
set_option maxHeartbeats 4000000
def spec_l1In.f (k : Nat) (x0 : Int) (x1 : Int) (x2 : Int) : Option Bool := some ((decide (x1 ≤ x0)) && (decide (x0 ≤ x2)))
theorem spec_l1In.calls {k : Nat} {x0 : Int} {x1 : Int} {x2 : Int}  {w : World}  {r : Bool} (H : spec_l1In.f k x0 x1 x2 = some r) :
    Calls Tryd.prog 59 ([.int .i64 x0, .int .i64 x1, .int .i64 x2] : List Value).toArray w (fun e w_ => ∃ v, e = .returned v ∧ v = (.bool r) ∧ Mem w [] w_ []) := by
  have HM := Mem.start w
  refine calls_run (N := 15) Tryd.func59 rfl rfl rfl rfl ?_
  unfold spec_l1In.f at H
  refine run_seq ?_
  refine run_region rfl ?_
  refine ops_ex rfl (guard_none rfl) rfl rfl (ex_assign rfl rfl) ?_
  refine ops_nil ?_
  refine at_then ?_
  refine run_seq ?_
  refine run_meet (fun ρ_ w_ => ρ_ = [(6, .bool ((decide (x1 ≤ x0)) && (decide (x0 ≤ x2))))] ∧ Mem w [] w_ []) ?_ ?_
  · skip
    refine run_region rfl ?_
    refine ops_ex rfl (guard_none rfl) rfl rfl (ex_move rfl rfl) ?_
    refine ops_ex rfl (guard_none rfl) rfl rfl (ex_move rfl rfl) ?_
    refine ops_ex rfl (guard_none rfl) rfl rfl (ex_geq rfl rfl rfl) ?_
    refine ops_ex rfl (guard_none rfl) rfl rfl (ex_move rfl rfl) ?_
    refine bool_cases (decide (x1 ≤ x0)) (fun hg595 => ?_) (fun hg595 => ?_)
    · skip
      refine ops_ex rfl (guard_on rfl rfl rfl hg595) rfl rfl (ex_move rfl rfl) ?_
      refine ops_ex rfl (guard_on rfl rfl rfl hg595) rfl rfl (ex_move rfl rfl) ?_
      refine ops_ex rfl (guard_on rfl rfl rfl hg595) rfl rfl (ex_leq rfl rfl rfl) ?_
      refine ops_ex (v := .bool ((decide (x1 ≤ x0)) && (decide (x0 ≤ x2)))) rfl (guard_none rfl) rfl rfl (ex_pand_t rfl rfl hg595 rfl) ?_
      refine ops_ex rfl (guard_none rfl) rfl rfl (ex_assign rfl rfl) ?_
      refine ops_nil ?_
      exact at_meet [(6, .bool ((decide (x1 ≤ x0)) && (decide (x0 ≤ x2))))] ⟨rfl, HM⟩ (Sub.cons rfl Sub.nil)
    · skip
      refine ops_off rfl (guard_off rfl rfl rfl hg595) rfl rfl ?_
      refine ops_off rfl (guard_off rfl rfl rfl hg595) rfl rfl ?_
      refine ops_off rfl (guard_off rfl rfl rfl hg595) rfl rfl ?_
      have hg596 : ((decide (x1 ≤ x0)) && (decide (x0 ≤ x2))) = false := by simp only [hg595, Bool.and_true, Bool.true_and, Bool.and_false, Bool.false_and, Bool.or_true, Bool.true_or, Bool.or_false, Bool.false_or, Bool.not_true, Bool.not_false, Bool.not_not]
      refine ops_ex (v := .bool ((decide (x1 ≤ x0)) && (decide (x0 ≤ x2)))) rfl (guard_none rfl) rfl rfl (ex_pand_f rfl rfl hg595) ?_
      refine ops_ex rfl (guard_none rfl) rfl rfl (ex_assign rfl rfl) ?_
      refine ops_nil ?_
      exact at_meet [(6, .bool ((decide (x1 ≤ x0)) && (decide (x0 ≤ x2))))] ⟨rfl, HM⟩ (Sub.cons rfl Sub.nil)
  · rintro _ w597 ⟨rfl, HM⟩
    refine at_then ?_
    refine run_ret ?_
    have hR := Option.some.inj H
    subst hR
    exact at_ret1 rfl rfl ⟨_, rfl, rfl, HM⟩

def spec_l1Key.f (k : Nat) (x0 : Int) : Option Bool := ((spec_l1In.f k x0 1 999).bind fun t606 => some t606)
theorem spec_l1Key.calls {k : Nat} {x0 : Int}  {w : World}  {r : Bool} (H : spec_l1Key.f k x0 = some r) :
    Calls Tryd.prog 62 ([.int .i64 x0] : List Value).toArray w (fun e w_ => ∃ v, e = .returned v ∧ v = (.bool r) ∧ Mem w [] w_ []) := by
  have HM := Mem.start w
  refine calls_run (N := 5) Tryd.func62 rfl rfl rfl rfl ?_
  unfold spec_l1Key.f at H
  refine run_seq ?_
  refine run_region rfl ?_
  refine ops_ex rfl (guard_none rfl) rfl rfl (ex_assign rfl rfl) ?_
  refine ops_nil ?_
  refine at_then ?_
  refine run_seq ?_
  obtain ⟨t606, h607, H⟩ := bind_some H
  refine run_region rfl ?_
  refine ops_ex rfl (guard_none rfl) rfl rfl (ex_move rfl rfl) ?_
  refine ops_does rfl (guard_none rfl) rfl rfl (does_callk rfl callok59 rfl (spec_l1In.calls (x0 := x0) (x1 := 1) (x2 := 999) h607)) ?_
  rintro _ w608 ⟨rfl, hn⟩
  replace HM : Mem w [] w608 [] := HM.call hn
  refine ops_ex rfl (guard_none rfl) rfl rfl (ex_assign rfl rfl) ?_
  refine ops_nil ?_
  refine at_then ?_
  refine run_ret ?_
  have hR := Option.some.inj H
  subst hR
  exact at_ret1 rfl rfl ⟨_, rfl, rfl, HM⟩

def spec_l3Ref.f (k : Nat) (x0 : Ref) : Option Bool := ((spec_l1In.f k x0.fTx 1 60).bind fun t639 => ((bif t639 then spec_l1In.f k x0.fAt 0 3 else some default).bind fun t641 => some (t639 && t641)))
theorem spec_l3Ref.calls {k : Nat} {x0 : Ref}  {w : World}  {r : Bool} (H : spec_l3Ref.f k x0 = some r) :
    Calls Tryd.prog 63 ([.agg #[(.int .i64 x0.fTx), (.int .i64 x0.fAt)]] : List Value).toArray w (fun e w_ => ∃ v, e = .returned v ∧ v = (.bool r) ∧ Mem w [] w_ []) := by
  have HM := Mem.start w
  refine calls_run (N := 11) Tryd.func63 rfl rfl rfl rfl ?_
  unfold spec_l3Ref.f at H
  refine run_seq ?_
  refine run_region rfl ?_
  refine ops_does rfl (guard_none rfl) rfl rfl (does_box (cs := [.int .i64 x0.fTx, .int .i64 x0.fAt]) rfl rfl rfl HM) ?_
  rintro _ w638 ⟨b635, rfl, HM⟩
  refine ops_ex rfl (guard_none rfl) rfl rfl (ex_assign rfl rfl) ?_
  refine ops_nil ?_
  refine at_then ?_
  refine run_seq ?_
  obtain ⟨t639, h640, H⟩ := bind_some H
  obtain ⟨t641, h642, H⟩ := bind_some H
  refine run_meet (fun ρ_ w_ => ρ_ = [(2, .bool (t639 && t641))] ∧ Mem w [] w_ []) ?_ ?_
  · skip
    refine run_region rfl ?_
    refine ops_ex rfl (guard_none rfl) rfl rfl (ex_fieldAddr (off' := 0) rfl rfl Tryd.underlying101 rfl tsz2 rfl) ?_
    refine ops_ex rfl (guard_none rfl) rfl rfl (ex_load1 rfl rfl Tryd.underlying2 rfl ((HM.box_at 0 rfl) 0 _ rfl)) ?_
    refine ops_does rfl (guard_none rfl) rfl rfl (does_callk rfl callok59 rfl (spec_l1In.calls (x0 := x0.fTx) (x1 := 1) (x2 := 60) h640)) ?_
    rintro _ w643 ⟨rfl, hn⟩
    replace HM : Mem w [] w643 [box b635 101 [.int .i64 x0.fTx, .int .i64 x0.fAt]] := HM.call hn
    refine ops_ex rfl (guard_none rfl) rfl rfl (ex_move rfl rfl) ?_
    refine bool_cases t639 (fun hg644 => ?_) (fun hg644 => ?_)
    · skip
      refine ops_ex rfl (guard_on rfl rfl rfl hg644) rfl rfl (ex_fieldAddr (off' := 1) rfl rfl Tryd.underlying101 rfl tsz2 rfl) ?_
      refine ops_ex rfl (guard_on rfl rfl rfl hg644) rfl rfl (ex_load1 rfl rfl Tryd.underlying2 rfl ((HM.box_at 0 rfl) 1 _ rfl)) ?_
      refine ops_does rfl (guard_on rfl rfl rfl hg644) rfl rfl (does_callk rfl callok59 rfl (spec_l1In.calls (x0 := x0.fAt) (x1 := 0) (x2 := 3) (cond_t hg644 h642))) ?_
      rintro _ w645 ⟨rfl, hn⟩
      replace HM : Mem w [] w645 [box b635 101 [.int .i64 x0.fTx, .int .i64 x0.fAt]] := HM.call hn
      refine ops_ex (v := .bool (t639 && t641)) rfl (guard_none rfl) rfl rfl (ex_pand_t rfl rfl hg644 rfl) ?_
      refine ops_ex rfl (guard_none rfl) rfl rfl (ex_assign rfl rfl) ?_
      refine ops_nil ?_
      replace HM := (HM.front 0 rfl rfl).drop
      exact at_meet [(2, .bool (t639 && t641))] ⟨rfl, HM⟩ (Sub.cons rfl Sub.nil)
    · skip
      refine ops_off rfl (guard_off rfl rfl rfl hg644) rfl rfl ?_
      refine ops_off rfl (guard_off rfl rfl rfl hg644) rfl rfl ?_
      refine ops_off rfl (guard_off rfl rfl rfl hg644) rfl rfl ?_
      have hg646 : (t639 && t641) = false := by simp only [hg644, Bool.and_true, Bool.true_and, Bool.and_false, Bool.false_and, Bool.or_true, Bool.true_or, Bool.or_false, Bool.false_or, Bool.not_true, Bool.not_false, Bool.not_not]
      refine ops_ex (v := .bool (t639 && t641)) rfl (guard_none rfl) rfl rfl (ex_pand_f rfl rfl hg644) ?_
      refine ops_ex rfl (guard_none rfl) rfl rfl (ex_assign rfl rfl) ?_
      refine ops_nil ?_
      replace HM := (HM.front 0 rfl rfl).drop
      exact at_meet [(2, .bool (t639 && t641))] ⟨rfl, HM⟩ (Sub.cons rfl Sub.nil)
  · rintro _ w647 ⟨rfl, HM⟩
    refine at_then ?_
    refine run_ret ?_
    have hR := Option.some.inj H
    subst hR
    exact at_ret1 rfl rfl ⟨_, rfl, rfl, HM⟩

def spec_l3Among.l0 (x0 : List Ref) (x1 : Ref) : Nat → Int → Option (Bool ⊕ Unit)
  | 0, _ => none
  | k + 1, a703 => (bif (decide (a703 < (x0.length : Int))) then (chk (idxOk a703 x0.length) (bif ((((gt x0 a703).fTx) == x1.fTx) && (((gt x0 a703).fAt) == x1.fAt)) then some (.inl true) else spec_l3Among.l0 x0 x1 k (wrap64 (a703 + 1)))) else some (.inr ()))
theorem spec_l3Among.l0_z (x0 : List Ref) (x1 : Ref) (a703 : Int) : spec_l3Among.l0 x0 x1 0 a703 = none := rfl
theorem spec_l3Among.l0_s (x0 : List Ref) (x1 : Ref) (k : Nat) (a703 : Int) : spec_l3Among.l0 x0 x1 (k + 1) a703 = (bif (decide (a703 < (x0.length : Int))) then (chk (idxOk a703 x0.length) (bif ((((gt x0 a703).fTx) == x1.fTx) && (((gt x0 a703).fAt) == x1.fAt)) then some (.inl true) else spec_l3Among.l0 x0 x1 k (wrap64 (a703 + 1)))) else some (.inr ())) := rfl
def spec_l3Among.f (k : Nat) (x0 : List Ref) (x1 : Ref) : Option Bool := ((spec_l3Among.l0 x0 x1 k 0).bind fun o697 => thn o697 (fun r => some r) (fun _ => some false))
theorem spec_l3Among.calls {k : Nat} {x0 : List Ref} {x1 : Ref} {p0 : Value} {w : World} (hp0 : RdS kRef w p0 x0) {r : Bool} (H : spec_l3Among.f k x0 x1 = some r) :
    Calls Tryd.prog 64 ([p0, .agg #[(.int .i64 x1.fTx), (.int .i64 x1.fAt)]] : List Value).toArray w (fun e w_ => ∃ v, e = .returned v ∧ v = (.bool r) ∧ Mem w [] w_ []) := by
  have HM := Mem.start w
  refine calls_run (N := 18) Tryd.func64 rfl rfl rfl rfl ?_
  unfold spec_l3Among.f at H
  refine run_seq ?_
  refine run_region rfl ?_
  refine ops_does rfl (guard_none rfl) rfl rfl (does_box (cs := [.int .i64 x1.fTx, .int .i64 x1.fAt]) rfl rfl rfl HM) ?_
  rintro _ w683 ⟨b680, rfl, HM⟩
  refine ops_ex rfl (guard_none rfl) rfl rfl (ex_assign rfl rfl) ?_
  refine ops_nil ?_
  refine at_then ?_
  obtain ⟨o697, ho698, H⟩ := bind_some H
  refine run_mid (fun ρ_ w_ => Sum.inr () = o697 ∧ ρ_ = [] ∧ Mem w [] w_ []) ?_ ?_
  · skip
    refine run_seq ?_
    refine run_region rfl ?_
    refine ops_ex rfl (guard_none rfl) rfl rfl (ex_assign rfl rfl) ?_
    refine ops_nil ?_
    refine at_then ?_
    refine run_block ?_
    refine run_loop (fun k_ ρ_ w_ => ∃ a703 : Int, spec_l3Among.l0 x0 x1 k_ a703 = some o697 ∧ ρ_ = [(0, p0), (3, .pointer (some ⟨b680, 0, none⟩)), (5, .int .i64 a703)] ∧ Mem w [] w_ [box b680 101 [.int .i64 x1.fTx, .int .i64 x1.fAt]]) k (ρ1 := [(0, p0), (3, .pointer (some ⟨b680, 0, none⟩)), (5, .int .i64 0)]) ⟨_, ho698, rfl, HM⟩ (Sub.cons rfl (Sub.cons rfl (Sub.cons rfl Sub.nil))) ?_
    clear HM ho698
    rintro k708 _ w709 ⟨a703, ho698, rfl, HM⟩
    obtain _ | k708 := k708
    · exact nomatch ((spec_l3Among.l0_z x0 x1 a703).symm.trans ho698)
    replace ho698 := (spec_l3Among.l0_s x0 x1 k708 a703).symm.trans ho698
    refine run_seq ?_
    refine run_seq ?_
    refine run_region rfl ?_
    refine ops_ex rfl (guard_none rfl) rfl rfl (ex_move rfl rfl) ?_
    refine ops_ex rfl (guard_none rfl) rfl rfl (ex_move rfl rfl) ?_
    refine ops_ex rfl (guard_none rfl) rfl rfl (ex_len (d := kRef) (xs := x0) rfl rfl Tryd.underlying30 hp0) ?_
    refine ops_ex rfl (guard_none rfl) rfl rfl (ex_lss rfl rfl rfl) ?_
    refine ops_nil ?_
    refine at_then ?_
    refine run_cond (b := (decide (a703 < (x0.length : Int)))) rfl (fun hb710 => ?_) (fun hb710 => ?_)
    · replace ho698 := cond_t hb710 ho698
      refine run_skip ?_
      refine at_then ?_
      refine run_seq ?_
      refine run_block ?_
      refine run_seq ?_
      obtain ⟨e711, ho698⟩ := chk_some ho698
      refine run_drawf (fun w_ => Mem w [] w_ [box b680 101 [.int .i64 x1.fTx, .int .i64 x1.fAt]]) [(0, true), (1, true), (2, true), (3, true), (4, true), (5, true)] mixed rfl rfl (by kernel_rfl) ?_
      replace HM := HM.grow (fr_drew _)
      have hS := Mem.suf (M := []) HM
      refine drwp_take rfl (guard_none rfl) rfl rfl (fun w_ hS_ => (ex_move rfl rfl)) hS ?_
      refine drwp_take rfl (guard_none rfl) rfl rfl (fun w_ hS_ => (ex_move rfl rfl)) hS ?_
      have hc712 : CellsAt _ (sb p0) (so p0 + (a703).toNat * 2) [(.int .i64 ((gt x0 a703).fTx)), (.int .i64 ((gt x0 a703).fAt))] := rd_plain hp0 e711
      refine drwp_take rfl (guard_none rfl) rfl rfl (fun w_ hS_ => (ex_indexAddr (d := kRef) rfl rfl rfl Tryd.underlying30 tsz101 hp0 (idx_lo e711) (idx_hi e711))) hS ?_
      refine drwp_take rfl (guard_none rfl) rfl rfl (fun w_ hS_ => (ex_loadN (cs := [(.int .i64 ((gt x0 a703).fTx)), (.int .i64 ((gt x0 a703).fAt))]) rfl rfl Tryd.underlying101 rfl tsz101 rfl ((hS_.at_ hc712).sub 0 2 rfl))) hS ?_
      refine drwp_take rfl (guard_none rfl) rfl rfl (fun w_ hS_ => (ex_loadN (cs := [(.int .i64 x1.fTx), (.int .i64 x1.fAt)]) rfl rfl Tryd.underlying101 rfl tsz101 rfl ((hS_.box_at 0 rfl).sub 0 2 rfl))) hS ?_
      refine drwp_take rfl (guard_none rfl) rfl rfl (fun w_ hS_ => (ex_aeql rfl rfl rfl (by kernel_rfl) (eqs101 _ _ _ _ _))) hS ?_
      refine drwp_done ?_
      refine at_then ?_
      refine run_cond (b := ((((gt x0 a703).fTx) == x1.fTx) && (((gt x0 a703).fAt) == x1.fAt))) rfl (fun hb713 => ?_) (fun hb713 => ?_)
      · replace ho698 := cond_t hb713 ho698
        refine run_seq ?_
        refine run_region rfl ?_
        refine ops_ex rfl (guard_none rfl) rfl rfl (ex_assign rfl rfl) ?_
        refine ops_nil ?_
        refine at_then ?_
        refine run_ret ?_
        refine at_block_ret ?_
        refine at_then_ret ?_
        refine at_then_ret ?_
        refine at_block_ret ?_
        refine at_then_ret ?_
        replace HM := (HM.front 0 rfl rfl).drop
        have hR := Option.some.inj ho698
        subst hR
        have hT := thn_inl H
        have hR := Option.some.inj hT
        subst hR
        exact at_ret1 rfl rfl ⟨_, rfl, rfl, HM⟩
      · replace ho698 := cond_f hb713 ho698
        refine run_skip ?_
        refine at_block ?_
        refine at_then ?_
        refine run_region rfl ?_
        refine ops_ex rfl (guard_none rfl) rfl rfl (ex_move rfl rfl) ?_
        refine ops_ex rfl (guard_none rfl) rfl rfl (ex_add rfl rfl rfl) ?_
        refine ops_ex rfl (guard_none rfl) rfl rfl (ex_assign rfl rfl) ?_
        refine ops_nil ?_
        exact at_again k708 (ρ1 := [(0, p0), (3, .pointer (some ⟨b680, 0, none⟩)), (5, .int .i64 (wrap64 (a703 + 1)))]) (Nat.lt_succ_self _) ⟨_, ho698, rfl, HM⟩ (Sub.cons rfl (Sub.cons rfl (Sub.cons rfl Sub.nil)))
    · replace ho698 := cond_f hb710 ho698
      refine run_exit ?_
      refine at_then_exit ?_
      refine at_then_exit ?_
      refine at_block_exit ?_
      replace HM := (HM.front 0 rfl rfl).drop
      exact at_mid (ρ' := []) ⟨(Option.some.inj ho698), rfl, HM⟩ Sub.nil
  · rintro _ w714 ⟨rfl, rfl, HM⟩
    replace H := (thn_inr H)
    refine run_seq ?_
    refine run_region rfl ?_
    refine ops_ex rfl (guard_none rfl) rfl rfl (ex_assign rfl rfl) ?_
    refine ops_nil ?_
    refine at_then ?_
    refine run_ret ?_
    have hR := Option.some.inj H
    subst hR
    exact at_ret1 rfl rfl ⟨_, rfl, rfl, HM⟩

def spec_l2Height.f (k : Nat) (x0 : Int) : Option Bool := ((spec_l1In.f k x0 0 999).bind fun t811 => some t811)
theorem spec_l2Height.calls {k : Nat} {x0 : Int}  {w : World}  {r : Bool} (H : spec_l2Height.f k x0 = some r) :
    Calls Tryd.prog 101 ([.int .i64 x0] : List Value).toArray w (fun e w_ => ∃ v, e = .returned v ∧ v = (.bool r) ∧ Mem w [] w_ []) := by
  have HM := Mem.start w
  refine calls_run (N := 5) Tryd.func101 rfl rfl rfl rfl ?_
  unfold spec_l2Height.f at H
  refine run_seq ?_
  refine run_region rfl ?_
  refine ops_ex rfl (guard_none rfl) rfl rfl (ex_assign rfl rfl) ?_
  refine ops_nil ?_
  refine at_then ?_
  refine run_seq ?_
  obtain ⟨t811, h812, H⟩ := bind_some H
  refine run_region rfl ?_
  refine ops_ex rfl (guard_none rfl) rfl rfl (ex_move rfl rfl) ?_
  refine ops_does rfl (guard_none rfl) rfl rfl (does_callk rfl callok59 rfl (spec_l1In.calls (x0 := x0) (x1 := 0) (x2 := 999) h812)) ?_
  rintro _ w813 ⟨rfl, hn⟩
  replace HM : Mem w [] w813 [] := HM.call hn
  refine ops_ex rfl (guard_none rfl) rfl rfl (ex_assign rfl rfl) ?_
  refine ops_nil ?_
  refine at_then ?_
  refine run_ret ?_
  have hR := Option.some.inj H
  subst hR
  exact at_ret1 rfl rfl ⟨_, rfl, rfl, HM⟩

def spec_l2Fault.l0 (x0 : Rule) : Nat → Int → Option (Int ⊕ Unit)
  | 0, _ => none
  | k + 1, a877 => (bif (decide (a877 < (x0.fKeys.length : Int))) then (chk (idxOk a877 x0.fKeys.length) ((spec_l1Key.f k (gt x0.fKeys a877)).bind fun t889 => (bif !t889 then some (.inl 3) else spec_l2Fault.l0 x0 k (wrap64 (a877 + 1))))) else some (.inr ()))
theorem spec_l2Fault.l0_z (x0 : Rule) (a877 : Int) : spec_l2Fault.l0 x0 0 a877 = none := rfl
theorem spec_l2Fault.l0_s (x0 : Rule) (k : Nat) (a877 : Int) : spec_l2Fault.l0 x0 (k + 1) a877 = (bif (decide (a877 < (x0.fKeys.length : Int))) then (chk (idxOk a877 x0.fKeys.length) ((spec_l1Key.f k (gt x0.fKeys a877)).bind fun t889 => (bif !t889 then some (.inl 3) else spec_l2Fault.l0 x0 k (wrap64 (a877 + 1))))) else some (.inr ())) := rfl
def spec_l2Fault.l1 (x0 : Rule) : Nat → Int → Option (Int ⊕ Unit)
  | 0, _ => none
  | k + 1, a936 => (bif (decide (a936 < (x0.fKeys.length : Int))) then (chk (idxOk a936 x0.fKeys.length) (chk (idxOk (wrap64 (a936 - 1)) x0.fKeys.length) (bif (decide ((gt x0.fKeys a936) ≤ (gt x0.fKeys (wrap64 (a936 - 1))))) then some (.inl 1) else spec_l2Fault.l1 x0 k (wrap64 (a936 + 1))))) else some (.inr ()))
theorem spec_l2Fault.l1_z (x0 : Rule) (a936 : Int) : spec_l2Fault.l1 x0 0 a936 = none := rfl
theorem spec_l2Fault.l1_s (x0 : Rule) (k : Nat) (a936 : Int) : spec_l2Fault.l1 x0 (k + 1) a936 = (bif (decide (a936 < (x0.fKeys.length : Int))) then (chk (idxOk a936 x0.fKeys.length) (chk (idxOk (wrap64 (a936 - 1)) x0.fKeys.length) (bif (decide ((gt x0.fKeys a936) ≤ (gt x0.fKeys (wrap64 (a936 - 1))))) then some (.inl 1) else spec_l2Fault.l1 x0 k (wrap64 (a936 + 1))))) else some (.inr ())) := rfl
def spec_l2Fault.f (k : Nat) (x0 : Rule) : Option Int := ((spec_l1In.f k (x0.fKeys.length : Int) 1 3).bind fun t846 => (bif !t846 then some 2 else ((spec_l2Fault.l0 x0 k 0).bind fun o869 => thn o869 (fun r => some r) (fun _ => ((spec_l1In.f k x0.fNeed 1 (x0.fKeys.length : Int)).bind fun t899 => ((bif (!(!t899)) then spec_l2Height.f k x0.fAfter else some default).bind fun t901 => (bif ((!t899) || (!t901)) then some 3 else ((spec_l2Fault.l1 x0 k 1).bind fun o928 => thn o928 (fun r => some r) (fun _ => some 0)))))))))
theorem spec_l2Fault.calls {k : Nat} {x0 : Rule} {b0 f0 : Nat} {p0_0 : Value} {w : World} (hc0 : CellsAt w b0 f0 [p0_0, .int .i64 x0.fNeed, .int .i64 x0.fAfter]) (hp0_0 : RdS kInt w p0_0 x0.fKeys) {r : Int} (H : spec_l2Fault.f k x0 = some r) :
    Calls Tryd.prog 83 ([.pointer (some ⟨b0, f0, none⟩)] : List Value).toArray w (fun e w_ => ∃ v, e = .returned v ∧ v = (.int .i64 r) ∧ Mem w [] w_ []) := by
  have HM := Mem.start w
  refine calls_run (N := 72) Tryd.func83 rfl rfl rfl rfl ?_
  unfold spec_l2Fault.f at H
  refine run_seq ?_
  refine run_region rfl ?_
  refine ops_ex rfl (guard_none rfl) rfl rfl (ex_assign rfl rfl) ?_
  refine ops_nil ?_
  refine at_then ?_
  refine run_seq ?_
  refine run_region rfl ?_
  refine ops_ex rfl (guard_none rfl) rfl rfl (ex_move rfl rfl) ?_
  refine ops_ex rfl (guard_none rfl) rfl rfl (ex_nilCheck rfl rfl) ?_
  refine ops_ex rfl (guard_none rfl) rfl rfl (ex_fieldAddr (off' := f0) rfl rfl Tryd.underlying40 rfl tsz38 rfl) ?_
  refine ops_ex rfl (guard_none rfl) rfl rfl (ex_load1 rfl rfl Tryd.underlying38 rfl ((HM.at_ hc0) 0 _ rfl)) ?_
  refine ops_ex rfl (guard_none rfl) rfl rfl (ex_len (d := kInt) (xs := x0.fKeys) rfl rfl Tryd.underlying38 hp0_0) ?_
  refine ops_ex rfl (guard_none rfl) rfl rfl (ex_assign rfl rfl) ?_
  refine ops_nil ?_
  refine at_then ?_
  refine run_seq ?_
  refine run_seq ?_
  obtain ⟨t846, h847, H⟩ := bind_some H
  refine run_region rfl ?_
  refine ops_ex rfl (guard_none rfl) rfl rfl (ex_move rfl rfl) ?_
  refine ops_does rfl (guard_none rfl) rfl rfl (does_callk rfl callok59 rfl (spec_l1In.calls (x0 := (x0.fKeys.length : Int)) (x1 := 1) (x2 := 3) h847)) ?_
  rintro _ w848 ⟨rfl, hn⟩
  replace HM : Mem w [] w848 [] := HM.call hn
  refine ops_ex rfl (guard_none rfl) rfl rfl (ex_not rfl rfl) ?_
  refine ops_nil ?_
  refine at_then ?_
  refine run_cond (b := !t846) rfl (fun hb849 => ?_) (fun hb849 => ?_)
  · replace H := cond_t hb849 H
    refine run_seq ?_
    refine run_region rfl ?_
    refine ops_ex rfl (guard_none rfl) rfl rfl (ex_assign rfl rfl) ?_
    refine ops_nil ?_
    refine at_then ?_
    refine run_ret ?_
    refine at_then_ret ?_
    have hR := Option.some.inj H
    subst hR
    exact at_ret1 rfl rfl ⟨_, rfl, rfl, HM⟩
  · replace H := cond_f hb849 H
    refine run_skip ?_
    refine at_then ?_
    obtain ⟨o869, ho870, H⟩ := bind_some H
    refine run_mid (fun ρ_ w_ => Sum.inr () = o869 ∧ ρ_ = [(0, .pointer (some ⟨b0, f0, none⟩)), (3, .int .i64 (x0.fKeys.length : Int))] ∧ Mem w [] w_ []) ?_ ?_
    · skip
      refine run_seq ?_
      refine run_region rfl ?_
      refine ops_ex rfl (guard_none rfl) rfl rfl (ex_assign rfl rfl) ?_
      refine ops_nil ?_
      refine at_then ?_
      refine run_block ?_
      refine run_loop (fun k_ ρ_ w_ => ∃ a877 : Int, spec_l2Fault.l0 x0 k_ a877 = some o869 ∧ ρ_ = [(0, .pointer (some ⟨b0, f0, none⟩)), (3, .int .i64 (x0.fKeys.length : Int)), (4, .int .i64 a877)] ∧ Mem w [] w_ []) k (ρ1 := [(0, .pointer (some ⟨b0, f0, none⟩)), (3, .int .i64 (x0.fKeys.length : Int)), (4, .int .i64 0)]) ⟨_, ho870, rfl, HM⟩ (Sub.cons rfl (Sub.cons rfl (Sub.cons rfl Sub.nil))) ?_
      clear HM ho870
      rintro k884 _ w885 ⟨a877, ho870, rfl, HM⟩
      obtain _ | k884 := k884
      · exact nomatch ((spec_l2Fault.l0_z x0 a877).symm.trans ho870)
      replace ho870 := (spec_l2Fault.l0_s x0 k884 a877).symm.trans ho870
      refine run_seq ?_
      refine run_seq ?_
      refine run_region rfl ?_
      refine ops_ex rfl (guard_none rfl) rfl rfl (ex_move rfl rfl) ?_
      refine ops_ex rfl (guard_none rfl) rfl rfl (ex_move rfl rfl) ?_
      refine ops_ex rfl (guard_none rfl) rfl rfl (ex_nilCheck rfl rfl) ?_
      refine ops_ex rfl (guard_none rfl) rfl rfl (ex_fieldAddr (off' := f0) rfl rfl Tryd.underlying40 rfl tsz38 rfl) ?_
      refine ops_ex rfl (guard_none rfl) rfl rfl (ex_load1 rfl rfl Tryd.underlying38 rfl ((HM.at_ hc0) 0 _ rfl)) ?_
      refine ops_ex rfl (guard_none rfl) rfl rfl (ex_len (d := kInt) (xs := x0.fKeys) rfl rfl Tryd.underlying38 hp0_0) ?_
      refine ops_ex rfl (guard_none rfl) rfl rfl (ex_lss rfl rfl rfl) ?_
      refine ops_nil ?_
      refine at_then ?_
      refine run_cond (b := (decide (a877 < (x0.fKeys.length : Int)))) rfl (fun hb886 => ?_) (fun hb886 => ?_)
      · replace ho870 := cond_t hb886 ho870
        refine run_skip ?_
        refine at_then ?_
        refine run_seq ?_
        refine run_block ?_
        refine run_seq ?_
        obtain ⟨e887, ho870⟩ := chk_some ho870
        obtain ⟨t889, h890, ho870⟩ := bind_some ho870
        refine run_region rfl ?_
        refine ops_ex rfl (guard_none rfl) rfl rfl (ex_move rfl rfl) ?_
        refine ops_ex rfl (guard_none rfl) rfl rfl (ex_nilCheck rfl rfl) ?_
        refine ops_ex rfl (guard_none rfl) rfl rfl (ex_fieldAddr (off' := f0) rfl rfl Tryd.underlying40 rfl tsz38 rfl) ?_
        refine ops_ex rfl (guard_none rfl) rfl rfl (ex_load1 rfl rfl Tryd.underlying38 rfl ((HM.at_ hc0) 0 _ rfl)) ?_
        refine ops_ex rfl (guard_none rfl) rfl rfl (ex_move rfl rfl) ?_
        have hc888 : CellsAt _ (sb p0_0) (so p0_0 + (a877).toNat * 1) [(.int .i64 (gt x0.fKeys a877))] := rd_plain hp0_0 e887
        refine ops_ex rfl (guard_none rfl) rfl rfl (ex_indexAddr (d := kInt) rfl rfl rfl Tryd.underlying38 tsz2 hp0_0 (idx_lo e887) (idx_hi e887)) ?_
        refine ops_ex rfl (guard_none rfl) rfl rfl (ex_load1 rfl rfl Tryd.underlying2 rfl ((HM.at_ hc888) 0 _ rfl)) ?_
        refine ops_does rfl (guard_none rfl) rfl rfl (does_callk rfl callok62 rfl (spec_l1Key.calls (x0 := (gt x0.fKeys a877)) h890)) ?_
        rintro _ w891 ⟨rfl, hn⟩
        replace HM : Mem w [] w891 [] := HM.call hn
        refine ops_ex rfl (guard_none rfl) rfl rfl (ex_not rfl rfl) ?_
        refine ops_nil ?_
        refine at_then ?_
        refine run_cond (b := !t889) rfl (fun hb892 => ?_) (fun hb892 => ?_)
        · replace ho870 := cond_t hb892 ho870
          refine run_seq ?_
          refine run_region rfl ?_
          refine ops_ex rfl (guard_none rfl) rfl rfl (ex_assign rfl rfl) ?_
          refine ops_nil ?_
          refine at_then ?_
          refine run_ret ?_
          refine at_block_ret ?_
          refine at_then_ret ?_
          refine at_then_ret ?_
          refine at_block_ret ?_
          refine at_then_ret ?_
          have hR := Option.some.inj ho870
          subst hR
          have hT := thn_inl H
          have hR := Option.some.inj hT
          subst hR
          exact at_ret1 rfl rfl ⟨_, rfl, rfl, HM⟩
        · replace ho870 := cond_f hb892 ho870
          refine run_skip ?_
          refine at_block ?_
          refine at_then ?_
          refine run_region rfl ?_
          refine ops_ex rfl (guard_none rfl) rfl rfl (ex_move rfl rfl) ?_
          refine ops_ex rfl (guard_none rfl) rfl rfl (ex_add rfl rfl rfl) ?_
          refine ops_ex rfl (guard_none rfl) rfl rfl (ex_assign rfl rfl) ?_
          refine ops_nil ?_
          exact at_again k884 (ρ1 := [(0, .pointer (some ⟨b0, f0, none⟩)), (3, .int .i64 (x0.fKeys.length : Int)), (4, .int .i64 (wrap64 (a877 + 1)))]) (Nat.lt_succ_self _) ⟨_, ho870, rfl, HM⟩ (Sub.cons rfl (Sub.cons rfl (Sub.cons rfl Sub.nil)))
      · replace ho870 := cond_f hb886 ho870
        refine run_exit ?_
        refine at_then_exit ?_
        refine at_then_exit ?_
        refine at_block_exit ?_
        exact at_mid (ρ' := [(0, .pointer (some ⟨b0, f0, none⟩)), (3, .int .i64 (x0.fKeys.length : Int))]) ⟨(Option.some.inj ho870), rfl, HM⟩ (Sub.cons rfl (Sub.cons rfl Sub.nil))
    · rintro _ w893 ⟨rfl, rfl, HM⟩
      replace H := (thn_inr H)
      refine run_seq ?_
      refine run_seq ?_
      obtain ⟨t899, h900, H⟩ := bind_some H
      obtain ⟨t901, h902, H⟩ := bind_some H
      refine run_meet (fun ρ_ w_ => ρ_ = [(0, .pointer (some ⟨b0, f0, none⟩)), (46, .bool ((!t899) || (!t901)))] ∧ Mem w [] w_ []) ?_ ?_
      · skip
        refine run_region rfl ?_
        refine ops_ex rfl (guard_none rfl) rfl rfl (ex_move rfl rfl) ?_
        refine ops_ex rfl (guard_none rfl) rfl rfl (ex_nilCheck rfl rfl) ?_
        refine ops_ex rfl (guard_none rfl) rfl rfl (ex_fieldAddr (off' := f0 + 1) rfl rfl Tryd.underlying40 rfl tsz2 rfl) ?_
        refine ops_ex rfl (guard_none rfl) rfl rfl (ex_load1 rfl rfl Tryd.underlying2 rfl ((HM.at_ hc0) 1 _ rfl)) ?_
        refine ops_ex rfl (guard_none rfl) rfl rfl (ex_move rfl rfl) ?_
        refine ops_does rfl (guard_none rfl) rfl rfl (does_callk rfl callok59 rfl (spec_l1In.calls (x0 := x0.fNeed) (x1 := 1) (x2 := (x0.fKeys.length : Int)) h900)) ?_
        rintro _ w903 ⟨rfl, hn⟩
        replace HM : Mem w [] w903 [] := HM.call hn
        refine ops_ex rfl (guard_none rfl) rfl rfl (ex_not rfl rfl) ?_
        refine ops_ex rfl (guard_none rfl) rfl rfl (ex_move rfl rfl) ?_
        refine bool_cases (!t899) (fun hg904 => ?_) (fun hg904 => ?_)
        · skip
          refine ops_off rfl (guard_off rfl rfl rfl hg904) rfl rfl ?_
          refine ops_off rfl (guard_off rfl rfl rfl hg904) rfl rfl ?_
          refine ops_off rfl (guard_off rfl rfl rfl hg904) rfl rfl ?_
          refine ops_off rfl (guard_off rfl rfl rfl hg904) rfl rfl ?_
          refine ops_off rfl (guard_off rfl rfl rfl hg904) rfl rfl ?_
          refine ops_off rfl (guard_off rfl rfl rfl hg904) rfl rfl ?_
          have hg905 : ((!t899) || (!t901)) = true := by simp only [hg904, Bool.and_true, Bool.true_and, Bool.and_false, Bool.false_and, Bool.or_true, Bool.true_or, Bool.or_false, Bool.false_or, Bool.not_true, Bool.not_false, Bool.not_not]
          refine ops_ex (v := .bool ((!t899) || (!t901))) rfl (guard_none rfl) rfl rfl (ex_por_t rfl rfl hg904) ?_
          refine ops_nil ?_
          exact at_meet [(0, .pointer (some ⟨b0, f0, none⟩)), (46, .bool ((!t899) || (!t901)))] ⟨rfl, HM⟩ (Sub.cons rfl (Sub.cons rfl Sub.nil))
        · skip
          refine ops_ex rfl (guard_on rfl rfl rfl hg904) rfl rfl (ex_move rfl rfl) ?_
          refine ops_ex rfl (guard_on rfl rfl rfl hg904) rfl rfl (ex_nilCheck rfl rfl) ?_
          refine ops_ex rfl (guard_on rfl rfl rfl hg904) rfl rfl (ex_fieldAddr (off' := f0 + 2) rfl rfl Tryd.underlying40 rfl tsz2 rfl) ?_
          refine ops_ex rfl (guard_on rfl rfl rfl hg904) rfl rfl (ex_load1 rfl rfl Tryd.underlying2 rfl ((HM.at_ hc0) 2 _ rfl)) ?_
          refine ops_does rfl (guard_on rfl rfl rfl hg904) rfl rfl (does_callk rfl callok101 rfl (spec_l2Height.calls (x0 := x0.fAfter) (cond_t (not_mk hg904) h902))) ?_
          rintro _ w906 ⟨rfl, hn⟩
          replace HM : Mem w [] w906 [] := HM.call hn
          refine ops_ex rfl (guard_on rfl rfl rfl hg904) rfl rfl (ex_not rfl rfl) ?_
          refine ops_ex (v := .bool ((!t899) || (!t901))) rfl (guard_none rfl) rfl rfl (ex_por_f rfl rfl hg904 rfl) ?_
          refine ops_nil ?_
          exact at_meet [(0, .pointer (some ⟨b0, f0, none⟩)), (46, .bool ((!t899) || (!t901)))] ⟨rfl, HM⟩ (Sub.cons rfl (Sub.cons rfl Sub.nil))
      · rintro _ w907 ⟨rfl, HM⟩
        refine at_then ?_
        refine run_cond (b := ((!t899) || (!t901))) rfl (fun hb908 => ?_) (fun hb908 => ?_)
        · replace H := cond_t hb908 H
          refine run_seq ?_
          refine run_region rfl ?_
          refine ops_ex rfl (guard_none rfl) rfl rfl (ex_assign rfl rfl) ?_
          refine ops_nil ?_
          refine at_then ?_
          refine run_ret ?_
          refine at_then_ret ?_
          have hR := Option.some.inj H
          subst hR
          exact at_ret1 rfl rfl ⟨_, rfl, rfl, HM⟩
        · replace H := cond_f hb908 H
          refine run_skip ?_
          refine at_then ?_
          obtain ⟨o928, ho929, H⟩ := bind_some H
          refine run_mid (fun ρ_ w_ => Sum.inr () = o928 ∧ ρ_ = [] ∧ Mem w [] w_ []) ?_ ?_
          · skip
            refine run_seq ?_
            refine run_region rfl ?_
            refine ops_ex rfl (guard_none rfl) rfl rfl (ex_assign rfl rfl) ?_
            refine ops_nil ?_
            refine at_then ?_
            refine run_block ?_
            refine run_loop (fun k_ ρ_ w_ => ∃ a936 : Int, spec_l2Fault.l1 x0 k_ a936 = some o928 ∧ ρ_ = [(0, .pointer (some ⟨b0, f0, none⟩)), (5, .int .i64 a936)] ∧ Mem w [] w_ []) k (ρ1 := [(0, .pointer (some ⟨b0, f0, none⟩)), (5, .int .i64 1)]) ⟨_, ho929, rfl, HM⟩ (Sub.cons rfl (Sub.cons rfl Sub.nil)) ?_
            clear HM ho929
            rintro k943 _ w944 ⟨a936, ho929, rfl, HM⟩
            obtain _ | k943 := k943
            · exact nomatch ((spec_l2Fault.l1_z x0 a936).symm.trans ho929)
            replace ho929 := (spec_l2Fault.l1_s x0 k943 a936).symm.trans ho929
            refine run_seq ?_
            refine run_seq ?_
            refine run_region rfl ?_
            refine ops_ex rfl (guard_none rfl) rfl rfl (ex_move rfl rfl) ?_
            refine ops_ex rfl (guard_none rfl) rfl rfl (ex_move rfl rfl) ?_
            refine ops_ex rfl (guard_none rfl) rfl rfl (ex_nilCheck rfl rfl) ?_
            refine ops_ex rfl (guard_none rfl) rfl rfl (ex_fieldAddr (off' := f0) rfl rfl Tryd.underlying40 rfl tsz38 rfl) ?_
            refine ops_ex rfl (guard_none rfl) rfl rfl (ex_load1 rfl rfl Tryd.underlying38 rfl ((HM.at_ hc0) 0 _ rfl)) ?_
            refine ops_ex rfl (guard_none rfl) rfl rfl (ex_len (d := kInt) (xs := x0.fKeys) rfl rfl Tryd.underlying38 hp0_0) ?_
            refine ops_ex rfl (guard_none rfl) rfl rfl (ex_lss rfl rfl rfl) ?_
            refine ops_nil ?_
            refine at_then ?_
            refine run_cond (b := (decide (a936 < (x0.fKeys.length : Int)))) rfl (fun hb945 => ?_) (fun hb945 => ?_)
            · replace ho929 := cond_t hb945 ho929
              refine run_skip ?_
              refine at_then ?_
              refine run_seq ?_
              refine run_block ?_
              refine run_seq ?_
              obtain ⟨e946, ho929⟩ := chk_some ho929
              obtain ⟨e948, ho929⟩ := chk_some ho929
              refine run_drawf (fun w_ => Mem w [] w_ []) [(0, true), (1, true), (2, true), (3, true), (4, true), (5, true), (6, true), (7, true), (8, true), (9, true), (10, true), (11, true), (12, true), (13, true), (14, true), (15, true)] mixed rfl rfl (by kernel_rfl) ?_
              replace HM := HM.grow (fr_drew _)
              have hS := Mem.suf (M := []) HM
              refine drwp_take rfl (guard_none rfl) rfl rfl (fun w_ hS_ => (ex_move rfl rfl)) hS ?_
              refine drwp_take rfl (guard_none rfl) rfl rfl (fun w_ hS_ => (ex_nilCheck rfl rfl)) hS ?_
              refine drwp_take rfl (guard_none rfl) rfl rfl (fun w_ hS_ => (ex_fieldAddr (off' := f0) rfl rfl Tryd.underlying40 rfl tsz38 rfl)) hS ?_
              refine drwp_take rfl (guard_none rfl) rfl rfl (fun w_ hS_ => (ex_load1 rfl rfl Tryd.underlying38 rfl ((hS_.at_ hc0) 0 _ rfl))) hS ?_
              refine drwp_take rfl (guard_none rfl) rfl rfl (fun w_ hS_ => (ex_move rfl rfl)) hS ?_
              have hc947 : CellsAt _ (sb p0_0) (so p0_0 + (a936).toNat * 1) [(.int .i64 (gt x0.fKeys a936))] := rd_plain hp0_0 e946
              refine drwp_take rfl (guard_none rfl) rfl rfl (fun w_ hS_ => (ex_indexAddr (d := kInt) rfl rfl rfl Tryd.underlying38 tsz2 hp0_0 (idx_lo e946) (idx_hi e946))) hS ?_
              refine drwp_take rfl (guard_none rfl) rfl rfl (fun w_ hS_ => (ex_load1 rfl rfl Tryd.underlying2 rfl ((hS_.at_ hc947) 0 _ rfl))) hS ?_
              refine drwp_take rfl (guard_none rfl) rfl rfl (fun w_ hS_ => (ex_move rfl rfl)) hS ?_
              refine drwp_take rfl (guard_none rfl) rfl rfl (fun w_ hS_ => (ex_nilCheck rfl rfl)) hS ?_
              refine drwp_take rfl (guard_none rfl) rfl rfl (fun w_ hS_ => (ex_fieldAddr (off' := f0) rfl rfl Tryd.underlying40 rfl tsz38 rfl)) hS ?_
              refine drwp_take rfl (guard_none rfl) rfl rfl (fun w_ hS_ => (ex_load1 rfl rfl Tryd.underlying38 rfl ((hS_.at_ hc0) 0 _ rfl))) hS ?_
              refine drwp_take rfl (guard_none rfl) rfl rfl (fun w_ hS_ => (ex_move rfl rfl)) hS ?_
              refine drwp_take rfl (guard_none rfl) rfl rfl (fun w_ hS_ => (ex_sub rfl rfl rfl)) hS ?_
              have hc949 : CellsAt _ (sb p0_0) (so p0_0 + (wrap64 (a936 - 1)).toNat * 1) [(.int .i64 (gt x0.fKeys (wrap64 (a936 - 1))))] := rd_plain hp0_0 e948
              refine drwp_take rfl (guard_none rfl) rfl rfl (fun w_ hS_ => (ex_indexAddr (d := kInt) rfl rfl rfl Tryd.underlying38 tsz2 hp0_0 (idx_lo e948) (idx_hi e948))) hS ?_
              refine drwp_take rfl (guard_none rfl) rfl rfl (fun w_ hS_ => (ex_load1 rfl rfl Tryd.underlying2 rfl ((hS_.at_ hc949) 0 _ rfl))) hS ?_
              refine drwp_take rfl (guard_none rfl) rfl rfl (fun w_ hS_ => (ex_leq rfl rfl rfl)) hS ?_
              refine drwp_done ?_
              refine at_then ?_
              refine run_cond (b := (decide ((gt x0.fKeys a936) ≤ (gt x0.fKeys (wrap64 (a936 - 1)))))) rfl (fun hb950 => ?_) (fun hb950 => ?_)
              · replace ho929 := cond_t hb950 ho929
                refine run_seq ?_
                refine run_region rfl ?_
                refine ops_ex rfl (guard_none rfl) rfl rfl (ex_assign rfl rfl) ?_
                refine ops_nil ?_
                refine at_then ?_
                refine run_ret ?_
                refine at_block_ret ?_
                refine at_then_ret ?_
                refine at_then_ret ?_
                refine at_block_ret ?_
                refine at_then_ret ?_
                have hR := Option.some.inj ho929
                subst hR
                have hT := thn_inl H
                have hR := Option.some.inj hT
                subst hR
                exact at_ret1 rfl rfl ⟨_, rfl, rfl, HM⟩
              · replace ho929 := cond_f hb950 ho929
                refine run_skip ?_
                refine at_block ?_
                refine at_then ?_
                refine run_region rfl ?_
                refine ops_ex rfl (guard_none rfl) rfl rfl (ex_move rfl rfl) ?_
                refine ops_ex rfl (guard_none rfl) rfl rfl (ex_add rfl rfl rfl) ?_
                refine ops_ex rfl (guard_none rfl) rfl rfl (ex_assign rfl rfl) ?_
                refine ops_nil ?_
                exact at_again k943 (ρ1 := [(0, .pointer (some ⟨b0, f0, none⟩)), (5, .int .i64 (wrap64 (a936 + 1)))]) (Nat.lt_succ_self _) ⟨_, ho929, rfl, HM⟩ (Sub.cons rfl (Sub.cons rfl Sub.nil))
            · replace ho929 := cond_f hb945 ho929
              refine run_exit ?_
              refine at_then_exit ?_
              refine at_then_exit ?_
              refine at_block_exit ?_
              exact at_mid (ρ' := []) ⟨(Option.some.inj ho929), rfl, HM⟩ Sub.nil
          · rintro _ w951 ⟨rfl, rfl, HM⟩
            replace H := (thn_inr H)
            refine run_seq ?_
            refine run_region rfl ?_
            refine ops_ex rfl (guard_none rfl) rfl rfl (ex_assign rfl rfl) ?_
            refine ops_nil ?_
            refine at_then ?_
            refine run_ret ?_
            have hR := Option.some.inj H
            subst hR
            exact at_ret1 rfl rfl ⟨_, rfl, rfl, HM⟩

def spec_l3Outs.l0 (x0 : Tx) : Nat → Int → Option (Int ⊕ Unit)
  | 0, _ => none
  | k + 1, a1098 => (bif (decide (a1098 < (x0.fOuts.length : Int))) then (chk (idxOk a1098 x0.fOuts.length) ((spec_l1In.f k ((gt x0.fOuts a1098).fValue) 1 1000000).bind fun t1135 => (bif !t1135 then some (.inl 3) else (chk (idxOk a1098 x0.fOuts.length) ((spec_l2Fault.f k ((gt x0.fOuts a1098).fRule)).bind fun t1143 => (bif (t1143 != 0) then some (.inl t1143) else spec_l3Outs.l0 x0 k (wrap64 (a1098 + 1)))))))) else some (.inr ()))
theorem spec_l3Outs.l0_z (x0 : Tx) (a1098 : Int) : spec_l3Outs.l0 x0 0 a1098 = none := rfl
theorem spec_l3Outs.l0_s (x0 : Tx) (k : Nat) (a1098 : Int) : spec_l3Outs.l0 x0 (k + 1) a1098 = (bif (decide (a1098 < (x0.fOuts.length : Int))) then (chk (idxOk a1098 x0.fOuts.length) ((spec_l1In.f k ((gt x0.fOuts a1098).fValue) 1 1000000).bind fun t1135 => (bif !t1135 then some (.inl 3) else (chk (idxOk a1098 x0.fOuts.length) ((spec_l2Fault.f k ((gt x0.fOuts a1098).fRule)).bind fun t1143 => (bif (t1143 != 0) then some (.inl t1143) else spec_l3Outs.l0 x0 k (wrap64 (a1098 + 1)))))))) else some (.inr ())) := rfl
def spec_l3Outs.f (k : Nat) (x0 : Tx) : Option Int := ((spec_l3Outs.l0 x0 k 0).bind fun o1074 => thn o1074 (fun r => some r) (fun _ => (chk (!(x0.fKind == 1) || (idxOk (0 : Int) x0.fOuts.length)) (bif ((x0.fKind == 1) && (decide (((gt x0.fOuts (0 : Int)).fValue) < 100))) then some 8 else some 0))))
theorem spec_l3Outs.calls {k : Nat} {x0 : Tx} {b0 f0 : Nat} {p0_0 : Value} {p0_1 : Value} {w : World} (hc0 : CellsAt w b0 f0 [.int .i64 x0.fKind, .int .i64 x0.fMember, p0_0, p0_1]) (hp0_0 : RdS kRef w p0_0 x0.fIns) (hp0_1 : RdS kOut w p0_1 x0.fOuts) {r : Int} (H : spec_l3Outs.f k x0 = some r) :
    Calls Tryd.prog 65 ([.pointer (some ⟨b0, f0, none⟩)] : List Value).toArray w (fun e w_ => ∃ v, e = .returned v ∧ v = (.int .i64 r) ∧ Mem w [] w_ []) := by
  have HM := Mem.start w
  refine calls_run (N := 50) Tryd.func65 rfl rfl rfl rfl ?_
  unfold spec_l3Outs.f at H
  refine run_seq ?_
  refine run_region rfl ?_
  refine ops_ex rfl (guard_none rfl) rfl rfl (ex_assign rfl rfl) ?_
  refine ops_nil ?_
  refine at_then ?_
  obtain ⟨o1074, ho1075, H⟩ := bind_some H
  refine run_mid (fun ρ_ w_ => Sum.inr () = o1074 ∧ ρ_ = [(0, .pointer (some ⟨b0, f0, none⟩))] ∧ Mem w [] w_ []) ?_ ?_
  · skip
    refine run_seq ?_
    refine run_region rfl ?_
    refine ops_ex rfl (guard_none rfl) rfl rfl (ex_assign rfl rfl) ?_
    refine ops_nil ?_
    refine at_then ?_
    refine run_block ?_
    refine run_loop (fun k_ ρ_ w_ => ∃ a1098 : Int, spec_l3Outs.l0 x0 k_ a1098 = some o1074 ∧ ρ_ = [(0, .pointer (some ⟨b0, f0, none⟩)), (3, .int .i64 a1098)] ∧ Mem w [] w_ []) k (ρ1 := [(0, .pointer (some ⟨b0, f0, none⟩)), (3, .int .i64 0)]) ⟨_, ho1075, rfl, HM⟩ (Sub.cons rfl (Sub.cons rfl Sub.nil)) ?_
    clear HM ho1075
    rintro k1121 _ w1122 ⟨a1098, ho1075, rfl, HM⟩
    obtain _ | k1121 := k1121
    · exact nomatch ((spec_l3Outs.l0_z x0 a1098).symm.trans ho1075)
    replace ho1075 := (spec_l3Outs.l0_s x0 k1121 a1098).symm.trans ho1075
    refine run_seq ?_
    refine run_seq ?_
    refine run_region rfl ?_
    refine ops_ex rfl (guard_none rfl) rfl rfl (ex_move rfl rfl) ?_
    refine ops_ex rfl (guard_none rfl) rfl rfl (ex_move rfl rfl) ?_
    refine ops_ex rfl (guard_none rfl) rfl rfl (ex_nilCheck rfl rfl) ?_
    refine ops_ex rfl (guard_none rfl) rfl rfl (ex_fieldAddr (off' := f0 + 3) rfl rfl Tryd.underlying33 rfl tsz31 rfl) ?_
    refine ops_ex rfl (guard_none rfl) rfl rfl (ex_load1 rfl rfl Tryd.underlying31 rfl ((HM.at_ hc0) 3 _ rfl)) ?_
    refine ops_ex rfl (guard_none rfl) rfl rfl (ex_len (d := kOut) (xs := x0.fOuts) rfl rfl Tryd.underlying31 hp0_1) ?_
    refine ops_ex rfl (guard_none rfl) rfl rfl (ex_lss rfl rfl rfl) ?_
    refine ops_nil ?_
    refine at_then ?_
    refine run_cond (b := (decide (a1098 < (x0.fOuts.length : Int)))) rfl (fun hb1123 => ?_) (fun hb1123 => ?_)
    · replace ho1075 := cond_t hb1123 ho1075
      refine run_skip ?_
      refine at_then ?_
      refine run_seq ?_
      refine run_block ?_
      refine run_seq ?_
      refine run_seq ?_
      obtain ⟨e1131, ho1075⟩ := chk_some ho1075
      obtain ⟨t1135, h1136, ho1075⟩ := bind_some ho1075
      refine run_region rfl ?_
      refine ops_ex rfl (guard_none rfl) rfl rfl (ex_move rfl rfl) ?_
      refine ops_ex rfl (guard_none rfl) rfl rfl (ex_nilCheck rfl rfl) ?_
      refine ops_ex rfl (guard_none rfl) rfl rfl (ex_fieldAddr (off' := f0 + 3) rfl rfl Tryd.underlying33 rfl tsz31 rfl) ?_
      refine ops_ex rfl (guard_none rfl) rfl rfl (ex_load1 rfl rfl Tryd.underlying31 rfl ((HM.at_ hc0) 3 _ rfl)) ?_
      refine ops_ex rfl (guard_none rfl) rfl rfl (ex_move rfl rfl) ?_
      obtain ⟨kv1133, hc1132, hk1134⟩ : ∃ u, CellsAt _ (sb p0_1) (so p0_1 + (a1098).toNat * 4) [(.int .i64 ((gt x0.fOuts a1098).fValue)), u, (.int .i64 ((gt x0.fOuts a1098).fRule.fNeed)), (.int .i64 ((gt x0.fOuts a1098).fRule.fAfter))] ∧ RdS kInt _ u ((gt x0.fOuts a1098).fRule.fKeys) := rd_with1 hp0_1 e1131
      refine ops_ex rfl (guard_none rfl) rfl rfl (ex_indexAddr (d := kOut) rfl rfl rfl Tryd.underlying31 tsz106 hp0_1 (idx_lo e1131) (idx_hi e1131)) ?_
      refine ops_ex rfl (guard_none rfl) rfl rfl (ex_fieldAddr (off' := so p0_1 + (a1098).toNat * 4) rfl rfl Tryd.underlying106 rfl tsz2 rfl) ?_
      refine ops_ex rfl (guard_none rfl) rfl rfl (ex_load1 rfl rfl Tryd.underlying2 rfl ((HM.at_ hc1132) 0 _ rfl)) ?_
      refine ops_does rfl (guard_none rfl) rfl rfl (does_callk rfl callok59 rfl (spec_l1In.calls (x0 := (gt x0.fOuts a1098).fValue) (x1 := 1) (x2 := 1000000) h1136)) ?_
      rintro _ w1137 ⟨rfl, hn⟩
      replace HM : Mem w [] w1137 [] := HM.call hn
      refine ops_ex rfl (guard_none rfl) rfl rfl (ex_not rfl rfl) ?_
      refine ops_nil ?_
      refine at_then ?_
      refine run_cond (b := !t1135) rfl (fun hb1138 => ?_) (fun hb1138 => ?_)
      · replace ho1075 := cond_t hb1138 ho1075
        refine run_seq ?_
        refine run_region rfl ?_
        refine ops_ex rfl (guard_none rfl) rfl rfl (ex_assign rfl rfl) ?_
        refine ops_nil ?_
        refine at_then ?_
        refine run_ret ?_
        refine at_then_ret ?_
        refine at_block_ret ?_
        refine at_then_ret ?_
        refine at_then_ret ?_
        refine at_block_ret ?_
        refine at_then_ret ?_
        have hR := Option.some.inj ho1075
        subst hR
        have hT := thn_inl H
        have hR := Option.some.inj hT
        subst hR
        exact at_ret1 rfl rfl ⟨_, rfl, rfl, HM⟩
      · replace ho1075 := cond_f hb1138 ho1075
        refine run_skip ?_
        refine at_then ?_
        refine run_seq ?_
        obtain ⟨e1139, ho1075⟩ := chk_some ho1075
        obtain ⟨t1143, h1144, ho1075⟩ := bind_some ho1075
        refine run_region rfl ?_
        refine ops_ex rfl (guard_none rfl) rfl rfl (ex_move rfl rfl) ?_
        refine ops_ex rfl (guard_none rfl) rfl rfl (ex_nilCheck rfl rfl) ?_
        refine ops_ex rfl (guard_none rfl) rfl rfl (ex_fieldAddr (off' := f0 + 3) rfl rfl Tryd.underlying33 rfl tsz31 rfl) ?_
        refine ops_ex rfl (guard_none rfl) rfl rfl (ex_load1 rfl rfl Tryd.underlying31 rfl ((HM.at_ hc0) 3 _ rfl)) ?_
        refine ops_ex rfl (guard_none rfl) rfl rfl (ex_move rfl rfl) ?_
        obtain ⟨kv1141, hc1140, hk1142⟩ : ∃ u, CellsAt _ (sb p0_1) (so p0_1 + (a1098).toNat * 4) [(.int .i64 ((gt x0.fOuts a1098).fValue)), u, (.int .i64 ((gt x0.fOuts a1098).fRule.fNeed)), (.int .i64 ((gt x0.fOuts a1098).fRule.fAfter))] ∧ RdS kInt _ u ((gt x0.fOuts a1098).fRule.fKeys) := rd_with1 hp0_1 e1139
        refine ops_ex rfl (guard_none rfl) rfl rfl (ex_indexAddr (d := kOut) rfl rfl rfl Tryd.underlying31 tsz106 hp0_1 (idx_lo e1139) (idx_hi e1139)) ?_
        refine ops_ex rfl (guard_none rfl) rfl rfl (ex_fieldAddr (off' := so p0_1 + (a1098).toNat * 4 + 1) rfl rfl Tryd.underlying106 rfl tsz40 rfl) ?_
        refine ops_does rfl (guard_none rfl) rfl rfl (does_callk rfl callok83 rfl (spec_l2Fault.calls (x0 := (gt x0.fOuts a1098).fRule) (CellsAt.sub (HM.at_ hc1140) 1 3 rfl) (HM.rd hk1142) h1144)) ?_
        rintro _ w1145 ⟨rfl, hn⟩
        replace HM : Mem w [] w1145 [] := HM.call hn
        refine ops_ex rfl (guard_none rfl) rfl rfl (ex_assign rfl rfl) ?_
        refine ops_nil ?_
        refine at_then ?_
        refine run_seq ?_
        refine run_region rfl ?_
        refine ops_ex rfl (guard_none rfl) rfl rfl (ex_move rfl rfl) ?_
        refine ops_ex rfl (guard_none rfl) rfl rfl (ex_neq rfl rfl rfl) ?_
        refine ops_nil ?_
        refine at_then ?_
        refine run_cond (b := (t1143 != 0)) rfl (fun hb1146 => ?_) (fun hb1146 => ?_)
        · replace ho1075 := cond_t hb1146 ho1075
          refine run_seq ?_
          refine run_region rfl ?_
          refine ops_ex rfl (guard_none rfl) rfl rfl (ex_move rfl rfl) ?_
          refine ops_ex rfl (guard_none rfl) rfl rfl (ex_assign rfl rfl) ?_
          refine ops_nil ?_
          refine at_then ?_
          refine run_ret ?_
          refine at_block_ret ?_
          refine at_then_ret ?_
          refine at_then_ret ?_
          refine at_block_ret ?_
          refine at_then_ret ?_
          have hR := Option.some.inj ho1075
          subst hR
          have hT := thn_inl H
          have hR := Option.some.inj hT
          subst hR
          exact at_ret1 rfl rfl ⟨_, rfl, rfl, HM⟩
        · replace ho1075 := cond_f hb1146 ho1075
          refine run_skip ?_
          refine at_block ?_
          refine at_then ?_
          refine run_region rfl ?_
          refine ops_ex rfl (guard_none rfl) rfl rfl (ex_move rfl rfl) ?_
          refine ops_ex rfl (guard_none rfl) rfl rfl (ex_add rfl rfl rfl) ?_
          refine ops_ex rfl (guard_none rfl) rfl rfl (ex_assign rfl rfl) ?_
          refine ops_nil ?_
          exact at_again k1121 (ρ1 := [(0, .pointer (some ⟨b0, f0, none⟩)), (3, .int .i64 (wrap64 (a1098 + 1)))]) (Nat.lt_succ_self _) ⟨_, ho1075, rfl, HM⟩ (Sub.cons rfl (Sub.cons rfl Sub.nil))
    · replace ho1075 := cond_f hb1123 ho1075
      refine run_exit ?_
      refine at_then_exit ?_
      refine at_then_exit ?_
      refine at_block_exit ?_
      exact at_mid (ρ' := [(0, .pointer (some ⟨b0, f0, none⟩))]) ⟨(Option.some.inj ho1075), rfl, HM⟩ (Sub.cons rfl Sub.nil)
  · rintro _ w1147 ⟨rfl, rfl, HM⟩
    replace H := (thn_inr H)
    refine run_seq ?_
    refine run_seq ?_
    obtain ⟨e1148, H⟩ := chk_some H
    refine run_meet (fun ρ_ w_ => ρ_ = [(49, .bool ((x0.fKind == 1) && (decide (((gt x0.fOuts (0 : Int)).fValue) < 100))))] ∧ Mem w [] w_ []) ?_ ?_
    · skip
      refine run_region rfl ?_
      refine ops_ex rfl (guard_none rfl) rfl rfl (ex_move rfl rfl) ?_
      refine ops_ex rfl (guard_none rfl) rfl rfl (ex_nilCheck rfl rfl) ?_
      refine ops_ex rfl (guard_none rfl) rfl rfl (ex_fieldAddr (off' := f0) rfl rfl Tryd.underlying33 rfl tsz2 rfl) ?_
      refine ops_ex rfl (guard_none rfl) rfl rfl (ex_load1 rfl rfl Tryd.underlying2 rfl ((HM.at_ hc0) 0 _ rfl)) ?_
      refine ops_ex rfl (guard_none rfl) rfl rfl (ex_eql rfl rfl rfl) ?_
      refine ops_ex rfl (guard_none rfl) rfl rfl (ex_move rfl rfl) ?_
      refine bool_cases (x0.fKind == 1) (fun hg1152 => ?_) (fun hg1152 => ?_)
      · skip
        refine ops_ex rfl (guard_on rfl rfl rfl hg1152) rfl rfl (ex_move rfl rfl) ?_
        refine ops_ex rfl (guard_on rfl rfl rfl hg1152) rfl rfl (ex_nilCheck rfl rfl) ?_
        refine ops_ex rfl (guard_on rfl rfl rfl hg1152) rfl rfl (ex_fieldAddr (off' := f0 + 3) rfl rfl Tryd.underlying33 rfl tsz31 rfl) ?_
        refine ops_ex rfl (guard_on rfl rfl rfl hg1152) rfl rfl (ex_load1 rfl rfl Tryd.underlying31 rfl ((HM.at_ hc0) 3 _ rfl)) ?_
        obtain ⟨kv1150, hc1149, hk1151⟩ : ∃ u, CellsAt _ (sb p0_1) (so p0_1 + ((0 : Int)).toNat * 4) [(.int .i64 ((gt x0.fOuts (0 : Int)).fValue)), u, (.int .i64 ((gt x0.fOuts (0 : Int)).fRule.fNeed)), (.int .i64 ((gt x0.fOuts (0 : Int)).fRule.fAfter))] ∧ RdS kInt _ u ((gt x0.fOuts (0 : Int)).fRule.fKeys) := rd_with1 hp0_1 (or_t e1148 hg1152)
        refine ops_ex rfl (guard_on rfl rfl rfl hg1152) rfl rfl (ex_indexAddr (d := kOut) rfl rfl rfl Tryd.underlying31 tsz106 hp0_1 (idx_lo (or_t e1148 hg1152)) (idx_hi (or_t e1148 hg1152))) ?_
        refine ops_ex rfl (guard_on rfl rfl rfl hg1152) rfl rfl (ex_fieldAddr (off' := so p0_1 + ((0 : Int)).toNat * 4) rfl rfl Tryd.underlying106 rfl tsz2 rfl) ?_
        refine ops_ex rfl (guard_on rfl rfl rfl hg1152) rfl rfl (ex_load1 rfl rfl Tryd.underlying2 rfl ((HM.at_ hc1149) 0 _ rfl)) ?_
        refine ops_ex rfl (guard_on rfl rfl rfl hg1152) rfl rfl (ex_lss rfl rfl rfl) ?_
        refine ops_ex (v := .bool ((x0.fKind == 1) && (decide (((gt x0.fOuts (0 : Int)).fValue) < 100)))) rfl (guard_none rfl) rfl rfl (ex_pand_t rfl rfl hg1152 rfl) ?_
        refine ops_nil ?_
        exact at_meet [(49, .bool ((x0.fKind == 1) && (decide (((gt x0.fOuts (0 : Int)).fValue) < 100))))] ⟨rfl, HM⟩ (Sub.cons rfl Sub.nil)
      · skip
        refine ops_off rfl (guard_off rfl rfl rfl hg1152) rfl rfl ?_
        refine ops_off rfl (guard_off rfl rfl rfl hg1152) rfl rfl ?_
        refine ops_off rfl (guard_off rfl rfl rfl hg1152) rfl rfl ?_
        refine ops_off rfl (guard_off rfl rfl rfl hg1152) rfl rfl ?_
        refine ops_off rfl (guard_off rfl rfl rfl hg1152) rfl rfl ?_
        refine ops_off rfl (guard_off rfl rfl rfl hg1152) rfl rfl ?_
        refine ops_off rfl (guard_off rfl rfl rfl hg1152) rfl rfl ?_
        refine ops_off rfl (guard_off rfl rfl rfl hg1152) rfl rfl ?_
        have hg1153 : ((x0.fKind == 1) && (decide (((gt x0.fOuts (0 : Int)).fValue) < 100))) = false := by simp only [hg1152, Bool.and_true, Bool.true_and, Bool.and_false, Bool.false_and, Bool.or_true, Bool.true_or, Bool.or_false, Bool.false_or, Bool.not_true, Bool.not_false, Bool.not_not]
        refine ops_ex (v := .bool ((x0.fKind == 1) && (decide (((gt x0.fOuts (0 : Int)).fValue) < 100)))) rfl (guard_none rfl) rfl rfl (ex_pand_f rfl rfl hg1152) ?_
        refine ops_nil ?_
        exact at_meet [(49, .bool ((x0.fKind == 1) && (decide (((gt x0.fOuts (0 : Int)).fValue) < 100))))] ⟨rfl, HM⟩ (Sub.cons rfl Sub.nil)
    · rintro _ w1154 ⟨rfl, HM⟩
      refine at_then ?_
      refine run_cond (b := ((x0.fKind == 1) && (decide (((gt x0.fOuts (0 : Int)).fValue) < 100)))) rfl (fun hb1155 => ?_) (fun hb1155 => ?_)
      · replace H := cond_t hb1155 H
        refine run_seq ?_
        refine run_region rfl ?_
        refine ops_ex rfl (guard_none rfl) rfl rfl (ex_assign rfl rfl) ?_
        refine ops_nil ?_
        refine at_then ?_
        refine run_ret ?_
        refine at_then_ret ?_
        have hR := Option.some.inj H
        subst hR
        exact at_ret1 rfl rfl ⟨_, rfl, rfl, HM⟩
      · replace H := cond_f hb1155 H
        refine run_skip ?_
        refine at_then ?_
        refine run_seq ?_
        refine run_region rfl ?_
        refine ops_ex rfl (guard_none rfl) rfl rfl (ex_assign rfl rfl) ?_
        refine ops_nil ?_
        refine at_then ?_
        refine run_ret ?_
        have hR := Option.some.inj H
        subst hR
        exact at_ret1 rfl rfl ⟨_, rfl, rfl, HM⟩

def spec_l3Fault.l0 (x0 : Tx) : Nat → Int → Option (Int ⊕ Unit)
  | 0, _ => none
  | k + 1, a1276 => (bif (decide (a1276 < (x0.fIns.length : Int))) then (chk (idxOk a1276 x0.fIns.length) ((spec_l3Ref.f k (gt x0.fIns a1276)).bind fun t1307 => (bif !t1307 then some (.inl 3) else (chk (cutOk a1276 x0.fIns.length) (chk (idxOk a1276 x0.fIns.length) ((spec_l3Among.f k (x0.fIns.take (a1276).toNat) (gt x0.fIns a1276)).bind fun t1317 => (bif t1317 then some (.inl 7) else spec_l3Fault.l0 x0 k (wrap64 (a1276 + 1))))))))) else some (.inr ()))
theorem spec_l3Fault.l0_z (x0 : Tx) (a1276 : Int) : spec_l3Fault.l0 x0 0 a1276 = none := rfl
theorem spec_l3Fault.l0_s (x0 : Tx) (k : Nat) (a1276 : Int) : spec_l3Fault.l0 x0 (k + 1) a1276 = (bif (decide (a1276 < (x0.fIns.length : Int))) then (chk (idxOk a1276 x0.fIns.length) ((spec_l3Ref.f k (gt x0.fIns a1276)).bind fun t1307 => (bif !t1307 then some (.inl 3) else (chk (cutOk a1276 x0.fIns.length) (chk (idxOk a1276 x0.fIns.length) ((spec_l3Among.f k (x0.fIns.take (a1276).toNat) (gt x0.fIns a1276)).bind fun t1317 => (bif t1317 then some (.inl 7) else spec_l3Fault.l0 x0 k (wrap64 (a1276 + 1))))))))) else some (.inr ())) := rfl
def spec_l3Fault.f (k : Nat) (x0 : Tx) : Option Int := ((spec_l1In.f k x0.fKind 0 2).bind fun t1161 => (bif ((!t1161) || ((x0.fKind == 0) != (x0.fMember == 0))) then some 1 else ((bif (x0.fKind != 0) then spec_l1Key.f k x0.fMember else some default).bind fun t1171 => (bif ((x0.fKind != 0) && (!t1171)) then some 3 else ((spec_l1In.f k (x0.fIns.length : Int) 1 4).bind fun t1183 => ((bif (!(!t1183)) then spec_l1In.f k (x0.fOuts.length : Int) 1 4 else some default).bind fun t1185 => (bif ((!t1183) || (!t1185)) then some 2 else ((spec_l3Fault.l0 x0 k 0).bind fun o1254 => thn o1254 (fun r => some r) (fun _ => ((spec_l3Outs.f k x0).bind fun t1322 => some t1322))))))))))
theorem spec_l3Fault.calls {k : Nat} {x0 : Tx} {b0 f0 : Nat} {p0_0 : Value} {p0_1 : Value} {w : World} (hc0 : CellsAt w b0 f0 [.int .i64 x0.fKind, .int .i64 x0.fMember, p0_0, p0_1]) (hp0_0 : RdS kRef w p0_0 x0.fIns) (hp0_1 : RdS kOut w p0_1 x0.fOuts) {r : Int} (H : spec_l3Fault.f k x0 = some r) :
    Calls Tryd.prog 31 ([.pointer (some ⟨b0, f0, none⟩)] : List Value).toArray w (fun e w_ => ∃ v, e = .returned v ∧ v = (.int .i64 r) ∧ Mem w [] w_ []) := by
  have HM := Mem.start w
  refine calls_run (N := 86) Tryd.func31 rfl rfl rfl rfl ?_
  unfold spec_l3Fault.f at H
  refine run_seq ?_
  refine run_region rfl ?_
  refine ops_ex rfl (guard_none rfl) rfl rfl (ex_assign rfl rfl) ?_
  refine ops_nil ?_
  refine at_then ?_
  refine run_seq ?_
  refine run_seq ?_
  obtain ⟨t1161, h1162, H⟩ := bind_some H
  refine run_meet (fun ρ_ w_ => ρ_ = [(0, .pointer (some ⟨b0, f0, none⟩)), (22, .bool ((!t1161) || ((x0.fKind == 0) != (x0.fMember == 0))))] ∧ Mem w [] w_ []) ?_ ?_
  · skip
    refine run_drawf (fun w_ => Mem w [] w_ []) [(0, true), (1, true), (2, true), (3, true), (4, false), (5, true), (6, true), (7, true), (8, true), (9, true), (10, true), (11, true), (12, true), (13, true), (14, true), (15, true), (16, true), (17, true), (18, true)] mixed rfl rfl (by kernel_rfl) ?_
    replace HM := HM.grow (fr_drew _)
    have hS := Mem.suf (M := []) HM
    refine drwp_take rfl (guard_none rfl) rfl rfl (fun w_ hS_ => (ex_move rfl rfl)) hS ?_
    refine drwp_take rfl (guard_none rfl) rfl rfl (fun w_ hS_ => (ex_nilCheck rfl rfl)) hS ?_
    refine drwp_take rfl (guard_none rfl) rfl rfl (fun w_ hS_ => (ex_fieldAddr (off' := f0) rfl rfl Tryd.underlying33 rfl tsz2 rfl)) hS ?_
    refine drwp_take rfl (guard_none rfl) rfl rfl (fun w_ hS_ => (ex_load1 rfl rfl Tryd.underlying2 rfl ((hS_.at_ hc0) 0 _ rfl))) hS ?_
    refine drwp_one rfl (guard_none rfl) rfl rfl (does_callk rfl callok59 rfl (spec_l1In.calls (x0 := x0.fKind) (x1 := 0) (x2 := 2) h1162)) ?_
    rintro _ w1163 ⟨rfl, hn⟩
    replace HM : Mem w [] w1163 [] := HM.call hn
    refine ⟨Mem.suf (M := []) HM, ?_⟩
    have hS := Mem.suf (M := []) HM
    refine drwp_take rfl (guard_none rfl) rfl rfl (fun w_ hS_ => (ex_not rfl rfl)) hS ?_
    refine drwp_take rfl (guard_none rfl) rfl rfl (fun w_ hS_ => (ex_move rfl rfl)) hS ?_
    refine bool_cases (!t1161) (fun hg1164 => ?_) (fun hg1164 => ?_)
    · skip
      refine drwp_off rfl (guard_off rfl rfl rfl hg1164) rfl rfl hS ?_
      refine drwp_off rfl (guard_off rfl rfl rfl hg1164) rfl rfl hS ?_
      refine drwp_off rfl (guard_off rfl rfl rfl hg1164) rfl rfl hS ?_
      refine drwp_off rfl (guard_off rfl rfl rfl hg1164) rfl rfl hS ?_
      refine drwp_off rfl (guard_off rfl rfl rfl hg1164) rfl rfl hS ?_
      refine drwp_off rfl (guard_off rfl rfl rfl hg1164) rfl rfl hS ?_
      refine drwp_off rfl (guard_off rfl rfl rfl hg1164) rfl rfl hS ?_
      refine drwp_off rfl (guard_off rfl rfl rfl hg1164) rfl rfl hS ?_
      refine drwp_off rfl (guard_off rfl rfl rfl hg1164) rfl rfl hS ?_
      refine drwp_off rfl (guard_off rfl rfl rfl hg1164) rfl rfl hS ?_
      refine drwp_off rfl (guard_off rfl rfl rfl hg1164) rfl rfl hS ?_
      have hg1165 : ((!t1161) || ((x0.fKind == 0) != (x0.fMember == 0))) = true := by simp only [hg1164, Bool.and_true, Bool.true_and, Bool.and_false, Bool.false_and, Bool.or_true, Bool.true_or, Bool.or_false, Bool.false_or, Bool.not_true, Bool.not_false, Bool.not_not]
      refine drwp_take (v := .bool ((!t1161) || ((x0.fKind == 0) != (x0.fMember == 0)))) rfl (guard_none rfl) rfl rfl (fun w_ hS_ => (ex_por_t rfl rfl hg1164)) hS ?_
      refine drwp_done ?_
      exact at_meet [(0, .pointer (some ⟨b0, f0, none⟩)), (22, .bool ((!t1161) || ((x0.fKind == 0) != (x0.fMember == 0))))] ⟨rfl, HM⟩ (Sub.cons rfl (Sub.cons rfl Sub.nil))
    · skip
      refine drwp_take rfl (guard_on rfl rfl rfl hg1164) rfl rfl (fun w_ hS_ => (ex_move rfl rfl)) hS ?_
      refine drwp_take rfl (guard_on rfl rfl rfl hg1164) rfl rfl (fun w_ hS_ => (ex_nilCheck rfl rfl)) hS ?_
      refine drwp_take rfl (guard_on rfl rfl rfl hg1164) rfl rfl (fun w_ hS_ => (ex_fieldAddr (off' := f0) rfl rfl Tryd.underlying33 rfl tsz2 rfl)) hS ?_
      refine drwp_take rfl (guard_on rfl rfl rfl hg1164) rfl rfl (fun w_ hS_ => (ex_load1 rfl rfl Tryd.underlying2 rfl ((hS_.at_ hc0) 0 _ rfl))) hS ?_
      refine drwp_take rfl (guard_on rfl rfl rfl hg1164) rfl rfl (fun w_ hS_ => (ex_eql rfl rfl rfl)) hS ?_
      refine drwp_take rfl (guard_on rfl rfl rfl hg1164) rfl rfl (fun w_ hS_ => (ex_move rfl rfl)) hS ?_
      refine drwp_take rfl (guard_on rfl rfl rfl hg1164) rfl rfl (fun w_ hS_ => (ex_nilCheck rfl rfl)) hS ?_
      refine drwp_take rfl (guard_on rfl rfl rfl hg1164) rfl rfl (fun w_ hS_ => (ex_fieldAddr (off' := f0 + 1) rfl rfl Tryd.underlying33 rfl tsz2 rfl)) hS ?_
      refine drwp_take rfl (guard_on rfl rfl rfl hg1164) rfl rfl (fun w_ hS_ => (ex_load1 rfl rfl Tryd.underlying2 rfl ((hS_.at_ hc0) 1 _ rfl))) hS ?_
      refine drwp_take rfl (guard_on rfl rfl rfl hg1164) rfl rfl (fun w_ hS_ => (ex_eql rfl rfl rfl)) hS ?_
      refine drwp_take rfl (guard_on rfl rfl rfl hg1164) rfl rfl (fun w_ hS_ => (ex_bneq rfl rfl rfl Tryd.underlying4)) hS ?_
      refine drwp_take (v := .bool ((!t1161) || ((x0.fKind == 0) != (x0.fMember == 0)))) rfl (guard_none rfl) rfl rfl (fun w_ hS_ => (ex_por_f rfl rfl hg1164 rfl)) hS ?_
      refine drwp_done ?_
      exact at_meet [(0, .pointer (some ⟨b0, f0, none⟩)), (22, .bool ((!t1161) || ((x0.fKind == 0) != (x0.fMember == 0))))] ⟨rfl, HM⟩ (Sub.cons rfl (Sub.cons rfl Sub.nil))
  · rintro _ w1166 ⟨rfl, HM⟩
    refine at_then ?_
    refine run_cond (b := ((!t1161) || ((x0.fKind == 0) != (x0.fMember == 0)))) rfl (fun hb1167 => ?_) (fun hb1167 => ?_)
    · replace H := cond_t hb1167 H
      refine run_seq ?_
      refine run_region rfl ?_
      refine ops_ex rfl (guard_none rfl) rfl rfl (ex_assign rfl rfl) ?_
      refine ops_nil ?_
      refine at_then ?_
      refine run_ret ?_
      refine at_then_ret ?_
      have hR := Option.some.inj H
      subst hR
      exact at_ret1 rfl rfl ⟨_, rfl, rfl, HM⟩
    · replace H := cond_f hb1167 H
      refine run_skip ?_
      refine at_then ?_
      refine run_seq ?_
      refine run_seq ?_
      obtain ⟨t1171, h1172, H⟩ := bind_some H
      refine run_meet (fun ρ_ w_ => ρ_ = [(0, .pointer (some ⟨b0, f0, none⟩)), (35, .bool ((x0.fKind != 0) && (!t1171)))] ∧ Mem w [] w_ []) ?_ ?_
      · skip
        refine run_region rfl ?_
        refine ops_ex rfl (guard_none rfl) rfl rfl (ex_move rfl rfl) ?_
        refine ops_ex rfl (guard_none rfl) rfl rfl (ex_nilCheck rfl rfl) ?_
        refine ops_ex rfl (guard_none rfl) rfl rfl (ex_fieldAddr (off' := f0) rfl rfl Tryd.underlying33 rfl tsz2 rfl) ?_
        refine ops_ex rfl (guard_none rfl) rfl rfl (ex_load1 rfl rfl Tryd.underlying2 rfl ((HM.at_ hc0) 0 _ rfl)) ?_
        refine ops_ex rfl (guard_none rfl) rfl rfl (ex_neq rfl rfl rfl) ?_
        refine ops_ex rfl (guard_none rfl) rfl rfl (ex_move rfl rfl) ?_
        refine bool_cases (x0.fKind != 0) (fun hg1173 => ?_) (fun hg1173 => ?_)
        · skip
          refine ops_ex rfl (guard_on rfl rfl rfl hg1173) rfl rfl (ex_move rfl rfl) ?_
          refine ops_ex rfl (guard_on rfl rfl rfl hg1173) rfl rfl (ex_nilCheck rfl rfl) ?_
          refine ops_ex rfl (guard_on rfl rfl rfl hg1173) rfl rfl (ex_fieldAddr (off' := f0 + 1) rfl rfl Tryd.underlying33 rfl tsz2 rfl) ?_
          refine ops_ex rfl (guard_on rfl rfl rfl hg1173) rfl rfl (ex_load1 rfl rfl Tryd.underlying2 rfl ((HM.at_ hc0) 1 _ rfl)) ?_
          refine ops_does rfl (guard_on rfl rfl rfl hg1173) rfl rfl (does_callk rfl callok62 rfl (spec_l1Key.calls (x0 := x0.fMember) (cond_t hg1173 h1172))) ?_
          rintro _ w1174 ⟨rfl, hn⟩
          replace HM : Mem w [] w1174 [] := HM.call hn
          refine ops_ex rfl (guard_on rfl rfl rfl hg1173) rfl rfl (ex_not rfl rfl) ?_
          refine ops_ex (v := .bool ((x0.fKind != 0) && (!t1171))) rfl (guard_none rfl) rfl rfl (ex_pand_t rfl rfl hg1173 rfl) ?_
          refine ops_nil ?_
          exact at_meet [(0, .pointer (some ⟨b0, f0, none⟩)), (35, .bool ((x0.fKind != 0) && (!t1171)))] ⟨rfl, HM⟩ (Sub.cons rfl (Sub.cons rfl Sub.nil))
        · skip
          refine ops_off rfl (guard_off rfl rfl rfl hg1173) rfl rfl ?_
          refine ops_off rfl (guard_off rfl rfl rfl hg1173) rfl rfl ?_
          refine ops_off rfl (guard_off rfl rfl rfl hg1173) rfl rfl ?_
          refine ops_off rfl (guard_off rfl rfl rfl hg1173) rfl rfl ?_
          refine ops_off rfl (guard_off rfl rfl rfl hg1173) rfl rfl ?_
          refine ops_off rfl (guard_off rfl rfl rfl hg1173) rfl rfl ?_
          have hg1175 : ((x0.fKind != 0) && (!t1171)) = false := by simp only [hg1173, Bool.and_true, Bool.true_and, Bool.and_false, Bool.false_and, Bool.or_true, Bool.true_or, Bool.or_false, Bool.false_or, Bool.not_true, Bool.not_false, Bool.not_not]
          refine ops_ex (v := .bool ((x0.fKind != 0) && (!t1171))) rfl (guard_none rfl) rfl rfl (ex_pand_f rfl rfl hg1173) ?_
          refine ops_nil ?_
          exact at_meet [(0, .pointer (some ⟨b0, f0, none⟩)), (35, .bool ((x0.fKind != 0) && (!t1171)))] ⟨rfl, HM⟩ (Sub.cons rfl (Sub.cons rfl Sub.nil))
      · rintro _ w1176 ⟨rfl, HM⟩
        refine at_then ?_
        refine run_cond (b := ((x0.fKind != 0) && (!t1171))) rfl (fun hb1177 => ?_) (fun hb1177 => ?_)
        · replace H := cond_t hb1177 H
          refine run_seq ?_
          refine run_region rfl ?_
          refine ops_ex rfl (guard_none rfl) rfl rfl (ex_assign rfl rfl) ?_
          refine ops_nil ?_
          refine at_then ?_
          refine run_ret ?_
          refine at_then_ret ?_
          have hR := Option.some.inj H
          subst hR
          exact at_ret1 rfl rfl ⟨_, rfl, rfl, HM⟩
        · replace H := cond_f hb1177 H
          refine run_skip ?_
          refine at_then ?_
          refine run_seq ?_
          refine run_seq ?_
          obtain ⟨t1183, h1184, H⟩ := bind_some H
          obtain ⟨t1185, h1186, H⟩ := bind_some H
          refine run_meet (fun ρ_ w_ => ρ_ = [(0, .pointer (some ⟨b0, f0, none⟩)), (51, .bool ((!t1183) || (!t1185)))] ∧ Mem w [] w_ []) ?_ ?_
          · skip
            refine run_region rfl ?_
            refine ops_ex rfl (guard_none rfl) rfl rfl (ex_move rfl rfl) ?_
            refine ops_ex rfl (guard_none rfl) rfl rfl (ex_nilCheck rfl rfl) ?_
            refine ops_ex rfl (guard_none rfl) rfl rfl (ex_fieldAddr (off' := f0 + 2) rfl rfl Tryd.underlying33 rfl tsz30 rfl) ?_
            refine ops_ex rfl (guard_none rfl) rfl rfl (ex_load1 rfl rfl Tryd.underlying30 rfl ((HM.at_ hc0) 2 _ rfl)) ?_
            refine ops_ex rfl (guard_none rfl) rfl rfl (ex_len (d := kRef) (xs := x0.fIns) rfl rfl Tryd.underlying30 hp0_0) ?_
            refine ops_does rfl (guard_none rfl) rfl rfl (does_callk rfl callok59 rfl (spec_l1In.calls (x0 := (x0.fIns.length : Int)) (x1 := 1) (x2 := 4) h1184)) ?_
            rintro _ w1187 ⟨rfl, hn⟩
            replace HM : Mem w [] w1187 [] := HM.call hn
            refine ops_ex rfl (guard_none rfl) rfl rfl (ex_not rfl rfl) ?_
            refine ops_ex rfl (guard_none rfl) rfl rfl (ex_move rfl rfl) ?_
            refine bool_cases (!t1183) (fun hg1188 => ?_) (fun hg1188 => ?_)
            · skip
              refine ops_off rfl (guard_off rfl rfl rfl hg1188) rfl rfl ?_
              refine ops_off rfl (guard_off rfl rfl rfl hg1188) rfl rfl ?_
              refine ops_off rfl (guard_off rfl rfl rfl hg1188) rfl rfl ?_
              refine ops_off rfl (guard_off rfl rfl rfl hg1188) rfl rfl ?_
              refine ops_off rfl (guard_off rfl rfl rfl hg1188) rfl rfl ?_
              refine ops_off rfl (guard_off rfl rfl rfl hg1188) rfl rfl ?_
              refine ops_off rfl (guard_off rfl rfl rfl hg1188) rfl rfl ?_
              have hg1189 : ((!t1183) || (!t1185)) = true := by simp only [hg1188, Bool.and_true, Bool.true_and, Bool.and_false, Bool.false_and, Bool.or_true, Bool.true_or, Bool.or_false, Bool.false_or, Bool.not_true, Bool.not_false, Bool.not_not]
              refine ops_ex (v := .bool ((!t1183) || (!t1185))) rfl (guard_none rfl) rfl rfl (ex_por_t rfl rfl hg1188) ?_
              refine ops_nil ?_
              exact at_meet [(0, .pointer (some ⟨b0, f0, none⟩)), (51, .bool ((!t1183) || (!t1185)))] ⟨rfl, HM⟩ (Sub.cons rfl (Sub.cons rfl Sub.nil))
            · skip
              refine ops_ex rfl (guard_on rfl rfl rfl hg1188) rfl rfl (ex_move rfl rfl) ?_
              refine ops_ex rfl (guard_on rfl rfl rfl hg1188) rfl rfl (ex_nilCheck rfl rfl) ?_
              refine ops_ex rfl (guard_on rfl rfl rfl hg1188) rfl rfl (ex_fieldAddr (off' := f0 + 3) rfl rfl Tryd.underlying33 rfl tsz31 rfl) ?_
              refine ops_ex rfl (guard_on rfl rfl rfl hg1188) rfl rfl (ex_load1 rfl rfl Tryd.underlying31 rfl ((HM.at_ hc0) 3 _ rfl)) ?_
              refine ops_ex rfl (guard_on rfl rfl rfl hg1188) rfl rfl (ex_len (d := kOut) (xs := x0.fOuts) rfl rfl Tryd.underlying31 hp0_1) ?_
              refine ops_does rfl (guard_on rfl rfl rfl hg1188) rfl rfl (does_callk rfl callok59 rfl (spec_l1In.calls (x0 := (x0.fOuts.length : Int)) (x1 := 1) (x2 := 4) (cond_t (not_mk hg1188) h1186))) ?_
              rintro _ w1190 ⟨rfl, hn⟩
              replace HM : Mem w [] w1190 [] := HM.call hn
              refine ops_ex rfl (guard_on rfl rfl rfl hg1188) rfl rfl (ex_not rfl rfl) ?_
              refine ops_ex (v := .bool ((!t1183) || (!t1185))) rfl (guard_none rfl) rfl rfl (ex_por_f rfl rfl hg1188 rfl) ?_
              refine ops_nil ?_
              exact at_meet [(0, .pointer (some ⟨b0, f0, none⟩)), (51, .bool ((!t1183) || (!t1185)))] ⟨rfl, HM⟩ (Sub.cons rfl (Sub.cons rfl Sub.nil))
          · rintro _ w1191 ⟨rfl, HM⟩
            refine at_then ?_
            refine run_cond (b := ((!t1183) || (!t1185))) rfl (fun hb1192 => ?_) (fun hb1192 => ?_)
            · replace H := cond_t hb1192 H
              refine run_seq ?_
              refine run_region rfl ?_
              refine ops_ex rfl (guard_none rfl) rfl rfl (ex_assign rfl rfl) ?_
              refine ops_nil ?_
              refine at_then ?_
              refine run_ret ?_
              refine at_then_ret ?_
              have hR := Option.some.inj H
              subst hR
              exact at_ret1 rfl rfl ⟨_, rfl, rfl, HM⟩
            · replace H := cond_f hb1192 H
              refine run_skip ?_
              refine at_then ?_
              obtain ⟨o1254, ho1255, H⟩ := bind_some H
              refine run_mid (fun ρ_ w_ => Sum.inr () = o1254 ∧ ρ_ = [(0, .pointer (some ⟨b0, f0, none⟩))] ∧ Mem w [] w_ []) ?_ ?_
              · skip
                refine run_seq ?_
                refine run_region rfl ?_
                refine ops_ex rfl (guard_none rfl) rfl rfl (ex_assign rfl rfl) ?_
                refine ops_nil ?_
                refine at_then ?_
                refine run_block ?_
                refine run_loop (fun k_ ρ_ w_ => ∃ a1276 : Int, spec_l3Fault.l0 x0 k_ a1276 = some o1254 ∧ ρ_ = [(0, .pointer (some ⟨b0, f0, none⟩)), (3, .int .i64 a1276)] ∧ Mem w [] w_ []) k (ρ1 := [(0, .pointer (some ⟨b0, f0, none⟩)), (3, .int .i64 0)]) ⟨_, ho1255, rfl, HM⟩ (Sub.cons rfl (Sub.cons rfl Sub.nil)) ?_
                clear HM ho1255
                rintro k1297 _ w1298 ⟨a1276, ho1255, rfl, HM⟩
                obtain _ | k1297 := k1297
                · exact nomatch ((spec_l3Fault.l0_z x0 a1276).symm.trans ho1255)
                replace ho1255 := (spec_l3Fault.l0_s x0 k1297 a1276).symm.trans ho1255
                refine run_seq ?_
                refine run_seq ?_
                refine run_region rfl ?_
                refine ops_ex rfl (guard_none rfl) rfl rfl (ex_move rfl rfl) ?_
                refine ops_ex rfl (guard_none rfl) rfl rfl (ex_move rfl rfl) ?_
                refine ops_ex rfl (guard_none rfl) rfl rfl (ex_nilCheck rfl rfl) ?_
                refine ops_ex rfl (guard_none rfl) rfl rfl (ex_fieldAddr (off' := f0 + 2) rfl rfl Tryd.underlying33 rfl tsz30 rfl) ?_
                refine ops_ex rfl (guard_none rfl) rfl rfl (ex_load1 rfl rfl Tryd.underlying30 rfl ((HM.at_ hc0) 2 _ rfl)) ?_
                refine ops_ex rfl (guard_none rfl) rfl rfl (ex_len (d := kRef) (xs := x0.fIns) rfl rfl Tryd.underlying30 hp0_0) ?_
                refine ops_ex rfl (guard_none rfl) rfl rfl (ex_lss rfl rfl rfl) ?_
                refine ops_nil ?_
                refine at_then ?_
                refine run_cond (b := (decide (a1276 < (x0.fIns.length : Int)))) rfl (fun hb1299 => ?_) (fun hb1299 => ?_)
                · replace ho1255 := cond_t hb1299 ho1255
                  refine run_skip ?_
                  refine at_then ?_
                  refine run_seq ?_
                  refine run_block ?_
                  refine run_seq ?_
                  refine run_seq ?_
                  obtain ⟨e1305, ho1255⟩ := chk_some ho1255
                  obtain ⟨t1307, h1308, ho1255⟩ := bind_some ho1255
                  refine run_region rfl ?_
                  refine ops_ex rfl (guard_none rfl) rfl rfl (ex_move rfl rfl) ?_
                  refine ops_ex rfl (guard_none rfl) rfl rfl (ex_nilCheck rfl rfl) ?_
                  refine ops_ex rfl (guard_none rfl) rfl rfl (ex_fieldAddr (off' := f0 + 2) rfl rfl Tryd.underlying33 rfl tsz30 rfl) ?_
                  refine ops_ex rfl (guard_none rfl) rfl rfl (ex_load1 rfl rfl Tryd.underlying30 rfl ((HM.at_ hc0) 2 _ rfl)) ?_
                  refine ops_ex rfl (guard_none rfl) rfl rfl (ex_move rfl rfl) ?_
                  have hc1306 : CellsAt _ (sb p0_0) (so p0_0 + (a1276).toNat * 2) [(.int .i64 ((gt x0.fIns a1276).fTx)), (.int .i64 ((gt x0.fIns a1276).fAt))] := rd_plain hp0_0 e1305
                  refine ops_ex rfl (guard_none rfl) rfl rfl (ex_indexAddr (d := kRef) rfl rfl rfl Tryd.underlying30 tsz101 hp0_0 (idx_lo e1305) (idx_hi e1305)) ?_
                  refine ops_ex rfl (guard_none rfl) rfl rfl (ex_loadN (cs := [(.int .i64 ((gt x0.fIns a1276).fTx)), (.int .i64 ((gt x0.fIns a1276).fAt))]) rfl rfl Tryd.underlying101 rfl tsz101 rfl ((HM.at_ hc1306).sub 0 2 rfl)) ?_
                  refine ops_does rfl (guard_none rfl) rfl rfl (does_callk rfl callok63 rfl (spec_l3Ref.calls (x0 := (gt x0.fIns a1276)) h1308)) ?_
                  rintro _ w1309 ⟨rfl, hn⟩
                  replace HM : Mem w [] w1309 [] := HM.call hn
                  refine ops_ex rfl (guard_none rfl) rfl rfl (ex_not rfl rfl) ?_
                  refine ops_nil ?_
                  refine at_then ?_
                  refine run_cond (b := !t1307) rfl (fun hb1310 => ?_) (fun hb1310 => ?_)
                  · replace ho1255 := cond_t hb1310 ho1255
                    refine run_seq ?_
                    refine run_region rfl ?_
                    refine ops_ex rfl (guard_none rfl) rfl rfl (ex_assign rfl rfl) ?_
                    refine ops_nil ?_
                    refine at_then ?_
                    refine run_ret ?_
                    refine at_then_ret ?_
                    refine at_block_ret ?_
                    refine at_then_ret ?_
                    refine at_then_ret ?_
                    refine at_block_ret ?_
                    refine at_then_ret ?_
                    have hR := Option.some.inj ho1255
                    subst hR
                    have hT := thn_inl H
                    have hR := Option.some.inj hT
                    subst hR
                    exact at_ret1 rfl rfl ⟨_, rfl, rfl, HM⟩
                  · replace ho1255 := cond_f hb1310 ho1255
                    refine run_skip ?_
                    refine at_then ?_
                    refine run_seq ?_
                    obtain ⟨e1311, ho1255⟩ := chk_some ho1255
                    obtain ⟨e1315, ho1255⟩ := chk_some ho1255
                    obtain ⟨t1317, h1318, ho1255⟩ := bind_some ho1255
                    refine run_drawf (fun w_ => Mem w [] w_ []) [(0, true), (1, true), (2, true), (3, true), (4, true), (5, true), (6, true), (7, true), (8, true), (9, true), (10, true), (11, true), (12, true), (13, false)] mixed rfl rfl (by kernel_rfl) ?_
                    replace HM := HM.grow (fr_drew _)
                    have hS := Mem.suf (M := []) HM
                    refine drwp_take rfl (guard_none rfl) rfl rfl (fun w_ hS_ => (ex_move rfl rfl)) hS ?_
                    refine drwp_take rfl (guard_none rfl) rfl rfl (fun w_ hS_ => (ex_nilCheck rfl rfl)) hS ?_
                    refine drwp_take rfl (guard_none rfl) rfl rfl (fun w_ hS_ => (ex_fieldAddr (off' := f0 + 2) rfl rfl Tryd.underlying33 rfl tsz30 rfl)) hS ?_
                    refine drwp_take rfl (guard_none rfl) rfl rfl (fun w_ hS_ => (ex_load1 rfl rfl Tryd.underlying30 rfl ((hS_.at_ hc0) 2 _ rfl))) hS ?_
                    refine drwp_take rfl (guard_none rfl) rfl rfl (fun w_ hS_ => (ex_move rfl rfl)) hS ?_
                    refine drwp_takeE rfl (guard_none rfl) rfl rfl (ex_cutH kRef rfl rfl rfl Tryd.underlying30 tsz101 hp0_0 e1311) hS ?_
                    rintro u1312 hr1314
                    refine drwp_take rfl (guard_none rfl) rfl rfl (fun w_ hS_ => (ex_move rfl rfl)) hS ?_
                    refine drwp_take rfl (guard_none rfl) rfl rfl (fun w_ hS_ => (ex_nilCheck rfl rfl)) hS ?_
                    refine drwp_take rfl (guard_none rfl) rfl rfl (fun w_ hS_ => (ex_fieldAddr (off' := f0 + 2) rfl rfl Tryd.underlying33 rfl tsz30 rfl)) hS ?_
                    refine drwp_take rfl (guard_none rfl) rfl rfl (fun w_ hS_ => (ex_load1 rfl rfl Tryd.underlying30 rfl ((hS_.at_ hc0) 2 _ rfl))) hS ?_
                    refine drwp_take rfl (guard_none rfl) rfl rfl (fun w_ hS_ => (ex_move rfl rfl)) hS ?_
                    have hc1316 : CellsAt _ (sb p0_0) (so p0_0 + (a1276).toNat * 2) [(.int .i64 ((gt x0.fIns a1276).fTx)), (.int .i64 ((gt x0.fIns a1276).fAt))] := rd_plain hp0_0 e1315
                    refine drwp_take rfl (guard_none rfl) rfl rfl (fun w_ hS_ => (ex_indexAddr (d := kRef) rfl rfl rfl Tryd.underlying30 tsz101 hp0_0 (idx_lo e1315) (idx_hi e1315))) hS ?_
                    refine drwp_take rfl (guard_none rfl) rfl rfl (fun w_ hS_ => (ex_loadN (cs := [(.int .i64 ((gt x0.fIns a1276).fTx)), (.int .i64 ((gt x0.fIns a1276).fAt))]) rfl rfl Tryd.underlying101 rfl tsz101 rfl ((hS_.at_ hc1316).sub 0 2 rfl))) hS ?_
                    refine drwp_one rfl (guard_none rfl) rfl rfl (does_callk rfl callok64 rfl (spec_l3Among.calls (x0 := x0.fIns.take (a1276).toNat) (x1 := (gt x0.fIns a1276)) (HM.rd hr1314) h1318)) ?_
                    rintro _ w1319 ⟨rfl, hn⟩
                    replace HM : Mem w [] w1319 [] := HM.call hn
                    refine ⟨Mem.suf (M := []) HM, ?_⟩
                    have hS := Mem.suf (M := []) HM
                    refine drwp_done ?_
                    refine at_then ?_
                    refine run_cond (b := t1317) rfl (fun hb1320 => ?_) (fun hb1320 => ?_)
                    · replace ho1255 := cond_t hb1320 ho1255
                      refine run_seq ?_
                      refine run_region rfl ?_
                      refine ops_ex rfl (guard_none rfl) rfl rfl (ex_assign rfl rfl) ?_
                      refine ops_nil ?_
                      refine at_then ?_
                      refine run_ret ?_
                      refine at_block_ret ?_
                      refine at_then_ret ?_
                      refine at_then_ret ?_
                      refine at_block_ret ?_
                      refine at_then_ret ?_
                      have hR := Option.some.inj ho1255
                      subst hR
                      have hT := thn_inl H
                      have hR := Option.some.inj hT
                      subst hR
                      exact at_ret1 rfl rfl ⟨_, rfl, rfl, HM⟩
                    · replace ho1255 := cond_f hb1320 ho1255
                      refine run_skip ?_
                      refine at_block ?_
                      refine at_then ?_
                      refine run_region rfl ?_
                      refine ops_ex rfl (guard_none rfl) rfl rfl (ex_move rfl rfl) ?_
                      refine ops_ex rfl (guard_none rfl) rfl rfl (ex_add rfl rfl rfl) ?_
                      refine ops_ex rfl (guard_none rfl) rfl rfl (ex_assign rfl rfl) ?_
                      refine ops_nil ?_
                      exact at_again k1297 (ρ1 := [(0, .pointer (some ⟨b0, f0, none⟩)), (3, .int .i64 (wrap64 (a1276 + 1)))]) (Nat.lt_succ_self _) ⟨_, ho1255, rfl, HM⟩ (Sub.cons rfl (Sub.cons rfl Sub.nil))
                · replace ho1255 := cond_f hb1299 ho1255
                  refine run_exit ?_
                  refine at_then_exit ?_
                  refine at_then_exit ?_
                  refine at_block_exit ?_
                  exact at_mid (ρ' := [(0, .pointer (some ⟨b0, f0, none⟩))]) ⟨(Option.some.inj ho1255), rfl, HM⟩ (Sub.cons rfl Sub.nil)
              · rintro _ w1321 ⟨rfl, rfl, HM⟩
                replace H := (thn_inr H)
                refine run_seq ?_
                obtain ⟨t1322, h1323, H⟩ := bind_some H
                refine run_region rfl ?_
                refine ops_ex rfl (guard_none rfl) rfl rfl (ex_move rfl rfl) ?_
                refine ops_does rfl (guard_none rfl) rfl rfl (does_callk rfl callok65 rfl (spec_l3Outs.calls (x0 := x0) (HM.at_ hc0) (HM.rd hp0_0) (HM.rd hp0_1) h1323)) ?_
                rintro _ w1324 ⟨rfl, hn⟩
                replace HM : Mem w [] w1324 [] := HM.call hn
                refine ops_ex rfl (guard_none rfl) rfl rfl (ex_assign rfl rfl) ?_
                refine ops_nil ?_
                refine at_then ?_
                refine run_ret ?_
                have hR := Option.some.inj H
                subst hR
                exact at_ret1 rfl rfl ⟨_, rfl, rfl, HM⟩
end Go.Proofs.YtcpacdbdehphkaaDoor.Zk
