/- What functions of the program compute, each as a plain function, and that they do. Conditions: as each theorem states them. -/
import Derived.Test.YtigojhglkilodaaTakeCoinsZkF0
namespace Go.Proofs.Ytigojhglkilodaa.Zk
open Go Go.RowKit Go.IntWalk Go.Proofs
set_option linter.unusedVariables false
set_option linter.unusedSimpArgs false
set_option maxRecDepth 100000
set_option maxHeartbeats 4000000
def spec_l1In.f (k : Nat) (x0 : Int) (x1 : Int) (x2 : Int) : Option Bool := some ((decide (x1 ≤ x0)) && (decide (x0 ≤ x2)))
theorem spec_l1In.calls {k : Nat} {x0 : Int} {x1 : Int} {x2 : Int}  {w : World}  {r : Bool} (H : spec_l1In.f k x0 x1 x2 = some r) :
    Calls Try.prog 88 ([.int .i64 x0, .int .i64 x1, .int .i64 x2] : List Value).toArray w (fun e w_ => ∃ v, e = .returned v ∧ v = (.bool r) ∧ Mem w [] w_ []) := by
  have HM := Mem.start w
  refine calls_run (N := 15) Try.func88 rfl rfl rfl rfl ?_
  unfold spec_l1In.f at H
  refine run_seq ?_
  refine run_region rfl ?_
  refine ops_ex rfl (guard_none rfl) rfl rfl (ex_assign rfl rfl) ?_
  refine ops_nil ?_
  refine at_then ?_
  refine run_seq ?_
  refine run_meet (fun ρ_ w_ => ρ_ = [(6, .bool ((decide (x1 ≤ x0)) && (decide (x0 ≤ x2))))] ∧ Mem w [] w_ []) ?_ ?_
  · skip
    refine run_region rfl ?_
    refine ops_ex rfl (guard_none rfl) rfl rfl (ex_move rfl rfl) ?_
    refine ops_ex rfl (guard_none rfl) rfl rfl (ex_move rfl rfl) ?_
    refine ops_ex rfl (guard_none rfl) rfl rfl (ex_geq rfl rfl rfl) ?_
    refine ops_ex rfl (guard_none rfl) rfl rfl (ex_move rfl rfl) ?_
    refine bool_cases (decide (x1 ≤ x0)) (fun hg592 => ?_) (fun hg592 => ?_)
    · skip
      refine ops_ex rfl (guard_on rfl rfl rfl hg592) rfl rfl (ex_move rfl rfl) ?_
      refine ops_ex rfl (guard_on rfl rfl rfl hg592) rfl rfl (ex_move rfl rfl) ?_
      refine ops_ex rfl (guard_on rfl rfl rfl hg592) rfl rfl (ex_leq rfl rfl rfl) ?_
      refine ops_ex (v := .bool ((decide (x1 ≤ x0)) && (decide (x0 ≤ x2)))) rfl (guard_none rfl) rfl rfl (ex_pand_t rfl rfl hg592 rfl) ?_
      refine ops_ex rfl (guard_none rfl) rfl rfl (ex_assign rfl rfl) ?_
      refine ops_nil ?_
      exact at_meet [(6, .bool ((decide (x1 ≤ x0)) && (decide (x0 ≤ x2))))] ⟨rfl, HM⟩ (Sub.cons rfl Sub.nil)
    · skip
      refine ops_off rfl (guard_off rfl rfl rfl hg592) rfl rfl ?_
      refine ops_off rfl (guard_off rfl rfl rfl hg592) rfl rfl ?_
      refine ops_off rfl (guard_off rfl rfl rfl hg592) rfl rfl ?_
      have hg593 : ((decide (x1 ≤ x0)) && (decide (x0 ≤ x2))) = false := by simp only [hg592, Bool.and_true, Bool.true_and, Bool.and_false, Bool.false_and, Bool.or_true, Bool.true_or, Bool.or_false, Bool.false_or, Bool.not_true, Bool.not_false, Bool.not_not]
      refine ops_ex (v := .bool ((decide (x1 ≤ x0)) && (decide (x0 ≤ x2)))) rfl (guard_none rfl) rfl rfl (ex_pand_f rfl rfl hg592) ?_
      refine ops_ex rfl (guard_none rfl) rfl rfl (ex_assign rfl rfl) ?_
      refine ops_nil ?_
      exact at_meet [(6, .bool ((decide (x1 ≤ x0)) && (decide (x0 ≤ x2))))] ⟨rfl, HM⟩ (Sub.cons rfl Sub.nil)
  · rintro _ w594 ⟨rfl, HM⟩
    refine at_then ?_
    refine run_ret ?_
    have hR := Option.some.inj H
    subst hR
    exact at_ret1 rfl rfl ⟨_, rfl, rfl, HM⟩

def spec_l3Ref.f (k : Nat) (x0 : Ref) : Option Bool := ((spec_l1In.f k x0.fTx 1 60).bind fun t603 => ((bif t603 then spec_l1In.f k x0.fAt 0 3 else some default).bind fun t605 => some (t603 && t605)))
theorem spec_l3Ref.calls {k : Nat} {x0 : Ref}  {w : World}  {r : Bool} (H : spec_l3Ref.f k x0 = some r) :
    Calls Try.prog 121 ([.agg #[(.int .i64 x0.fTx), (.int .i64 x0.fAt)]] : List Value).toArray w (fun e w_ => ∃ v, e = .returned v ∧ v = (.bool r) ∧ Mem w [] w_ []) := by
  have HM := Mem.start w
  refine calls_run (N := 11) Try.func121 rfl rfl rfl rfl ?_
  unfold spec_l3Ref.f at H
  refine run_seq ?_
  refine run_region rfl ?_
  refine ops_does rfl (guard_none rfl) rfl rfl (does_box (cs := [.int .i64 x0.fTx, .int .i64 x0.fAt]) rfl rfl rfl HM) ?_
  rintro _ w602 ⟨b599, rfl, HM⟩
  refine ops_ex rfl (guard_none rfl) rfl rfl (ex_assign rfl rfl) ?_
  refine ops_nil ?_
  refine at_then ?_
  refine run_seq ?_
  obtain ⟨t603, h604, H⟩ := bind_some H
  obtain ⟨t605, h606, H⟩ := bind_some H
  refine run_meet (fun ρ_ w_ => ρ_ = [(2, .bool (t603 && t605))] ∧ Mem w [] w_ []) ?_ ?_
  · skip
    refine run_region rfl ?_
    refine ops_ex rfl (guard_none rfl) rfl rfl (ex_fieldAddr (off' := 0) rfl rfl Try.underlying54 rfl tsz2 rfl) ?_
    refine ops_ex rfl (guard_none rfl) rfl rfl (ex_load1 rfl rfl Try.underlying2 rfl ((HM.box_at 0 rfl) 0 _ rfl)) ?_
    refine ops_does rfl (guard_none rfl) rfl rfl (does_callk rfl callok88 rfl (spec_l1In.calls (x0 := x0.fTx) (x1 := 1) (x2 := 60) h604)) ?_
    rintro _ w607 ⟨rfl, hn⟩
    replace HM : Mem w [] w607 [box b599 54 [.int .i64 x0.fTx, .int .i64 x0.fAt]] := HM.call hn
    refine ops_ex rfl (guard_none rfl) rfl rfl (ex_move rfl rfl) ?_
    refine bool_cases t603 (fun hg608 => ?_) (fun hg608 => ?_)
    · skip
      refine ops_ex rfl (guard_on rfl rfl rfl hg608) rfl rfl (ex_fieldAddr (off' := 1) rfl rfl Try.underlying54 rfl tsz2 rfl) ?_
      refine ops_ex rfl (guard_on rfl rfl rfl hg608) rfl rfl (ex_load1 rfl rfl Try.underlying2 rfl ((HM.box_at 0 rfl) 1 _ rfl)) ?_
      refine ops_does rfl (guard_on rfl rfl rfl hg608) rfl rfl (does_callk rfl callok88 rfl (spec_l1In.calls (x0 := x0.fAt) (x1 := 0) (x2 := 3) (cond_t hg608 h606))) ?_
      rintro _ w609 ⟨rfl, hn⟩
      replace HM : Mem w [] w609 [box b599 54 [.int .i64 x0.fTx, .int .i64 x0.fAt]] := HM.call hn
      refine ops_ex (v := .bool (t603 && t605)) rfl (guard_none rfl) rfl rfl (ex_pand_t rfl rfl hg608 rfl) ?_
      refine ops_ex rfl (guard_none rfl) rfl rfl (ex_assign rfl rfl) ?_
      refine ops_nil ?_
      replace HM := (HM.front 0 rfl rfl).drop
      exact at_meet [(2, .bool (t603 && t605))] ⟨rfl, HM⟩ (Sub.cons rfl Sub.nil)
    · skip
      refine ops_off rfl (guard_off rfl rfl rfl hg608) rfl rfl ?_
      refine ops_off rfl (guard_off rfl rfl rfl hg608) rfl rfl ?_
      refine ops_off rfl (guard_off rfl rfl rfl hg608) rfl rfl ?_
      have hg610 : (t603 && t605) = false := by simp only [hg608, Bool.and_true, Bool.true_and, Bool.and_false, Bool.false_and, Bool.or_true, Bool.true_or, Bool.or_false, Bool.false_or, Bool.not_true, Bool.not_false, Bool.not_not]
      refine ops_ex (v := .bool (t603 && t605)) rfl (guard_none rfl) rfl rfl (ex_pand_f rfl rfl hg608) ?_
      refine ops_ex rfl (guard_none rfl) rfl rfl (ex_assign rfl rfl) ?_
      refine ops_nil ?_
      replace HM := (HM.front 0 rfl rfl).drop
      exact at_meet [(2, .bool (t603 && t605))] ⟨rfl, HM⟩ (Sub.cons rfl Sub.nil)
  · rintro _ w611 ⟨rfl, HM⟩
    refine at_then ?_
    refine run_ret ?_
    have hR := Option.some.inj H
    subst hR
    exact at_ret1 rfl rfl ⟨_, rfl, rfl, HM⟩

def spec_l2Height.f (k : Nat) (x0 : Int) : Option Bool := ((spec_l1In.f k x0 0 999).bind fun t620 => some t620)
theorem spec_l2Height.calls {k : Nat} {x0 : Int}  {w : World}  {r : Bool} (H : spec_l2Height.f k x0 = some r) :
    Calls Try.prog 100 ([.int .i64 x0] : List Value).toArray w (fun e w_ => ∃ v, e = .returned v ∧ v = (.bool r) ∧ Mem w [] w_ []) := by
  have HM := Mem.start w
  refine calls_run (N := 5) Try.func100 rfl rfl rfl rfl ?_
  unfold spec_l2Height.f at H
  refine run_seq ?_
  refine run_region rfl ?_
  refine ops_ex rfl (guard_none rfl) rfl rfl (ex_assign rfl rfl) ?_
  refine ops_nil ?_
  refine at_then ?_
  refine run_seq ?_
  obtain ⟨t620, h621, H⟩ := bind_some H
  refine run_region rfl ?_
  refine ops_ex rfl (guard_none rfl) rfl rfl (ex_move rfl rfl) ?_
  refine ops_does rfl (guard_none rfl) rfl rfl (does_callk rfl callok88 rfl (spec_l1In.calls (x0 := x0) (x1 := 0) (x2 := 999) h621)) ?_
  rintro _ w622 ⟨rfl, hn⟩
  replace HM : Mem w [] w622 [] := HM.call hn
  refine ops_ex rfl (guard_none rfl) rfl rfl (ex_assign rfl rfl) ?_
  refine ops_nil ?_
  refine at_then ?_
  refine run_ret ?_
  have hR := Option.some.inj H
  subst hR
  exact at_ret1 rfl rfl ⟨_, rfl, rfl, HM⟩

def spec_l1Key.f (k : Nat) (x0 : Int) : Option Bool := ((spec_l1In.f k x0 1 999).bind fun t660 => some t660)
theorem spec_l1Key.calls {k : Nat} {x0 : Int}  {w : World}  {r : Bool} (H : spec_l1Key.f k x0 = some r) :
    Calls Try.prog 107 ([.int .i64 x0] : List Value).toArray w (fun e w_ => ∃ v, e = .returned v ∧ v = (.bool r) ∧ Mem w [] w_ []) := by
  have HM := Mem.start w
  refine calls_run (N := 5) Try.func107 rfl rfl rfl rfl ?_
  unfold spec_l1Key.f at H
  refine run_seq ?_
  refine run_region rfl ?_
  refine ops_ex rfl (guard_none rfl) rfl rfl (ex_assign rfl rfl) ?_
  refine ops_nil ?_
  refine at_then ?_
  refine run_seq ?_
  obtain ⟨t660, h661, H⟩ := bind_some H
  refine run_region rfl ?_
  refine ops_ex rfl (guard_none rfl) rfl rfl (ex_move rfl rfl) ?_
  refine ops_does rfl (guard_none rfl) rfl rfl (does_callk rfl callok88 rfl (spec_l1In.calls (x0 := x0) (x1 := 1) (x2 := 999) h661)) ?_
  rintro _ w662 ⟨rfl, hn⟩
  replace HM : Mem w [] w662 [] := HM.call hn
  refine ops_ex rfl (guard_none rfl) rfl rfl (ex_assign rfl rfl) ?_
  refine ops_nil ?_
  refine at_then ?_
  refine run_ret ?_
  have hR := Option.some.inj H
  subst hR
  exact at_ret1 rfl rfl ⟨_, rfl, rfl, HM⟩

def spec_l2Fault.l0 (x0 : Rule) : Nat → Int → Option (Int ⊕ Unit)
  | 0, _ => none
  | k + 1, a746 => (bif (decide (a746 < (x0.fKeys.length : Int))) then (chk (idxOk a746 x0.fKeys.length) ((spec_l1Key.f k (gt x0.fKeys a746)).bind fun t758 => (bif !t758 then some (.inl 3) else spec_l2Fault.l0 x0 k (wrap64 (a746 + 1))))) else some (.inr ()))
theorem spec_l2Fault.l0_z (x0 : Rule) (a746 : Int) : spec_l2Fault.l0 x0 0 a746 = none := rfl
theorem spec_l2Fault.l0_s (x0 : Rule) (k : Nat) (a746 : Int) : spec_l2Fault.l0 x0 (k + 1) a746 = (bif (decide (a746 < (x0.fKeys.length : Int))) then (chk (idxOk a746 x0.fKeys.length) ((spec_l1Key.f k (gt x0.fKeys a746)).bind fun t758 => (bif !t758 then some (.inl 3) else spec_l2Fault.l0 x0 k (wrap64 (a746 + 1))))) else some (.inr ())) := rfl
def spec_l2Fault.l1 (x0 : Rule) : Nat → Int → Option (Int ⊕ Unit)
  | 0, _ => none
  | k + 1, a805 => (bif (decide (a805 < (x0.fKeys.length : Int))) then (chk (idxOk a805 x0.fKeys.length) (chk (idxOk (wrap64 (a805 - 1)) x0.fKeys.length) (bif (decide ((gt x0.fKeys a805) ≤ (gt x0.fKeys (wrap64 (a805 - 1))))) then some (.inl 1) else spec_l2Fault.l1 x0 k (wrap64 (a805 + 1))))) else some (.inr ()))
theorem spec_l2Fault.l1_z (x0 : Rule) (a805 : Int) : spec_l2Fault.l1 x0 0 a805 = none := rfl
theorem spec_l2Fault.l1_s (x0 : Rule) (k : Nat) (a805 : Int) : spec_l2Fault.l1 x0 (k + 1) a805 = (bif (decide (a805 < (x0.fKeys.length : Int))) then (chk (idxOk a805 x0.fKeys.length) (chk (idxOk (wrap64 (a805 - 1)) x0.fKeys.length) (bif (decide ((gt x0.fKeys a805) ≤ (gt x0.fKeys (wrap64 (a805 - 1))))) then some (.inl 1) else spec_l2Fault.l1 x0 k (wrap64 (a805 + 1))))) else some (.inr ())) := rfl
def spec_l2Fault.f (k : Nat) (x0 : Rule) : Option Int := ((spec_l1In.f k (x0.fKeys.length : Int) 1 3).bind fun t715 => (bif !t715 then some 2 else ((spec_l2Fault.l0 x0 k 0).bind fun o738 => thn o738 (fun r => some r) (fun _ => ((spec_l1In.f k x0.fNeed 1 (x0.fKeys.length : Int)).bind fun t768 => ((bif (!(!t768)) then spec_l2Height.f k x0.fAfter else some default).bind fun t770 => (bif ((!t768) || (!t770)) then some 3 else ((spec_l2Fault.l1 x0 k 1).bind fun o797 => thn o797 (fun r => some r) (fun _ => some 0)))))))))
theorem spec_l2Fault.calls {k : Nat} {x0 : Rule} {b0 f0 : Nat} {p0_0 : Value} {w : World} (hc0 : CellsAt w b0 f0 [p0_0, .int .i64 x0.fNeed, .int .i64 x0.fAfter]) (hp0_0 : RdS kInt w p0_0 x0.fKeys) {r : Int} (H : spec_l2Fault.f k x0 = some r) :
    Calls Try.prog 152 ([.pointer (some ⟨b0, f0, none⟩)] : List Value).toArray w (fun e w_ => ∃ v, e = .returned v ∧ v = (.int .i64 r) ∧ Mem w [] w_ []) := by
  have HM := Mem.start w
  refine calls_run (N := 72) Try.func152 rfl rfl rfl rfl ?_
  unfold spec_l2Fault.f at H
  refine run_seq ?_
  refine run_region rfl ?_
  refine ops_ex rfl (guard_none rfl) rfl rfl (ex_assign rfl rfl) ?_
  refine ops_nil ?_
  refine at_then ?_
  refine run_seq ?_
  refine run_region rfl ?_
  refine ops_ex rfl (guard_none rfl) rfl rfl (ex_move rfl rfl) ?_
  refine ops_ex rfl (guard_none rfl) rfl rfl (ex_nilCheck rfl rfl) ?_
  refine ops_ex rfl (guard_none rfl) rfl rfl (ex_fieldAddr (off' := f0) rfl rfl Try.underlying119 rfl tsz111 rfl) ?_
  refine ops_ex rfl (guard_none rfl) rfl rfl (ex_load1 rfl rfl Try.underlying111 rfl ((HM.at_ hc0) 0 _ rfl)) ?_
  refine ops_ex rfl (guard_none rfl) rfl rfl (ex_len (d := kInt) (xs := x0.fKeys) rfl rfl Try.underlying111 hp0_0) ?_
  refine ops_ex rfl (guard_none rfl) rfl rfl (ex_assign rfl rfl) ?_
  refine ops_nil ?_
  refine at_then ?_
  refine run_seq ?_
  refine run_seq ?_
  obtain ⟨t715, h716, H⟩ := bind_some H
  refine run_region rfl ?_
  refine ops_ex rfl (guard_none rfl) rfl rfl (ex_move rfl rfl) ?_
  refine ops_does rfl (guard_none rfl) rfl rfl (does_callk rfl callok88 rfl (spec_l1In.calls (x0 := (x0.fKeys.length : Int)) (x1 := 1) (x2 := 3) h716)) ?_
  rintro _ w717 ⟨rfl, hn⟩
  replace HM : Mem w [] w717 [] := HM.call hn
  refine ops_ex rfl (guard_none rfl) rfl rfl (ex_not rfl rfl) ?_
  refine ops_nil ?_
  refine at_then ?_
  refine run_cond (b := !t715) rfl (fun hb718 => ?_) (fun hb718 => ?_)
  · replace H := cond_t hb718 H
    refine run_seq ?_
    refine run_region rfl ?_
    refine ops_ex rfl (guard_none rfl) rfl rfl (ex_assign rfl rfl) ?_
    refine ops_nil ?_
    refine at_then ?_
    refine run_ret ?_
    refine at_then_ret ?_
    have hR := Option.some.inj H
    subst hR
    exact at_ret1 rfl rfl ⟨_, rfl, rfl, HM⟩
  · replace H := cond_f hb718 H
    refine run_skip ?_
    refine at_then ?_
    obtain ⟨o738, ho739, H⟩ := bind_some H
    refine run_mid (fun ρ_ w_ => Sum.inr () = o738 ∧ ρ_ = [(0, .pointer (some ⟨b0, f0, none⟩)), (3, .int .i64 (x0.fKeys.length : Int))] ∧ Mem w [] w_ []) ?_ ?_
    · skip
      refine run_seq ?_
      refine run_region rfl ?_
      refine ops_ex rfl (guard_none rfl) rfl rfl (ex_assign rfl rfl) ?_
      refine ops_nil ?_
      refine at_then ?_
      refine run_block ?_
      refine run_loop (fun k_ ρ_ w_ => ∃ a746 : Int, spec_l2Fault.l0 x0 k_ a746 = some o738 ∧ ρ_ = [(0, .pointer (some ⟨b0, f0, none⟩)), (3, .int .i64 (x0.fKeys.length : Int)), (4, .int .i64 a746)] ∧ Mem w [] w_ []) k (ρ1 := [(0, .pointer (some ⟨b0, f0, none⟩)), (3, .int .i64 (x0.fKeys.length : Int)), (4, .int .i64 0)]) ⟨_, ho739, rfl, HM⟩ (Sub.cons rfl (Sub.cons rfl (Sub.cons rfl Sub.nil))) ?_
      clear HM ho739
      rintro k753 _ w754 ⟨a746, ho739, rfl, HM⟩
      obtain _ | k753 := k753
      · exact nomatch ((spec_l2Fault.l0_z x0 a746).symm.trans ho739)
      replace ho739 := (spec_l2Fault.l0_s x0 k753 a746).symm.trans ho739
      refine run_seq ?_
      refine run_seq ?_
      refine run_region rfl ?_
      refine ops_ex rfl (guard_none rfl) rfl rfl (ex_move rfl rfl) ?_
      refine ops_ex rfl (guard_none rfl) rfl rfl (ex_move rfl rfl) ?_
      refine ops_ex rfl (guard_none rfl) rfl rfl (ex_nilCheck rfl rfl) ?_
      refine ops_ex rfl (guard_none rfl) rfl rfl (ex_fieldAddr (off' := f0) rfl rfl Try.underlying119 rfl tsz111 rfl) ?_
      refine ops_ex rfl (guard_none rfl) rfl rfl (ex_load1 rfl rfl Try.underlying111 rfl ((HM.at_ hc0) 0 _ rfl)) ?_
      refine ops_ex rfl (guard_none rfl) rfl rfl (ex_len (d := kInt) (xs := x0.fKeys) rfl rfl Try.underlying111 hp0_0) ?_
      refine ops_ex rfl (guard_none rfl) rfl rfl (ex_lss rfl rfl rfl) ?_
      refine ops_nil ?_
      refine at_then ?_
      refine run_cond (b := (decide (a746 < (x0.fKeys.length : Int)))) rfl (fun hb755 => ?_) (fun hb755 => ?_)
      · replace ho739 := cond_t hb755 ho739
        refine run_skip ?_
        refine at_then ?_
        refine run_seq ?_
        refine run_block ?_
        refine run_seq ?_
        obtain ⟨e756, ho739⟩ := chk_some ho739
        obtain ⟨t758, h759, ho739⟩ := bind_some ho739
        refine run_region rfl ?_
        refine ops_ex rfl (guard_none rfl) rfl rfl (ex_move rfl rfl) ?_
        refine ops_ex rfl (guard_none rfl) rfl rfl (ex_nilCheck rfl rfl) ?_
        refine ops_ex rfl (guard_none rfl) rfl rfl (ex_fieldAddr (off' := f0) rfl rfl Try.underlying119 rfl tsz111 rfl) ?_
        refine ops_ex rfl (guard_none rfl) rfl rfl (ex_load1 rfl rfl Try.underlying111 rfl ((HM.at_ hc0) 0 _ rfl)) ?_
        refine ops_ex rfl (guard_none rfl) rfl rfl (ex_move rfl rfl) ?_
        have hc757 : CellsAt _ (sb p0_0) (so p0_0 + (a746).toNat * 1) [(.int .i64 (gt x0.fKeys a746))] := rd_plain hp0_0 e756
        refine ops_ex rfl (guard_none rfl) rfl rfl (ex_indexAddr (d := kInt) rfl rfl rfl Try.underlying111 tsz2 hp0_0 (idx_lo e756) (idx_hi e756)) ?_
        refine ops_ex rfl (guard_none rfl) rfl rfl (ex_load1 rfl rfl Try.underlying2 rfl ((HM.at_ hc757) 0 _ rfl)) ?_
        refine ops_does rfl (guard_none rfl) rfl rfl (does_callk rfl callok107 rfl (spec_l1Key.calls (x0 := (gt x0.fKeys a746)) h759)) ?_
        rintro _ w760 ⟨rfl, hn⟩
        replace HM : Mem w [] w760 [] := HM.call hn
        refine ops_ex rfl (guard_none rfl) rfl rfl (ex_not rfl rfl) ?_
        refine ops_nil ?_
        refine at_then ?_
        refine run_cond (b := !t758) rfl (fun hb761 => ?_) (fun hb761 => ?_)
        · replace ho739 := cond_t hb761 ho739
          refine run_seq ?_
          refine run_region rfl ?_
          refine ops_ex rfl (guard_none rfl) rfl rfl (ex_assign rfl rfl) ?_
          refine ops_nil ?_
          refine at_then ?_
          refine run_ret ?_
          refine at_block_ret ?_
          refine at_then_ret ?_
          refine at_then_ret ?_
          refine at_block_ret ?_
          refine at_then_ret ?_
          have hR := Option.some.inj ho739
          subst hR
          have hT := thn_inl H
          have hR := Option.some.inj hT
          subst hR
          exact at_ret1 rfl rfl ⟨_, rfl, rfl, HM⟩
        · replace ho739 := cond_f hb761 ho739
          refine run_skip ?_
          refine at_block ?_
          refine at_then ?_
          refine run_region rfl ?_
          refine ops_ex rfl (guard_none rfl) rfl rfl (ex_move rfl rfl) ?_
          refine ops_ex rfl (guard_none rfl) rfl rfl (ex_add rfl rfl rfl) ?_
          refine ops_ex rfl (guard_none rfl) rfl rfl (ex_assign rfl rfl) ?_
          refine ops_nil ?_
          exact at_again k753 (ρ1 := [(0, .pointer (some ⟨b0, f0, none⟩)), (3, .int .i64 (x0.fKeys.length : Int)), (4, .int .i64 (wrap64 (a746 + 1)))]) (Nat.lt_succ_self _) ⟨_, ho739, rfl, HM⟩ (Sub.cons rfl (Sub.cons rfl (Sub.cons rfl Sub.nil)))
      · replace ho739 := cond_f hb755 ho739
        refine run_exit ?_
        refine at_then_exit ?_
        refine at_then_exit ?_
        refine at_block_exit ?_
        exact at_mid (ρ' := [(0, .pointer (some ⟨b0, f0, none⟩)), (3, .int .i64 (x0.fKeys.length : Int))]) ⟨(Option.some.inj ho739), rfl, HM⟩ (Sub.cons rfl (Sub.cons rfl Sub.nil))
    · rintro _ w762 ⟨rfl, rfl, HM⟩
      replace H := (thn_inr H)
      refine run_seq ?_
      refine run_seq ?_
      obtain ⟨t768, h769, H⟩ := bind_some H
      obtain ⟨t770, h771, H⟩ := bind_some H
      refine run_meet (fun ρ_ w_ => ρ_ = [(0, .pointer (some ⟨b0, f0, none⟩)), (46, .bool ((!t768) || (!t770)))] ∧ Mem w [] w_ []) ?_ ?_
      · skip
        refine run_region rfl ?_
        refine ops_ex rfl (guard_none rfl) rfl rfl (ex_move rfl rfl) ?_
        refine ops_ex rfl (guard_none rfl) rfl rfl (ex_nilCheck rfl rfl) ?_
        refine ops_ex rfl (guard_none rfl) rfl rfl (ex_fieldAddr (off' := f0 + 1) rfl rfl Try.underlying119 rfl tsz2 rfl) ?_
        refine ops_ex rfl (guard_none rfl) rfl rfl (ex_load1 rfl rfl Try.underlying2 rfl ((HM.at_ hc0) 1 _ rfl)) ?_
        refine ops_ex rfl (guard_none rfl) rfl rfl (ex_move rfl rfl) ?_
        refine ops_does rfl (guard_none rfl) rfl rfl (does_callk rfl callok88 rfl (spec_l1In.calls (x0 := x0.fNeed) (x1 := 1) (x2 := (x0.fKeys.length : Int)) h769)) ?_
        rintro _ w772 ⟨rfl, hn⟩
        replace HM : Mem w [] w772 [] := HM.call hn
        refine ops_ex rfl (guard_none rfl) rfl rfl (ex_not rfl rfl) ?_
        refine ops_ex rfl (guard_none rfl) rfl rfl (ex_move rfl rfl) ?_
        refine bool_cases (!t768) (fun hg773 => ?_) (fun hg773 => ?_)
        · skip
          refine ops_off rfl (guard_off rfl rfl rfl hg773) rfl rfl ?_
          refine ops_off rfl (guard_off rfl rfl rfl hg773) rfl rfl ?_
          refine ops_off rfl (guard_off rfl rfl rfl hg773) rfl rfl ?_
          refine ops_off rfl (guard_off rfl rfl rfl hg773) rfl rfl ?_
          refine ops_off rfl (guard_off rfl rfl rfl hg773) rfl rfl ?_
          refine ops_off rfl (guard_off rfl rfl rfl hg773) rfl rfl ?_
          have hg774 : ((!t768) || (!t770)) = true := by simp only [hg773, Bool.and_true, Bool.true_and, Bool.and_false, Bool.false_and, Bool.or_true, Bool.true_or, Bool.or_false, Bool.false_or, Bool.not_true, Bool.not_false, Bool.not_not]
          refine ops_ex (v := .bool ((!t768) || (!t770))) rfl (guard_none rfl) rfl rfl (ex_por_t rfl rfl hg773) ?_
          refine ops_nil ?_
          exact at_meet [(0, .pointer (some ⟨b0, f0, none⟩)), (46, .bool ((!t768) || (!t770)))] ⟨rfl, HM⟩ (Sub.cons rfl (Sub.cons rfl Sub.nil))
        · skip
          refine ops_ex rfl (guard_on rfl rfl rfl hg773) rfl rfl (ex_move rfl rfl) ?_
          refine ops_ex rfl (guard_on rfl rfl rfl hg773) rfl rfl (ex_nilCheck rfl rfl) ?_
          refine ops_ex rfl (guard_on rfl rfl rfl hg773) rfl rfl (ex_fieldAddr (off' := f0 + 2) rfl rfl Try.underlying119 rfl tsz2 rfl) ?_
          refine ops_ex rfl (guard_on rfl rfl rfl hg773) rfl rfl (ex_load1 rfl rfl Try.underlying2 rfl ((HM.at_ hc0) 2 _ rfl)) ?_
          refine ops_does rfl (guard_on rfl rfl rfl hg773) rfl rfl (does_callk rfl callok100 rfl (spec_l2Height.calls (x0 := x0.fAfter) (cond_t (not_mk hg773) h771))) ?_
          rintro _ w775 ⟨rfl, hn⟩
          replace HM : Mem w [] w775 [] := HM.call hn
          refine ops_ex rfl (guard_on rfl rfl rfl hg773) rfl rfl (ex_not rfl rfl) ?_
          refine ops_ex (v := .bool ((!t768) || (!t770))) rfl (guard_none rfl) rfl rfl (ex_por_f rfl rfl hg773 rfl) ?_
          refine ops_nil ?_
          exact at_meet [(0, .pointer (some ⟨b0, f0, none⟩)), (46, .bool ((!t768) || (!t770)))] ⟨rfl, HM⟩ (Sub.cons rfl (Sub.cons rfl Sub.nil))
      · rintro _ w776 ⟨rfl, HM⟩
        refine at_then ?_
        refine run_cond (b := ((!t768) || (!t770))) rfl (fun hb777 => ?_) (fun hb777 => ?_)
        · replace H := cond_t hb777 H
          refine run_seq ?_
          refine run_region rfl ?_
          refine ops_ex rfl (guard_none rfl) rfl rfl (ex_assign rfl rfl) ?_
          refine ops_nil ?_
          refine at_then ?_
          refine run_ret ?_
          refine at_then_ret ?_
          have hR := Option.some.inj H
          subst hR
          exact at_ret1 rfl rfl ⟨_, rfl, rfl, HM⟩
        · replace H := cond_f hb777 H
          refine run_skip ?_
          refine at_then ?_
          obtain ⟨o797, ho798, H⟩ := bind_some H
          refine run_mid (fun ρ_ w_ => Sum.inr () = o797 ∧ ρ_ = [] ∧ Mem w [] w_ []) ?_ ?_
          · skip
            refine run_seq ?_
            refine run_region rfl ?_
            refine ops_ex rfl (guard_none rfl) rfl rfl (ex_assign rfl rfl) ?_
            refine ops_nil ?_
            refine at_then ?_
            refine run_block ?_
            refine run_loop (fun k_ ρ_ w_ => ∃ a805 : Int, spec_l2Fault.l1 x0 k_ a805 = some o797 ∧ ρ_ = [(0, .pointer (some ⟨b0, f0, none⟩)), (5, .int .i64 a805)] ∧ Mem w [] w_ []) k (ρ1 := [(0, .pointer (some ⟨b0, f0, none⟩)), (5, .int .i64 1)]) ⟨_, ho798, rfl, HM⟩ (Sub.cons rfl (Sub.cons rfl Sub.nil)) ?_
            clear HM ho798
            rintro k812 _ w813 ⟨a805, ho798, rfl, HM⟩
            obtain _ | k812 := k812
            · exact nomatch ((spec_l2Fault.l1_z x0 a805).symm.trans ho798)
            replace ho798 := (spec_l2Fault.l1_s x0 k812 a805).symm.trans ho798
            refine run_seq ?_
            refine run_seq ?_
            refine run_region rfl ?_
            refine ops_ex rfl (guard_none rfl) rfl rfl (ex_move rfl rfl) ?_
            refine ops_ex rfl (guard_none rfl) rfl rfl (ex_move rfl rfl) ?_
            refine ops_ex rfl (guard_none rfl) rfl rfl (ex_nilCheck rfl rfl) ?_
            refine ops_ex rfl (guard_none rfl) rfl rfl (ex_fieldAddr (off' := f0) rfl rfl Try.underlying119 rfl tsz111 rfl) ?_
            refine ops_ex rfl (guard_none rfl) rfl rfl (ex_load1 rfl rfl Try.underlying111 rfl ((HM.at_ hc0) 0 _ rfl)) ?_
            refine ops_ex rfl (guard_none rfl) rfl rfl (ex_len (d := kInt) (xs := x0.fKeys) rfl rfl Try.underlying111 hp0_0) ?_
            refine ops_ex rfl (guard_none rfl) rfl rfl (ex_lss rfl rfl rfl) ?_
            refine ops_nil ?_
            refine at_then ?_
            refine run_cond (b := (decide (a805 < (x0.fKeys.length : Int)))) rfl (fun hb814 => ?_) (fun hb814 => ?_)
            · replace ho798 := cond_t hb814 ho798
              refine run_skip ?_
              refine at_then ?_
              refine run_seq ?_
              refine run_block ?_
              refine run_seq ?_
              obtain ⟨e815, ho798⟩ := chk_some ho798
              obtain ⟨e817, ho798⟩ := chk_some ho798
              refine run_drawf (fun w_ => Mem w [] w_ []) [(0, true), (1, true), (2, true), (3, true), (4, true), (5, true), (6, true), (7, true), (8, true), (9, true), (10, true), (11, true), (12, true), (13, true), (14, true), (15, true)] mixed rfl rfl (by kernel_rfl) ?_
              replace HM := HM.grow (fr_drew _)
              have hS := Mem.suf (M := []) HM
              refine drwp_take rfl (guard_none rfl) rfl rfl (fun w_ hS_ => (ex_move rfl rfl)) hS ?_
              refine drwp_take rfl (guard_none rfl) rfl rfl (fun w_ hS_ => (ex_nilCheck rfl rfl)) hS ?_
              refine drwp_take rfl (guard_none rfl) rfl rfl (fun w_ hS_ => (ex_fieldAddr (off' := f0) rfl rfl Try.underlying119 rfl tsz111 rfl)) hS ?_
              refine drwp_take rfl (guard_none rfl) rfl rfl (fun w_ hS_ => (ex_load1 rfl rfl Try.underlying111 rfl ((hS_.at_ hc0) 0 _ rfl))) hS ?_
              refine drwp_take rfl (guard_none rfl) rfl rfl (fun w_ hS_ => (ex_move rfl rfl)) hS ?_
              have hc816 : CellsAt _ (sb p0_0) (so p0_0 + (a805).toNat * 1) [(.int .i64 (gt x0.fKeys a805))] := rd_plain hp0_0 e815
              refine drwp_take rfl (guard_none rfl) rfl rfl (fun w_ hS_ => (ex_indexAddr (d := kInt) rfl rfl rfl Try.underlying111 tsz2 hp0_0 (idx_lo e815) (idx_hi e815))) hS ?_
              refine drwp_take rfl (guard_none rfl) rfl rfl (fun w_ hS_ => (ex_load1 rfl rfl Try.underlying2 rfl ((hS_.at_ hc816) 0 _ rfl))) hS ?_
              refine drwp_take rfl (guard_none rfl) rfl rfl (fun w_ hS_ => (ex_move rfl rfl)) hS ?_
              refine drwp_take rfl (guard_none rfl) rfl rfl (fun w_ hS_ => (ex_nilCheck rfl rfl)) hS ?_
              refine drwp_take rfl (guard_none rfl) rfl rfl (fun w_ hS_ => (ex_fieldAddr (off' := f0) rfl rfl Try.underlying119 rfl tsz111 rfl)) hS ?_
              refine drwp_take rfl (guard_none rfl) rfl rfl (fun w_ hS_ => (ex_load1 rfl rfl Try.underlying111 rfl ((hS_.at_ hc0) 0 _ rfl))) hS ?_
              refine drwp_take rfl (guard_none rfl) rfl rfl (fun w_ hS_ => (ex_move rfl rfl)) hS ?_
              refine drwp_take rfl (guard_none rfl) rfl rfl (fun w_ hS_ => (ex_sub rfl rfl rfl)) hS ?_
              have hc818 : CellsAt _ (sb p0_0) (so p0_0 + (wrap64 (a805 - 1)).toNat * 1) [(.int .i64 (gt x0.fKeys (wrap64 (a805 - 1))))] := rd_plain hp0_0 e817
              refine drwp_take rfl (guard_none rfl) rfl rfl (fun w_ hS_ => (ex_indexAddr (d := kInt) rfl rfl rfl Try.underlying111 tsz2 hp0_0 (idx_lo e817) (idx_hi e817))) hS ?_
              refine drwp_take rfl (guard_none rfl) rfl rfl (fun w_ hS_ => (ex_load1 rfl rfl Try.underlying2 rfl ((hS_.at_ hc818) 0 _ rfl))) hS ?_
              refine drwp_take rfl (guard_none rfl) rfl rfl (fun w_ hS_ => (ex_leq rfl rfl rfl)) hS ?_
              refine drwp_done ?_
              refine at_then ?_
              refine run_cond (b := (decide ((gt x0.fKeys a805) ≤ (gt x0.fKeys (wrap64 (a805 - 1)))))) rfl (fun hb819 => ?_) (fun hb819 => ?_)
              · replace ho798 := cond_t hb819 ho798
                refine run_seq ?_
                refine run_region rfl ?_
                refine ops_ex rfl (guard_none rfl) rfl rfl (ex_assign rfl rfl) ?_
                refine ops_nil ?_
                refine at_then ?_
                refine run_ret ?_
                refine at_block_ret ?_
                refine at_then_ret ?_
                refine at_then_ret ?_
                refine at_block_ret ?_
                refine at_then_ret ?_
                have hR := Option.some.inj ho798
                subst hR
                have hT := thn_inl H
                have hR := Option.some.inj hT
                subst hR
                exact at_ret1 rfl rfl ⟨_, rfl, rfl, HM⟩
              · replace ho798 := cond_f hb819 ho798
                refine run_skip ?_
                refine at_block ?_
                refine at_then ?_
                refine run_region rfl ?_
                refine ops_ex rfl (guard_none rfl) rfl rfl (ex_move rfl rfl) ?_
                refine ops_ex rfl (guard_none rfl) rfl rfl (ex_add rfl rfl rfl) ?_
                refine ops_ex rfl (guard_none rfl) rfl rfl (ex_assign rfl rfl) ?_
                refine ops_nil ?_
                exact at_again k812 (ρ1 := [(0, .pointer (some ⟨b0, f0, none⟩)), (5, .int .i64 (wrap64 (a805 + 1)))]) (Nat.lt_succ_self _) ⟨_, ho798, rfl, HM⟩ (Sub.cons rfl (Sub.cons rfl Sub.nil))
            · replace ho798 := cond_f hb814 ho798
              refine run_exit ?_
              refine at_then_exit ?_
              refine at_then_exit ?_
              refine at_block_exit ?_
              exact at_mid (ρ' := []) ⟨(Option.some.inj ho798), rfl, HM⟩ Sub.nil
          · rintro _ w820 ⟨rfl, rfl, HM⟩
            replace H := (thn_inr H)
            refine run_seq ?_
            refine run_region rfl ?_
            refine ops_ex rfl (guard_none rfl) rfl rfl (ex_assign rfl rfl) ?_
            refine ops_nil ?_
            refine at_then ?_
            refine run_ret ?_
            have hR := Option.some.inj H
            subst hR
            exact at_ret1 rfl rfl ⟨_, rfl, rfl, HM⟩

def spec_l4Out.f (k : Nat) (x0 : Out) : Option Int := ((spec_l1In.f k x0.fValue 1 1000000).bind fun t826 => (bif !t826 then some 3 else ((spec_l2Fault.f k x0.fRule).bind fun t830 => some t830)))
theorem spec_l4Out.calls {k : Nat} {x0 : Out} {b0 f0 : Nat} {p0_0 : Value} {w : World} (hc0 : CellsAt w b0 f0 [.int .i64 x0.fValue, p0_0, .int .i64 x0.fRule.fNeed, .int .i64 x0.fRule.fAfter]) (hp0_0 : RdS kInt w p0_0 x0.fRule.fKeys) {r : Int} (H : spec_l4Out.f k x0 = some r) :
    Calls Try.prog 101 ([.pointer (some ⟨b0, f0, none⟩)] : List Value).toArray w (fun e w_ => ∃ v, e = .returned v ∧ v = (.int .i64 r) ∧ Mem w [] w_ []) := by
  have HM := Mem.start w
  refine calls_run (N := 13) Try.func101 rfl rfl rfl rfl ?_
  unfold spec_l4Out.f at H
  refine run_seq ?_
  refine run_region rfl ?_
  refine ops_ex rfl (guard_none rfl) rfl rfl (ex_assign rfl rfl) ?_
  refine ops_nil ?_
  refine at_then ?_
  refine run_seq ?_
  refine run_seq ?_
  obtain ⟨t826, h827, H⟩ := bind_some H
  refine run_region rfl ?_
  refine ops_ex rfl (guard_none rfl) rfl rfl (ex_move rfl rfl) ?_
  refine ops_ex rfl (guard_none rfl) rfl rfl (ex_nilCheck rfl rfl) ?_
  refine ops_ex rfl (guard_none rfl) rfl rfl (ex_fieldAddr (off' := f0) rfl rfl Try.underlying121 rfl tsz2 rfl) ?_
  refine ops_ex rfl (guard_none rfl) rfl rfl (ex_load1 rfl rfl Try.underlying2 rfl ((HM.at_ hc0) 0 _ rfl)) ?_
  refine ops_does rfl (guard_none rfl) rfl rfl (does_callk rfl callok88 rfl (spec_l1In.calls (x0 := x0.fValue) (x1 := 1) (x2 := 1000000) h827)) ?_
  rintro _ w828 ⟨rfl, hn⟩
  replace HM : Mem w [] w828 [] := HM.call hn
  refine ops_ex rfl (guard_none rfl) rfl rfl (ex_not rfl rfl) ?_
  refine ops_nil ?_
  refine at_then ?_
  refine run_cond (b := !t826) rfl (fun hb829 => ?_) (fun hb829 => ?_)
  · replace H := cond_t hb829 H
    refine run_seq ?_
    refine run_region rfl ?_
    refine ops_ex rfl (guard_none rfl) rfl rfl (ex_assign rfl rfl) ?_
    refine ops_nil ?_
    refine at_then ?_
    refine run_ret ?_
    refine at_then_ret ?_
    have hR := Option.some.inj H
    subst hR
    exact at_ret1 rfl rfl ⟨_, rfl, rfl, HM⟩
  · replace H := cond_f hb829 H
    refine run_skip ?_
    refine at_then ?_
    refine run_seq ?_
    obtain ⟨t830, h831, H⟩ := bind_some H
    refine run_region rfl ?_
    refine ops_ex rfl (guard_none rfl) rfl rfl (ex_move rfl rfl) ?_
    refine ops_ex rfl (guard_none rfl) rfl rfl (ex_nilCheck rfl rfl) ?_
    refine ops_ex rfl (guard_none rfl) rfl rfl (ex_fieldAddr (off' := f0 + 1) rfl rfl Try.underlying121 rfl tsz119 rfl) ?_
    refine ops_does rfl (guard_none rfl) rfl rfl (does_callk rfl callok152 rfl (spec_l2Fault.calls (x0 := x0.fRule) (CellsAt.sub (HM.at_ hc0) 1 3 rfl) (HM.rd hp0_0) h831)) ?_
    rintro _ w832 ⟨rfl, hn⟩
    replace HM : Mem w [] w832 [] := HM.call hn
    refine ops_ex rfl (guard_none rfl) rfl rfl (ex_assign rfl rfl) ?_
    refine ops_nil ?_
    refine at_then ?_
    refine run_ret ?_
    have hR := Option.some.inj H
    subst hR
    exact at_ret1 rfl rfl ⟨_, rfl, rfl, HM⟩

def spec_l4Ahead.f (k : Nat) (x0 : Ref) (x1 : Ref) : Option Bool := (bif (x0.fTx != x1.fTx) then some (decide (x0.fTx < x1.fTx)) else some (decide (x0.fAt < x1.fAt)))
theorem spec_l4Ahead.calls {k : Nat} {x0 : Ref} {x1 : Ref}  {w : World}  {r : Bool} (H : spec_l4Ahead.f k x0 x1 = some r) :
    Calls Try.prog 122 ([.agg #[(.int .i64 x0.fTx), (.int .i64 x0.fAt)], .agg #[(.int .i64 x1.fTx), (.int .i64 x1.fAt)]] : List Value).toArray w (fun e w_ => ∃ v, e = .returned v ∧ v = (.bool r) ∧ Mem w [] w_ []) := by
  have HM := Mem.start w
  refine calls_run (N := 20) Try.func122 rfl rfl rfl rfl ?_
  unfold spec_l4Ahead.f at H
  refine run_seq ?_
  refine run_region rfl ?_
  refine ops_does rfl (guard_none rfl) rfl rfl (does_box (cs := [.int .i64 x0.fTx, .int .i64 x0.fAt]) rfl rfl rfl HM) ?_
  rintro _ w865 ⟨b859, rfl, HM⟩
  refine ops_does rfl (guard_none rfl) rfl rfl (does_box (cs := [.int .i64 x1.fTx, .int .i64 x1.fAt]) rfl rfl rfl HM) ?_
  rintro _ w866 ⟨b862, rfl, HM⟩
  refine ops_ex rfl (guard_none rfl) rfl rfl (ex_assign rfl rfl) ?_
  refine ops_nil ?_
  refine at_then ?_
  refine run_seq ?_
  refine run_seq ?_
  refine run_region rfl ?_
  refine ops_ex rfl (guard_none rfl) rfl rfl (ex_fieldAddr (off' := 0) rfl rfl Try.underlying54 rfl tsz2 rfl) ?_
  refine ops_ex rfl (guard_none rfl) rfl rfl (ex_load1 rfl rfl Try.underlying2 rfl ((HM.box_at 1 rfl) 0 _ rfl)) ?_
  refine ops_ex rfl (guard_none rfl) rfl rfl (ex_fieldAddr (off' := 0) rfl rfl Try.underlying54 rfl tsz2 rfl) ?_
  refine ops_ex rfl (guard_none rfl) rfl rfl (ex_load1 rfl rfl Try.underlying2 rfl ((HM.box_at 0 rfl) 0 _ rfl)) ?_
  refine ops_ex rfl (guard_none rfl) rfl rfl (ex_neq rfl rfl rfl) ?_
  refine ops_nil ?_
  refine at_then ?_
  refine run_cond (b := (x0.fTx != x1.fTx)) rfl (fun hb868 => ?_) (fun hb868 => ?_)
  · replace H := cond_t hb868 H
    refine run_seq ?_
    refine run_region rfl ?_
    refine ops_ex rfl (guard_none rfl) rfl rfl (ex_fieldAddr (off' := 0) rfl rfl Try.underlying54 rfl tsz2 rfl) ?_
    refine ops_ex rfl (guard_none rfl) rfl rfl (ex_load1 rfl rfl Try.underlying2 rfl ((HM.box_at 1 rfl) 0 _ rfl)) ?_
    refine ops_ex rfl (guard_none rfl) rfl rfl (ex_fieldAddr (off' := 0) rfl rfl Try.underlying54 rfl tsz2 rfl) ?_
    refine ops_ex rfl (guard_none rfl) rfl rfl (ex_load1 rfl rfl Try.underlying2 rfl ((HM.box_at 0 rfl) 0 _ rfl)) ?_
    refine ops_ex rfl (guard_none rfl) rfl rfl (ex_lss rfl rfl rfl) ?_
    refine ops_ex rfl (guard_none rfl) rfl rfl (ex_assign rfl rfl) ?_
    refine ops_nil ?_
    refine at_then ?_
    refine run_ret ?_
    refine at_then_ret ?_
    replace HM := (HM.front 0 rfl rfl).drop
    replace HM := (HM.front 0 rfl rfl).drop
    have hR := Option.some.inj H
    subst hR
    exact at_ret1 rfl rfl ⟨_, rfl, rfl, HM⟩
  · replace H := cond_f hb868 H
    refine run_skip ?_
    refine at_then ?_
    refine run_seq ?_
    refine run_region rfl ?_
    refine ops_ex rfl (guard_none rfl) rfl rfl (ex_fieldAddr (off' := 1) rfl rfl Try.underlying54 rfl tsz2 rfl) ?_
    refine ops_ex rfl (guard_none rfl) rfl rfl (ex_load1 rfl rfl Try.underlying2 rfl ((HM.box_at 1 rfl) 1 _ rfl)) ?_
    refine ops_ex rfl (guard_none rfl) rfl rfl (ex_fieldAddr (off' := 1) rfl rfl Try.underlying54 rfl tsz2 rfl) ?_
    refine ops_ex rfl (guard_none rfl) rfl rfl (ex_load1 rfl rfl Try.underlying2 rfl ((HM.box_at 0 rfl) 1 _ rfl)) ?_
    refine ops_ex rfl (guard_none rfl) rfl rfl (ex_lss rfl rfl rfl) ?_
    refine ops_ex rfl (guard_none rfl) rfl rfl (ex_assign rfl rfl) ?_
    refine ops_nil ?_
    refine at_then ?_
    refine run_ret ?_
    replace HM := (HM.front 0 rfl rfl).drop
    replace HM := (HM.front 0 rfl rfl).drop
    have hR := Option.some.inj H
    subst hR
    exact at_ret1 rfl rfl ⟨_, rfl, rfl, HM⟩

def spec_l4Fault.l0 (x0 : List Coin) : Nat → Int → Option (Int ⊕ Unit)
  | 0, _ => none
  | k + 1, a1192 => (bif (decide (a1192 < (x0.length : Int))) then (chk (idxOk a1192 x0.length) ((spec_l3Ref.f k ((gt x0 a1192).fRef)).bind fun t1265 => (chk (!(!(!t1265)) || (idxOk a1192 x0.length)) ((bif (!(!t1265)) then spec_l2Height.f k ((gt x0 a1192).fHeight) else some default).bind fun t1271 => (bif ((!t1265) || (!t1271)) then some (.inl 3) else (chk (idxOk a1192 x0.length) ((spec_l4Out.f k ((gt x0 a1192).fOut)).bind fun t1290 => (bif (t1290 != 0) then some (.inl t1290) else (chk (!(decide (0 < a1192)) || (idxOk (wrap64 (a1192 - 1)) x0.length)) (chk (!(decide (0 < a1192)) || (idxOk a1192 x0.length)) ((bif (decide (0 < a1192)) then spec_l4Ahead.f k ((gt x0 (wrap64 (a1192 - 1))).fRef) ((gt x0 a1192).fRef) else some default).bind fun t1302 => (bif ((decide (0 < a1192)) && (!t1302)) then some (.inl 1) else spec_l4Fault.l0 x0 k (wrap64 (a1192 + 1)))))))))))))) else some (.inr ()))
theorem spec_l4Fault.l0_z (x0 : List Coin) (a1192 : Int) : spec_l4Fault.l0 x0 0 a1192 = none := rfl
theorem spec_l4Fault.l0_s (x0 : List Coin) (k : Nat) (a1192 : Int) : spec_l4Fault.l0 x0 (k + 1) a1192 = (bif (decide (a1192 < (x0.length : Int))) then (chk (idxOk a1192 x0.length) ((spec_l3Ref.f k ((gt x0 a1192).fRef)).bind fun t1265 => (chk (!(!(!t1265)) || (idxOk a1192 x0.length)) ((bif (!(!t1265)) then spec_l2Height.f k ((gt x0 a1192).fHeight) else some default).bind fun t1271 => (bif ((!t1265) || (!t1271)) then some (.inl 3) else (chk (idxOk a1192 x0.length) ((spec_l4Out.f k ((gt x0 a1192).fOut)).bind fun t1290 => (bif (t1290 != 0) then some (.inl t1290) else (chk (!(decide (0 < a1192)) || (idxOk (wrap64 (a1192 - 1)) x0.length)) (chk (!(decide (0 < a1192)) || (idxOk a1192 x0.length)) ((bif (decide (0 < a1192)) then spec_l4Ahead.f k ((gt x0 (wrap64 (a1192 - 1))).fRef) ((gt x0 a1192).fRef) else some default).bind fun t1302 => (bif ((decide (0 < a1192)) && (!t1302)) then some (.inl 1) else spec_l4Fault.l0 x0 k (wrap64 (a1192 + 1)))))))))))))) else some (.inr ())) := rfl
def spec_l4Fault.f (k : Nat) (x0 : List Coin) : Option Int := (bif (decide (40 < (x0.length : Int))) then some 2 else ((spec_l4Fault.l0 x0 k 0).bind fun o1138 => thn o1138 (fun r => some r) (fun _ => some 0)))
theorem spec_l4Fault.calls {k : Nat} {x0 : List Coin} {p0 : Value} {w : World} (hp0 : RdS kCoin w p0 x0) {r : Int} (H : spec_l4Fault.f k x0 = some r) :
    Calls Try.prog 73 ([p0] : List Value).toArray w (fun e w_ => ∃ v, e = .returned v ∧ v = (.int .i64 r) ∧ Mem w [] w_ []) := by
  have HM := Mem.start w
  refine calls_run (N := 55) Try.func73 rfl rfl rfl rfl ?_
  unfold spec_l4Fault.f at H
  refine run_seq ?_
  refine run_region rfl ?_
  refine ops_ex rfl (guard_none rfl) rfl rfl (ex_assign rfl rfl) ?_
  refine ops_nil ?_
  refine at_then ?_
  refine run_seq ?_
  refine run_seq ?_
  refine run_region rfl ?_
  refine ops_ex rfl (guard_none rfl) rfl rfl (ex_move rfl rfl) ?_
  refine ops_ex rfl (guard_none rfl) rfl rfl (ex_len (d := kCoin) (xs := x0) rfl rfl Try.underlying44 hp0) ?_
  refine ops_ex rfl (guard_none rfl) rfl rfl (ex_gtr rfl rfl rfl) ?_
  refine ops_nil ?_
  refine at_then ?_
  refine run_cond (b := (decide (40 < (x0.length : Int)))) rfl (fun hb980 => ?_) (fun hb980 => ?_)
  · replace H := cond_t hb980 H
    refine run_seq ?_
    refine run_region rfl ?_
    refine ops_ex rfl (guard_none rfl) rfl rfl (ex_assign rfl rfl) ?_
    refine ops_nil ?_
    refine at_then ?_
    refine run_ret ?_
    refine at_then_ret ?_
    have hR := Option.some.inj H
    subst hR
    exact at_ret1 rfl rfl ⟨_, rfl, rfl, HM⟩
  · replace H := cond_f hb980 H
    refine run_skip ?_
    refine at_then ?_
    obtain ⟨o1138, ho1139, H⟩ := bind_some H
    refine run_mid (fun ρ_ w_ => Sum.inr () = o1138 ∧ ρ_ = [] ∧ Mem w [] w_ []) ?_ ?_
    · skip
      refine run_seq ?_
      refine run_region rfl ?_
      refine ops_ex rfl (guard_none rfl) rfl rfl (ex_assign rfl rfl) ?_
      refine ops_nil ?_
      refine at_then ?_
      refine run_block ?_
      refine run_loop (fun k_ ρ_ w_ => ∃ a1192 : Int, spec_l4Fault.l0 x0 k_ a1192 = some o1138 ∧ ρ_ = [(0, p0), (3, .int .i64 a1192)] ∧ Mem w [] w_ []) k (ρ1 := [(0, p0), (3, .int .i64 0)]) ⟨_, ho1139, rfl, HM⟩ (Sub.cons rfl (Sub.cons rfl Sub.nil)) ?_
      clear HM ho1139
      rintro k1245 _ w1246 ⟨a1192, ho1139, rfl, HM⟩
      obtain _ | k1245 := k1245
      · exact nomatch ((spec_l4Fault.l0_z x0 a1192).symm.trans ho1139)
      replace ho1139 := (spec_l4Fault.l0_s x0 k1245 a1192).symm.trans ho1139
      refine run_seq ?_
      refine run_seq ?_
      refine run_region rfl ?_
      refine ops_ex rfl (guard_none rfl) rfl rfl (ex_move rfl rfl) ?_
      refine ops_ex rfl (guard_none rfl) rfl rfl (ex_move rfl rfl) ?_
      refine ops_ex rfl (guard_none rfl) rfl rfl (ex_len (d := kCoin) (xs := x0) rfl rfl Try.underlying44 hp0) ?_
      refine ops_ex rfl (guard_none rfl) rfl rfl (ex_lss rfl rfl rfl) ?_
      refine ops_nil ?_
      refine at_then ?_
      refine run_cond (b := (decide (a1192 < (x0.length : Int)))) rfl (fun hb1247 => ?_) (fun hb1247 => ?_)
      · replace ho1139 := cond_t hb1247 ho1139
        refine run_skip ?_
        refine at_then ?_
        refine run_seq ?_
        refine run_block ?_
        refine run_seq ?_
        refine run_seq ?_
        obtain ⟨e1261, ho1139⟩ := chk_some ho1139
        obtain ⟨t1265, h1266, ho1139⟩ := bind_some ho1139
        obtain ⟨e1267, ho1139⟩ := chk_some ho1139
        obtain ⟨t1271, h1272, ho1139⟩ := bind_some ho1139
        refine run_meet (fun ρ_ w_ => ρ_ = [(0, p0), (3, .int .i64 a1192), (29, .bool ((!t1265) || (!t1271)))] ∧ Mem w [] w_ []) ?_ ?_
        · skip
          refine run_region rfl ?_
          refine ops_ex rfl (guard_none rfl) rfl rfl (ex_move rfl rfl) ?_
          refine ops_ex rfl (guard_none rfl) rfl rfl (ex_move rfl rfl) ?_
          obtain ⟨kv1263, hc1262, hk1264⟩ : ∃ u, CellsAt _ (sb p0) (so p0 + (a1192).toNat * 8) [(.int .i64 ((gt x0 a1192).fRef.fTx)), (.int .i64 ((gt x0 a1192).fRef.fAt)), (.int .i64 ((gt x0 a1192).fOut.fValue)), u, (.int .i64 ((gt x0 a1192).fOut.fRule.fNeed)), (.int .i64 ((gt x0 a1192).fOut.fRule.fAfter)), (.int .i64 ((gt x0 a1192).fHeight)), (.bool ((gt x0 a1192).fMined))] ∧ RdS kInt _ u ((gt x0 a1192).fOut.fRule.fKeys) := rd_with1 hp0 e1261
          refine ops_ex rfl (guard_none rfl) rfl rfl (ex_indexAddr (d := kCoin) rfl rfl rfl Try.underlying44 tsz123 hp0 (idx_lo e1261) (idx_hi e1261)) ?_
          refine ops_ex rfl (guard_none rfl) rfl rfl (ex_fieldAddr (off' := so p0 + (a1192).toNat * 8) rfl rfl Try.underlying123 rfl tsz54 rfl) ?_
          refine ops_ex rfl (guard_none rfl) rfl rfl (ex_loadN (cs := [(.int .i64 ((gt x0 a1192).fRef.fTx)), (.int .i64 ((gt x0 a1192).fRef.fAt))]) rfl rfl Try.underlying54 rfl tsz54 rfl ((HM.at_ hc1262).sub 0 2 rfl)) ?_
          refine ops_does rfl (guard_none rfl) rfl rfl (does_callk rfl callok121 rfl (spec_l3Ref.calls (x0 := (gt x0 a1192).fRef) h1266)) ?_
          rintro _ w1273 ⟨rfl, hn⟩
          replace HM : Mem w [] w1273 [] := HM.call hn
          refine ops_ex rfl (guard_none rfl) rfl rfl (ex_not rfl rfl) ?_
          refine ops_ex rfl (guard_none rfl) rfl rfl (ex_move rfl rfl) ?_
          refine bool_cases (!t1265) (fun hg1274 => ?_) (fun hg1274 => ?_)
          · skip
            refine ops_off rfl (guard_off rfl rfl rfl hg1274) rfl rfl ?_
            refine ops_off rfl (guard_off rfl rfl rfl hg1274) rfl rfl ?_
            refine ops_off rfl (guard_off rfl rfl rfl hg1274) rfl rfl ?_
            refine ops_off rfl (guard_off rfl rfl rfl hg1274) rfl rfl ?_
            refine ops_off rfl (guard_off rfl rfl rfl hg1274) rfl rfl ?_
            refine ops_off rfl (guard_off rfl rfl rfl hg1274) rfl rfl ?_
            refine ops_off rfl (guard_off rfl rfl rfl hg1274) rfl rfl ?_
            have hg1275 : ((!t1265) || (!t1271)) = true := by simp only [hg1274, Bool.and_true, Bool.true_and, Bool.and_false, Bool.false_and, Bool.or_true, Bool.true_or, Bool.or_false, Bool.false_or, Bool.not_true, Bool.not_false, Bool.not_not]
            refine ops_ex (v := .bool ((!t1265) || (!t1271))) rfl (guard_none rfl) rfl rfl (ex_por_t rfl rfl hg1274) ?_
            refine ops_nil ?_
            exact at_meet [(0, p0), (3, .int .i64 a1192), (29, .bool ((!t1265) || (!t1271)))] ⟨rfl, HM⟩ (Sub.cons rfl (Sub.cons rfl (Sub.cons rfl Sub.nil)))
          · skip
            refine ops_ex rfl (guard_on rfl rfl rfl hg1274) rfl rfl (ex_move rfl rfl) ?_
            refine ops_ex rfl (guard_on rfl rfl rfl hg1274) rfl rfl (ex_move rfl rfl) ?_
            obtain ⟨kv1269, hc1268, hk1270⟩ : ∃ u, CellsAt _ (sb p0) (so p0 + (a1192).toNat * 8) [(.int .i64 ((gt x0 a1192).fRef.fTx)), (.int .i64 ((gt x0 a1192).fRef.fAt)), (.int .i64 ((gt x0 a1192).fOut.fValue)), u, (.int .i64 ((gt x0 a1192).fOut.fRule.fNeed)), (.int .i64 ((gt x0 a1192).fOut.fRule.fAfter)), (.int .i64 ((gt x0 a1192).fHeight)), (.bool ((gt x0 a1192).fMined))] ∧ RdS kInt _ u ((gt x0 a1192).fOut.fRule.fKeys) := rd_with1 hp0 (or_t e1267 (not_mk hg1274))
            refine ops_ex rfl (guard_on rfl rfl rfl hg1274) rfl rfl (ex_indexAddr (d := kCoin) rfl rfl rfl Try.underlying44 tsz123 hp0 (idx_lo (or_t e1267 (not_mk hg1274))) (idx_hi (or_t e1267 (not_mk hg1274)))) ?_
            refine ops_ex rfl (guard_on rfl rfl rfl hg1274) rfl rfl (ex_fieldAddr (off' := so p0 + (a1192).toNat * 8 + 6) rfl rfl Try.underlying123 rfl tsz2 rfl) ?_
            refine ops_ex rfl (guard_on rfl rfl rfl hg1274) rfl rfl (ex_load1 rfl rfl Try.underlying2 rfl ((HM.at_ hc1268) 6 _ rfl)) ?_
            refine ops_does rfl (guard_on rfl rfl rfl hg1274) rfl rfl (does_callk rfl callok100 rfl (spec_l2Height.calls (x0 := (gt x0 a1192).fHeight) (cond_t (not_mk hg1274) h1272))) ?_
            rintro _ w1276 ⟨rfl, hn⟩
            replace HM : Mem w [] w1276 [] := HM.call hn
            refine ops_ex rfl (guard_on rfl rfl rfl hg1274) rfl rfl (ex_not rfl rfl) ?_
            refine ops_ex (v := .bool ((!t1265) || (!t1271))) rfl (guard_none rfl) rfl rfl (ex_por_f rfl rfl hg1274 rfl) ?_
            refine ops_nil ?_
            exact at_meet [(0, p0), (3, .int .i64 a1192), (29, .bool ((!t1265) || (!t1271)))] ⟨rfl, HM⟩ (Sub.cons rfl (Sub.cons rfl (Sub.cons rfl Sub.nil)))
        · rintro _ w1277 ⟨rfl, HM⟩
          refine at_then ?_
          refine run_cond (b := ((!t1265) || (!t1271))) rfl (fun hb1278 => ?_) (fun hb1278 => ?_)
          · replace ho1139 := cond_t hb1278 ho1139
            refine run_seq ?_
            refine run_region rfl ?_
            refine ops_ex rfl (guard_none rfl) rfl rfl (ex_assign rfl rfl) ?_
            refine ops_nil ?_
            refine at_then ?_
            refine run_ret ?_
            refine at_then_ret ?_
            refine at_block_ret ?_
            refine at_then_ret ?_
            refine at_then_ret ?_
            refine at_block_ret ?_
            refine at_then_ret ?_
            have hR := Option.some.inj ho1139
            subst hR
            have hT := thn_inl H
            have hR := Option.some.inj hT
            subst hR
            exact at_ret1 rfl rfl ⟨_, rfl, rfl, HM⟩
          · replace ho1139 := cond_f hb1278 ho1139
            refine run_skip ?_
            refine at_then ?_
            refine run_seq ?_
            refine run_seq ?_
            obtain ⟨e1286, ho1139⟩ := chk_some ho1139
            obtain ⟨t1290, h1291, ho1139⟩ := bind_some ho1139
            refine run_region rfl ?_
            refine ops_ex rfl (guard_none rfl) rfl rfl (ex_move rfl rfl) ?_
            refine ops_ex rfl (guard_none rfl) rfl rfl (ex_move rfl rfl) ?_
            obtain ⟨kv1288, hc1287, hk1289⟩ : ∃ u, CellsAt _ (sb p0) (so p0 + (a1192).toNat * 8) [(.int .i64 ((gt x0 a1192).fRef.fTx)), (.int .i64 ((gt x0 a1192).fRef.fAt)), (.int .i64 ((gt x0 a1192).fOut.fValue)), u, (.int .i64 ((gt x0 a1192).fOut.fRule.fNeed)), (.int .i64 ((gt x0 a1192).fOut.fRule.fAfter)), (.int .i64 ((gt x0 a1192).fHeight)), (.bool ((gt x0 a1192).fMined))] ∧ RdS kInt _ u ((gt x0 a1192).fOut.fRule.fKeys) := rd_with1 hp0 e1286
            refine ops_ex rfl (guard_none rfl) rfl rfl (ex_indexAddr (d := kCoin) rfl rfl rfl Try.underlying44 tsz123 hp0 (idx_lo e1286) (idx_hi e1286)) ?_
            refine ops_ex rfl (guard_none rfl) rfl rfl (ex_fieldAddr (off' := so p0 + (a1192).toNat * 8 + 2) rfl rfl Try.underlying123 rfl tsz121 rfl) ?_
            refine ops_does rfl (guard_none rfl) rfl rfl (does_callk rfl callok101 rfl (spec_l4Out.calls (x0 := (gt x0 a1192).fOut) (CellsAt.sub (HM.at_ hc1287) 2 4 rfl) (HM.rd hk1289) h1291)) ?_
            rintro _ w1292 ⟨rfl, hn⟩
            replace HM : Mem w [] w1292 [] := HM.call hn
            refine ops_ex rfl (guard_none rfl) rfl rfl (ex_assign rfl rfl) ?_
            refine ops_nil ?_
            refine at_then ?_
            refine run_seq ?_
            refine run_region rfl ?_
            refine ops_ex rfl (guard_none rfl) rfl rfl (ex_move rfl rfl) ?_
            refine ops_ex rfl (guard_none rfl) rfl rfl (ex_neq rfl rfl rfl) ?_
            refine ops_nil ?_
            refine at_then ?_
            refine run_cond (b := (t1290 != 0)) rfl (fun hb1293 => ?_) (fun hb1293 => ?_)
            · replace ho1139 := cond_t hb1293 ho1139
              refine run_seq ?_
              refine run_region rfl ?_
              refine ops_ex rfl (guard_none rfl) rfl rfl (ex_move rfl rfl) ?_
              refine ops_ex rfl (guard_none rfl) rfl rfl (ex_assign rfl rfl) ?_
              refine ops_nil ?_
              refine at_then ?_
              refine run_ret ?_
              refine at_then_ret ?_
              refine at_block_ret ?_
              refine at_then_ret ?_
              refine at_then_ret ?_
              refine at_block_ret ?_
              refine at_then_ret ?_
              have hR := Option.some.inj ho1139
              subst hR
              have hT := thn_inl H
              have hR := Option.some.inj hT
              subst hR
              exact at_ret1 rfl rfl ⟨_, rfl, rfl, HM⟩
            · replace ho1139 := cond_f hb1293 ho1139
              refine run_skip ?_
              refine at_then ?_
              refine run_seq ?_
              obtain ⟨e1294, ho1139⟩ := chk_some ho1139
              obtain ⟨e1298, ho1139⟩ := chk_some ho1139
              obtain ⟨t1302, h1303, ho1139⟩ := bind_some ho1139
              refine run_meet (fun ρ_ w_ => ρ_ = [(0, p0), (3, .int .i64 a1192), (54, .bool ((decide (0 < a1192)) && (!t1302)))] ∧ Mem w [] w_ []) ?_ ?_
              · skip
                refine run_drawf (fun w_ => Mem w [] w_ []) [(0, true), (1, true), (2, true), (3, true), (4, true), (5, true), (6, true), (7, true), (8, true), (9, true), (10, true), (11, true), (12, true), (13, true), (14, false), (15, true), (16, true)] mixed rfl rfl (by kernel_rfl) ?_
                replace HM := HM.grow (fr_drew _)
                have hS := Mem.suf (M := []) HM
                refine drwp_take rfl (guard_none rfl) rfl rfl (fun w_ hS_ => (ex_move rfl rfl)) hS ?_
                refine drwp_take rfl (guard_none rfl) rfl rfl (fun w_ hS_ => (ex_gtr rfl rfl rfl)) hS ?_
                refine drwp_take rfl (guard_none rfl) rfl rfl (fun w_ hS_ => (ex_move rfl rfl)) hS ?_
                refine bool_cases (decide (0 < a1192)) (fun hg1304 => ?_) (fun hg1304 => ?_)
                · skip
                  refine drwp_take rfl (guard_on rfl rfl rfl hg1304) rfl rfl (fun w_ hS_ => (ex_move rfl rfl)) hS ?_
                  refine drwp_take rfl (guard_on rfl rfl rfl hg1304) rfl rfl (fun w_ hS_ => (ex_move rfl rfl)) hS ?_
                  refine drwp_take rfl (guard_on rfl rfl rfl hg1304) rfl rfl (fun w_ hS_ => (ex_sub rfl rfl rfl)) hS ?_
                  obtain ⟨kv1296, hc1295, hk1297⟩ : ∃ u, CellsAt _ (sb p0) (so p0 + (wrap64 (a1192 - 1)).toNat * 8) [(.int .i64 ((gt x0 (wrap64 (a1192 - 1))).fRef.fTx)), (.int .i64 ((gt x0 (wrap64 (a1192 - 1))).fRef.fAt)), (.int .i64 ((gt x0 (wrap64 (a1192 - 1))).fOut.fValue)), u, (.int .i64 ((gt x0 (wrap64 (a1192 - 1))).fOut.fRule.fNeed)), (.int .i64 ((gt x0 (wrap64 (a1192 - 1))).fOut.fRule.fAfter)), (.int .i64 ((gt x0 (wrap64 (a1192 - 1))).fHeight)), (.bool ((gt x0 (wrap64 (a1192 - 1))).fMined))] ∧ RdS kInt _ u ((gt x0 (wrap64 (a1192 - 1))).fOut.fRule.fKeys) := rd_with1 hp0 (or_t e1294 hg1304)
                  refine drwp_take rfl (guard_on rfl rfl rfl hg1304) rfl rfl (fun w_ hS_ => (ex_indexAddr (d := kCoin) rfl rfl rfl Try.underlying44 tsz123 hp0 (idx_lo (or_t e1294 hg1304)) (idx_hi (or_t e1294 hg1304)))) hS ?_
                  refine drwp_take rfl (guard_on rfl rfl rfl hg1304) rfl rfl (fun w_ hS_ => (ex_fieldAddr (off' := so p0 + (wrap64 (a1192 - 1)).toNat * 8) rfl rfl Try.underlying123 rfl tsz54 rfl)) hS ?_
                  refine drwp_take rfl (guard_on rfl rfl rfl hg1304) rfl rfl (fun w_ hS_ => (ex_loadN (cs := [(.int .i64 ((gt x0 (wrap64 (a1192 - 1))).fRef.fTx)), (.int .i64 ((gt x0 (wrap64 (a1192 - 1))).fRef.fAt))]) rfl rfl Try.underlying54 rfl tsz54 rfl ((hS_.at_ hc1295).sub 0 2 rfl))) hS ?_
                  refine drwp_take rfl (guard_on rfl rfl rfl hg1304) rfl rfl (fun w_ hS_ => (ex_move rfl rfl)) hS ?_
                  refine drwp_take rfl (guard_on rfl rfl rfl hg1304) rfl rfl (fun w_ hS_ => (ex_move rfl rfl)) hS ?_
                  obtain ⟨kv1300, hc1299, hk1301⟩ : ∃ u, CellsAt _ (sb p0) (so p0 + (a1192).toNat * 8) [(.int .i64 ((gt x0 a1192).fRef.fTx)), (.int .i64 ((gt x0 a1192).fRef.fAt)), (.int .i64 ((gt x0 a1192).fOut.fValue)), u, (.int .i64 ((gt x0 a1192).fOut.fRule.fNeed)), (.int .i64 ((gt x0 a1192).fOut.fRule.fAfter)), (.int .i64 ((gt x0 a1192).fHeight)), (.bool ((gt x0 a1192).fMined))] ∧ RdS kInt _ u ((gt x0 a1192).fOut.fRule.fKeys) := rd_with1 hp0 (or_t e1298 hg1304)
                  refine drwp_take rfl (guard_on rfl rfl rfl hg1304) rfl rfl (fun w_ hS_ => (ex_indexAddr (d := kCoin) rfl rfl rfl Try.underlying44 tsz123 hp0 (idx_lo (or_t e1298 hg1304)) (idx_hi (or_t e1298 hg1304)))) hS ?_
                  refine drwp_take rfl (guard_on rfl rfl rfl hg1304) rfl rfl (fun w_ hS_ => (ex_fieldAddr (off' := so p0 + (a1192).toNat * 8) rfl rfl Try.underlying123 rfl tsz54 rfl)) hS ?_
                  refine drwp_take rfl (guard_on rfl rfl rfl hg1304) rfl rfl (fun w_ hS_ => (ex_loadN (cs := [(.int .i64 ((gt x0 a1192).fRef.fTx)), (.int .i64 ((gt x0 a1192).fRef.fAt))]) rfl rfl Try.underlying54 rfl tsz54 rfl ((hS_.at_ hc1299).sub 0 2 rfl))) hS ?_
                  refine drwp_one rfl (guard_on rfl rfl rfl hg1304) rfl rfl (does_callk rfl callok122 rfl (spec_l4Ahead.calls (x0 := (gt x0 (wrap64 (a1192 - 1))).fRef) (x1 := (gt x0 a1192).fRef) (cond_t hg1304 h1303))) ?_
                  rintro _ w1305 ⟨rfl, hn⟩
                  replace HM : Mem w [] w1305 [] := HM.call hn
                  refine ⟨Mem.suf (M := []) HM, ?_⟩
                  have hS := Mem.suf (M := []) HM
                  refine drwp_take rfl (guard_on rfl rfl rfl hg1304) rfl rfl (fun w_ hS_ => (ex_not rfl rfl)) hS ?_
                  refine drwp_take (v := .bool ((decide (0 < a1192)) && (!t1302))) rfl (guard_none rfl) rfl rfl (fun w_ hS_ => (ex_pand_t rfl rfl hg1304 rfl)) hS ?_
                  refine drwp_done ?_
                  exact at_meet [(0, p0), (3, .int .i64 a1192), (54, .bool ((decide (0 < a1192)) && (!t1302)))] ⟨rfl, HM⟩ (Sub.cons rfl (Sub.cons rfl (Sub.cons rfl Sub.nil)))
                · skip
                  refine drwp_off rfl (guard_off rfl rfl rfl hg1304) rfl rfl hS ?_
                  refine drwp_off rfl (guard_off rfl rfl rfl hg1304) rfl rfl hS ?_
                  refine drwp_off rfl (guard_off rfl rfl rfl hg1304) rfl rfl hS ?_
                  refine drwp_off rfl (guard_off rfl rfl rfl hg1304) rfl rfl hS ?_
                  refine drwp_off rfl (guard_off rfl rfl rfl hg1304) rfl rfl hS ?_
                  refine drwp_off rfl (guard_off rfl rfl rfl hg1304) rfl rfl hS ?_
                  refine drwp_off rfl (guard_off rfl rfl rfl hg1304) rfl rfl hS ?_
                  refine drwp_off rfl (guard_off rfl rfl rfl hg1304) rfl rfl hS ?_
                  refine drwp_off rfl (guard_off rfl rfl rfl hg1304) rfl rfl hS ?_
                  refine drwp_off rfl (guard_off rfl rfl rfl hg1304) rfl rfl hS ?_
                  refine drwp_off rfl (guard_off rfl rfl rfl hg1304) rfl rfl hS ?_
                  refine drwp_off1 rfl (guard_off rfl rfl rfl hg1304) rfl rfl ⟨hS, ?_⟩
                  refine drwp_off rfl (guard_off rfl rfl rfl hg1304) rfl rfl hS ?_
                  have hg1306 : ((decide (0 < a1192)) && (!t1302)) = false := by simp only [hg1304, Bool.and_true, Bool.true_and, Bool.and_false, Bool.false_and, Bool.or_true, Bool.true_or, Bool.or_false, Bool.false_or, Bool.not_true, Bool.not_false, Bool.not_not]
                  refine drwp_take (v := .bool ((decide (0 < a1192)) && (!t1302))) rfl (guard_none rfl) rfl rfl (fun w_ hS_ => (ex_pand_f rfl rfl hg1304)) hS ?_
                  refine drwp_done ?_
                  exact at_meet [(0, p0), (3, .int .i64 a1192), (54, .bool ((decide (0 < a1192)) && (!t1302)))] ⟨rfl, HM⟩ (Sub.cons rfl (Sub.cons rfl (Sub.cons rfl Sub.nil)))
              · rintro _ w1307 ⟨rfl, HM⟩
                refine at_then ?_
                refine run_cond (b := ((decide (0 < a1192)) && (!t1302))) rfl (fun hb1308 => ?_) (fun hb1308 => ?_)
                · replace ho1139 := cond_t hb1308 ho1139
                  refine run_seq ?_
                  refine run_region rfl ?_
                  refine ops_ex rfl (guard_none rfl) rfl rfl (ex_assign rfl rfl) ?_
                  refine ops_nil ?_
                  refine at_then ?_
                  refine run_ret ?_
                  refine at_block_ret ?_
                  refine at_then_ret ?_
                  refine at_then_ret ?_
                  refine at_block_ret ?_
                  refine at_then_ret ?_
                  have hR := Option.some.inj ho1139
                  subst hR
                  have hT := thn_inl H
                  have hR := Option.some.inj hT
                  subst hR
                  exact at_ret1 rfl rfl ⟨_, rfl, rfl, HM⟩
                · replace ho1139 := cond_f hb1308 ho1139
                  refine run_skip ?_
                  refine at_block ?_
                  refine at_then ?_
                  refine run_region rfl ?_
                  refine ops_ex rfl (guard_none rfl) rfl rfl (ex_move rfl rfl) ?_
                  refine ops_ex rfl (guard_none rfl) rfl rfl (ex_add rfl rfl rfl) ?_
                  refine ops_ex rfl (guard_none rfl) rfl rfl (ex_assign rfl rfl) ?_
                  refine ops_nil ?_
                  exact at_again k1245 (ρ1 := [(0, p0), (3, .int .i64 (wrap64 (a1192 + 1)))]) (Nat.lt_succ_self _) ⟨_, ho1139, rfl, HM⟩ (Sub.cons rfl (Sub.cons rfl Sub.nil))
      · replace ho1139 := cond_f hb1247 ho1139
        refine run_exit ?_
        refine at_then_exit ?_
        refine at_then_exit ?_
        refine at_block_exit ?_
        exact at_mid (ρ' := []) ⟨(Option.some.inj ho1139), rfl, HM⟩ Sub.nil
    · rintro _ w1309 ⟨rfl, rfl, HM⟩
      replace H := (thn_inr H)
      refine run_seq ?_
      refine run_region rfl ?_
      refine ops_ex rfl (guard_none rfl) rfl rfl (ex_assign rfl rfl) ?_
      refine ops_nil ?_
      refine at_then ?_
      refine run_ret ?_
      have hR := Option.some.inj H
      subst hR
      exact at_ret1 rfl rfl ⟨_, rfl, rfl, HM⟩

def spec_l2Copy.f (k : Nat) (x0 : Rule) : Option Rule := (chk (leB ((([] : List Int).length + x0.fKeys.length) * 8) 140737488355328) (some (⟨([] : List Int) ++ x0.fKeys, x0.fNeed, x0.fAfter⟩ : Rule)))
theorem spec_l2Copy.calls {k : Nat} {x0 : Rule} {p0_0 : Value} {w : World} (hp0_0 : RdS kInt w p0_0 x0.fKeys) {r : Rule} (H : spec_l2Copy.f k x0 = some r) :
    Calls Try.prog 128 ([.agg #[p0_0, (.int .i64 x0.fNeed), (.int .i64 x0.fAfter)]] : List Value).toArray w (fun e w_ => ∃ v, e = .returned v ∧ ∃ u0 : Value, v = (.agg #[u0, .int .i64 r.fNeed, .int .i64 r.fAfter]) ∧ Mem w [] w_ [own kInt 2 u0 r.fKeys]) := by
  have HM := Mem.start w
  refine calls_run (N := 9) Try.func128 rfl rfl rfl rfl ?_
  unfold spec_l2Copy.f at H
  refine run_seq ?_
  refine run_region rfl ?_
  refine ops_does rfl (guard_none rfl) rfl rfl (does_box (cs := [p0_0, .int .i64 x0.fNeed, .int .i64 x0.fAfter]) rfl rfl rfl HM) ?_
  rintro _ w1347 ⟨b1341, rfl, HM⟩
  refine ops_does rfl (guard_none rfl) rfl rfl (does_alloc (cs := [.slice none 0 0, .int .i64 0, .int .i64 0]) rfl tz119 rfl HM) ?_
  rintro _ w1348 ⟨b1344, rfl, HM⟩
  refine ops_nil ?_
  refine at_then ?_
  refine run_seq ?_
  obtain ⟨e1352, H⟩ := chk_some H
  refine run_region rfl ?_
  refine ops_does rfl (guard_none rfl) rfl rfl (does_lit (e := 2) (cs := []) (xs := ([] : List Int)) kInt rfl rfl (fun _ => by kernel_rfl) rfl rfl (fun _ _ h => by have h' : _ = [] := h; subst h'; exact .nil) HM.emp) ?_
  rintro v1349 w1355 HM
  refine ops_ex rfl (guard_none rfl) rfl rfl (ex_fieldAddr (off' := 0) rfl rfl Try.underlying119 rfl tsz111 rfl) ?_
  refine ops_ex rfl (guard_none rfl) rfl rfl (ex_load1 rfl rfl Try.underlying111 rfl ((HM.box_at 2 rfl) 0 _ rfl)) ?_
  refine ops_does rfl (guard_none rfl) rfl rfl (does_appendR kInt flat_plain rfl rfl rfl Try.underlying111 tsz2 rfl tby2 tz2 rfl rfl (leB_le e1352) (HM.rd hp0_0) HM) ?_
  rintro v1353 w1356 HM
  refine ops_ex rfl (guard_none rfl) rfl rfl (ex_fieldAddr (off' := 0) rfl rfl Try.underlying119 rfl tsz111 rfl) ?_
  replace HM := HM.front 2 rfl rfl
  refine ops_doesS rfl (guard_none rfl) rfl (does_store (vs := [v1353]) (cs' := [v1353, .int .i64 x0.fNeed, .int .i64 x0.fAfter]) rfl rfl rfl (rd_cells (HM.own_rd 1 rfl)) tsz111 (Ones.rd (HM.own_rd 1 rfl) Ones.nil) rfl rfl HM) ?_
  rintro w1357 HM
  refine ops_nil ?_
  refine at_then ?_
  refine run_seq ?_
  refine run_region rfl ?_
  refine ops_ex rfl (guard_none rfl) rfl rfl (ex_loadN (cs := [v1353, (.int .i64 x0.fNeed), (.int .i64 x0.fAfter)]) rfl rfl Try.underlying119 rfl tsz119 rfl ((HM.box_at 0 rfl).sub 0 3 rfl)) ?_
  replace HM := HM.front 2 rfl rfl
  refine ops_doesS rfl (guard_none rfl) rfl (does_store (vs := [v1353, .int .i64 x0.fNeed, .int .i64 x0.fAfter]) (cs' := [v1353, .int .i64 x0.fNeed, .int .i64 x0.fAfter]) rfl rfl rfl rfl tsz119 (Ones.rd (HM.own_rd 2 rfl) (Ones.int (Ones.int Ones.nil))) rfl rfl HM) ?_
  rintro w1358 HM
  refine ops_nil ?_
  refine at_then ?_
  refine run_ret ?_
  replace HM := (HM.front 1 rfl rfl).drop
  have hcb0 := HM.box_at 0 rfl
  replace HM := (HM.front 0 rfl rfl).drop
  have hR := Option.some.inj H
  subst hR
  exact at_retN rfl rfl Try.underlying119 rfl tsz119 rfl hcb0 ⟨_, rfl, _, rfl, HM⟩
end Go.Proofs.Ytigojhglkilodaa.Zk
