/- What functions of the program compute, each as a plain function, and that they do. Conditions: as each theorem states them. -/
import Derived.Test.YtoiacoiccpiciaaCoinsFaultZkF0
namespace Go.Proofs.Ytoiacoiccpiciaa.Zk
open Go Go.RowKit Go.IntWalk Go.Proofs
set_option linter.unusedVariables false
set_option linter.unusedSimpArgs false
set_option maxRecDepth 100000
set_option maxHeartbeats 4000000
def spec_l2Height.f (k : Nat) (x0 : Int) : Option Bool := ((spec_l1In.f k x0 0 999).bind fun t515 => some t515)
theorem spec_l2Height.calls {k : Nat} {x0 : Int}  {w : World}  {r : Bool} (H : spec_l2Height.f k x0 = some r) :
    Calls Try.prog 128 ([.int .i64 x0] : List Value).toArray w (fun e w_ => ∃ v, e = .returned v ∧ v = (.bool r) ∧ Mem w [] w_ []) := by
  have HM := Mem.start w
  refine calls_run (N := 5) Try.func128 rfl rfl rfl rfl ?_
  unfold spec_l2Height.f at H
  refine run_seq ?_
  refine run_region rfl ?_
  refine ops_ex rfl (guard_none rfl) rfl rfl (ex_assign rfl rfl) ?_
  refine ops_nil ?_
  refine at_then ?_
  refine run_seq ?_
  obtain ⟨t515, h516, H⟩ := bind_some H
  refine run_region rfl ?_
  refine ops_ex rfl (guard_none rfl) rfl rfl (ex_move rfl rfl) ?_
  refine ops_does rfl (guard_none rfl) rfl rfl (does_callk rfl callok136 rfl (spec_l1In.calls (x0 := x0) (x1 := 0) (x2 := 999) h516)) ?_
  rintro _ w517 ⟨rfl, hn⟩
  replace HM : Mem w [] w517 [] := HM.call hn
  refine ops_ex rfl (guard_none rfl) rfl rfl (ex_assign rfl rfl) ?_
  refine ops_nil ?_
  refine at_then ?_
  refine run_ret ?_
  have hR := Option.some.inj H
  subst hR
  exact at_ret1 rfl rfl ⟨_, rfl, rfl, HM⟩

def spec_l1Key.f (k : Nat) (x0 : Int) : Option Bool := ((spec_l1In.f k x0 1 999).bind fun t555 => some t555)
theorem spec_l1Key.calls {k : Nat} {x0 : Int}  {w : World}  {r : Bool} (H : spec_l1Key.f k x0 = some r) :
    Calls Try.prog 137 ([.int .i64 x0] : List Value).toArray w (fun e w_ => ∃ v, e = .returned v ∧ v = (.bool r) ∧ Mem w [] w_ []) := by
  have HM := Mem.start w
  refine calls_run (N := 5) Try.func137 rfl rfl rfl rfl ?_
  unfold spec_l1Key.f at H
  refine run_seq ?_
  refine run_region rfl ?_
  refine ops_ex rfl (guard_none rfl) rfl rfl (ex_assign rfl rfl) ?_
  refine ops_nil ?_
  refine at_then ?_
  refine run_seq ?_
  obtain ⟨t555, h556, H⟩ := bind_some H
  refine run_region rfl ?_
  refine ops_ex rfl (guard_none rfl) rfl rfl (ex_move rfl rfl) ?_
  refine ops_does rfl (guard_none rfl) rfl rfl (does_callk rfl callok136 rfl (spec_l1In.calls (x0 := x0) (x1 := 1) (x2 := 999) h556)) ?_
  rintro _ w557 ⟨rfl, hn⟩
  replace HM : Mem w [] w557 [] := HM.call hn
  refine ops_ex rfl (guard_none rfl) rfl rfl (ex_assign rfl rfl) ?_
  refine ops_nil ?_
  refine at_then ?_
  refine run_ret ?_
  have hR := Option.some.inj H
  subst hR
  exact at_ret1 rfl rfl ⟨_, rfl, rfl, HM⟩

def spec_l2Fault.l0 (x0 : Rule) : Nat → Int → Option (Int ⊕ Unit)
  | 0, _ => none
  | k + 1, a641 => (bif (decide (a641 < (x0.fKeys.length : Int))) then (chk (idxOk a641 x0.fKeys.length) ((spec_l1Key.f k (gt x0.fKeys a641)).bind fun t653 => (bif !t653 then some (.inl 3) else spec_l2Fault.l0 x0 k (wrap64 (a641 + 1))))) else some (.inr ()))
theorem spec_l2Fault.l0_z (x0 : Rule) (a641 : Int) : spec_l2Fault.l0 x0 0 a641 = none := rfl
theorem spec_l2Fault.l0_s (x0 : Rule) (k : Nat) (a641 : Int) : spec_l2Fault.l0 x0 (k + 1) a641 = (bif (decide (a641 < (x0.fKeys.length : Int))) then (chk (idxOk a641 x0.fKeys.length) ((spec_l1Key.f k (gt x0.fKeys a641)).bind fun t653 => (bif !t653 then some (.inl 3) else spec_l2Fault.l0 x0 k (wrap64 (a641 + 1))))) else some (.inr ())) := rfl
def spec_l2Fault.l1 (x0 : Rule) : Nat → Int → Option (Int ⊕ Unit)
  | 0, _ => none
  | k + 1, a700 => (bif (decide (a700 < (x0.fKeys.length : Int))) then (chk (idxOk a700 x0.fKeys.length) (chk (idxOk (wrap64 (a700 - 1)) x0.fKeys.length) (bif (decide ((gt x0.fKeys a700) ≤ (gt x0.fKeys (wrap64 (a700 - 1))))) then some (.inl 1) else spec_l2Fault.l1 x0 k (wrap64 (a700 + 1))))) else some (.inr ()))
theorem spec_l2Fault.l1_z (x0 : Rule) (a700 : Int) : spec_l2Fault.l1 x0 0 a700 = none := rfl
theorem spec_l2Fault.l1_s (x0 : Rule) (k : Nat) (a700 : Int) : spec_l2Fault.l1 x0 (k + 1) a700 = (bif (decide (a700 < (x0.fKeys.length : Int))) then (chk (idxOk a700 x0.fKeys.length) (chk (idxOk (wrap64 (a700 - 1)) x0.fKeys.length) (bif (decide ((gt x0.fKeys a700) ≤ (gt x0.fKeys (wrap64 (a700 - 1))))) then some (.inl 1) else spec_l2Fault.l1 x0 k (wrap64 (a700 + 1))))) else some (.inr ())) := rfl
def spec_l2Fault.f (k : Nat) (x0 : Rule) : Option Int := ((spec_l1In.f k (x0.fKeys.length : Int) 1 3).bind fun t610 => (bif !t610 then some 2 else ((spec_l2Fault.l0 x0 k 0).bind fun o633 => thn o633 (fun r => some r) (fun _ => ((spec_l1In.f k x0.fNeed 1 (x0.fKeys.length : Int)).bind fun t663 => ((bif (!(!t663)) then spec_l2Height.f k x0.fAfter else some default).bind fun t665 => (bif ((!t663) || (!t665)) then some 3 else ((spec_l2Fault.l1 x0 k 1).bind fun o692 => thn o692 (fun r => some r) (fun _ => some 0)))))))))
theorem spec_l2Fault.calls {k : Nat} {x0 : Rule} {b0 f0 : Nat} {p0_0 : Value} {w : World} (hc0 : CellsAt w b0 f0 [p0_0, .int .i64 x0.fNeed, .int .i64 x0.fAfter]) (hp0_0 : RdS kInt w p0_0 x0.fKeys) {r : Int} (H : spec_l2Fault.f k x0 = some r) :
    Calls Try.prog 161 ([.pointer (some ⟨b0, f0, none⟩)] : List Value).toArray w (fun e w_ => ∃ v, e = .returned v ∧ v = (.int .i64 r) ∧ Mem w [] w_ []) := by
  have HM := Mem.start w
  refine calls_run (N := 72) Try.func161 rfl rfl rfl rfl ?_
  unfold spec_l2Fault.f at H
  refine run_seq ?_
  refine run_region rfl ?_
  refine ops_ex rfl (guard_none rfl) rfl rfl (ex_assign rfl rfl) ?_
  refine ops_nil ?_
  refine at_then ?_
  refine run_seq ?_
  refine run_region rfl ?_
  refine ops_ex rfl (guard_none rfl) rfl rfl (ex_move rfl rfl) ?_
  refine ops_ex rfl (guard_none rfl) rfl rfl (ex_nilCheck rfl rfl) ?_
  refine ops_ex rfl (guard_none rfl) rfl rfl (ex_fieldAddr (off' := f0) rfl rfl Try.underlying100 rfl tsz74 rfl) ?_
  refine ops_ex rfl (guard_none rfl) rfl rfl (ex_load1 rfl rfl Try.underlying74 rfl ((HM.at_ hc0) 0 _ rfl)) ?_
  refine ops_ex rfl (guard_none rfl) rfl rfl (ex_len (d := kInt) (xs := x0.fKeys) rfl rfl Try.underlying74 hp0_0) ?_
  refine ops_ex rfl (guard_none rfl) rfl rfl (ex_assign rfl rfl) ?_
  refine ops_nil ?_
  refine at_then ?_
  refine run_seq ?_
  refine run_seq ?_
  obtain ⟨t610, h611, H⟩ := bind_some H
  refine run_region rfl ?_
  refine ops_ex rfl (guard_none rfl) rfl rfl (ex_move rfl rfl) ?_
  refine ops_does rfl (guard_none rfl) rfl rfl (does_callk rfl callok136 rfl (spec_l1In.calls (x0 := (x0.fKeys.length : Int)) (x1 := 1) (x2 := 3) h611)) ?_
  rintro _ w612 ⟨rfl, hn⟩
  replace HM : Mem w [] w612 [] := HM.call hn
  refine ops_ex rfl (guard_none rfl) rfl rfl (ex_not rfl rfl) ?_
  refine ops_nil ?_
  refine at_then ?_
  refine run_cond (b := !t610) rfl (fun hb613 => ?_) (fun hb613 => ?_)
  · replace H := cond_t hb613 H
    refine run_seq ?_
    refine run_region rfl ?_
    refine ops_ex rfl (guard_none rfl) rfl rfl (ex_assign rfl rfl) ?_
    refine ops_nil ?_
    refine at_then ?_
    refine run_ret ?_
    refine at_then_ret ?_
    have hR := Option.some.inj H
    subst hR
    exact at_ret1 rfl rfl ⟨_, rfl, rfl, HM⟩
  · replace H := cond_f hb613 H
    refine run_skip ?_
    refine at_then ?_
    obtain ⟨o633, ho634, H⟩ := bind_some H
    refine run_mid (fun ρ_ w_ => Sum.inr () = o633 ∧ ρ_ = [(0, .pointer (some ⟨b0, f0, none⟩)), (3, .int .i64 (x0.fKeys.length : Int))] ∧ Mem w [] w_ []) ?_ ?_
    · skip
      refine run_seq ?_
      refine run_region rfl ?_
      refine ops_ex rfl (guard_none rfl) rfl rfl (ex_assign rfl rfl) ?_
      refine ops_nil ?_
      refine at_then ?_
      refine run_block ?_
      refine run_loop (fun k_ ρ_ w_ => ∃ a641 : Int, spec_l2Fault.l0 x0 k_ a641 = some o633 ∧ ρ_ = [(0, .pointer (some ⟨b0, f0, none⟩)), (3, .int .i64 (x0.fKeys.length : Int)), (4, .int .i64 a641)] ∧ Mem w [] w_ []) k (ρ1 := [(0, .pointer (some ⟨b0, f0, none⟩)), (3, .int .i64 (x0.fKeys.length : Int)), (4, .int .i64 0)]) ⟨_, ho634, rfl, HM⟩ (Sub.cons rfl (Sub.cons rfl (Sub.cons rfl Sub.nil))) ?_
      clear HM ho634
      rintro k648 _ w649 ⟨a641, ho634, rfl, HM⟩
      obtain _ | k648 := k648
      · exact nomatch ((spec_l2Fault.l0_z x0 a641).symm.trans ho634)
      replace ho634 := (spec_l2Fault.l0_s x0 k648 a641).symm.trans ho634
      refine run_seq ?_
      refine run_seq ?_
      refine run_region rfl ?_
      refine ops_ex rfl (guard_none rfl) rfl rfl (ex_move rfl rfl) ?_
      refine ops_ex rfl (guard_none rfl) rfl rfl (ex_move rfl rfl) ?_
      refine ops_ex rfl (guard_none rfl) rfl rfl (ex_nilCheck rfl rfl) ?_
      refine ops_ex rfl (guard_none rfl) rfl rfl (ex_fieldAddr (off' := f0) rfl rfl Try.underlying100 rfl tsz74 rfl) ?_
      refine ops_ex rfl (guard_none rfl) rfl rfl (ex_load1 rfl rfl Try.underlying74 rfl ((HM.at_ hc0) 0 _ rfl)) ?_
      refine ops_ex rfl (guard_none rfl) rfl rfl (ex_len (d := kInt) (xs := x0.fKeys) rfl rfl Try.underlying74 hp0_0) ?_
      refine ops_ex rfl (guard_none rfl) rfl rfl (ex_lss rfl rfl rfl) ?_
      refine ops_nil ?_
      refine at_then ?_
      refine run_cond (b := (decide (a641 < (x0.fKeys.length : Int)))) rfl (fun hb650 => ?_) (fun hb650 => ?_)
      · replace ho634 := cond_t hb650 ho634
        refine run_skip ?_
        refine at_then ?_
        refine run_seq ?_
        refine run_block ?_
        refine run_seq ?_
        obtain ⟨e651, ho634⟩ := chk_some ho634
        obtain ⟨t653, h654, ho634⟩ := bind_some ho634
        refine run_region rfl ?_
        refine ops_ex rfl (guard_none rfl) rfl rfl (ex_move rfl rfl) ?_
        refine ops_ex rfl (guard_none rfl) rfl rfl (ex_nilCheck rfl rfl) ?_
        refine ops_ex rfl (guard_none rfl) rfl rfl (ex_fieldAddr (off' := f0) rfl rfl Try.underlying100 rfl tsz74 rfl) ?_
        refine ops_ex rfl (guard_none rfl) rfl rfl (ex_load1 rfl rfl Try.underlying74 rfl ((HM.at_ hc0) 0 _ rfl)) ?_
        refine ops_ex rfl (guard_none rfl) rfl rfl (ex_move rfl rfl) ?_
        have hc652 : CellsAt _ (sb p0_0) (so p0_0 + (a641).toNat * 1) [(.int .i64 (gt x0.fKeys a641))] := rd_plain hp0_0 e651
        refine ops_ex rfl (guard_none rfl) rfl rfl (ex_indexAddr (d := kInt) rfl rfl rfl Try.underlying74 tsz2 hp0_0 (idx_lo e651) (idx_hi e651)) ?_
        refine ops_ex rfl (guard_none rfl) rfl rfl (ex_load1 rfl rfl Try.underlying2 rfl ((HM.at_ hc652) 0 _ rfl)) ?_
        refine ops_does rfl (guard_none rfl) rfl rfl (does_callk rfl callok137 rfl (spec_l1Key.calls (x0 := (gt x0.fKeys a641)) h654)) ?_
        rintro _ w655 ⟨rfl, hn⟩
        replace HM : Mem w [] w655 [] := HM.call hn
        refine ops_ex rfl (guard_none rfl) rfl rfl (ex_not rfl rfl) ?_
        refine ops_nil ?_
        refine at_then ?_
        refine run_cond (b := !t653) rfl (fun hb656 => ?_) (fun hb656 => ?_)
        · replace ho634 := cond_t hb656 ho634
          refine run_seq ?_
          refine run_region rfl ?_
          refine ops_ex rfl (guard_none rfl) rfl rfl (ex_assign rfl rfl) ?_
          refine ops_nil ?_
          refine at_then ?_
          refine run_ret ?_
          refine at_block_ret ?_
          refine at_then_ret ?_
          refine at_then_ret ?_
          refine at_block_ret ?_
          refine at_then_ret ?_
          have hR := Option.some.inj ho634
          subst hR
          have hT := thn_inl H
          have hR := Option.some.inj hT
          subst hR
          exact at_ret1 rfl rfl ⟨_, rfl, rfl, HM⟩
        · replace ho634 := cond_f hb656 ho634
          refine run_skip ?_
          refine at_block ?_
          refine at_then ?_
          refine run_region rfl ?_
          refine ops_ex rfl (guard_none rfl) rfl rfl (ex_move rfl rfl) ?_
          refine ops_ex rfl (guard_none rfl) rfl rfl (ex_add rfl rfl rfl) ?_
          refine ops_ex rfl (guard_none rfl) rfl rfl (ex_assign rfl rfl) ?_
          refine ops_nil ?_
          exact at_again k648 (ρ1 := [(0, .pointer (some ⟨b0, f0, none⟩)), (3, .int .i64 (x0.fKeys.length : Int)), (4, .int .i64 (wrap64 (a641 + 1)))]) (Nat.lt_succ_self _) ⟨_, ho634, rfl, HM⟩ (Sub.cons rfl (Sub.cons rfl (Sub.cons rfl Sub.nil)))
      · replace ho634 := cond_f hb650 ho634
        refine run_exit ?_
        refine at_then_exit ?_
        refine at_then_exit ?_
        refine at_block_exit ?_
        exact at_mid (ρ' := [(0, .pointer (some ⟨b0, f0, none⟩)), (3, .int .i64 (x0.fKeys.length : Int))]) ⟨(Option.some.inj ho634), rfl, HM⟩ (Sub.cons rfl (Sub.cons rfl Sub.nil))
    · rintro _ w657 ⟨rfl, rfl, HM⟩
      replace H := (thn_inr H)
      refine run_seq ?_
      refine run_seq ?_
      obtain ⟨t663, h664, H⟩ := bind_some H
      obtain ⟨t665, h666, H⟩ := bind_some H
      refine run_meet (fun ρ_ w_ => ρ_ = [(0, .pointer (some ⟨b0, f0, none⟩)), (46, .bool ((!t663) || (!t665)))] ∧ Mem w [] w_ []) ?_ ?_
      · skip
        refine run_region rfl ?_
        refine ops_ex rfl (guard_none rfl) rfl rfl (ex_move rfl rfl) ?_
        refine ops_ex rfl (guard_none rfl) rfl rfl (ex_nilCheck rfl rfl) ?_
        refine ops_ex rfl (guard_none rfl) rfl rfl (ex_fieldAddr (off' := f0 + 1) rfl rfl Try.underlying100 rfl tsz2 rfl) ?_
        refine ops_ex rfl (guard_none rfl) rfl rfl (ex_load1 rfl rfl Try.underlying2 rfl ((HM.at_ hc0) 1 _ rfl)) ?_
        refine ops_ex rfl (guard_none rfl) rfl rfl (ex_move rfl rfl) ?_
        refine ops_does rfl (guard_none rfl) rfl rfl (does_callk rfl callok136 rfl (spec_l1In.calls (x0 := x0.fNeed) (x1 := 1) (x2 := (x0.fKeys.length : Int)) h664)) ?_
        rintro _ w667 ⟨rfl, hn⟩
        replace HM : Mem w [] w667 [] := HM.call hn
        refine ops_ex rfl (guard_none rfl) rfl rfl (ex_not rfl rfl) ?_
        refine ops_ex rfl (guard_none rfl) rfl rfl (ex_move rfl rfl) ?_
        refine bool_cases (!t663) (fun hg668 => ?_) (fun hg668 => ?_)
        · skip
          refine ops_off rfl (guard_off rfl rfl rfl hg668) rfl rfl ?_
          refine ops_off rfl (guard_off rfl rfl rfl hg668) rfl rfl ?_
          refine ops_off rfl (guard_off rfl rfl rfl hg668) rfl rfl ?_
          refine ops_off rfl (guard_off rfl rfl rfl hg668) rfl rfl ?_
          refine ops_off rfl (guard_off rfl rfl rfl hg668) rfl rfl ?_
          refine ops_off rfl (guard_off rfl rfl rfl hg668) rfl rfl ?_
          have hg669 : ((!t663) || (!t665)) = true := by simp only [hg668, Bool.and_true, Bool.true_and, Bool.and_false, Bool.false_and, Bool.or_true, Bool.true_or, Bool.or_false, Bool.false_or, Bool.not_true, Bool.not_false, Bool.not_not]
          refine ops_ex (v := .bool ((!t663) || (!t665))) rfl (guard_none rfl) rfl rfl (ex_por_t rfl rfl hg668) ?_
          refine ops_nil ?_
          exact at_meet [(0, .pointer (some ⟨b0, f0, none⟩)), (46, .bool ((!t663) || (!t665)))] ⟨rfl, HM⟩ (Sub.cons rfl (Sub.cons rfl Sub.nil))
        · skip
          refine ops_ex rfl (guard_on rfl rfl rfl hg668) rfl rfl (ex_move rfl rfl) ?_
          refine ops_ex rfl (guard_on rfl rfl rfl hg668) rfl rfl (ex_nilCheck rfl rfl) ?_
          refine ops_ex rfl (guard_on rfl rfl rfl hg668) rfl rfl (ex_fieldAddr (off' := f0 + 2) rfl rfl Try.underlying100 rfl tsz2 rfl) ?_
          refine ops_ex rfl (guard_on rfl rfl rfl hg668) rfl rfl (ex_load1 rfl rfl Try.underlying2 rfl ((HM.at_ hc0) 2 _ rfl)) ?_
          refine ops_does rfl (guard_on rfl rfl rfl hg668) rfl rfl (does_callk rfl callok128 rfl (spec_l2Height.calls (x0 := x0.fAfter) (cond_t (not_mk hg668) h666))) ?_
          rintro _ w670 ⟨rfl, hn⟩
          replace HM : Mem w [] w670 [] := HM.call hn
          refine ops_ex rfl (guard_on rfl rfl rfl hg668) rfl rfl (ex_not rfl rfl) ?_
          refine ops_ex (v := .bool ((!t663) || (!t665))) rfl (guard_none rfl) rfl rfl (ex_por_f rfl rfl hg668 rfl) ?_
          refine ops_nil ?_
          exact at_meet [(0, .pointer (some ⟨b0, f0, none⟩)), (46, .bool ((!t663) || (!t665)))] ⟨rfl, HM⟩ (Sub.cons rfl (Sub.cons rfl Sub.nil))
      · rintro _ w671 ⟨rfl, HM⟩
        refine at_then ?_
        refine run_cond (b := ((!t663) || (!t665))) rfl (fun hb672 => ?_) (fun hb672 => ?_)
        · replace H := cond_t hb672 H
          refine run_seq ?_
          refine run_region rfl ?_
          refine ops_ex rfl (guard_none rfl) rfl rfl (ex_assign rfl rfl) ?_
          refine ops_nil ?_
          refine at_then ?_
          refine run_ret ?_
          refine at_then_ret ?_
          have hR := Option.some.inj H
          subst hR
          exact at_ret1 rfl rfl ⟨_, rfl, rfl, HM⟩
        · replace H := cond_f hb672 H
          refine run_skip ?_
          refine at_then ?_
          obtain ⟨o692, ho693, H⟩ := bind_some H
          refine run_mid (fun ρ_ w_ => Sum.inr () = o692 ∧ ρ_ = [] ∧ Mem w [] w_ []) ?_ ?_
          · skip
            refine run_seq ?_
            refine run_region rfl ?_
            refine ops_ex rfl (guard_none rfl) rfl rfl (ex_assign rfl rfl) ?_
            refine ops_nil ?_
            refine at_then ?_
            refine run_block ?_
            refine run_loop (fun k_ ρ_ w_ => ∃ a700 : Int, spec_l2Fault.l1 x0 k_ a700 = some o692 ∧ ρ_ = [(0, .pointer (some ⟨b0, f0, none⟩)), (5, .int .i64 a700)] ∧ Mem w [] w_ []) k (ρ1 := [(0, .pointer (some ⟨b0, f0, none⟩)), (5, .int .i64 1)]) ⟨_, ho693, rfl, HM⟩ (Sub.cons rfl (Sub.cons rfl Sub.nil)) ?_
            clear HM ho693
            rintro k707 _ w708 ⟨a700, ho693, rfl, HM⟩
            obtain _ | k707 := k707
            · exact nomatch ((spec_l2Fault.l1_z x0 a700).symm.trans ho693)
            replace ho693 := (spec_l2Fault.l1_s x0 k707 a700).symm.trans ho693
            refine run_seq ?_
            refine run_seq ?_
            refine run_region rfl ?_
            refine ops_ex rfl (guard_none rfl) rfl rfl (ex_move rfl rfl) ?_
            refine ops_ex rfl (guard_none rfl) rfl rfl (ex_move rfl rfl) ?_
            refine ops_ex rfl (guard_none rfl) rfl rfl (ex_nilCheck rfl rfl) ?_
            refine ops_ex rfl (guard_none rfl) rfl rfl (ex_fieldAddr (off' := f0) rfl rfl Try.underlying100 rfl tsz74 rfl) ?_
            refine ops_ex rfl (guard_none rfl) rfl rfl (ex_load1 rfl rfl Try.underlying74 rfl ((HM.at_ hc0) 0 _ rfl)) ?_
            refine ops_ex rfl (guard_none rfl) rfl rfl (ex_len (d := kInt) (xs := x0.fKeys) rfl rfl Try.underlying74 hp0_0) ?_
            refine ops_ex rfl (guard_none rfl) rfl rfl (ex_lss rfl rfl rfl) ?_
            refine ops_nil ?_
            refine at_then ?_
            refine run_cond (b := (decide (a700 < (x0.fKeys.length : Int)))) rfl (fun hb709 => ?_) (fun hb709 => ?_)
            · replace ho693 := cond_t hb709 ho693
              refine run_skip ?_
              refine at_then ?_
              refine run_seq ?_
              refine run_block ?_
              refine run_seq ?_
              obtain ⟨e710, ho693⟩ := chk_some ho693
              obtain ⟨e712, ho693⟩ := chk_some ho693
              refine run_drawf (fun w_ => Mem w [] w_ []) [(0, true), (1, true), (2, true), (3, true), (4, true), (5, true), (6, true), (7, true), (8, true), (9, true), (10, true), (11, true), (12, true), (13, true), (14, true), (15, true)] mixed rfl rfl (by kernel_rfl) ?_
              replace HM := HM.grow (fr_drew _)
              have hS := Mem.suf (M := []) HM
              refine drwp_take rfl (guard_none rfl) rfl rfl (fun w_ hS_ => (ex_move rfl rfl)) hS ?_
              refine drwp_take rfl (guard_none rfl) rfl rfl (fun w_ hS_ => (ex_nilCheck rfl rfl)) hS ?_
              refine drwp_take rfl (guard_none rfl) rfl rfl (fun w_ hS_ => (ex_fieldAddr (off' := f0) rfl rfl Try.underlying100 rfl tsz74 rfl)) hS ?_
              refine drwp_take rfl (guard_none rfl) rfl rfl (fun w_ hS_ => (ex_load1 rfl rfl Try.underlying74 rfl ((hS_.at_ hc0) 0 _ rfl))) hS ?_
              refine drwp_take rfl (guard_none rfl) rfl rfl (fun w_ hS_ => (ex_move rfl rfl)) hS ?_
              have hc711 : CellsAt _ (sb p0_0) (so p0_0 + (a700).toNat * 1) [(.int .i64 (gt x0.fKeys a700))] := rd_plain hp0_0 e710
              refine drwp_take rfl (guard_none rfl) rfl rfl (fun w_ hS_ => (ex_indexAddr (d := kInt) rfl rfl rfl Try.underlying74 tsz2 hp0_0 (idx_lo e710) (idx_hi e710))) hS ?_
              refine drwp_take rfl (guard_none rfl) rfl rfl (fun w_ hS_ => (ex_load1 rfl rfl Try.underlying2 rfl ((hS_.at_ hc711) 0 _ rfl))) hS ?_
              refine drwp_take rfl (guard_none rfl) rfl rfl (fun w_ hS_ => (ex_move rfl rfl)) hS ?_
              refine drwp_take rfl (guard_none rfl) rfl rfl (fun w_ hS_ => (ex_nilCheck rfl rfl)) hS ?_
              refine drwp_take rfl (guard_none rfl) rfl rfl (fun w_ hS_ => (ex_fieldAddr (off' := f0) rfl rfl Try.underlying100 rfl tsz74 rfl)) hS ?_
              refine drwp_take rfl (guard_none rfl) rfl rfl (fun w_ hS_ => (ex_load1 rfl rfl Try.underlying74 rfl ((hS_.at_ hc0) 0 _ rfl))) hS ?_
              refine drwp_take rfl (guard_none rfl) rfl rfl (fun w_ hS_ => (ex_move rfl rfl)) hS ?_
              refine drwp_take rfl (guard_none rfl) rfl rfl (fun w_ hS_ => (ex_sub rfl rfl rfl)) hS ?_
              have hc713 : CellsAt _ (sb p0_0) (so p0_0 + (wrap64 (a700 - 1)).toNat * 1) [(.int .i64 (gt x0.fKeys (wrap64 (a700 - 1))))] := rd_plain hp0_0 e712
              refine drwp_take rfl (guard_none rfl) rfl rfl (fun w_ hS_ => (ex_indexAddr (d := kInt) rfl rfl rfl Try.underlying74 tsz2 hp0_0 (idx_lo e712) (idx_hi e712))) hS ?_
              refine drwp_take rfl (guard_none rfl) rfl rfl (fun w_ hS_ => (ex_load1 rfl rfl Try.underlying2 rfl ((hS_.at_ hc713) 0 _ rfl))) hS ?_
              refine drwp_take rfl (guard_none rfl) rfl rfl (fun w_ hS_ => (ex_leq rfl rfl rfl)) hS ?_
              refine drwp_done ?_
              refine at_then ?_
              refine run_cond (b := (decide ((gt x0.fKeys a700) ≤ (gt x0.fKeys (wrap64 (a700 - 1)))))) rfl (fun hb714 => ?_) (fun hb714 => ?_)
              · replace ho693 := cond_t hb714 ho693
                refine run_seq ?_
                refine run_region rfl ?_
                refine ops_ex rfl (guard_none rfl) rfl rfl (ex_assign rfl rfl) ?_
                refine ops_nil ?_
                refine at_then ?_
                refine run_ret ?_
                refine at_block_ret ?_
                refine at_then_ret ?_
                refine at_then_ret ?_
                refine at_block_ret ?_
                refine at_then_ret ?_
                have hR := Option.some.inj ho693
                subst hR
                have hT := thn_inl H
                have hR := Option.some.inj hT
                subst hR
                exact at_ret1 rfl rfl ⟨_, rfl, rfl, HM⟩
              · replace ho693 := cond_f hb714 ho693
                refine run_skip ?_
                refine at_block ?_
                refine at_then ?_
                refine run_region rfl ?_
                refine ops_ex rfl (guard_none rfl) rfl rfl (ex_move rfl rfl) ?_
                refine ops_ex rfl (guard_none rfl) rfl rfl (ex_add rfl rfl rfl) ?_
                refine ops_ex rfl (guard_none rfl) rfl rfl (ex_assign rfl rfl) ?_
                refine ops_nil ?_
                exact at_again k707 (ρ1 := [(0, .pointer (some ⟨b0, f0, none⟩)), (5, .int .i64 (wrap64 (a700 + 1)))]) (Nat.lt_succ_self _) ⟨_, ho693, rfl, HM⟩ (Sub.cons rfl (Sub.cons rfl Sub.nil))
            · replace ho693 := cond_f hb709 ho693
              refine run_exit ?_
              refine at_then_exit ?_
              refine at_then_exit ?_
              refine at_block_exit ?_
              exact at_mid (ρ' := []) ⟨(Option.some.inj ho693), rfl, HM⟩ Sub.nil
          · rintro _ w715 ⟨rfl, rfl, HM⟩
            replace H := (thn_inr H)
            refine run_seq ?_
            refine run_region rfl ?_
            refine ops_ex rfl (guard_none rfl) rfl rfl (ex_assign rfl rfl) ?_
            refine ops_nil ?_
            refine at_then ?_
            refine run_ret ?_
            have hR := Option.some.inj H
            subst hR
            exact at_ret1 rfl rfl ⟨_, rfl, rfl, HM⟩

def spec_l4Out.f (k : Nat) (x0 : Out) : Option Int := ((spec_l1In.f k x0.fValue 1 1000000).bind fun t721 => (bif !t721 then some 3 else ((spec_l2Fault.f k x0.fRule).bind fun t725 => some t725)))
theorem spec_l4Out.calls {k : Nat} {x0 : Out} {b0 f0 : Nat} {p0_0 : Value} {w : World} (hc0 : CellsAt w b0 f0 [.int .i64 x0.fValue, p0_0, .int .i64 x0.fRule.fNeed, .int .i64 x0.fRule.fAfter]) (hp0_0 : RdS kInt w p0_0 x0.fRule.fKeys) {r : Int} (H : spec_l4Out.f k x0 = some r) :
    Calls Try.prog 129 ([.pointer (some ⟨b0, f0, none⟩)] : List Value).toArray w (fun e w_ => ∃ v, e = .returned v ∧ v = (.int .i64 r) ∧ Mem w [] w_ []) := by
  have HM := Mem.start w
  refine calls_run (N := 13) Try.func129 rfl rfl rfl rfl ?_
  unfold spec_l4Out.f at H
  refine run_seq ?_
  refine run_region rfl ?_
  refine ops_ex rfl (guard_none rfl) rfl rfl (ex_assign rfl rfl) ?_
  refine ops_nil ?_
  refine at_then ?_
  refine run_seq ?_
  refine run_seq ?_
  obtain ⟨t721, h722, H⟩ := bind_some H
  refine run_region rfl ?_
  refine ops_ex rfl (guard_none rfl) rfl rfl (ex_move rfl rfl) ?_
  refine ops_ex rfl (guard_none rfl) rfl rfl (ex_nilCheck rfl rfl) ?_
  refine ops_ex rfl (guard_none rfl) rfl rfl (ex_fieldAddr (off' := f0) rfl rfl Try.underlying102 rfl tsz2 rfl) ?_
  refine ops_ex rfl (guard_none rfl) rfl rfl (ex_load1 rfl rfl Try.underlying2 rfl ((HM.at_ hc0) 0 _ rfl)) ?_
  refine ops_does rfl (guard_none rfl) rfl rfl (does_callk rfl callok136 rfl (spec_l1In.calls (x0 := x0.fValue) (x1 := 1) (x2 := 1000000) h722)) ?_
  rintro _ w723 ⟨rfl, hn⟩
  replace HM : Mem w [] w723 [] := HM.call hn
  refine ops_ex rfl (guard_none rfl) rfl rfl (ex_not rfl rfl) ?_
  refine ops_nil ?_
  refine at_then ?_
  refine run_cond (b := !t721) rfl (fun hb724 => ?_) (fun hb724 => ?_)
  · replace H := cond_t hb724 H
    refine run_seq ?_
    refine run_region rfl ?_
    refine ops_ex rfl (guard_none rfl) rfl rfl (ex_assign rfl rfl) ?_
    refine ops_nil ?_
    refine at_then ?_
    refine run_ret ?_
    refine at_then_ret ?_
    have hR := Option.some.inj H
    subst hR
    exact at_ret1 rfl rfl ⟨_, rfl, rfl, HM⟩
  · replace H := cond_f hb724 H
    refine run_skip ?_
    refine at_then ?_
    refine run_seq ?_
    obtain ⟨t725, h726, H⟩ := bind_some H
    refine run_region rfl ?_
    refine ops_ex rfl (guard_none rfl) rfl rfl (ex_move rfl rfl) ?_
    refine ops_ex rfl (guard_none rfl) rfl rfl (ex_nilCheck rfl rfl) ?_
    refine ops_ex rfl (guard_none rfl) rfl rfl (ex_fieldAddr (off' := f0 + 1) rfl rfl Try.underlying102 rfl tsz100 rfl) ?_
    refine ops_does rfl (guard_none rfl) rfl rfl (does_callk rfl callok161 rfl (spec_l2Fault.calls (x0 := x0.fRule) (CellsAt.sub (HM.at_ hc0) 1 3 rfl) (HM.rd hp0_0) h726)) ?_
    rintro _ w727 ⟨rfl, hn⟩
    replace HM : Mem w [] w727 [] := HM.call hn
    refine ops_ex rfl (guard_none rfl) rfl rfl (ex_assign rfl rfl) ?_
    refine ops_nil ?_
    refine at_then ?_
    refine run_ret ?_
    have hR := Option.some.inj H
    subst hR
    exact at_ret1 rfl rfl ⟨_, rfl, rfl, HM⟩

def spec_l4Ahead.f (k : Nat) (x0 : Ref) (x1 : Ref) : Option Bool := (bif (x0.fTx != x1.fTx) then some (decide (x0.fTx < x1.fTx)) else some (decide (x0.fAt < x1.fAt)))
theorem spec_l4Ahead.calls {k : Nat} {x0 : Ref} {x1 : Ref}  {w : World}  {r : Bool} (H : spec_l4Ahead.f k x0 x1 = some r) :
    Calls Try.prog 130 ([.agg #[(.int .i64 x0.fTx), (.int .i64 x0.fAt)], .agg #[(.int .i64 x1.fTx), (.int .i64 x1.fAt)]] : List Value).toArray w (fun e w_ => ∃ v, e = .returned v ∧ v = (.bool r) ∧ Mem w [] w_ []) := by
  have HM := Mem.start w
  refine calls_run (N := 20) Try.func130 rfl rfl rfl rfl ?_
  unfold spec_l4Ahead.f at H
  refine run_seq ?_
  refine run_region rfl ?_
  refine ops_does rfl (guard_none rfl) rfl rfl (does_box (cs := [.int .i64 x0.fTx, .int .i64 x0.fAt]) rfl rfl rfl HM) ?_
  rintro _ w760 ⟨b754, rfl, HM⟩
  refine ops_does rfl (guard_none rfl) rfl rfl (does_box (cs := [.int .i64 x1.fTx, .int .i64 x1.fAt]) rfl rfl rfl HM) ?_
  rintro _ w761 ⟨b757, rfl, HM⟩
  refine ops_ex rfl (guard_none rfl) rfl rfl (ex_assign rfl rfl) ?_
  refine ops_nil ?_
  refine at_then ?_
  refine run_seq ?_
  refine run_seq ?_
  refine run_region rfl ?_
  refine ops_ex rfl (guard_none rfl) rfl rfl (ex_fieldAddr (off' := 0) rfl rfl Try.underlying99 rfl tsz2 rfl) ?_
  refine ops_ex rfl (guard_none rfl) rfl rfl (ex_load1 rfl rfl Try.underlying2 rfl ((HM.box_at 1 rfl) 0 _ rfl)) ?_
  refine ops_ex rfl (guard_none rfl) rfl rfl (ex_fieldAddr (off' := 0) rfl rfl Try.underlying99 rfl tsz2 rfl) ?_
  refine ops_ex rfl (guard_none rfl) rfl rfl (ex_load1 rfl rfl Try.underlying2 rfl ((HM.box_at 0 rfl) 0 _ rfl)) ?_
  refine ops_ex rfl (guard_none rfl) rfl rfl (ex_neq rfl rfl rfl) ?_
  refine ops_nil ?_
  refine at_then ?_
  refine run_cond (b := (x0.fTx != x1.fTx)) rfl (fun hb763 => ?_) (fun hb763 => ?_)
  · replace H := cond_t hb763 H
    refine run_seq ?_
    refine run_region rfl ?_
    refine ops_ex rfl (guard_none rfl) rfl rfl (ex_fieldAddr (off' := 0) rfl rfl Try.underlying99 rfl tsz2 rfl) ?_
    refine ops_ex rfl (guard_none rfl) rfl rfl (ex_load1 rfl rfl Try.underlying2 rfl ((HM.box_at 1 rfl) 0 _ rfl)) ?_
    refine ops_ex rfl (guard_none rfl) rfl rfl (ex_fieldAddr (off' := 0) rfl rfl Try.underlying99 rfl tsz2 rfl) ?_
    refine ops_ex rfl (guard_none rfl) rfl rfl (ex_load1 rfl rfl Try.underlying2 rfl ((HM.box_at 0 rfl) 0 _ rfl)) ?_
    refine ops_ex rfl (guard_none rfl) rfl rfl (ex_lss rfl rfl rfl) ?_
    refine ops_ex rfl (guard_none rfl) rfl rfl (ex_assign rfl rfl) ?_
    refine ops_nil ?_
    refine at_then ?_
    refine run_ret ?_
    refine at_then_ret ?_
    replace HM := (HM.front 0 rfl rfl).drop
    replace HM := (HM.front 0 rfl rfl).drop
    have hR := Option.some.inj H
    subst hR
    exact at_ret1 rfl rfl ⟨_, rfl, rfl, HM⟩
  · replace H := cond_f hb763 H
    refine run_skip ?_
    refine at_then ?_
    refine run_seq ?_
    refine run_region rfl ?_
    refine ops_ex rfl (guard_none rfl) rfl rfl (ex_fieldAddr (off' := 1) rfl rfl Try.underlying99 rfl tsz2 rfl) ?_
    refine ops_ex rfl (guard_none rfl) rfl rfl (ex_load1 rfl rfl Try.underlying2 rfl ((HM.box_at 1 rfl) 1 _ rfl)) ?_
    refine ops_ex rfl (guard_none rfl) rfl rfl (ex_fieldAddr (off' := 1) rfl rfl Try.underlying99 rfl tsz2 rfl) ?_
    refine ops_ex rfl (guard_none rfl) rfl rfl (ex_load1 rfl rfl Try.underlying2 rfl ((HM.box_at 0 rfl) 1 _ rfl)) ?_
    refine ops_ex rfl (guard_none rfl) rfl rfl (ex_lss rfl rfl rfl) ?_
    refine ops_ex rfl (guard_none rfl) rfl rfl (ex_assign rfl rfl) ?_
    refine ops_nil ?_
    refine at_then ?_
    refine run_ret ?_
    replace HM := (HM.front 0 rfl rfl).drop
    replace HM := (HM.front 0 rfl rfl).drop
    have hR := Option.some.inj H
    subst hR
    exact at_ret1 rfl rfl ⟨_, rfl, rfl, HM⟩

def spec_l4Fault.l0 (x0 : List Coin) : Nat → Int → Option (Int ⊕ Unit)
  | 0, _ => none
  | k + 1, a1087 => (bif (decide (a1087 < (x0.length : Int))) then (chk (idxOk a1087 x0.length) ((spec_l3Ref.f k ((gt x0 a1087).fRef)).bind fun t1160 => (chk (!(!(!t1160)) || (idxOk a1087 x0.length)) ((bif (!(!t1160)) then spec_l2Height.f k ((gt x0 a1087).fHeight) else some default).bind fun t1166 => (bif ((!t1160) || (!t1166)) then some (.inl 3) else (chk (idxOk a1087 x0.length) ((spec_l4Out.f k ((gt x0 a1087).fOut)).bind fun t1185 => (bif (t1185 != 0) then some (.inl t1185) else (chk (!(decide (0 < a1087)) || (idxOk (wrap64 (a1087 - 1)) x0.length)) (chk (!(decide (0 < a1087)) || (idxOk a1087 x0.length)) ((bif (decide (0 < a1087)) then spec_l4Ahead.f k ((gt x0 (wrap64 (a1087 - 1))).fRef) ((gt x0 a1087).fRef) else some default).bind fun t1197 => (bif ((decide (0 < a1087)) && (!t1197)) then some (.inl 1) else spec_l4Fault.l0 x0 k (wrap64 (a1087 + 1)))))))))))))) else some (.inr ()))
theorem spec_l4Fault.l0_z (x0 : List Coin) (a1087 : Int) : spec_l4Fault.l0 x0 0 a1087 = none := rfl
theorem spec_l4Fault.l0_s (x0 : List Coin) (k : Nat) (a1087 : Int) : spec_l4Fault.l0 x0 (k + 1) a1087 = (bif (decide (a1087 < (x0.length : Int))) then (chk (idxOk a1087 x0.length) ((spec_l3Ref.f k ((gt x0 a1087).fRef)).bind fun t1160 => (chk (!(!(!t1160)) || (idxOk a1087 x0.length)) ((bif (!(!t1160)) then spec_l2Height.f k ((gt x0 a1087).fHeight) else some default).bind fun t1166 => (bif ((!t1160) || (!t1166)) then some (.inl 3) else (chk (idxOk a1087 x0.length) ((spec_l4Out.f k ((gt x0 a1087).fOut)).bind fun t1185 => (bif (t1185 != 0) then some (.inl t1185) else (chk (!(decide (0 < a1087)) || (idxOk (wrap64 (a1087 - 1)) x0.length)) (chk (!(decide (0 < a1087)) || (idxOk a1087 x0.length)) ((bif (decide (0 < a1087)) then spec_l4Ahead.f k ((gt x0 (wrap64 (a1087 - 1))).fRef) ((gt x0 a1087).fRef) else some default).bind fun t1197 => (bif ((decide (0 < a1087)) && (!t1197)) then some (.inl 1) else spec_l4Fault.l0 x0 k (wrap64 (a1087 + 1)))))))))))))) else some (.inr ())) := rfl
def spec_l4Fault.f (k : Nat) (x0 : List Coin) : Option Int := (bif (decide (40 < (x0.length : Int))) then some 2 else ((spec_l4Fault.l0 x0 k 0).bind fun o1033 => thn o1033 (fun r => some r) (fun _ => some 0)))
theorem spec_l4Fault.calls {k : Nat} {x0 : List Coin} {p0 : Value} {w : World} (hp0 : RdS kCoin w p0 x0) {r : Int} (H : spec_l4Fault.f k x0 = some r) :
    Calls Try.prog 78 ([p0] : List Value).toArray w (fun e w_ => ∃ v, e = .returned v ∧ v = (.int .i64 r) ∧ Mem w [] w_ []) := by
  have HM := Mem.start w
  refine calls_run (N := 55) Try.func78 rfl rfl rfl rfl ?_
  unfold spec_l4Fault.f at H
  refine run_seq ?_
  refine run_region rfl ?_
  refine ops_ex rfl (guard_none rfl) rfl rfl (ex_assign rfl rfl) ?_
  refine ops_nil ?_
  refine at_then ?_
  refine run_seq ?_
  refine run_seq ?_
  refine run_region rfl ?_
  refine ops_ex rfl (guard_none rfl) rfl rfl (ex_move rfl rfl) ?_
  refine ops_ex rfl (guard_none rfl) rfl rfl (ex_len (d := kCoin) (xs := x0) rfl rfl Try.underlying25 hp0) ?_
  refine ops_ex rfl (guard_none rfl) rfl rfl (ex_gtr rfl rfl rfl) ?_
  refine ops_nil ?_
  refine at_then ?_
  refine run_cond (b := (decide (40 < (x0.length : Int)))) rfl (fun hb875 => ?_) (fun hb875 => ?_)
  · replace H := cond_t hb875 H
    refine run_seq ?_
    refine run_region rfl ?_
    refine ops_ex rfl (guard_none rfl) rfl rfl (ex_assign rfl rfl) ?_
    refine ops_nil ?_
    refine at_then ?_
    refine run_ret ?_
    refine at_then_ret ?_
    have hR := Option.some.inj H
    subst hR
    exact at_ret1 rfl rfl ⟨_, rfl, rfl, HM⟩
  · replace H := cond_f hb875 H
    refine run_skip ?_
    refine at_then ?_
    obtain ⟨o1033, ho1034, H⟩ := bind_some H
    refine run_mid (fun ρ_ w_ => Sum.inr () = o1033 ∧ ρ_ = [] ∧ Mem w [] w_ []) ?_ ?_
    · skip
      refine run_seq ?_
      refine run_region rfl ?_
      refine ops_ex rfl (guard_none rfl) rfl rfl (ex_assign rfl rfl) ?_
      refine ops_nil ?_
      refine at_then ?_
      refine run_block ?_
      refine run_loop (fun k_ ρ_ w_ => ∃ a1087 : Int, spec_l4Fault.l0 x0 k_ a1087 = some o1033 ∧ ρ_ = [(0, p0), (3, .int .i64 a1087)] ∧ Mem w [] w_ []) k (ρ1 := [(0, p0), (3, .int .i64 0)]) ⟨_, ho1034, rfl, HM⟩ (Sub.cons rfl (Sub.cons rfl Sub.nil)) ?_
      clear HM ho1034
      rintro k1140 _ w1141 ⟨a1087, ho1034, rfl, HM⟩
      obtain _ | k1140 := k1140
      · exact nomatch ((spec_l4Fault.l0_z x0 a1087).symm.trans ho1034)
      replace ho1034 := (spec_l4Fault.l0_s x0 k1140 a1087).symm.trans ho1034
      refine run_seq ?_
      refine run_seq ?_
      refine run_region rfl ?_
      refine ops_ex rfl (guard_none rfl) rfl rfl (ex_move rfl rfl) ?_
      refine ops_ex rfl (guard_none rfl) rfl rfl (ex_move rfl rfl) ?_
      refine ops_ex rfl (guard_none rfl) rfl rfl (ex_len (d := kCoin) (xs := x0) rfl rfl Try.underlying25 hp0) ?_
      refine ops_ex rfl (guard_none rfl) rfl rfl (ex_lss rfl rfl rfl) ?_
      refine ops_nil ?_
      refine at_then ?_
      refine run_cond (b := (decide (a1087 < (x0.length : Int)))) rfl (fun hb1142 => ?_) (fun hb1142 => ?_)
      · replace ho1034 := cond_t hb1142 ho1034
        refine run_skip ?_
        refine at_then ?_
        refine run_seq ?_
        refine run_block ?_
        refine run_seq ?_
        refine run_seq ?_
        obtain ⟨e1156, ho1034⟩ := chk_some ho1034
        obtain ⟨t1160, h1161, ho1034⟩ := bind_some ho1034
        obtain ⟨e1162, ho1034⟩ := chk_some ho1034
        obtain ⟨t1166, h1167, ho1034⟩ := bind_some ho1034
        refine run_meet (fun ρ_ w_ => ρ_ = [(0, p0), (3, .int .i64 a1087), (29, .bool ((!t1160) || (!t1166)))] ∧ Mem w [] w_ []) ?_ ?_
        · skip
          refine run_region rfl ?_
          refine ops_ex rfl (guard_none rfl) rfl rfl (ex_move rfl rfl) ?_
          refine ops_ex rfl (guard_none rfl) rfl rfl (ex_move rfl rfl) ?_
          obtain ⟨kv1158, hc1157, hk1159⟩ : ∃ u, CellsAt _ (sb p0) (so p0 + (a1087).toNat * 8) [(.int .i64 ((gt x0 a1087).fRef.fTx)), (.int .i64 ((gt x0 a1087).fRef.fAt)), (.int .i64 ((gt x0 a1087).fOut.fValue)), u, (.int .i64 ((gt x0 a1087).fOut.fRule.fNeed)), (.int .i64 ((gt x0 a1087).fOut.fRule.fAfter)), (.int .i64 ((gt x0 a1087).fHeight)), (.bool ((gt x0 a1087).fMined))] ∧ RdS kInt _ u ((gt x0 a1087).fOut.fRule.fKeys) := rd_with1 hp0 e1156
          refine ops_ex rfl (guard_none rfl) rfl rfl (ex_indexAddr (d := kCoin) rfl rfl rfl Try.underlying25 tsz104 hp0 (idx_lo e1156) (idx_hi e1156)) ?_
          refine ops_ex rfl (guard_none rfl) rfl rfl (ex_fieldAddr (off' := so p0 + (a1087).toNat * 8) rfl rfl Try.underlying104 rfl tsz99 rfl) ?_
          refine ops_ex rfl (guard_none rfl) rfl rfl (ex_loadN (cs := [(.int .i64 ((gt x0 a1087).fRef.fTx)), (.int .i64 ((gt x0 a1087).fRef.fAt))]) rfl rfl Try.underlying99 rfl tsz99 rfl ((HM.at_ hc1157).sub 0 2 rfl)) ?_
          refine ops_does rfl (guard_none rfl) rfl rfl (does_callk rfl callok127 rfl (spec_l3Ref.calls (x0 := (gt x0 a1087).fRef) h1161)) ?_
          rintro _ w1168 ⟨rfl, hn⟩
          replace HM : Mem w [] w1168 [] := HM.call hn
          refine ops_ex rfl (guard_none rfl) rfl rfl (ex_not rfl rfl) ?_
          refine ops_ex rfl (guard_none rfl) rfl rfl (ex_move rfl rfl) ?_
          refine bool_cases (!t1160) (fun hg1169 => ?_) (fun hg1169 => ?_)
          · skip
            refine ops_off rfl (guard_off rfl rfl rfl hg1169) rfl rfl ?_
            refine ops_off rfl (guard_off rfl rfl rfl hg1169) rfl rfl ?_
            refine ops_off rfl (guard_off rfl rfl rfl hg1169) rfl rfl ?_
            refine ops_off rfl (guard_off rfl rfl rfl hg1169) rfl rfl ?_
            refine ops_off rfl (guard_off rfl rfl rfl hg1169) rfl rfl ?_
            refine ops_off rfl (guard_off rfl rfl rfl hg1169) rfl rfl ?_
            refine ops_off rfl (guard_off rfl rfl rfl hg1169) rfl rfl ?_
            have hg1170 : ((!t1160) || (!t1166)) = true := by simp only [hg1169, Bool.and_true, Bool.true_and, Bool.and_false, Bool.false_and, Bool.or_true, Bool.true_or, Bool.or_false, Bool.false_or, Bool.not_true, Bool.not_false, Bool.not_not]
            refine ops_ex (v := .bool ((!t1160) || (!t1166))) rfl (guard_none rfl) rfl rfl (ex_por_t rfl rfl hg1169) ?_
            refine ops_nil ?_
            exact at_meet [(0, p0), (3, .int .i64 a1087), (29, .bool ((!t1160) || (!t1166)))] ⟨rfl, HM⟩ (Sub.cons rfl (Sub.cons rfl (Sub.cons rfl Sub.nil)))
          · skip
            refine ops_ex rfl (guard_on rfl rfl rfl hg1169) rfl rfl (ex_move rfl rfl) ?_
            refine ops_ex rfl (guard_on rfl rfl rfl hg1169) rfl rfl (ex_move rfl rfl) ?_
            obtain ⟨kv1164, hc1163, hk1165⟩ : ∃ u, CellsAt _ (sb p0) (so p0 + (a1087).toNat * 8) [(.int .i64 ((gt x0 a1087).fRef.fTx)), (.int .i64 ((gt x0 a1087).fRef.fAt)), (.int .i64 ((gt x0 a1087).fOut.fValue)), u, (.int .i64 ((gt x0 a1087).fOut.fRule.fNeed)), (.int .i64 ((gt x0 a1087).fOut.fRule.fAfter)), (.int .i64 ((gt x0 a1087).fHeight)), (.bool ((gt x0 a1087).fMined))] ∧ RdS kInt _ u ((gt x0 a1087).fOut.fRule.fKeys) := rd_with1 hp0 (or_t e1162 (not_mk hg1169))
            refine ops_ex rfl (guard_on rfl rfl rfl hg1169) rfl rfl (ex_indexAddr (d := kCoin) rfl rfl rfl Try.underlying25 tsz104 hp0 (idx_lo (or_t e1162 (not_mk hg1169))) (idx_hi (or_t e1162 (not_mk hg1169)))) ?_
            refine ops_ex rfl (guard_on rfl rfl rfl hg1169) rfl rfl (ex_fieldAddr (off' := so p0 + (a1087).toNat * 8 + 6) rfl rfl Try.underlying104 rfl tsz2 rfl) ?_
            refine ops_ex rfl (guard_on rfl rfl rfl hg1169) rfl rfl (ex_load1 rfl rfl Try.underlying2 rfl ((HM.at_ hc1163) 6 _ rfl)) ?_
            refine ops_does rfl (guard_on rfl rfl rfl hg1169) rfl rfl (does_callk rfl callok128 rfl (spec_l2Height.calls (x0 := (gt x0 a1087).fHeight) (cond_t (not_mk hg1169) h1167))) ?_
            rintro _ w1171 ⟨rfl, hn⟩
            replace HM : Mem w [] w1171 [] := HM.call hn
            refine ops_ex rfl (guard_on rfl rfl rfl hg1169) rfl rfl (ex_not rfl rfl) ?_
            refine ops_ex (v := .bool ((!t1160) || (!t1166))) rfl (guard_none rfl) rfl rfl (ex_por_f rfl rfl hg1169 rfl) ?_
            refine ops_nil ?_
            exact at_meet [(0, p0), (3, .int .i64 a1087), (29, .bool ((!t1160) || (!t1166)))] ⟨rfl, HM⟩ (Sub.cons rfl (Sub.cons rfl (Sub.cons rfl Sub.nil)))
        · rintro _ w1172 ⟨rfl, HM⟩
          refine at_then ?_
          refine run_cond (b := ((!t1160) || (!t1166))) rfl (fun hb1173 => ?_) (fun hb1173 => ?_)
          · replace ho1034 := cond_t hb1173 ho1034
            refine run_seq ?_
            refine run_region rfl ?_
            refine ops_ex rfl (guard_none rfl) rfl rfl (ex_assign rfl rfl) ?_
            refine ops_nil ?_
            refine at_then ?_
            refine run_ret ?_
            refine at_then_ret ?_
            refine at_block_ret ?_
            refine at_then_ret ?_
            refine at_then_ret ?_
            refine at_block_ret ?_
            refine at_then_ret ?_
            have hR := Option.some.inj ho1034
            subst hR
            have hT := thn_inl H
            have hR := Option.some.inj hT
            subst hR
            exact at_ret1 rfl rfl ⟨_, rfl, rfl, HM⟩
          · replace ho1034 := cond_f hb1173 ho1034
            refine run_skip ?_
            refine at_then ?_
            refine run_seq ?_
            refine run_seq ?_
            obtain ⟨e1181, ho1034⟩ := chk_some ho1034
            obtain ⟨t1185, h1186, ho1034⟩ := bind_some ho1034
            refine run_region rfl ?_
            refine ops_ex rfl (guard_none rfl) rfl rfl (ex_move rfl rfl) ?_
            refine ops_ex rfl (guard_none rfl) rfl rfl (ex_move rfl rfl) ?_
            obtain ⟨kv1183, hc1182, hk1184⟩ : ∃ u, CellsAt _ (sb p0) (so p0 + (a1087).toNat * 8) [(.int .i64 ((gt x0 a1087).fRef.fTx)), (.int .i64 ((gt x0 a1087).fRef.fAt)), (.int .i64 ((gt x0 a1087).fOut.fValue)), u, (.int .i64 ((gt x0 a1087).fOut.fRule.fNeed)), (.int .i64 ((gt x0 a1087).fOut.fRule.fAfter)), (.int .i64 ((gt x0 a1087).fHeight)), (.bool ((gt x0 a1087).fMined))] ∧ RdS kInt _ u ((gt x0 a1087).fOut.fRule.fKeys) := rd_with1 hp0 e1181
            refine ops_ex rfl (guard_none rfl) rfl rfl (ex_indexAddr (d := kCoin) rfl rfl rfl Try.underlying25 tsz104 hp0 (idx_lo e1181) (idx_hi e1181)) ?_
            refine ops_ex rfl (guard_none rfl) rfl rfl (ex_fieldAddr (off' := so p0 + (a1087).toNat * 8 + 2) rfl rfl Try.underlying104 rfl tsz102 rfl) ?_
            refine ops_does rfl (guard_none rfl) rfl rfl (does_callk rfl callok129 rfl (spec_l4Out.calls (x0 := (gt x0 a1087).fOut) (CellsAt.sub (HM.at_ hc1182) 2 4 rfl) (HM.rd hk1184) h1186)) ?_
            rintro _ w1187 ⟨rfl, hn⟩
            replace HM : Mem w [] w1187 [] := HM.call hn
            refine ops_ex rfl (guard_none rfl) rfl rfl (ex_assign rfl rfl) ?_
            refine ops_nil ?_
            refine at_then ?_
            refine run_seq ?_
            refine run_region rfl ?_
            refine ops_ex rfl (guard_none rfl) rfl rfl (ex_move rfl rfl) ?_
            refine ops_ex rfl (guard_none rfl) rfl rfl (ex_neq rfl rfl rfl) ?_
            refine ops_nil ?_
            refine at_then ?_
            refine run_cond (b := (t1185 != 0)) rfl (fun hb1188 => ?_) (fun hb1188 => ?_)
            · replace ho1034 := cond_t hb1188 ho1034
              refine run_seq ?_
              refine run_region rfl ?_
              refine ops_ex rfl (guard_none rfl) rfl rfl (ex_move rfl rfl) ?_
              refine ops_ex rfl (guard_none rfl) rfl rfl (ex_assign rfl rfl) ?_
              refine ops_nil ?_
              refine at_then ?_
              refine run_ret ?_
              refine at_then_ret ?_
              refine at_block_ret ?_
              refine at_then_ret ?_
              refine at_then_ret ?_
              refine at_block_ret ?_
              refine at_then_ret ?_
              have hR := Option.some.inj ho1034
              subst hR
              have hT := thn_inl H
              have hR := Option.some.inj hT
              subst hR
              exact at_ret1 rfl rfl ⟨_, rfl, rfl, HM⟩
            · replace ho1034 := cond_f hb1188 ho1034
              refine run_skip ?_
              refine at_then ?_
              refine run_seq ?_
              obtain ⟨e1189, ho1034⟩ := chk_some ho1034
              obtain ⟨e1193, ho1034⟩ := chk_some ho1034
              obtain ⟨t1197, h1198, ho1034⟩ := bind_some ho1034
              refine run_meet (fun ρ_ w_ => ρ_ = [(0, p0), (3, .int .i64 a1087), (54, .bool ((decide (0 < a1087)) && (!t1197)))] ∧ Mem w [] w_ []) ?_ ?_
              · skip
                refine run_drawf (fun w_ => Mem w [] w_ []) [(0, true), (1, true), (2, true), (3, true), (4, true), (5, true), (6, true), (7, true), (8, true), (9, true), (10, true), (11, true), (12, true), (13, true), (14, false), (15, true), (16, true)] mixed rfl rfl (by kernel_rfl) ?_
                replace HM := HM.grow (fr_drew _)
                have hS := Mem.suf (M := []) HM
                refine drwp_take rfl (guard_none rfl) rfl rfl (fun w_ hS_ => (ex_move rfl rfl)) hS ?_
                refine drwp_take rfl (guard_none rfl) rfl rfl (fun w_ hS_ => (ex_gtr rfl rfl rfl)) hS ?_
                refine drwp_take rfl (guard_none rfl) rfl rfl (fun w_ hS_ => (ex_move rfl rfl)) hS ?_
                refine bool_cases (decide (0 < a1087)) (fun hg1199 => ?_) (fun hg1199 => ?_)
                · skip
                  refine drwp_take rfl (guard_on rfl rfl rfl hg1199) rfl rfl (fun w_ hS_ => (ex_move rfl rfl)) hS ?_
                  refine drwp_take rfl (guard_on rfl rfl rfl hg1199) rfl rfl (fun w_ hS_ => (ex_move rfl rfl)) hS ?_
                  refine drwp_take rfl (guard_on rfl rfl rfl hg1199) rfl rfl (fun w_ hS_ => (ex_sub rfl rfl rfl)) hS ?_
                  obtain ⟨kv1191, hc1190, hk1192⟩ : ∃ u, CellsAt _ (sb p0) (so p0 + (wrap64 (a1087 - 1)).toNat * 8) [(.int .i64 ((gt x0 (wrap64 (a1087 - 1))).fRef.fTx)), (.int .i64 ((gt x0 (wrap64 (a1087 - 1))).fRef.fAt)), (.int .i64 ((gt x0 (wrap64 (a1087 - 1))).fOut.fValue)), u, (.int .i64 ((gt x0 (wrap64 (a1087 - 1))).fOut.fRule.fNeed)), (.int .i64 ((gt x0 (wrap64 (a1087 - 1))).fOut.fRule.fAfter)), (.int .i64 ((gt x0 (wrap64 (a1087 - 1))).fHeight)), (.bool ((gt x0 (wrap64 (a1087 - 1))).fMined))] ∧ RdS kInt _ u ((gt x0 (wrap64 (a1087 - 1))).fOut.fRule.fKeys) := rd_with1 hp0 (or_t e1189 hg1199)
                  refine drwp_take rfl (guard_on rfl rfl rfl hg1199) rfl rfl (fun w_ hS_ => (ex_indexAddr (d := kCoin) rfl rfl rfl Try.underlying25 tsz104 hp0 (idx_lo (or_t e1189 hg1199)) (idx_hi (or_t e1189 hg1199)))) hS ?_
                  refine drwp_take rfl (guard_on rfl rfl rfl hg1199) rfl rfl (fun w_ hS_ => (ex_fieldAddr (off' := so p0 + (wrap64 (a1087 - 1)).toNat * 8) rfl rfl Try.underlying104 rfl tsz99 rfl)) hS ?_
                  refine drwp_take rfl (guard_on rfl rfl rfl hg1199) rfl rfl (fun w_ hS_ => (ex_loadN (cs := [(.int .i64 ((gt x0 (wrap64 (a1087 - 1))).fRef.fTx)), (.int .i64 ((gt x0 (wrap64 (a1087 - 1))).fRef.fAt))]) rfl rfl Try.underlying99 rfl tsz99 rfl ((hS_.at_ hc1190).sub 0 2 rfl))) hS ?_
                  refine drwp_take rfl (guard_on rfl rfl rfl hg1199) rfl rfl (fun w_ hS_ => (ex_move rfl rfl)) hS ?_
                  refine drwp_take rfl (guard_on rfl rfl rfl hg1199) rfl rfl (fun w_ hS_ => (ex_move rfl rfl)) hS ?_
                  obtain ⟨kv1195, hc1194, hk1196⟩ : ∃ u, CellsAt _ (sb p0) (so p0 + (a1087).toNat * 8) [(.int .i64 ((gt x0 a1087).fRef.fTx)), (.int .i64 ((gt x0 a1087).fRef.fAt)), (.int .i64 ((gt x0 a1087).fOut.fValue)), u, (.int .i64 ((gt x0 a1087).fOut.fRule.fNeed)), (.int .i64 ((gt x0 a1087).fOut.fRule.fAfter)), (.int .i64 ((gt x0 a1087).fHeight)), (.bool ((gt x0 a1087).fMined))] ∧ RdS kInt _ u ((gt x0 a1087).fOut.fRule.fKeys) := rd_with1 hp0 (or_t e1193 hg1199)
                  refine drwp_take rfl (guard_on rfl rfl rfl hg1199) rfl rfl (fun w_ hS_ => (ex_indexAddr (d := kCoin) rfl rfl rfl Try.underlying25 tsz104 hp0 (idx_lo (or_t e1193 hg1199)) (idx_hi (or_t e1193 hg1199)))) hS ?_
                  refine drwp_take rfl (guard_on rfl rfl rfl hg1199) rfl rfl (fun w_ hS_ => (ex_fieldAddr (off' := so p0 + (a1087).toNat * 8) rfl rfl Try.underlying104 rfl tsz99 rfl)) hS ?_
                  refine drwp_take rfl (guard_on rfl rfl rfl hg1199) rfl rfl (fun w_ hS_ => (ex_loadN (cs := [(.int .i64 ((gt x0 a1087).fRef.fTx)), (.int .i64 ((gt x0 a1087).fRef.fAt))]) rfl rfl Try.underlying99 rfl tsz99 rfl ((hS_.at_ hc1194).sub 0 2 rfl))) hS ?_
                  refine drwp_one rfl (guard_on rfl rfl rfl hg1199) rfl rfl (does_callk rfl callok130 rfl (spec_l4Ahead.calls (x0 := (gt x0 (wrap64 (a1087 - 1))).fRef) (x1 := (gt x0 a1087).fRef) (cond_t hg1199 h1198))) ?_
                  rintro _ w1200 ⟨rfl, hn⟩
                  replace HM : Mem w [] w1200 [] := HM.call hn
                  refine ⟨Mem.suf (M := []) HM, ?_⟩
                  have hS := Mem.suf (M := []) HM
                  refine drwp_take rfl (guard_on rfl rfl rfl hg1199) rfl rfl (fun w_ hS_ => (ex_not rfl rfl)) hS ?_
                  refine drwp_take (v := .bool ((decide (0 < a1087)) && (!t1197))) rfl (guard_none rfl) rfl rfl (fun w_ hS_ => (ex_pand_t rfl rfl hg1199 rfl)) hS ?_
                  refine drwp_done ?_
                  exact at_meet [(0, p0), (3, .int .i64 a1087), (54, .bool ((decide (0 < a1087)) && (!t1197)))] ⟨rfl, HM⟩ (Sub.cons rfl (Sub.cons rfl (Sub.cons rfl Sub.nil)))
                · skip
                  refine drwp_off rfl (guard_off rfl rfl rfl hg1199) rfl rfl hS ?_
                  refine drwp_off rfl (guard_off rfl rfl rfl hg1199) rfl rfl hS ?_
                  refine drwp_off rfl (guard_off rfl rfl rfl hg1199) rfl rfl hS ?_
                  refine drwp_off rfl (guard_off rfl rfl rfl hg1199) rfl rfl hS ?_
                  refine drwp_off rfl (guard_off rfl rfl rfl hg1199) rfl rfl hS ?_
                  refine drwp_off rfl (guard_off rfl rfl rfl hg1199) rfl rfl hS ?_
                  refine drwp_off rfl (guard_off rfl rfl rfl hg1199) rfl rfl hS ?_
                  refine drwp_off rfl (guard_off rfl rfl rfl hg1199) rfl rfl hS ?_
                  refine drwp_off rfl (guard_off rfl rfl rfl hg1199) rfl rfl hS ?_
                  refine drwp_off rfl (guard_off rfl rfl rfl hg1199) rfl rfl hS ?_
                  refine drwp_off rfl (guard_off rfl rfl rfl hg1199) rfl rfl hS ?_
                  refine drwp_off1 rfl (guard_off rfl rfl rfl hg1199) rfl rfl ⟨hS, ?_⟩
                  refine drwp_off rfl (guard_off rfl rfl rfl hg1199) rfl rfl hS ?_
                  have hg1201 : ((decide (0 < a1087)) && (!t1197)) = false := by simp only [hg1199, Bool.and_true, Bool.true_and, Bool.and_false, Bool.false_and, Bool.or_true, Bool.true_or, Bool.or_false, Bool.false_or, Bool.not_true, Bool.not_false, Bool.not_not]
                  refine drwp_take (v := .bool ((decide (0 < a1087)) && (!t1197))) rfl (guard_none rfl) rfl rfl (fun w_ hS_ => (ex_pand_f rfl rfl hg1199)) hS ?_
                  refine drwp_done ?_
                  exact at_meet [(0, p0), (3, .int .i64 a1087), (54, .bool ((decide (0 < a1087)) && (!t1197)))] ⟨rfl, HM⟩ (Sub.cons rfl (Sub.cons rfl (Sub.cons rfl Sub.nil)))
              · rintro _ w1202 ⟨rfl, HM⟩
                refine at_then ?_
                refine run_cond (b := ((decide (0 < a1087)) && (!t1197))) rfl (fun hb1203 => ?_) (fun hb1203 => ?_)
                · replace ho1034 := cond_t hb1203 ho1034
                  refine run_seq ?_
                  refine run_region rfl ?_
                  refine ops_ex rfl (guard_none rfl) rfl rfl (ex_assign rfl rfl) ?_
                  refine ops_nil ?_
                  refine at_then ?_
                  refine run_ret ?_
                  refine at_block_ret ?_
                  refine at_then_ret ?_
                  refine at_then_ret ?_
                  refine at_block_ret ?_
                  refine at_then_ret ?_
                  have hR := Option.some.inj ho1034
                  subst hR
                  have hT := thn_inl H
                  have hR := Option.some.inj hT
                  subst hR
                  exact at_ret1 rfl rfl ⟨_, rfl, rfl, HM⟩
                · replace ho1034 := cond_f hb1203 ho1034
                  refine run_skip ?_
                  refine at_block ?_
                  refine at_then ?_
                  refine run_region rfl ?_
                  refine ops_ex rfl (guard_none rfl) rfl rfl (ex_move rfl rfl) ?_
                  refine ops_ex rfl (guard_none rfl) rfl rfl (ex_add rfl rfl rfl) ?_
                  refine ops_ex rfl (guard_none rfl) rfl rfl (ex_assign rfl rfl) ?_
                  refine ops_nil ?_
                  exact at_again k1140 (ρ1 := [(0, p0), (3, .int .i64 (wrap64 (a1087 + 1)))]) (Nat.lt_succ_self _) ⟨_, ho1034, rfl, HM⟩ (Sub.cons rfl (Sub.cons rfl Sub.nil))
      · replace ho1034 := cond_f hb1142 ho1034
        refine run_exit ?_
        refine at_then_exit ?_
        refine at_then_exit ?_
        refine at_block_exit ?_
        exact at_mid (ρ' := []) ⟨(Option.some.inj ho1034), rfl, HM⟩ Sub.nil
    · rintro _ w1204 ⟨rfl, rfl, HM⟩
      replace H := (thn_inr H)
      refine run_seq ?_
      refine run_region rfl ?_
      refine ops_ex rfl (guard_none rfl) rfl rfl (ex_assign rfl rfl) ?_
      refine ops_nil ?_
      refine at_then ?_
      refine run_ret ?_
      have hR := Option.some.inj H
      subst hR
      exact at_ret1 rfl rfl ⟨_, rfl, rfl, HM⟩

def spec_CoinsFault.f (k : Nat) (x0 : List Coin) : Option Int := ((spec_l4Fault.f k x0).bind fun t1207 => some t1207)
theorem spec_CoinsFault.calls {k : Nat} {x0 : List Coin} {p0 : Value} {w : World} (hp0 : RdS kCoin w p0 x0) {r : Int} (H : spec_CoinsFault.f k x0 = some r) :
    Calls Try.prog 25 ([p0] : List Value).toArray w (fun e w_ => ∃ v, e = .returned v ∧ v = (.int .i64 r) ∧ Mem w [] w_ []) := by
  have HM := Mem.start w
  refine calls_run (N := 5) Try.func25 rfl rfl rfl rfl ?_
  unfold spec_CoinsFault.f at H
  refine run_seq ?_
  refine run_region rfl ?_
  refine ops_ex rfl (guard_none rfl) rfl rfl (ex_assign rfl rfl) ?_
  refine ops_nil ?_
  refine at_then ?_
  refine run_seq ?_
  obtain ⟨t1207, h1208, H⟩ := bind_some H
  refine run_region rfl ?_
  refine ops_ex rfl (guard_none rfl) rfl rfl (ex_move rfl rfl) ?_
  refine ops_does rfl (guard_none rfl) rfl rfl (does_callk rfl callok78 rfl (spec_l4Fault.calls (x0 := x0) (HM.rd hp0) h1208)) ?_
  rintro _ w1209 ⟨rfl, hn⟩
  replace HM : Mem w [] w1209 [] := HM.call hn
  refine ops_ex rfl (guard_none rfl) rfl rfl (ex_assign rfl rfl) ?_
  refine ops_nil ?_
  refine at_then ?_
  refine run_ret ?_
  have hR := Option.some.inj H
  subst hR
  exact at_ret1 rfl rfl ⟨_, rfl, rfl, HM⟩

def impl_within.f (k : Nat) (x0 : Int) (x1 : Int) (x2 : Int) : Option Bool := some ((decide (x1 ≤ x0)) && (decide (x0 ≤ x2)))
theorem impl_within.calls {k : Nat} {x0 : Int} {x1 : Int} {x2 : Int}  {w : World}  {r : Bool} (H : impl_within.f k x0 x1 x2 = some r) :
    Calls Try.prog 81 ([.int .i64 x0, .int .i64 x1, .int .i64 x2] : List Value).toArray w (fun e w_ => ∃ v, e = .returned v ∧ v = (.bool r) ∧ Mem w [] w_ []) := by
  have HM := Mem.start w
  refine calls_run (N := 15) Try.func81 rfl rfl rfl rfl ?_
  unfold impl_within.f at H
  refine run_seq ?_
  refine run_region rfl ?_
  refine ops_ex rfl (guard_none rfl) rfl rfl (ex_assign rfl rfl) ?_
  refine ops_nil ?_
  refine at_then ?_
  refine run_seq ?_
  refine run_meet (fun ρ_ w_ => ρ_ = [(6, .bool ((decide (x1 ≤ x0)) && (decide (x0 ≤ x2))))] ∧ Mem w [] w_ []) ?_ ?_
  · skip
    refine run_region rfl ?_
    refine ops_ex rfl (guard_none rfl) rfl rfl (ex_move rfl rfl) ?_
    refine ops_ex rfl (guard_none rfl) rfl rfl (ex_move rfl rfl) ?_
    refine ops_ex rfl (guard_none rfl) rfl rfl (ex_geq rfl rfl rfl) ?_
    refine ops_ex rfl (guard_none rfl) rfl rfl (ex_move rfl rfl) ?_
    refine bool_cases (decide (x1 ≤ x0)) (fun hg1229 => ?_) (fun hg1229 => ?_)
    · skip
      refine ops_ex rfl (guard_on rfl rfl rfl hg1229) rfl rfl (ex_move rfl rfl) ?_
      refine ops_ex rfl (guard_on rfl rfl rfl hg1229) rfl rfl (ex_move rfl rfl) ?_
      refine ops_ex rfl (guard_on rfl rfl rfl hg1229) rfl rfl (ex_leq rfl rfl rfl) ?_
      refine ops_ex (v := .bool ((decide (x1 ≤ x0)) && (decide (x0 ≤ x2)))) rfl (guard_none rfl) rfl rfl (ex_pand_t rfl rfl hg1229 rfl) ?_
      refine ops_ex rfl (guard_none rfl) rfl rfl (ex_assign rfl rfl) ?_
      refine ops_nil ?_
      exact at_meet [(6, .bool ((decide (x1 ≤ x0)) && (decide (x0 ≤ x2))))] ⟨rfl, HM⟩ (Sub.cons rfl Sub.nil)
    · skip
      refine ops_off rfl (guard_off rfl rfl rfl hg1229) rfl rfl ?_
      refine ops_off rfl (guard_off rfl rfl rfl hg1229) rfl rfl ?_
      refine ops_off rfl (guard_off rfl rfl rfl hg1229) rfl rfl ?_
      have hg1230 : ((decide (x1 ≤ x0)) && (decide (x0 ≤ x2))) = false := by simp only [hg1229, Bool.and_true, Bool.true_and, Bool.and_false, Bool.false_and, Bool.or_true, Bool.true_or, Bool.or_false, Bool.false_or, Bool.not_true, Bool.not_false, Bool.not_not]
      refine ops_ex (v := .bool ((decide (x1 ≤ x0)) && (decide (x0 ≤ x2)))) rfl (guard_none rfl) rfl rfl (ex_pand_f rfl rfl hg1229) ?_
      refine ops_ex rfl (guard_none rfl) rfl rfl (ex_assign rfl rfl) ?_
      refine ops_nil ?_
      exact at_meet [(6, .bool ((decide (x1 ≤ x0)) && (decide (x0 ≤ x2))))] ⟨rfl, HM⟩ (Sub.cons rfl Sub.nil)
  · rintro _ w1231 ⟨rfl, HM⟩
    refine at_then ?_
    refine run_ret ?_
    have hR := Option.some.inj H
    subst hR
    exact at_ret1 rfl rfl ⟨_, rfl, rfl, HM⟩

def impl_isId.f (k : Nat) (x0 : Int) : Option Bool := ((impl_within.f k x0 1 60).bind fun t1234 => some t1234)
theorem impl_isId.calls {k : Nat} {x0 : Int}  {w : World}  {r : Bool} (H : impl_isId.f k x0 = some r) :
    Calls Try.prog 131 ([.int .i64 x0] : List Value).toArray w (fun e w_ => ∃ v, e = .returned v ∧ v = (.bool r) ∧ Mem w [] w_ []) := by
  have HM := Mem.start w
  refine calls_run (N := 5) Try.func131 rfl rfl rfl rfl ?_
  unfold impl_isId.f at H
  refine run_seq ?_
  refine run_region rfl ?_
  refine ops_ex rfl (guard_none rfl) rfl rfl (ex_assign rfl rfl) ?_
  refine ops_nil ?_
  refine at_then ?_
  refine run_seq ?_
  obtain ⟨t1234, h1235, H⟩ := bind_some H
  refine run_region rfl ?_
  refine ops_ex rfl (guard_none rfl) rfl rfl (ex_move rfl rfl) ?_
  refine ops_does rfl (guard_none rfl) rfl rfl (does_callk rfl callok81 rfl (impl_within.calls (x0 := x0) (x1 := 1) (x2 := 60) h1235)) ?_
  rintro _ w1236 ⟨rfl, hn⟩
  replace HM : Mem w [] w1236 [] := HM.call hn
  refine ops_ex rfl (guard_none rfl) rfl rfl (ex_assign rfl rfl) ?_
  refine ops_nil ?_
  refine at_then ?_
  refine run_ret ?_
  have hR := Option.some.inj H
  subst hR
  exact at_ret1 rfl rfl ⟨_, rfl, rfl, HM⟩

def impl_isRef.f (k : Nat) (x0 : Ref) : Option Bool := ((impl_isId.f k x0.fTx).bind fun t1245 => ((bif t1245 then impl_within.f k x0.fAt 0 3 else some default).bind fun t1247 => some (t1245 && t1247)))
theorem impl_isRef.calls {k : Nat} {x0 : Ref}  {w : World}  {r : Bool} (H : impl_isRef.f k x0 = some r) :
    Calls Try.prog 79 ([.agg #[(.int .i64 x0.fTx), (.int .i64 x0.fAt)]] : List Value).toArray w (fun e w_ => ∃ v, e = .returned v ∧ v = (.bool r) ∧ Mem w [] w_ []) := by
  have HM := Mem.start w
  refine calls_run (N := 11) Try.func79 rfl rfl rfl rfl ?_
  unfold impl_isRef.f at H
  refine run_seq ?_
  refine run_region rfl ?_
  refine ops_does rfl (guard_none rfl) rfl rfl (does_box (cs := [.int .i64 x0.fTx, .int .i64 x0.fAt]) rfl rfl rfl HM) ?_
  rintro _ w1244 ⟨b1241, rfl, HM⟩
  refine ops_ex rfl (guard_none rfl) rfl rfl (ex_assign rfl rfl) ?_
  refine ops_nil ?_
  refine at_then ?_
  refine run_seq ?_
  obtain ⟨t1245, h1246, H⟩ := bind_some H
  obtain ⟨t1247, h1248, H⟩ := bind_some H
  refine run_meet (fun ρ_ w_ => ρ_ = [(2, .bool (t1245 && t1247))] ∧ Mem w [] w_ []) ?_ ?_
  · skip
    refine run_region rfl ?_
    refine ops_ex rfl (guard_none rfl) rfl rfl (ex_fieldAddr (off' := 0) rfl rfl Try.underlying99 rfl tsz2 rfl) ?_
    refine ops_ex rfl (guard_none rfl) rfl rfl (ex_load1 rfl rfl Try.underlying2 rfl ((HM.box_at 0 rfl) 0 _ rfl)) ?_
    refine ops_does rfl (guard_none rfl) rfl rfl (does_callk rfl callok131 rfl (impl_isId.calls (x0 := x0.fTx) h1246)) ?_
    rintro _ w1249 ⟨rfl, hn⟩
    replace HM : Mem w [] w1249 [box b1241 99 [.int .i64 x0.fTx, .int .i64 x0.fAt]] := HM.call hn
    refine ops_ex rfl (guard_none rfl) rfl rfl (ex_move rfl rfl) ?_
    refine bool_cases t1245 (fun hg1250 => ?_) (fun hg1250 => ?_)
    · skip
      refine ops_ex rfl (guard_on rfl rfl rfl hg1250) rfl rfl (ex_fieldAddr (off' := 1) rfl rfl Try.underlying99 rfl tsz2 rfl) ?_
      refine ops_ex rfl (guard_on rfl rfl rfl hg1250) rfl rfl (ex_load1 rfl rfl Try.underlying2 rfl ((HM.box_at 0 rfl) 1 _ rfl)) ?_
      refine ops_does rfl (guard_on rfl rfl rfl hg1250) rfl rfl (does_callk rfl callok81 rfl (impl_within.calls (x0 := x0.fAt) (x1 := 0) (x2 := 3) (cond_t hg1250 h1248))) ?_
      rintro _ w1251 ⟨rfl, hn⟩
      replace HM : Mem w [] w1251 [box b1241 99 [.int .i64 x0.fTx, .int .i64 x0.fAt]] := HM.call hn
      refine ops_ex (v := .bool (t1245 && t1247)) rfl (guard_none rfl) rfl rfl (ex_pand_t rfl rfl hg1250 rfl) ?_
      refine ops_ex rfl (guard_none rfl) rfl rfl (ex_assign rfl rfl) ?_
      refine ops_nil ?_
      replace HM := (HM.front 0 rfl rfl).drop
      exact at_meet [(2, .bool (t1245 && t1247))] ⟨rfl, HM⟩ (Sub.cons rfl Sub.nil)
    · skip
      refine ops_off rfl (guard_off rfl rfl rfl hg1250) rfl rfl ?_
      refine ops_off rfl (guard_off rfl rfl rfl hg1250) rfl rfl ?_
      refine ops_off rfl (guard_off rfl rfl rfl hg1250) rfl rfl ?_
      have hg1252 : (t1245 && t1247) = false := by simp only [hg1250, Bool.and_true, Bool.true_and, Bool.and_false, Bool.false_and, Bool.or_true, Bool.true_or, Bool.or_false, Bool.false_or, Bool.not_true, Bool.not_false, Bool.not_not]
      refine ops_ex (v := .bool (t1245 && t1247)) rfl (guard_none rfl) rfl rfl (ex_pand_f rfl rfl hg1250) ?_
      refine ops_ex rfl (guard_none rfl) rfl rfl (ex_assign rfl rfl) ?_
      refine ops_nil ?_
      replace HM := (HM.front 0 rfl rfl).drop
      exact at_meet [(2, .bool (t1245 && t1247))] ⟨rfl, HM⟩ (Sub.cons rfl Sub.nil)
  · rintro _ w1253 ⟨rfl, HM⟩
    refine at_then ?_
    refine run_ret ?_
    have hR := Option.some.inj H
    subst hR
    exact at_ret1 rfl rfl ⟨_, rfl, rfl, HM⟩
end Go.Proofs.Ytoiacoiccpiciaa.Zk
