/- What functions of the program compute, each as a plain function, and that they do. Conditions: as each theorem states them. -/
import Derived.Test.YtigojhglkilodaaOwnedByZkF0
namespace Go.Proofs.Ytigojhglkilodaa.Zk
open Go Go.RowKit Go.IntWalk Go.Proofs
set_option linter.unusedVariables false
set_option linter.unusedSimpArgs false
set_option maxRecDepth 100000
set_option maxHeartbeats 4000000
def spec_l2Height.f (k : Nat) (x0 : Int) : Option Bool := ((spec_l1In.f k x0 0 999).bind fun t518 => some t518)
theorem spec_l2Height.calls {k : Nat} {x0 : Int}  {w : World}  {r : Bool} (H : spec_l2Height.f k x0 = some r) :
    Calls Try.prog 100 ([.int .i64 x0] : List Value).toArray w (fun e w_ => ∃ v, e = .returned v ∧ v = (.bool r) ∧ Mem w [] w_ []) := by
  have HM := Mem.start w
  refine calls_run (N := 5) Try.func100 rfl rfl rfl rfl ?_
  unfold spec_l2Height.f at H
  refine run_seq ?_
  refine run_region rfl ?_
  refine ops_ex rfl (guard_none rfl) rfl rfl (ex_assign rfl rfl) ?_
  refine ops_nil ?_
  refine at_then ?_
  refine run_seq ?_
  obtain ⟨t518, h519, H⟩ := bind_some H
  refine run_region rfl ?_
  refine ops_ex rfl (guard_none rfl) rfl rfl (ex_move rfl rfl) ?_
  refine ops_does rfl (guard_none rfl) rfl rfl (does_callk rfl callok88 rfl (spec_l1In.calls (x0 := x0) (x1 := 0) (x2 := 999) h519)) ?_
  rintro _ w520 ⟨rfl, hn⟩
  replace HM : Mem w [] w520 [] := HM.call hn
  refine ops_ex rfl (guard_none rfl) rfl rfl (ex_assign rfl rfl) ?_
  refine ops_nil ?_
  refine at_then ?_
  refine run_ret ?_
  have hR := Option.some.inj H
  subst hR
  exact at_ret1 rfl rfl ⟨_, rfl, rfl, HM⟩

def spec_l1Key.f (k : Nat) (x0 : Int) : Option Bool := ((spec_l1In.f k x0 1 999).bind fun t558 => some t558)
theorem spec_l1Key.calls {k : Nat} {x0 : Int}  {w : World}  {r : Bool} (H : spec_l1Key.f k x0 = some r) :
    Calls Try.prog 107 ([.int .i64 x0] : List Value).toArray w (fun e w_ => ∃ v, e = .returned v ∧ v = (.bool r) ∧ Mem w [] w_ []) := by
  have HM := Mem.start w
  refine calls_run (N := 5) Try.func107 rfl rfl rfl rfl ?_
  unfold spec_l1Key.f at H
  refine run_seq ?_
  refine run_region rfl ?_
  refine ops_ex rfl (guard_none rfl) rfl rfl (ex_assign rfl rfl) ?_
  refine ops_nil ?_
  refine at_then ?_
  refine run_seq ?_
  obtain ⟨t558, h559, H⟩ := bind_some H
  refine run_region rfl ?_
  refine ops_ex rfl (guard_none rfl) rfl rfl (ex_move rfl rfl) ?_
  refine ops_does rfl (guard_none rfl) rfl rfl (does_callk rfl callok88 rfl (spec_l1In.calls (x0 := x0) (x1 := 1) (x2 := 999) h559)) ?_
  rintro _ w560 ⟨rfl, hn⟩
  replace HM : Mem w [] w560 [] := HM.call hn
  refine ops_ex rfl (guard_none rfl) rfl rfl (ex_assign rfl rfl) ?_
  refine ops_nil ?_
  refine at_then ?_
  refine run_ret ?_
  have hR := Option.some.inj H
  subst hR
  exact at_ret1 rfl rfl ⟨_, rfl, rfl, HM⟩

def spec_l2Fault.l0 (x0 : Rule) : Nat → Int → Option (Int ⊕ Unit)
  | 0, _ => none
  | k + 1, a644 => (bif (decide (a644 < (x0.fKeys.length : Int))) then (chk (idxOk a644 x0.fKeys.length) ((spec_l1Key.f k (gt x0.fKeys a644)).bind fun t656 => (bif !t656 then some (.inl 3) else spec_l2Fault.l0 x0 k (wrap64 (a644 + 1))))) else some (.inr ()))
theorem spec_l2Fault.l0_z (x0 : Rule) (a644 : Int) : spec_l2Fault.l0 x0 0 a644 = none := rfl
theorem spec_l2Fault.l0_s (x0 : Rule) (k : Nat) (a644 : Int) : spec_l2Fault.l0 x0 (k + 1) a644 = (bif (decide (a644 < (x0.fKeys.length : Int))) then (chk (idxOk a644 x0.fKeys.length) ((spec_l1Key.f k (gt x0.fKeys a644)).bind fun t656 => (bif !t656 then some (.inl 3) else spec_l2Fault.l0 x0 k (wrap64 (a644 + 1))))) else some (.inr ())) := rfl
def spec_l2Fault.l1 (x0 : Rule) : Nat → Int → Option (Int ⊕ Unit)
  | 0, _ => none
  | k + 1, a703 => (bif (decide (a703 < (x0.fKeys.length : Int))) then (chk (idxOk a703 x0.fKeys.length) (chk (idxOk (wrap64 (a703 - 1)) x0.fKeys.length) (bif (decide ((gt x0.fKeys a703) ≤ (gt x0.fKeys (wrap64 (a703 - 1))))) then some (.inl 1) else spec_l2Fault.l1 x0 k (wrap64 (a703 + 1))))) else some (.inr ()))
theorem spec_l2Fault.l1_z (x0 : Rule) (a703 : Int) : spec_l2Fault.l1 x0 0 a703 = none := rfl
theorem spec_l2Fault.l1_s (x0 : Rule) (k : Nat) (a703 : Int) : spec_l2Fault.l1 x0 (k + 1) a703 = (bif (decide (a703 < (x0.fKeys.length : Int))) then (chk (idxOk a703 x0.fKeys.length) (chk (idxOk (wrap64 (a703 - 1)) x0.fKeys.length) (bif (decide ((gt x0.fKeys a703) ≤ (gt x0.fKeys (wrap64 (a703 - 1))))) then some (.inl 1) else spec_l2Fault.l1 x0 k (wrap64 (a703 + 1))))) else some (.inr ())) := rfl
def spec_l2Fault.f (k : Nat) (x0 : Rule) : Option Int := ((spec_l1In.f k (x0.fKeys.length : Int) 1 3).bind fun t613 => (bif !t613 then some 2 else ((spec_l2Fault.l0 x0 k 0).bind fun o636 => thn o636 (fun r => some r) (fun _ => ((spec_l1In.f k x0.fNeed 1 (x0.fKeys.length : Int)).bind fun t666 => ((bif (!(!t666)) then spec_l2Height.f k x0.fAfter else some default).bind fun t668 => (bif ((!t666) || (!t668)) then some 3 else ((spec_l2Fault.l1 x0 k 1).bind fun o695 => thn o695 (fun r => some r) (fun _ => some 0)))))))))
theorem spec_l2Fault.calls {k : Nat} {x0 : Rule} {b0 f0 : Nat} {p0_0 : Value} {w : World} (hc0 : CellsAt w b0 f0 [p0_0, .int .i64 x0.fNeed, .int .i64 x0.fAfter]) (hp0_0 : RdS kInt w p0_0 x0.fKeys) {r : Int} (H : spec_l2Fault.f k x0 = some r) :
    Calls Try.prog 152 ([.pointer (some ⟨b0, f0, none⟩)] : List Value).toArray w (fun e w_ => ∃ v, e = .returned v ∧ v = (.int .i64 r) ∧ Mem w [] w_ []) := by
  have HM := Mem.start w
  refine calls_run (N := 72) Try.func152 rfl rfl rfl rfl ?_
  unfold spec_l2Fault.f at H
  refine run_seq ?_
  refine run_region rfl ?_
  refine ops_ex rfl (guard_none rfl) rfl rfl (ex_assign rfl rfl) ?_
  refine ops_nil ?_
  refine at_then ?_
  refine run_seq ?_
  refine run_region rfl ?_
  refine ops_ex rfl (guard_none rfl) rfl rfl (ex_move rfl rfl) ?_
  refine ops_ex rfl (guard_none rfl) rfl rfl (ex_nilCheck rfl rfl) ?_
  refine ops_ex rfl (guard_none rfl) rfl rfl (ex_fieldAddr (off' := f0) rfl rfl Try.underlying119 rfl tsz111 rfl) ?_
  refine ops_ex rfl (guard_none rfl) rfl rfl (ex_load1 rfl rfl Try.underlying111 rfl ((HM.at_ hc0) 0 _ rfl)) ?_
  refine ops_ex rfl (guard_none rfl) rfl rfl (ex_len (d := kInt) (xs := x0.fKeys) rfl rfl Try.underlying111 hp0_0) ?_
  refine ops_ex rfl (guard_none rfl) rfl rfl (ex_assign rfl rfl) ?_
  refine ops_nil ?_
  refine at_then ?_
  refine run_seq ?_
  refine run_seq ?_
  obtain ⟨t613, h614, H⟩ := bind_some H
  refine run_region rfl ?_
  refine ops_ex rfl (guard_none rfl) rfl rfl (ex_move rfl rfl) ?_
  refine ops_does rfl (guard_none rfl) rfl rfl (does_callk rfl callok88 rfl (spec_l1In.calls (x0 := (x0.fKeys.length : Int)) (x1 := 1) (x2 := 3) h614)) ?_
  rintro _ w615 ⟨rfl, hn⟩
  replace HM : Mem w [] w615 [] := HM.call hn
  refine ops_ex rfl (guard_none rfl) rfl rfl (ex_not rfl rfl) ?_
  refine ops_nil ?_
  refine at_then ?_
  refine run_cond (b := !t613) rfl (fun hb616 => ?_) (fun hb616 => ?_)
  · replace H := cond_t hb616 H
    refine run_seq ?_
    refine run_region rfl ?_
    refine ops_ex rfl (guard_none rfl) rfl rfl (ex_assign rfl rfl) ?_
    refine ops_nil ?_
    refine at_then ?_
    refine run_ret ?_
    refine at_then_ret ?_
    have hR := Option.some.inj H
    subst hR
    exact at_ret1 rfl rfl ⟨_, rfl, rfl, HM⟩
  · replace H := cond_f hb616 H
    refine run_skip ?_
    refine at_then ?_
    obtain ⟨o636, ho637, H⟩ := bind_some H
    refine run_mid (fun ρ_ w_ => Sum.inr () = o636 ∧ ρ_ = [(0, .pointer (some ⟨b0, f0, none⟩)), (3, .int .i64 (x0.fKeys.length : Int))] ∧ Mem w [] w_ []) ?_ ?_
    · skip
      refine run_seq ?_
      refine run_region rfl ?_
      refine ops_ex rfl (guard_none rfl) rfl rfl (ex_assign rfl rfl) ?_
      refine ops_nil ?_
      refine at_then ?_
      refine run_block ?_
      refine run_loop (fun k_ ρ_ w_ => ∃ a644 : Int, spec_l2Fault.l0 x0 k_ a644 = some o636 ∧ ρ_ = [(0, .pointer (some ⟨b0, f0, none⟩)), (3, .int .i64 (x0.fKeys.length : Int)), (4, .int .i64 a644)] ∧ Mem w [] w_ []) k (ρ1 := [(0, .pointer (some ⟨b0, f0, none⟩)), (3, .int .i64 (x0.fKeys.length : Int)), (4, .int .i64 0)]) ⟨_, ho637, rfl, HM⟩ (Sub.cons rfl (Sub.cons rfl (Sub.cons rfl Sub.nil))) ?_
      clear HM ho637
      rintro k651 _ w652 ⟨a644, ho637, rfl, HM⟩
      obtain _ | k651 := k651
      · exact nomatch ((spec_l2Fault.l0_z x0 a644).symm.trans ho637)
      replace ho637 := (spec_l2Fault.l0_s x0 k651 a644).symm.trans ho637
      refine run_seq ?_
      refine run_seq ?_
      refine run_region rfl ?_
      refine ops_ex rfl (guard_none rfl) rfl rfl (ex_move rfl rfl) ?_
      refine ops_ex rfl (guard_none rfl) rfl rfl (ex_move rfl rfl) ?_
      refine ops_ex rfl (guard_none rfl) rfl rfl (ex_nilCheck rfl rfl) ?_
      refine ops_ex rfl (guard_none rfl) rfl rfl (ex_fieldAddr (off' := f0) rfl rfl Try.underlying119 rfl tsz111 rfl) ?_
      refine ops_ex rfl (guard_none rfl) rfl rfl (ex_load1 rfl rfl Try.underlying111 rfl ((HM.at_ hc0) 0 _ rfl)) ?_
      refine ops_ex rfl (guard_none rfl) rfl rfl (ex_len (d := kInt) (xs := x0.fKeys) rfl rfl Try.underlying111 hp0_0) ?_
      refine ops_ex rfl (guard_none rfl) rfl rfl (ex_lss rfl rfl rfl) ?_
      refine ops_nil ?_
      refine at_then ?_
      refine run_cond (b := (decide (a644 < (x0.fKeys.length : Int)))) rfl (fun hb653 => ?_) (fun hb653 => ?_)
      · replace ho637 := cond_t hb653 ho637
        refine run_skip ?_
        refine at_then ?_
        refine run_seq ?_
        refine run_block ?_
        refine run_seq ?_
        obtain ⟨e654, ho637⟩ := chk_some ho637
        obtain ⟨t656, h657, ho637⟩ := bind_some ho637
        refine run_region rfl ?_
        refine ops_ex rfl (guard_none rfl) rfl rfl (ex_move rfl rfl) ?_
        refine ops_ex rfl (guard_none rfl) rfl rfl (ex_nilCheck rfl rfl) ?_
        refine ops_ex rfl (guard_none rfl) rfl rfl (ex_fieldAddr (off' := f0) rfl rfl Try.underlying119 rfl tsz111 rfl) ?_
        refine ops_ex rfl (guard_none rfl) rfl rfl (ex_load1 rfl rfl Try.underlying111 rfl ((HM.at_ hc0) 0 _ rfl)) ?_
        refine ops_ex rfl (guard_none rfl) rfl rfl (ex_move rfl rfl) ?_
        have hc655 : CellsAt _ (sb p0_0) (so p0_0 + (a644).toNat * 1) [(.int .i64 (gt x0.fKeys a644))] := rd_plain hp0_0 e654
        refine ops_ex rfl (guard_none rfl) rfl rfl (ex_indexAddr (d := kInt) rfl rfl rfl Try.underlying111 tsz2 hp0_0 (idx_lo e654) (idx_hi e654)) ?_
        refine ops_ex rfl (guard_none rfl) rfl rfl (ex_load1 rfl rfl Try.underlying2 rfl ((HM.at_ hc655) 0 _ rfl)) ?_
        refine ops_does rfl (guard_none rfl) rfl rfl (does_callk rfl callok107 rfl (spec_l1Key.calls (x0 := (gt x0.fKeys a644)) h657)) ?_
        rintro _ w658 ⟨rfl, hn⟩
        replace HM : Mem w [] w658 [] := HM.call hn
        refine ops_ex rfl (guard_none rfl) rfl rfl (ex_not rfl rfl) ?_
        refine ops_nil ?_
        refine at_then ?_
        refine run_cond (b := !t656) rfl (fun hb659 => ?_) (fun hb659 => ?_)
        · replace ho637 := cond_t hb659 ho637
          refine run_seq ?_
          refine run_region rfl ?_
          refine ops_ex rfl (guard_none rfl) rfl rfl (ex_assign rfl rfl) ?_
          refine ops_nil ?_
          refine at_then ?_
          refine run_ret ?_
          refine at_block_ret ?_
          refine at_then_ret ?_
          refine at_then_ret ?_
          refine at_block_ret ?_
          refine at_then_ret ?_
          have hR := Option.some.inj ho637
          subst hR
          have hT := thn_inl H
          have hR := Option.some.inj hT
          subst hR
          exact at_ret1 rfl rfl ⟨_, rfl, rfl, HM⟩
        · replace ho637 := cond_f hb659 ho637
          refine run_skip ?_
          refine at_block ?_
          refine at_then ?_
          refine run_region rfl ?_
          refine ops_ex rfl (guard_none rfl) rfl rfl (ex_move rfl rfl) ?_
          refine ops_ex rfl (guard_none rfl) rfl rfl (ex_add rfl rfl rfl) ?_
          refine ops_ex rfl (guard_none rfl) rfl rfl (ex_assign rfl rfl) ?_
          refine ops_nil ?_
          exact at_again k651 (ρ1 := [(0, .pointer (some ⟨b0, f0, none⟩)), (3, .int .i64 (x0.fKeys.length : Int)), (4, .int .i64 (wrap64 (a644 + 1)))]) (Nat.lt_succ_self _) ⟨_, ho637, rfl, HM⟩ (Sub.cons rfl (Sub.cons rfl (Sub.cons rfl Sub.nil)))
      · replace ho637 := cond_f hb653 ho637
        refine run_exit ?_
        refine at_then_exit ?_
        refine at_then_exit ?_
        refine at_block_exit ?_
        exact at_mid (ρ' := [(0, .pointer (some ⟨b0, f0, none⟩)), (3, .int .i64 (x0.fKeys.length : Int))]) ⟨(Option.some.inj ho637), rfl, HM⟩ (Sub.cons rfl (Sub.cons rfl Sub.nil))
    · rintro _ w660 ⟨rfl, rfl, HM⟩
      replace H := (thn_inr H)
      refine run_seq ?_
      refine run_seq ?_
      obtain ⟨t666, h667, H⟩ := bind_some H
      obtain ⟨t668, h669, H⟩ := bind_some H
      refine run_meet (fun ρ_ w_ => ρ_ = [(0, .pointer (some ⟨b0, f0, none⟩)), (46, .bool ((!t666) || (!t668)))] ∧ Mem w [] w_ []) ?_ ?_
      · skip
        refine run_region rfl ?_
        refine ops_ex rfl (guard_none rfl) rfl rfl (ex_move rfl rfl) ?_
        refine ops_ex rfl (guard_none rfl) rfl rfl (ex_nilCheck rfl rfl) ?_
        refine ops_ex rfl (guard_none rfl) rfl rfl (ex_fieldAddr (off' := f0 + 1) rfl rfl Try.underlying119 rfl tsz2 rfl) ?_
        refine ops_ex rfl (guard_none rfl) rfl rfl (ex_load1 rfl rfl Try.underlying2 rfl ((HM.at_ hc0) 1 _ rfl)) ?_
        refine ops_ex rfl (guard_none rfl) rfl rfl (ex_move rfl rfl) ?_
        refine ops_does rfl (guard_none rfl) rfl rfl (does_callk rfl callok88 rfl (spec_l1In.calls (x0 := x0.fNeed) (x1 := 1) (x2 := (x0.fKeys.length : Int)) h667)) ?_
        rintro _ w670 ⟨rfl, hn⟩
        replace HM : Mem w [] w670 [] := HM.call hn
        refine ops_ex rfl (guard_none rfl) rfl rfl (ex_not rfl rfl) ?_
        refine ops_ex rfl (guard_none rfl) rfl rfl (ex_move rfl rfl) ?_
        refine bool_cases (!t666) (fun hg671 => ?_) (fun hg671 => ?_)
        · skip
          refine ops_off rfl (guard_off rfl rfl rfl hg671) rfl rfl ?_
          refine ops_off rfl (guard_off rfl rfl rfl hg671) rfl rfl ?_
          refine ops_off rfl (guard_off rfl rfl rfl hg671) rfl rfl ?_
          refine ops_off rfl (guard_off rfl rfl rfl hg671) rfl rfl ?_
          refine ops_off rfl (guard_off rfl rfl rfl hg671) rfl rfl ?_
          refine ops_off rfl (guard_off rfl rfl rfl hg671) rfl rfl ?_
          have hg672 : ((!t666) || (!t668)) = true := by simp only [hg671, Bool.and_true, Bool.true_and, Bool.and_false, Bool.false_and, Bool.or_true, Bool.true_or, Bool.or_false, Bool.false_or, Bool.not_true, Bool.not_false, Bool.not_not]
          refine ops_ex (v := .bool ((!t666) || (!t668))) rfl (guard_none rfl) rfl rfl (ex_por_t rfl rfl hg671) ?_
          refine ops_nil ?_
          exact at_meet [(0, .pointer (some ⟨b0, f0, none⟩)), (46, .bool ((!t666) || (!t668)))] ⟨rfl, HM⟩ (Sub.cons rfl (Sub.cons rfl Sub.nil))
        · skip
          refine ops_ex rfl (guard_on rfl rfl rfl hg671) rfl rfl (ex_move rfl rfl) ?_
          refine ops_ex rfl (guard_on rfl rfl rfl hg671) rfl rfl (ex_nilCheck rfl rfl) ?_
          refine ops_ex rfl (guard_on rfl rfl rfl hg671) rfl rfl (ex_fieldAddr (off' := f0 + 2) rfl rfl Try.underlying119 rfl tsz2 rfl) ?_
          refine ops_ex rfl (guard_on rfl rfl rfl hg671) rfl rfl (ex_load1 rfl rfl Try.underlying2 rfl ((HM.at_ hc0) 2 _ rfl)) ?_
          refine ops_does rfl (guard_on rfl rfl rfl hg671) rfl rfl (does_callk rfl callok100 rfl (spec_l2Height.calls (x0 := x0.fAfter) (cond_t (not_mk hg671) h669))) ?_
          rintro _ w673 ⟨rfl, hn⟩
          replace HM : Mem w [] w673 [] := HM.call hn
          refine ops_ex rfl (guard_on rfl rfl rfl hg671) rfl rfl (ex_not rfl rfl) ?_
          refine ops_ex (v := .bool ((!t666) || (!t668))) rfl (guard_none rfl) rfl rfl (ex_por_f rfl rfl hg671 rfl) ?_
          refine ops_nil ?_
          exact at_meet [(0, .pointer (some ⟨b0, f0, none⟩)), (46, .bool ((!t666) || (!t668)))] ⟨rfl, HM⟩ (Sub.cons rfl (Sub.cons rfl Sub.nil))
      · rintro _ w674 ⟨rfl, HM⟩
        refine at_then ?_
        refine run_cond (b := ((!t666) || (!t668))) rfl (fun hb675 => ?_) (fun hb675 => ?_)
        · replace H := cond_t hb675 H
          refine run_seq ?_
          refine run_region rfl ?_
          refine ops_ex rfl (guard_none rfl) rfl rfl (ex_assign rfl rfl) ?_
          refine ops_nil ?_
          refine at_then ?_
          refine run_ret ?_
          refine at_then_ret ?_
          have hR := Option.some.inj H
          subst hR
          exact at_ret1 rfl rfl ⟨_, rfl, rfl, HM⟩
        · replace H := cond_f hb675 H
          refine run_skip ?_
          refine at_then ?_
          obtain ⟨o695, ho696, H⟩ := bind_some H
          refine run_mid (fun ρ_ w_ => Sum.inr () = o695 ∧ ρ_ = [] ∧ Mem w [] w_ []) ?_ ?_
          · skip
            refine run_seq ?_
            refine run_region rfl ?_
            refine ops_ex rfl (guard_none rfl) rfl rfl (ex_assign rfl rfl) ?_
            refine ops_nil ?_
            refine at_then ?_
            refine run_block ?_
            refine run_loop (fun k_ ρ_ w_ => ∃ a703 : Int, spec_l2Fault.l1 x0 k_ a703 = some o695 ∧ ρ_ = [(0, .pointer (some ⟨b0, f0, none⟩)), (5, .int .i64 a703)] ∧ Mem w [] w_ []) k (ρ1 := [(0, .pointer (some ⟨b0, f0, none⟩)), (5, .int .i64 1)]) ⟨_, ho696, rfl, HM⟩ (Sub.cons rfl (Sub.cons rfl Sub.nil)) ?_
            clear HM ho696
            rintro k710 _ w711 ⟨a703, ho696, rfl, HM⟩
            obtain _ | k710 := k710
            · exact nomatch ((spec_l2Fault.l1_z x0 a703).symm.trans ho696)
            replace ho696 := (spec_l2Fault.l1_s x0 k710 a703).symm.trans ho696
            refine run_seq ?_
            refine run_seq ?_
            refine run_region rfl ?_
            refine ops_ex rfl (guard_none rfl) rfl rfl (ex_move rfl rfl) ?_
            refine ops_ex rfl (guard_none rfl) rfl rfl (ex_move rfl rfl) ?_
            refine ops_ex rfl (guard_none rfl) rfl rfl (ex_nilCheck rfl rfl) ?_
            refine ops_ex rfl (guard_none rfl) rfl rfl (ex_fieldAddr (off' := f0) rfl rfl Try.underlying119 rfl tsz111 rfl) ?_
            refine ops_ex rfl (guard_none rfl) rfl rfl (ex_load1 rfl rfl Try.underlying111 rfl ((HM.at_ hc0) 0 _ rfl)) ?_
            refine ops_ex rfl (guard_none rfl) rfl rfl (ex_len (d := kInt) (xs := x0.fKeys) rfl rfl Try.underlying111 hp0_0) ?_
            refine ops_ex rfl (guard_none rfl) rfl rfl (ex_lss rfl rfl rfl) ?_
            refine ops_nil ?_
            refine at_then ?_
            refine run_cond (b := (decide (a703 < (x0.fKeys.length : Int)))) rfl (fun hb712 => ?_) (fun hb712 => ?_)
            · replace ho696 := cond_t hb712 ho696
              refine run_skip ?_
              refine at_then ?_
              refine run_seq ?_
              refine run_block ?_
              refine run_seq ?_
              obtain ⟨e713, ho696⟩ := chk_some ho696
              obtain ⟨e715, ho696⟩ := chk_some ho696
              refine run_drawf (fun w_ => Mem w [] w_ []) [(0, true), (1, true), (2, true), (3, true), (4, true), (5, true), (6, true), (7, true), (8, true), (9, true), (10, true), (11, true), (12, true), (13, true), (14, true), (15, true)] mixed rfl rfl (by kernel_rfl) ?_
              replace HM := HM.grow (fr_drew _)
              have hS := Mem.suf (M := []) HM
              refine drwp_take rfl (guard_none rfl) rfl rfl (fun w_ hS_ => (ex_move rfl rfl)) hS ?_
              refine drwp_take rfl (guard_none rfl) rfl rfl (fun w_ hS_ => (ex_nilCheck rfl rfl)) hS ?_
              refine drwp_take rfl (guard_none rfl) rfl rfl (fun w_ hS_ => (ex_fieldAddr (off' := f0) rfl rfl Try.underlying119 rfl tsz111 rfl)) hS ?_
              refine drwp_take rfl (guard_none rfl) rfl rfl (fun w_ hS_ => (ex_load1 rfl rfl Try.underlying111 rfl ((hS_.at_ hc0) 0 _ rfl))) hS ?_
              refine drwp_take rfl (guard_none rfl) rfl rfl (fun w_ hS_ => (ex_move rfl rfl)) hS ?_
              have hc714 : CellsAt _ (sb p0_0) (so p0_0 + (a703).toNat * 1) [(.int .i64 (gt x0.fKeys a703))] := rd_plain hp0_0 e713
              refine drwp_take rfl (guard_none rfl) rfl rfl (fun w_ hS_ => (ex_indexAddr (d := kInt) rfl rfl rfl Try.underlying111 tsz2 hp0_0 (idx_lo e713) (idx_hi e713))) hS ?_
              refine drwp_take rfl (guard_none rfl) rfl rfl (fun w_ hS_ => (ex_load1 rfl rfl Try.underlying2 rfl ((hS_.at_ hc714) 0 _ rfl))) hS ?_
              refine drwp_take rfl (guard_none rfl) rfl rfl (fun w_ hS_ => (ex_move rfl rfl)) hS ?_
              refine drwp_take rfl (guard_none rfl) rfl rfl (fun w_ hS_ => (ex_nilCheck rfl rfl)) hS ?_
              refine drwp_take rfl (guard_none rfl) rfl rfl (fun w_ hS_ => (ex_fieldAddr (off' := f0) rfl rfl Try.underlying119 rfl tsz111 rfl)) hS ?_
              refine drwp_take rfl (guard_none rfl) rfl rfl (fun w_ hS_ => (ex_load1 rfl rfl Try.underlying111 rfl ((hS_.at_ hc0) 0 _ rfl))) hS ?_
              refine drwp_take rfl (guard_none rfl) rfl rfl (fun w_ hS_ => (ex_move rfl rfl)) hS ?_
              refine drwp_take rfl (guard_none rfl) rfl rfl (fun w_ hS_ => (ex_sub rfl rfl rfl)) hS ?_
              have hc716 : CellsAt _ (sb p0_0) (so p0_0 + (wrap64 (a703 - 1)).toNat * 1) [(.int .i64 (gt x0.fKeys (wrap64 (a703 - 1))))] := rd_plain hp0_0 e715
              refine drwp_take rfl (guard_none rfl) rfl rfl (fun w_ hS_ => (ex_indexAddr (d := kInt) rfl rfl rfl Try.underlying111 tsz2 hp0_0 (idx_lo e715) (idx_hi e715))) hS ?_
              refine drwp_take rfl (guard_none rfl) rfl rfl (fun w_ hS_ => (ex_load1 rfl rfl Try.underlying2 rfl ((hS_.at_ hc716) 0 _ rfl))) hS ?_
              refine drwp_take rfl (guard_none rfl) rfl rfl (fun w_ hS_ => (ex_leq rfl rfl rfl)) hS ?_
              refine drwp_done ?_
              refine at_then ?_
              refine run_cond (b := (decide ((gt x0.fKeys a703) ≤ (gt x0.fKeys (wrap64 (a703 - 1)))))) rfl (fun hb717 => ?_) (fun hb717 => ?_)
              · replace ho696 := cond_t hb717 ho696
                refine run_seq ?_
                refine run_region rfl ?_
                refine ops_ex rfl (guard_none rfl) rfl rfl (ex_assign rfl rfl) ?_
                refine ops_nil ?_
                refine at_then ?_
                refine run_ret ?_
                refine at_block_ret ?_
                refine at_then_ret ?_
                refine at_then_ret ?_
                refine at_block_ret ?_
                refine at_then_ret ?_
                have hR := Option.some.inj ho696
                subst hR
                have hT := thn_inl H
                have hR := Option.some.inj hT
                subst hR
                exact at_ret1 rfl rfl ⟨_, rfl, rfl, HM⟩
              · replace ho696 := cond_f hb717 ho696
                refine run_skip ?_
                refine at_block ?_
                refine at_then ?_
                refine run_region rfl ?_
                refine ops_ex rfl (guard_none rfl) rfl rfl (ex_move rfl rfl) ?_
                refine ops_ex rfl (guard_none rfl) rfl rfl (ex_add rfl rfl rfl) ?_
                refine ops_ex rfl (guard_none rfl) rfl rfl (ex_assign rfl rfl) ?_
                refine ops_nil ?_
                exact at_again k710 (ρ1 := [(0, .pointer (some ⟨b0, f0, none⟩)), (5, .int .i64 (wrap64 (a703 + 1)))]) (Nat.lt_succ_self _) ⟨_, ho696, rfl, HM⟩ (Sub.cons rfl (Sub.cons rfl Sub.nil))
            · replace ho696 := cond_f hb712 ho696
              refine run_exit ?_
              refine at_then_exit ?_
              refine at_then_exit ?_
              refine at_block_exit ?_
              exact at_mid (ρ' := []) ⟨(Option.some.inj ho696), rfl, HM⟩ Sub.nil
          · rintro _ w718 ⟨rfl, rfl, HM⟩
            replace H := (thn_inr H)
            refine run_seq ?_
            refine run_region rfl ?_
            refine ops_ex rfl (guard_none rfl) rfl rfl (ex_assign rfl rfl) ?_
            refine ops_nil ?_
            refine at_then ?_
            refine run_ret ?_
            have hR := Option.some.inj H
            subst hR
            exact at_ret1 rfl rfl ⟨_, rfl, rfl, HM⟩

def spec_l4Out.f (k : Nat) (x0 : Out) : Option Int := ((spec_l1In.f k x0.fValue 1 1000000).bind fun t724 => (bif !t724 then some 3 else ((spec_l2Fault.f k x0.fRule).bind fun t728 => some t728)))
theorem spec_l4Out.calls {k : Nat} {x0 : Out} {b0 f0 : Nat} {p0_0 : Value} {w : World} (hc0 : CellsAt w b0 f0 [.int .i64 x0.fValue, p0_0, .int .i64 x0.fRule.fNeed, .int .i64 x0.fRule.fAfter]) (hp0_0 : RdS kInt w p0_0 x0.fRule.fKeys) {r : Int} (H : spec_l4Out.f k x0 = some r) :
    Calls Try.prog 101 ([.pointer (some ⟨b0, f0, none⟩)] : List Value).toArray w (fun e w_ => ∃ v, e = .returned v ∧ v = (.int .i64 r) ∧ Mem w [] w_ []) := by
  have HM := Mem.start w
  refine calls_run (N := 13) Try.func101 rfl rfl rfl rfl ?_
  unfold spec_l4Out.f at H
  refine run_seq ?_
  refine run_region rfl ?_
  refine ops_ex rfl (guard_none rfl) rfl rfl (ex_assign rfl rfl) ?_
  refine ops_nil ?_
  refine at_then ?_
  refine run_seq ?_
  refine run_seq ?_
  obtain ⟨t724, h725, H⟩ := bind_some H
  refine run_region rfl ?_
  refine ops_ex rfl (guard_none rfl) rfl rfl (ex_move rfl rfl) ?_
  refine ops_ex rfl (guard_none rfl) rfl rfl (ex_nilCheck rfl rfl) ?_
  refine ops_ex rfl (guard_none rfl) rfl rfl (ex_fieldAddr (off' := f0) rfl rfl Try.underlying121 rfl tsz2 rfl) ?_
  refine ops_ex rfl (guard_none rfl) rfl rfl (ex_load1 rfl rfl Try.underlying2 rfl ((HM.at_ hc0) 0 _ rfl)) ?_
  refine ops_does rfl (guard_none rfl) rfl rfl (does_callk rfl callok88 rfl (spec_l1In.calls (x0 := x0.fValue) (x1 := 1) (x2 := 1000000) h725)) ?_
  rintro _ w726 ⟨rfl, hn⟩
  replace HM : Mem w [] w726 [] := HM.call hn
  refine ops_ex rfl (guard_none rfl) rfl rfl (ex_not rfl rfl) ?_
  refine ops_nil ?_
  refine at_then ?_
  refine run_cond (b := !t724) rfl (fun hb727 => ?_) (fun hb727 => ?_)
  · replace H := cond_t hb727 H
    refine run_seq ?_
    refine run_region rfl ?_
    refine ops_ex rfl (guard_none rfl) rfl rfl (ex_assign rfl rfl) ?_
    refine ops_nil ?_
    refine at_then ?_
    refine run_ret ?_
    refine at_then_ret ?_
    have hR := Option.some.inj H
    subst hR
    exact at_ret1 rfl rfl ⟨_, rfl, rfl, HM⟩
  · replace H := cond_f hb727 H
    refine run_skip ?_
    refine at_then ?_
    refine run_seq ?_
    obtain ⟨t728, h729, H⟩ := bind_some H
    refine run_region rfl ?_
    refine ops_ex rfl (guard_none rfl) rfl rfl (ex_move rfl rfl) ?_
    refine ops_ex rfl (guard_none rfl) rfl rfl (ex_nilCheck rfl rfl) ?_
    refine ops_ex rfl (guard_none rfl) rfl rfl (ex_fieldAddr (off' := f0 + 1) rfl rfl Try.underlying121 rfl tsz119 rfl) ?_
    refine ops_does rfl (guard_none rfl) rfl rfl (does_callk rfl callok152 rfl (spec_l2Fault.calls (x0 := x0.fRule) (CellsAt.sub (HM.at_ hc0) 1 3 rfl) (HM.rd hp0_0) h729)) ?_
    rintro _ w730 ⟨rfl, hn⟩
    replace HM : Mem w [] w730 [] := HM.call hn
    refine ops_ex rfl (guard_none rfl) rfl rfl (ex_assign rfl rfl) ?_
    refine ops_nil ?_
    refine at_then ?_
    refine run_ret ?_
    have hR := Option.some.inj H
    subst hR
    exact at_ret1 rfl rfl ⟨_, rfl, rfl, HM⟩

def spec_l4Ahead.f (k : Nat) (x0 : Ref) (x1 : Ref) : Option Bool := (bif (x0.fTx != x1.fTx) then some (decide (x0.fTx < x1.fTx)) else some (decide (x0.fAt < x1.fAt)))
theorem spec_l4Ahead.calls {k : Nat} {x0 : Ref} {x1 : Ref}  {w : World}  {r : Bool} (H : spec_l4Ahead.f k x0 x1 = some r) :
    Calls Try.prog 122 ([.agg #[(.int .i64 x0.fTx), (.int .i64 x0.fAt)], .agg #[(.int .i64 x1.fTx), (.int .i64 x1.fAt)]] : List Value).toArray w (fun e w_ => ∃ v, e = .returned v ∧ v = (.bool r) ∧ Mem w [] w_ []) := by
  have HM := Mem.start w
  refine calls_run (N := 20) Try.func122 rfl rfl rfl rfl ?_
  unfold spec_l4Ahead.f at H
  refine run_seq ?_
  refine run_region rfl ?_
  refine ops_does rfl (guard_none rfl) rfl rfl (does_box (cs := [.int .i64 x0.fTx, .int .i64 x0.fAt]) rfl rfl rfl HM) ?_
  rintro _ w763 ⟨b757, rfl, HM⟩
  refine ops_does rfl (guard_none rfl) rfl rfl (does_box (cs := [.int .i64 x1.fTx, .int .i64 x1.fAt]) rfl rfl rfl HM) ?_
  rintro _ w764 ⟨b760, rfl, HM⟩
  refine ops_ex rfl (guard_none rfl) rfl rfl (ex_assign rfl rfl) ?_
  refine ops_nil ?_
  refine at_then ?_
  refine run_seq ?_
  refine run_seq ?_
  refine run_region rfl ?_
  refine ops_ex rfl (guard_none rfl) rfl rfl (ex_fieldAddr (off' := 0) rfl rfl Try.underlying54 rfl tsz2 rfl) ?_
  refine ops_ex rfl (guard_none rfl) rfl rfl (ex_load1 rfl rfl Try.underlying2 rfl ((HM.box_at 1 rfl) 0 _ rfl)) ?_
  refine ops_ex rfl (guard_none rfl) rfl rfl (ex_fieldAddr (off' := 0) rfl rfl Try.underlying54 rfl tsz2 rfl) ?_
  refine ops_ex rfl (guard_none rfl) rfl rfl (ex_load1 rfl rfl Try.underlying2 rfl ((HM.box_at 0 rfl) 0 _ rfl)) ?_
  refine ops_ex rfl (guard_none rfl) rfl rfl (ex_neq rfl rfl rfl) ?_
  refine ops_nil ?_
  refine at_then ?_
  refine run_cond (b := (x0.fTx != x1.fTx)) rfl (fun hb766 => ?_) (fun hb766 => ?_)
  · replace H := cond_t hb766 H
    refine run_seq ?_
    refine run_region rfl ?_
    refine ops_ex rfl (guard_none rfl) rfl rfl (ex_fieldAddr (off' := 0) rfl rfl Try.underlying54 rfl tsz2 rfl) ?_
    refine ops_ex rfl (guard_none rfl) rfl rfl (ex_load1 rfl rfl Try.underlying2 rfl ((HM.box_at 1 rfl) 0 _ rfl)) ?_
    refine ops_ex rfl (guard_none rfl) rfl rfl (ex_fieldAddr (off' := 0) rfl rfl Try.underlying54 rfl tsz2 rfl) ?_
    refine ops_ex rfl (guard_none rfl) rfl rfl (ex_load1 rfl rfl Try.underlying2 rfl ((HM.box_at 0 rfl) 0 _ rfl)) ?_
    refine ops_ex rfl (guard_none rfl) rfl rfl (ex_lss rfl rfl rfl) ?_
    refine ops_ex rfl (guard_none rfl) rfl rfl (ex_assign rfl rfl) ?_
    refine ops_nil ?_
    refine at_then ?_
    refine run_ret ?_
    refine at_then_ret ?_
    replace HM := (HM.front 0 rfl rfl).drop
    replace HM := (HM.front 0 rfl rfl).drop
    have hR := Option.some.inj H
    subst hR
    exact at_ret1 rfl rfl ⟨_, rfl, rfl, HM⟩
  · replace H := cond_f hb766 H
    refine run_skip ?_
    refine at_then ?_
    refine run_seq ?_
    refine run_region rfl ?_
    refine ops_ex rfl (guard_none rfl) rfl rfl (ex_fieldAddr (off' := 1) rfl rfl Try.underlying54 rfl tsz2 rfl) ?_
    refine ops_ex rfl (guard_none rfl) rfl rfl (ex_load1 rfl rfl Try.underlying2 rfl ((HM.box_at 1 rfl) 1 _ rfl)) ?_
    refine ops_ex rfl (guard_none rfl) rfl rfl (ex_fieldAddr (off' := 1) rfl rfl Try.underlying54 rfl tsz2 rfl) ?_
    refine ops_ex rfl (guard_none rfl) rfl rfl (ex_load1 rfl rfl Try.underlying2 rfl ((HM.box_at 0 rfl) 1 _ rfl)) ?_
    refine ops_ex rfl (guard_none rfl) rfl rfl (ex_lss rfl rfl rfl) ?_
    refine ops_ex rfl (guard_none rfl) rfl rfl (ex_assign rfl rfl) ?_
    refine ops_nil ?_
    refine at_then ?_
    refine run_ret ?_
    replace HM := (HM.front 0 rfl rfl).drop
    replace HM := (HM.front 0 rfl rfl).drop
    have hR := Option.some.inj H
    subst hR
    exact at_ret1 rfl rfl ⟨_, rfl, rfl, HM⟩

def spec_l4Fault.l0 (x0 : List Coin) : Nat → Int → Option (Int ⊕ Unit)
  | 0, _ => none
  | k + 1, a1090 => (bif (decide (a1090 < (x0.length : Int))) then (chk (idxOk a1090 x0.length) ((spec_l3Ref.f k ((gt x0 a1090).fRef)).bind fun t1163 => (chk (!(!(!t1163)) || (idxOk a1090 x0.length)) ((bif (!(!t1163)) then spec_l2Height.f k ((gt x0 a1090).fHeight) else some default).bind fun t1169 => (bif ((!t1163) || (!t1169)) then some (.inl 3) else (chk (idxOk a1090 x0.length) ((spec_l4Out.f k ((gt x0 a1090).fOut)).bind fun t1188 => (bif (t1188 != 0) then some (.inl t1188) else (chk (!(decide (0 < a1090)) || (idxOk (wrap64 (a1090 - 1)) x0.length)) (chk (!(decide (0 < a1090)) || (idxOk a1090 x0.length)) ((bif (decide (0 < a1090)) then spec_l4Ahead.f k ((gt x0 (wrap64 (a1090 - 1))).fRef) ((gt x0 a1090).fRef) else some default).bind fun t1200 => (bif ((decide (0 < a1090)) && (!t1200)) then some (.inl 1) else spec_l4Fault.l0 x0 k (wrap64 (a1090 + 1)))))))))))))) else some (.inr ()))
theorem spec_l4Fault.l0_z (x0 : List Coin) (a1090 : Int) : spec_l4Fault.l0 x0 0 a1090 = none := rfl
theorem spec_l4Fault.l0_s (x0 : List Coin) (k : Nat) (a1090 : Int) : spec_l4Fault.l0 x0 (k + 1) a1090 = (bif (decide (a1090 < (x0.length : Int))) then (chk (idxOk a1090 x0.length) ((spec_l3Ref.f k ((gt x0 a1090).fRef)).bind fun t1163 => (chk (!(!(!t1163)) || (idxOk a1090 x0.length)) ((bif (!(!t1163)) then spec_l2Height.f k ((gt x0 a1090).fHeight) else some default).bind fun t1169 => (bif ((!t1163) || (!t1169)) then some (.inl 3) else (chk (idxOk a1090 x0.length) ((spec_l4Out.f k ((gt x0 a1090).fOut)).bind fun t1188 => (bif (t1188 != 0) then some (.inl t1188) else (chk (!(decide (0 < a1090)) || (idxOk (wrap64 (a1090 - 1)) x0.length)) (chk (!(decide (0 < a1090)) || (idxOk a1090 x0.length)) ((bif (decide (0 < a1090)) then spec_l4Ahead.f k ((gt x0 (wrap64 (a1090 - 1))).fRef) ((gt x0 a1090).fRef) else some default).bind fun t1200 => (bif ((decide (0 < a1090)) && (!t1200)) then some (.inl 1) else spec_l4Fault.l0 x0 k (wrap64 (a1090 + 1)))))))))))))) else some (.inr ())) := rfl
def spec_l4Fault.f (k : Nat) (x0 : List Coin) : Option Int := (bif (decide (40 < (x0.length : Int))) then some 2 else ((spec_l4Fault.l0 x0 k 0).bind fun o1036 => thn o1036 (fun r => some r) (fun _ => some 0)))
theorem spec_l4Fault.calls {k : Nat} {x0 : List Coin} {p0 : Value} {w : World} (hp0 : RdS kCoin w p0 x0) {r : Int} (H : spec_l4Fault.f k x0 = some r) :
    Calls Try.prog 73 ([p0] : List Value).toArray w (fun e w_ => ∃ v, e = .returned v ∧ v = (.int .i64 r) ∧ Mem w [] w_ []) := by
  have HM := Mem.start w
  refine calls_run (N := 55) Try.func73 rfl rfl rfl rfl ?_
  unfold spec_l4Fault.f at H
  refine run_seq ?_
  refine run_region rfl ?_
  refine ops_ex rfl (guard_none rfl) rfl rfl (ex_assign rfl rfl) ?_
  refine ops_nil ?_
  refine at_then ?_
  refine run_seq ?_
  refine run_seq ?_
  refine run_region rfl ?_
  refine ops_ex rfl (guard_none rfl) rfl rfl (ex_move rfl rfl) ?_
  refine ops_ex rfl (guard_none rfl) rfl rfl (ex_len (d := kCoin) (xs := x0) rfl rfl Try.underlying44 hp0) ?_
  refine ops_ex rfl (guard_none rfl) rfl rfl (ex_gtr rfl rfl rfl) ?_
  refine ops_nil ?_
  refine at_then ?_
  refine run_cond (b := (decide (40 < (x0.length : Int)))) rfl (fun hb878 => ?_) (fun hb878 => ?_)
  · replace H := cond_t hb878 H
    refine run_seq ?_
    refine run_region rfl ?_
    refine ops_ex rfl (guard_none rfl) rfl rfl (ex_assign rfl rfl) ?_
    refine ops_nil ?_
    refine at_then ?_
    refine run_ret ?_
    refine at_then_ret ?_
    have hR := Option.some.inj H
    subst hR
    exact at_ret1 rfl rfl ⟨_, rfl, rfl, HM⟩
  · replace H := cond_f hb878 H
    refine run_skip ?_
    refine at_then ?_
    obtain ⟨o1036, ho1037, H⟩ := bind_some H
    refine run_mid (fun ρ_ w_ => Sum.inr () = o1036 ∧ ρ_ = [] ∧ Mem w [] w_ []) ?_ ?_
    · skip
      refine run_seq ?_
      refine run_region rfl ?_
      refine ops_ex rfl (guard_none rfl) rfl rfl (ex_assign rfl rfl) ?_
      refine ops_nil ?_
      refine at_then ?_
      refine run_block ?_
      refine run_loop (fun k_ ρ_ w_ => ∃ a1090 : Int, spec_l4Fault.l0 x0 k_ a1090 = some o1036 ∧ ρ_ = [(0, p0), (3, .int .i64 a1090)] ∧ Mem w [] w_ []) k (ρ1 := [(0, p0), (3, .int .i64 0)]) ⟨_, ho1037, rfl, HM⟩ (Sub.cons rfl (Sub.cons rfl Sub.nil)) ?_
      clear HM ho1037
      rintro k1143 _ w1144 ⟨a1090, ho1037, rfl, HM⟩
      obtain _ | k1143 := k1143
      · exact nomatch ((spec_l4Fault.l0_z x0 a1090).symm.trans ho1037)
      replace ho1037 := (spec_l4Fault.l0_s x0 k1143 a1090).symm.trans ho1037
      refine run_seq ?_
      refine run_seq ?_
      refine run_region rfl ?_
      refine ops_ex rfl (guard_none rfl) rfl rfl (ex_move rfl rfl) ?_
      refine ops_ex rfl (guard_none rfl) rfl rfl (ex_move rfl rfl) ?_
      refine ops_ex rfl (guard_none rfl) rfl rfl (ex_len (d := kCoin) (xs := x0) rfl rfl Try.underlying44 hp0) ?_
      refine ops_ex rfl (guard_none rfl) rfl rfl (ex_lss rfl rfl rfl) ?_
      refine ops_nil ?_
      refine at_then ?_
      refine run_cond (b := (decide (a1090 < (x0.length : Int)))) rfl (fun hb1145 => ?_) (fun hb1145 => ?_)
      · replace ho1037 := cond_t hb1145 ho1037
        refine run_skip ?_
        refine at_then ?_
        refine run_seq ?_
        refine run_block ?_
        refine run_seq ?_
        refine run_seq ?_
        obtain ⟨e1159, ho1037⟩ := chk_some ho1037
        obtain ⟨t1163, h1164, ho1037⟩ := bind_some ho1037
        obtain ⟨e1165, ho1037⟩ := chk_some ho1037
        obtain ⟨t1169, h1170, ho1037⟩ := bind_some ho1037
        refine run_meet (fun ρ_ w_ => ρ_ = [(0, p0), (3, .int .i64 a1090), (29, .bool ((!t1163) || (!t1169)))] ∧ Mem w [] w_ []) ?_ ?_
        · skip
          refine run_region rfl ?_
          refine ops_ex rfl (guard_none rfl) rfl rfl (ex_move rfl rfl) ?_
          refine ops_ex rfl (guard_none rfl) rfl rfl (ex_move rfl rfl) ?_
          obtain ⟨kv1161, hc1160, hk1162⟩ : ∃ u, CellsAt _ (sb p0) (so p0 + (a1090).toNat * 8) [(.int .i64 ((gt x0 a1090).fRef.fTx)), (.int .i64 ((gt x0 a1090).fRef.fAt)), (.int .i64 ((gt x0 a1090).fOut.fValue)), u, (.int .i64 ((gt x0 a1090).fOut.fRule.fNeed)), (.int .i64 ((gt x0 a1090).fOut.fRule.fAfter)), (.int .i64 ((gt x0 a1090).fHeight)), (.bool ((gt x0 a1090).fMined))] ∧ RdS kInt _ u ((gt x0 a1090).fOut.fRule.fKeys) := rd_with1 hp0 e1159
          refine ops_ex rfl (guard_none rfl) rfl rfl (ex_indexAddr (d := kCoin) rfl rfl rfl Try.underlying44 tsz123 hp0 (idx_lo e1159) (idx_hi e1159)) ?_
          refine ops_ex rfl (guard_none rfl) rfl rfl (ex_fieldAddr (off' := so p0 + (a1090).toNat * 8) rfl rfl Try.underlying123 rfl tsz54 rfl) ?_
          refine ops_ex rfl (guard_none rfl) rfl rfl (ex_loadN (cs := [(.int .i64 ((gt x0 a1090).fRef.fTx)), (.int .i64 ((gt x0 a1090).fRef.fAt))]) rfl rfl Try.underlying54 rfl tsz54 rfl ((HM.at_ hc1160).sub 0 2 rfl)) ?_
          refine ops_does rfl (guard_none rfl) rfl rfl (does_callk rfl callok121 rfl (spec_l3Ref.calls (x0 := (gt x0 a1090).fRef) h1164)) ?_
          rintro _ w1171 ⟨rfl, hn⟩
          replace HM : Mem w [] w1171 [] := HM.call hn
          refine ops_ex rfl (guard_none rfl) rfl rfl (ex_not rfl rfl) ?_
          refine ops_ex rfl (guard_none rfl) rfl rfl (ex_move rfl rfl) ?_
          refine bool_cases (!t1163) (fun hg1172 => ?_) (fun hg1172 => ?_)
          · skip
            refine ops_off rfl (guard_off rfl rfl rfl hg1172) rfl rfl ?_
            refine ops_off rfl (guard_off rfl rfl rfl hg1172) rfl rfl ?_
            refine ops_off rfl (guard_off rfl rfl rfl hg1172) rfl rfl ?_
            refine ops_off rfl (guard_off rfl rfl rfl hg1172) rfl rfl ?_
            refine ops_off rfl (guard_off rfl rfl rfl hg1172) rfl rfl ?_
            refine ops_off rfl (guard_off rfl rfl rfl hg1172) rfl rfl ?_
            refine ops_off rfl (guard_off rfl rfl rfl hg1172) rfl rfl ?_
            have hg1173 : ((!t1163) || (!t1169)) = true := by simp only [hg1172, Bool.and_true, Bool.true_and, Bool.and_false, Bool.false_and, Bool.or_true, Bool.true_or, Bool.or_false, Bool.false_or, Bool.not_true, Bool.not_false, Bool.not_not]
            refine ops_ex (v := .bool ((!t1163) || (!t1169))) rfl (guard_none rfl) rfl rfl (ex_por_t rfl rfl hg1172) ?_
            refine ops_nil ?_
            exact at_meet [(0, p0), (3, .int .i64 a1090), (29, .bool ((!t1163) || (!t1169)))] ⟨rfl, HM⟩ (Sub.cons rfl (Sub.cons rfl (Sub.cons rfl Sub.nil)))
          · skip
            refine ops_ex rfl (guard_on rfl rfl rfl hg1172) rfl rfl (ex_move rfl rfl) ?_
            refine ops_ex rfl (guard_on rfl rfl rfl hg1172) rfl rfl (ex_move rfl rfl) ?_
            obtain ⟨kv1167, hc1166, hk1168⟩ : ∃ u, CellsAt _ (sb p0) (so p0 + (a1090).toNat * 8) [(.int .i64 ((gt x0 a1090).fRef.fTx)), (.int .i64 ((gt x0 a1090).fRef.fAt)), (.int .i64 ((gt x0 a1090).fOut.fValue)), u, (.int .i64 ((gt x0 a1090).fOut.fRule.fNeed)), (.int .i64 ((gt x0 a1090).fOut.fRule.fAfter)), (.int .i64 ((gt x0 a1090).fHeight)), (.bool ((gt x0 a1090).fMined))] ∧ RdS kInt _ u ((gt x0 a1090).fOut.fRule.fKeys) := rd_with1 hp0 (or_t e1165 (not_mk hg1172))
            refine ops_ex rfl (guard_on rfl rfl rfl hg1172) rfl rfl (ex_indexAddr (d := kCoin) rfl rfl rfl Try.underlying44 tsz123 hp0 (idx_lo (or_t e1165 (not_mk hg1172))) (idx_hi (or_t e1165 (not_mk hg1172)))) ?_
            refine ops_ex rfl (guard_on rfl rfl rfl hg1172) rfl rfl (ex_fieldAddr (off' := so p0 + (a1090).toNat * 8 + 6) rfl rfl Try.underlying123 rfl tsz2 rfl) ?_
            refine ops_ex rfl (guard_on rfl rfl rfl hg1172) rfl rfl (ex_load1 rfl rfl Try.underlying2 rfl ((HM.at_ hc1166) 6 _ rfl)) ?_
            refine ops_does rfl (guard_on rfl rfl rfl hg1172) rfl rfl (does_callk rfl callok100 rfl (spec_l2Height.calls (x0 := (gt x0 a1090).fHeight) (cond_t (not_mk hg1172) h1170))) ?_
            rintro _ w1174 ⟨rfl, hn⟩
            replace HM : Mem w [] w1174 [] := HM.call hn
            refine ops_ex rfl (guard_on rfl rfl rfl hg1172) rfl rfl (ex_not rfl rfl) ?_
            refine ops_ex (v := .bool ((!t1163) || (!t1169))) rfl (guard_none rfl) rfl rfl (ex_por_f rfl rfl hg1172 rfl) ?_
            refine ops_nil ?_
            exact at_meet [(0, p0), (3, .int .i64 a1090), (29, .bool ((!t1163) || (!t1169)))] ⟨rfl, HM⟩ (Sub.cons rfl (Sub.cons rfl (Sub.cons rfl Sub.nil)))
        · rintro _ w1175 ⟨rfl, HM⟩
          refine at_then ?_
          refine run_cond (b := ((!t1163) || (!t1169))) rfl (fun hb1176 => ?_) (fun hb1176 => ?_)
          · replace ho1037 := cond_t hb1176 ho1037
            refine run_seq ?_
            refine run_region rfl ?_
            refine ops_ex rfl (guard_none rfl) rfl rfl (ex_assign rfl rfl) ?_
            refine ops_nil ?_
            refine at_then ?_
            refine run_ret ?_
            refine at_then_ret ?_
            refine at_block_ret ?_
            refine at_then_ret ?_
            refine at_then_ret ?_
            refine at_block_ret ?_
            refine at_then_ret ?_
            have hR := Option.some.inj ho1037
            subst hR
            have hT := thn_inl H
            have hR := Option.some.inj hT
            subst hR
            exact at_ret1 rfl rfl ⟨_, rfl, rfl, HM⟩
          · replace ho1037 := cond_f hb1176 ho1037
            refine run_skip ?_
            refine at_then ?_
            refine run_seq ?_
            refine run_seq ?_
            obtain ⟨e1184, ho1037⟩ := chk_some ho1037
            obtain ⟨t1188, h1189, ho1037⟩ := bind_some ho1037
            refine run_region rfl ?_
            refine ops_ex rfl (guard_none rfl) rfl rfl (ex_move rfl rfl) ?_
            refine ops_ex rfl (guard_none rfl) rfl rfl (ex_move rfl rfl) ?_
            obtain ⟨kv1186, hc1185, hk1187⟩ : ∃ u, CellsAt _ (sb p0) (so p0 + (a1090).toNat * 8) [(.int .i64 ((gt x0 a1090).fRef.fTx)), (.int .i64 ((gt x0 a1090).fRef.fAt)), (.int .i64 ((gt x0 a1090).fOut.fValue)), u, (.int .i64 ((gt x0 a1090).fOut.fRule.fNeed)), (.int .i64 ((gt x0 a1090).fOut.fRule.fAfter)), (.int .i64 ((gt x0 a1090).fHeight)), (.bool ((gt x0 a1090).fMined))] ∧ RdS kInt _ u ((gt x0 a1090).fOut.fRule.fKeys) := rd_with1 hp0 e1184
            refine ops_ex rfl (guard_none rfl) rfl rfl (ex_indexAddr (d := kCoin) rfl rfl rfl Try.underlying44 tsz123 hp0 (idx_lo e1184) (idx_hi e1184)) ?_
            refine ops_ex rfl (guard_none rfl) rfl rfl (ex_fieldAddr (off' := so p0 + (a1090).toNat * 8 + 2) rfl rfl Try.underlying123 rfl tsz121 rfl) ?_
            refine ops_does rfl (guard_none rfl) rfl rfl (does_callk rfl callok101 rfl (spec_l4Out.calls (x0 := (gt x0 a1090).fOut) (CellsAt.sub (HM.at_ hc1185) 2 4 rfl) (HM.rd hk1187) h1189)) ?_
            rintro _ w1190 ⟨rfl, hn⟩
            replace HM : Mem w [] w1190 [] := HM.call hn
            refine ops_ex rfl (guard_none rfl) rfl rfl (ex_assign rfl rfl) ?_
            refine ops_nil ?_
            refine at_then ?_
            refine run_seq ?_
            refine run_region rfl ?_
            refine ops_ex rfl (guard_none rfl) rfl rfl (ex_move rfl rfl) ?_
            refine ops_ex rfl (guard_none rfl) rfl rfl (ex_neq rfl rfl rfl) ?_
            refine ops_nil ?_
            refine at_then ?_
            refine run_cond (b := (t1188 != 0)) rfl (fun hb1191 => ?_) (fun hb1191 => ?_)
            · replace ho1037 := cond_t hb1191 ho1037
              refine run_seq ?_
              refine run_region rfl ?_
              refine ops_ex rfl (guard_none rfl) rfl rfl (ex_move rfl rfl) ?_
              refine ops_ex rfl (guard_none rfl) rfl rfl (ex_assign rfl rfl) ?_
              refine ops_nil ?_
              refine at_then ?_
              refine run_ret ?_
              refine at_then_ret ?_
              refine at_block_ret ?_
              refine at_then_ret ?_
              refine at_then_ret ?_
              refine at_block_ret ?_
              refine at_then_ret ?_
              have hR := Option.some.inj ho1037
              subst hR
              have hT := thn_inl H
              have hR := Option.some.inj hT
              subst hR
              exact at_ret1 rfl rfl ⟨_, rfl, rfl, HM⟩
            · replace ho1037 := cond_f hb1191 ho1037
              refine run_skip ?_
              refine at_then ?_
              refine run_seq ?_
              obtain ⟨e1192, ho1037⟩ := chk_some ho1037
              obtain ⟨e1196, ho1037⟩ := chk_some ho1037
              obtain ⟨t1200, h1201, ho1037⟩ := bind_some ho1037
              refine run_meet (fun ρ_ w_ => ρ_ = [(0, p0), (3, .int .i64 a1090), (54, .bool ((decide (0 < a1090)) && (!t1200)))] ∧ Mem w [] w_ []) ?_ ?_
              · skip
                refine run_drawf (fun w_ => Mem w [] w_ []) [(0, true), (1, true), (2, true), (3, true), (4, true), (5, true), (6, true), (7, true), (8, true), (9, true), (10, true), (11, true), (12, true), (13, true), (14, false), (15, true), (16, true)] mixed rfl rfl (by kernel_rfl) ?_
                replace HM := HM.grow (fr_drew _)
                have hS := Mem.suf (M := []) HM
                refine drwp_take rfl (guard_none rfl) rfl rfl (fun w_ hS_ => (ex_move rfl rfl)) hS ?_
                refine drwp_take rfl (guard_none rfl) rfl rfl (fun w_ hS_ => (ex_gtr rfl rfl rfl)) hS ?_
                refine drwp_take rfl (guard_none rfl) rfl rfl (fun w_ hS_ => (ex_move rfl rfl)) hS ?_
                refine bool_cases (decide (0 < a1090)) (fun hg1202 => ?_) (fun hg1202 => ?_)
                · skip
                  refine drwp_take rfl (guard_on rfl rfl rfl hg1202) rfl rfl (fun w_ hS_ => (ex_move rfl rfl)) hS ?_
                  refine drwp_take rfl (guard_on rfl rfl rfl hg1202) rfl rfl (fun w_ hS_ => (ex_move rfl rfl)) hS ?_
                  refine drwp_take rfl (guard_on rfl rfl rfl hg1202) rfl rfl (fun w_ hS_ => (ex_sub rfl rfl rfl)) hS ?_
                  obtain ⟨kv1194, hc1193, hk1195⟩ : ∃ u, CellsAt _ (sb p0) (so p0 + (wrap64 (a1090 - 1)).toNat * 8) [(.int .i64 ((gt x0 (wrap64 (a1090 - 1))).fRef.fTx)), (.int .i64 ((gt x0 (wrap64 (a1090 - 1))).fRef.fAt)), (.int .i64 ((gt x0 (wrap64 (a1090 - 1))).fOut.fValue)), u, (.int .i64 ((gt x0 (wrap64 (a1090 - 1))).fOut.fRule.fNeed)), (.int .i64 ((gt x0 (wrap64 (a1090 - 1))).fOut.fRule.fAfter)), (.int .i64 ((gt x0 (wrap64 (a1090 - 1))).fHeight)), (.bool ((gt x0 (wrap64 (a1090 - 1))).fMined))] ∧ RdS kInt _ u ((gt x0 (wrap64 (a1090 - 1))).fOut.fRule.fKeys) := rd_with1 hp0 (or_t e1192 hg1202)
                  refine drwp_take rfl (guard_on rfl rfl rfl hg1202) rfl rfl (fun w_ hS_ => (ex_indexAddr (d := kCoin) rfl rfl rfl Try.underlying44 tsz123 hp0 (idx_lo (or_t e1192 hg1202)) (idx_hi (or_t e1192 hg1202)))) hS ?_
                  refine drwp_take rfl (guard_on rfl rfl rfl hg1202) rfl rfl (fun w_ hS_ => (ex_fieldAddr (off' := so p0 + (wrap64 (a1090 - 1)).toNat * 8) rfl rfl Try.underlying123 rfl tsz54 rfl)) hS ?_
                  refine drwp_take rfl (guard_on rfl rfl rfl hg1202) rfl rfl (fun w_ hS_ => (ex_loadN (cs := [(.int .i64 ((gt x0 (wrap64 (a1090 - 1))).fRef.fTx)), (.int .i64 ((gt x0 (wrap64 (a1090 - 1))).fRef.fAt))]) rfl rfl Try.underlying54 rfl tsz54 rfl ((hS_.at_ hc1193).sub 0 2 rfl))) hS ?_
                  refine drwp_take rfl (guard_on rfl rfl rfl hg1202) rfl rfl (fun w_ hS_ => (ex_move rfl rfl)) hS ?_
                  refine drwp_take rfl (guard_on rfl rfl rfl hg1202) rfl rfl (fun w_ hS_ => (ex_move rfl rfl)) hS ?_
                  obtain ⟨kv1198, hc1197, hk1199⟩ : ∃ u, CellsAt _ (sb p0) (so p0 + (a1090).toNat * 8) [(.int .i64 ((gt x0 a1090).fRef.fTx)), (.int .i64 ((gt x0 a1090).fRef.fAt)), (.int .i64 ((gt x0 a1090).fOut.fValue)), u, (.int .i64 ((gt x0 a1090).fOut.fRule.fNeed)), (.int .i64 ((gt x0 a1090).fOut.fRule.fAfter)), (.int .i64 ((gt x0 a1090).fHeight)), (.bool ((gt x0 a1090).fMined))] ∧ RdS kInt _ u ((gt x0 a1090).fOut.fRule.fKeys) := rd_with1 hp0 (or_t e1196 hg1202)
                  refine drwp_take rfl (guard_on rfl rfl rfl hg1202) rfl rfl (fun w_ hS_ => (ex_indexAddr (d := kCoin) rfl rfl rfl Try.underlying44 tsz123 hp0 (idx_lo (or_t e1196 hg1202)) (idx_hi (or_t e1196 hg1202)))) hS ?_
                  refine drwp_take rfl (guard_on rfl rfl rfl hg1202) rfl rfl (fun w_ hS_ => (ex_fieldAddr (off' := so p0 + (a1090).toNat * 8) rfl rfl Try.underlying123 rfl tsz54 rfl)) hS ?_
                  refine drwp_take rfl (guard_on rfl rfl rfl hg1202) rfl rfl (fun w_ hS_ => (ex_loadN (cs := [(.int .i64 ((gt x0 a1090).fRef.fTx)), (.int .i64 ((gt x0 a1090).fRef.fAt))]) rfl rfl Try.underlying54 rfl tsz54 rfl ((hS_.at_ hc1197).sub 0 2 rfl))) hS ?_
                  refine drwp_one rfl (guard_on rfl rfl rfl hg1202) rfl rfl (does_callk rfl callok122 rfl (spec_l4Ahead.calls (x0 := (gt x0 (wrap64 (a1090 - 1))).fRef) (x1 := (gt x0 a1090).fRef) (cond_t hg1202 h1201))) ?_
                  rintro _ w1203 ⟨rfl, hn⟩
                  replace HM : Mem w [] w1203 [] := HM.call hn
                  refine ⟨Mem.suf (M := []) HM, ?_⟩
                  have hS := Mem.suf (M := []) HM
                  refine drwp_take rfl (guard_on rfl rfl rfl hg1202) rfl rfl (fun w_ hS_ => (ex_not rfl rfl)) hS ?_
                  refine drwp_take (v := .bool ((decide (0 < a1090)) && (!t1200))) rfl (guard_none rfl) rfl rfl (fun w_ hS_ => (ex_pand_t rfl rfl hg1202 rfl)) hS ?_
                  refine drwp_done ?_
                  exact at_meet [(0, p0), (3, .int .i64 a1090), (54, .bool ((decide (0 < a1090)) && (!t1200)))] ⟨rfl, HM⟩ (Sub.cons rfl (Sub.cons rfl (Sub.cons rfl Sub.nil)))
                · skip
                  refine drwp_off rfl (guard_off rfl rfl rfl hg1202) rfl rfl hS ?_
                  refine drwp_off rfl (guard_off rfl rfl rfl hg1202) rfl rfl hS ?_
                  refine drwp_off rfl (guard_off rfl rfl rfl hg1202) rfl rfl hS ?_
                  refine drwp_off rfl (guard_off rfl rfl rfl hg1202) rfl rfl hS ?_
                  refine drwp_off rfl (guard_off rfl rfl rfl hg1202) rfl rfl hS ?_
                  refine drwp_off rfl (guard_off rfl rfl rfl hg1202) rfl rfl hS ?_
                  refine drwp_off rfl (guard_off rfl rfl rfl hg1202) rfl rfl hS ?_
                  refine drwp_off rfl (guard_off rfl rfl rfl hg1202) rfl rfl hS ?_
                  refine drwp_off rfl (guard_off rfl rfl rfl hg1202) rfl rfl hS ?_
                  refine drwp_off rfl (guard_off rfl rfl rfl hg1202) rfl rfl hS ?_
                  refine drwp_off rfl (guard_off rfl rfl rfl hg1202) rfl rfl hS ?_
                  refine drwp_off1 rfl (guard_off rfl rfl rfl hg1202) rfl rfl ⟨hS, ?_⟩
                  refine drwp_off rfl (guard_off rfl rfl rfl hg1202) rfl rfl hS ?_
                  have hg1204 : ((decide (0 < a1090)) && (!t1200)) = false := by simp only [hg1202, Bool.and_true, Bool.true_and, Bool.and_false, Bool.false_and, Bool.or_true, Bool.true_or, Bool.or_false, Bool.false_or, Bool.not_true, Bool.not_false, Bool.not_not]
                  refine drwp_take (v := .bool ((decide (0 < a1090)) && (!t1200))) rfl (guard_none rfl) rfl rfl (fun w_ hS_ => (ex_pand_f rfl rfl hg1202)) hS ?_
                  refine drwp_done ?_
                  exact at_meet [(0, p0), (3, .int .i64 a1090), (54, .bool ((decide (0 < a1090)) && (!t1200)))] ⟨rfl, HM⟩ (Sub.cons rfl (Sub.cons rfl (Sub.cons rfl Sub.nil)))
              · rintro _ w1205 ⟨rfl, HM⟩
                refine at_then ?_
                refine run_cond (b := ((decide (0 < a1090)) && (!t1200))) rfl (fun hb1206 => ?_) (fun hb1206 => ?_)
                · replace ho1037 := cond_t hb1206 ho1037
                  refine run_seq ?_
                  refine run_region rfl ?_
                  refine ops_ex rfl (guard_none rfl) rfl rfl (ex_assign rfl rfl) ?_
                  refine ops_nil ?_
                  refine at_then ?_
                  refine run_ret ?_
                  refine at_block_ret ?_
                  refine at_then_ret ?_
                  refine at_then_ret ?_
                  refine at_block_ret ?_
                  refine at_then_ret ?_
                  have hR := Option.some.inj ho1037
                  subst hR
                  have hT := thn_inl H
                  have hR := Option.some.inj hT
                  subst hR
                  exact at_ret1 rfl rfl ⟨_, rfl, rfl, HM⟩
                · replace ho1037 := cond_f hb1206 ho1037
                  refine run_skip ?_
                  refine at_block ?_
                  refine at_then ?_
                  refine run_region rfl ?_
                  refine ops_ex rfl (guard_none rfl) rfl rfl (ex_move rfl rfl) ?_
                  refine ops_ex rfl (guard_none rfl) rfl rfl (ex_add rfl rfl rfl) ?_
                  refine ops_ex rfl (guard_none rfl) rfl rfl (ex_assign rfl rfl) ?_
                  refine ops_nil ?_
                  exact at_again k1143 (ρ1 := [(0, p0), (3, .int .i64 (wrap64 (a1090 + 1)))]) (Nat.lt_succ_self _) ⟨_, ho1037, rfl, HM⟩ (Sub.cons rfl (Sub.cons rfl Sub.nil))
      · replace ho1037 := cond_f hb1145 ho1037
        refine run_exit ?_
        refine at_then_exit ?_
        refine at_then_exit ?_
        refine at_block_exit ?_
        exact at_mid (ρ' := []) ⟨(Option.some.inj ho1037), rfl, HM⟩ Sub.nil
    · rintro _ w1207 ⟨rfl, rfl, HM⟩
      replace H := (thn_inr H)
      refine run_seq ?_
      refine run_region rfl ?_
      refine ops_ex rfl (guard_none rfl) rfl rfl (ex_assign rfl rfl) ?_
      refine ops_nil ?_
      refine at_then ?_
      refine run_ret ?_
      have hR := Option.some.inj H
      subst hR
      exact at_ret1 rfl rfl ⟨_, rfl, rfl, HM⟩

def spec_l4Among.l0 (x0 : List Int) (x1 : Int) : Nat → Int → Option (Bool ⊕ Unit)
  | 0, _ => none
  | k + 1, a1257 => (bif (decide (a1257 < (x0.length : Int))) then (chk (idxOk a1257 x0.length) (bif ((gt x0 a1257) == x1) then some (.inl true) else spec_l4Among.l0 x0 x1 k (wrap64 (a1257 + 1)))) else some (.inr ()))
theorem spec_l4Among.l0_z (x0 : List Int) (x1 : Int) (a1257 : Int) : spec_l4Among.l0 x0 x1 0 a1257 = none := rfl
theorem spec_l4Among.l0_s (x0 : List Int) (x1 : Int) (k : Nat) (a1257 : Int) : spec_l4Among.l0 x0 x1 (k + 1) a1257 = (bif (decide (a1257 < (x0.length : Int))) then (chk (idxOk a1257 x0.length) (bif ((gt x0 a1257) == x1) then some (.inl true) else spec_l4Among.l0 x0 x1 k (wrap64 (a1257 + 1)))) else some (.inr ())) := rfl
def spec_l4Among.f (k : Nat) (x0 : List Int) (x1 : Int) : Option Bool := ((spec_l4Among.l0 x0 x1 k 0).bind fun o1251 => thn o1251 (fun r => some r) (fun _ => some false))
theorem spec_l4Among.calls {k : Nat} {x0 : List Int} {x1 : Int} {p0 : Value} {w : World} (hp0 : RdS kInt w p0 x0) {r : Bool} (H : spec_l4Among.f k x0 x1 = some r) :
    Calls Try.prog 74 ([p0, .int .i64 x1] : List Value).toArray w (fun e w_ => ∃ v, e = .returned v ∧ v = (.bool r) ∧ Mem w [] w_ []) := by
  have HM := Mem.start w
  refine calls_run (N := 18) Try.func74 rfl rfl rfl rfl ?_
  unfold spec_l4Among.f at H
  refine run_seq ?_
  refine run_region rfl ?_
  refine ops_ex rfl (guard_none rfl) rfl rfl (ex_assign rfl rfl) ?_
  refine ops_nil ?_
  refine at_then ?_
  obtain ⟨o1251, ho1252, H⟩ := bind_some H
  refine run_mid (fun ρ_ w_ => Sum.inr () = o1251 ∧ ρ_ = [] ∧ Mem w [] w_ []) ?_ ?_
  · skip
    refine run_seq ?_
    refine run_region rfl ?_
    refine ops_ex rfl (guard_none rfl) rfl rfl (ex_assign rfl rfl) ?_
    refine ops_nil ?_
    refine at_then ?_
    refine run_block ?_
    refine run_loop (fun k_ ρ_ w_ => ∃ a1257 : Int, spec_l4Among.l0 x0 x1 k_ a1257 = some o1251 ∧ ρ_ = [(0, p0), (1, .int .i64 x1), (5, .int .i64 a1257)] ∧ Mem w [] w_ []) k (ρ1 := [(0, p0), (1, .int .i64 x1), (5, .int .i64 0)]) ⟨_, ho1252, rfl, HM⟩ (Sub.cons rfl (Sub.cons rfl (Sub.cons rfl Sub.nil))) ?_
    clear HM ho1252
    rintro k1262 _ w1263 ⟨a1257, ho1252, rfl, HM⟩
    obtain _ | k1262 := k1262
    · exact nomatch ((spec_l4Among.l0_z x0 x1 a1257).symm.trans ho1252)
    replace ho1252 := (spec_l4Among.l0_s x0 x1 k1262 a1257).symm.trans ho1252
    refine run_seq ?_
    refine run_seq ?_
    refine run_region rfl ?_
    refine ops_ex rfl (guard_none rfl) rfl rfl (ex_move rfl rfl) ?_
    refine ops_ex rfl (guard_none rfl) rfl rfl (ex_move rfl rfl) ?_
    refine ops_ex rfl (guard_none rfl) rfl rfl (ex_len (d := kInt) (xs := x0) rfl rfl Try.underlying111 hp0) ?_
    refine ops_ex rfl (guard_none rfl) rfl rfl (ex_lss rfl rfl rfl) ?_
    refine ops_nil ?_
    refine at_then ?_
    refine run_cond (b := (decide (a1257 < (x0.length : Int)))) rfl (fun hb1264 => ?_) (fun hb1264 => ?_)
    · replace ho1252 := cond_t hb1264 ho1252
      refine run_skip ?_
      refine at_then ?_
      refine run_seq ?_
      refine run_block ?_
      refine run_seq ?_
      obtain ⟨e1265, ho1252⟩ := chk_some ho1252
      refine run_region rfl ?_
      refine ops_ex rfl (guard_none rfl) rfl rfl (ex_move rfl rfl) ?_
      refine ops_ex rfl (guard_none rfl) rfl rfl (ex_move rfl rfl) ?_
      have hc1266 : CellsAt _ (sb p0) (so p0 + (a1257).toNat * 1) [(.int .i64 (gt x0 a1257))] := rd_plain hp0 e1265
      refine ops_ex rfl (guard_none rfl) rfl rfl (ex_indexAddr (d := kInt) rfl rfl rfl Try.underlying111 tsz2 hp0 (idx_lo e1265) (idx_hi e1265)) ?_
      refine ops_ex rfl (guard_none rfl) rfl rfl (ex_load1 rfl rfl Try.underlying2 rfl ((HM.at_ hc1266) 0 _ rfl)) ?_
      refine ops_ex rfl (guard_none rfl) rfl rfl (ex_move rfl rfl) ?_
      refine ops_ex rfl (guard_none rfl) rfl rfl (ex_eql rfl rfl rfl) ?_
      refine ops_nil ?_
      refine at_then ?_
      refine run_cond (b := ((gt x0 a1257) == x1)) rfl (fun hb1267 => ?_) (fun hb1267 => ?_)
      · replace ho1252 := cond_t hb1267 ho1252
        refine run_seq ?_
        refine run_region rfl ?_
        refine ops_ex rfl (guard_none rfl) rfl rfl (ex_assign rfl rfl) ?_
        refine ops_nil ?_
        refine at_then ?_
        refine run_ret ?_
        refine at_block_ret ?_
        refine at_then_ret ?_
        refine at_then_ret ?_
        refine at_block_ret ?_
        refine at_then_ret ?_
        have hR := Option.some.inj ho1252
        subst hR
        have hT := thn_inl H
        have hR := Option.some.inj hT
        subst hR
        exact at_ret1 rfl rfl ⟨_, rfl, rfl, HM⟩
      · replace ho1252 := cond_f hb1267 ho1252
        refine run_skip ?_
        refine at_block ?_
        refine at_then ?_
        refine run_region rfl ?_
        refine ops_ex rfl (guard_none rfl) rfl rfl (ex_move rfl rfl) ?_
        refine ops_ex rfl (guard_none rfl) rfl rfl (ex_add rfl rfl rfl) ?_
        refine ops_ex rfl (guard_none rfl) rfl rfl (ex_assign rfl rfl) ?_
        refine ops_nil ?_
        exact at_again k1262 (ρ1 := [(0, p0), (1, .int .i64 x1), (5, .int .i64 (wrap64 (a1257 + 1)))]) (Nat.lt_succ_self _) ⟨_, ho1252, rfl, HM⟩ (Sub.cons rfl (Sub.cons rfl (Sub.cons rfl Sub.nil)))
    · replace ho1252 := cond_f hb1264 ho1252
      refine run_exit ?_
      refine at_then_exit ?_
      refine at_then_exit ?_
      refine at_block_exit ?_
      exact at_mid (ρ' := []) ⟨(Option.some.inj ho1252), rfl, HM⟩ Sub.nil
  · rintro _ w1268 ⟨rfl, rfl, HM⟩
    replace H := (thn_inr H)
    refine run_seq ?_
    refine run_region rfl ?_
    refine ops_ex rfl (guard_none rfl) rfl rfl (ex_assign rfl rfl) ?_
    refine ops_nil ?_
    refine at_then ?_
    refine run_ret ?_
    have hR := Option.some.inj H
    subst hR
    exact at_ret1 rfl rfl ⟨_, rfl, rfl, HM⟩

def spec_OwnedBy.l0 (x0 : List Coin) (x1 : Int) : Nat → Int → Int → Option Int
  | 0, _, _ => none
  | k + 1, a1394, a1395 => (bif (decide (a1395 < (x0.length : Int))) then (chk (idxOk a1395 x0.length) (chk (!(((gt x0 a1395).fOut.fRule.fNeed) == 1) || (idxOk a1395 x0.length)) ((bif (((gt x0 a1395).fOut.fRule.fNeed) == 1) then spec_l4Among.f k ((gt x0 a1395).fOut.fRule.fKeys) x1 else some default).bind fun t1423 => (bif ((((gt x0 a1395).fOut.fRule.fNeed) == 1) && t1423) then (chk (idxOk a1395 x0.length) (spec_OwnedBy.l0 x0 x1 k (wrap64 (a1394 + ((gt x0 a1395).fOut.fValue))) (wrap64 (a1395 + 1)))) else spec_OwnedBy.l0 x0 x1 k a1394 (wrap64 (a1395 + 1)))))) else some a1394)
theorem spec_OwnedBy.l0_z (x0 : List Coin) (x1 : Int) (a1394 : Int) (a1395 : Int) : spec_OwnedBy.l0 x0 x1 0 a1394 a1395 = none := rfl
theorem spec_OwnedBy.l0_s (x0 : List Coin) (x1 : Int) (k : Nat) (a1394 : Int) (a1395 : Int) : spec_OwnedBy.l0 x0 x1 (k + 1) a1394 a1395 = (bif (decide (a1395 < (x0.length : Int))) then (chk (idxOk a1395 x0.length) (chk (!(((gt x0 a1395).fOut.fRule.fNeed) == 1) || (idxOk a1395 x0.length)) ((bif (((gt x0 a1395).fOut.fRule.fNeed) == 1) then spec_l4Among.f k ((gt x0 a1395).fOut.fRule.fKeys) x1 else some default).bind fun t1423 => (bif ((((gt x0 a1395).fOut.fRule.fNeed) == 1) && t1423) then (chk (idxOk a1395 x0.length) (spec_OwnedBy.l0 x0 x1 k (wrap64 (a1394 + ((gt x0 a1395).fOut.fValue))) (wrap64 (a1395 + 1)))) else spec_OwnedBy.l0 x0 x1 k a1394 (wrap64 (a1395 + 1)))))) else some a1394) := rfl
def spec_OwnedBy.f (k : Nat) (x0 : List Coin) (x1 : Int) : Option IntResult := ((spec_l4Fault.f k x0).bind fun t1320 => (bif (t1320 != 0) then some (⟨t1320, 0⟩ : IntResult) else ((spec_OwnedBy.l0 x0 x1 k 0 0).bind (fun a1375 => some (⟨0, a1375⟩ : IntResult)))))
theorem spec_OwnedBy.calls {k : Nat} {x0 : List Coin} {x1 : Int} {p0 : Value} {w : World} (hp0 : RdS kCoin w p0 x0) {r : IntResult} (H : spec_OwnedBy.f k x0 x1 = some r) :
    Calls Try.prog 19 ([p0, .int .i64 x1] : List Value).toArray w (fun e w_ => ∃ v, e = .returned v ∧ v = (.agg #[.int .i64 r.fCode, .int .i64 r.fValue]) ∧ Mem w [] w_ []) := by
  have HM := Mem.start w
  refine calls_run (N := 49) Try.func19 rfl rfl rfl rfl ?_
  unfold spec_OwnedBy.f at H
  refine run_seq ?_
  refine run_region rfl ?_
  refine ops_does rfl (guard_none rfl) rfl rfl (does_alloc (cs := [.int .i64 0, .int .i64 0]) rfl tz42 rfl HM) ?_
  rintro _ w1316 ⟨b1313, rfl, HM⟩
  refine ops_nil ?_
  refine at_then ?_
  refine run_seq ?_
  refine run_seq ?_
  obtain ⟨t1320, h1321, H⟩ := bind_some H
  refine run_region rfl ?_
  refine ops_ex rfl (guard_none rfl) rfl rfl (ex_move rfl rfl) ?_
  refine ops_does rfl (guard_none rfl) rfl rfl (does_callk rfl callok73 rfl (spec_l4Fault.calls (x0 := x0) (HM.rd hp0) h1321)) ?_
  rintro _ w1322 ⟨rfl, hn⟩
  replace HM : Mem w [] w1322 [box b1313 42 [.int .i64 0, .int .i64 0]] := HM.call hn
  refine ops_ex rfl (guard_none rfl) rfl rfl (ex_assign rfl rfl) ?_
  refine ops_nil ?_
  refine at_then ?_
  refine run_seq ?_
  refine run_region rfl ?_
  refine ops_ex rfl (guard_none rfl) rfl rfl (ex_move rfl rfl) ?_
  refine ops_ex rfl (guard_none rfl) rfl rfl (ex_neq rfl rfl rfl) ?_
  refine ops_nil ?_
  refine at_then ?_
  refine run_cond (b := (t1320 != 0)) rfl (fun hb1323 => ?_) (fun hb1323 => ?_)
  · replace H := cond_t hb1323 H
    refine run_seq ?_
    refine run_region rfl ?_
    refine ops_ex rfl (guard_none rfl) rfl rfl (ex_move rfl rfl) ?_
    refine ops_ex rfl (guard_none rfl) rfl rfl (ex_build (cells := #[(.int .i64 t1320), (.int .i64 0)]) rfl rfl (by kernel_rfl)) ?_
    refine ops_doesS rfl (guard_none rfl) rfl (does_store (vs := [.int .i64 t1320, .int .i64 0]) (cs' := [.int .i64 t1320, .int .i64 0]) rfl rfl rfl rfl tsz42 (Ones.int (Ones.int Ones.nil)) rfl rfl HM) ?_
    rintro w1324 HM
    refine ops_nil ?_
    refine at_then ?_
    refine run_ret ?_
    refine at_then_ret ?_
    have hcb0 := HM.box_at 0 rfl
    replace HM := (HM.front 0 rfl rfl).drop
    have hR := Option.some.inj H
    subst hR
    exact at_retN rfl rfl Try.underlying42 rfl tsz42 rfl hcb0 ⟨_, rfl, rfl, HM⟩
  · replace H := cond_f hb1323 H
    refine run_skip ?_
    refine at_then ?_
    refine run_seq ?_
    refine run_region rfl ?_
    refine ops_ex rfl (guard_none rfl) rfl rfl (ex_assign rfl rfl) ?_
    refine ops_nil ?_
    refine at_then ?_
    obtain ⟨o1376, ho1377, H⟩ := bind_some H
    refine run_mid (fun ρ_ w_ => ∃ a1375 : Int, a1375 = o1376 ∧ ρ_ = [(4, .pointer (some ⟨b1313, 0, none⟩)), (6, .int .i64 a1375)] ∧ Mem w [] w_ [box b1313 42 [.int .i64 0, .int .i64 0]]) ?_ ?_
    · clear H
      refine run_seq ?_
      refine run_region rfl ?_
      refine ops_ex rfl (guard_none rfl) rfl rfl (ex_assign rfl rfl) ?_
      refine ops_nil ?_
      refine at_then ?_
      refine run_block ?_
      refine run_loop (fun k_ ρ_ w_ => ∃ a1394 : Int, ∃ a1395 : Int, spec_OwnedBy.l0 x0 x1 k_ a1394 a1395 = some o1376 ∧ ρ_ = [(0, p0), (1, .int .i64 x1), (4, .pointer (some ⟨b1313, 0, none⟩)), (6, .int .i64 a1394), (7, .int .i64 a1395)] ∧ Mem w [] w_ [box b1313 42 [.int .i64 0, .int .i64 0]]) k (ρ1 := [(0, p0), (1, .int .i64 x1), (4, .pointer (some ⟨b1313, 0, none⟩)), (6, .int .i64 0), (7, .int .i64 0)]) ⟨_, _, ho1377, rfl, HM⟩ (Sub.cons rfl (Sub.cons rfl (Sub.cons rfl (Sub.cons rfl (Sub.cons rfl Sub.nil))))) ?_
      clear HM ho1377
      rintro k1412 _ w1413 ⟨a1394, a1395, ho1377, rfl, HM⟩
      obtain _ | k1412 := k1412
      · exact nomatch ((spec_OwnedBy.l0_z x0 x1 a1394 a1395).symm.trans ho1377)
      replace ho1377 := (spec_OwnedBy.l0_s x0 x1 k1412 a1394 a1395).symm.trans ho1377
      refine run_seq ?_
      refine run_seq ?_
      refine run_region rfl ?_
      refine ops_ex rfl (guard_none rfl) rfl rfl (ex_move rfl rfl) ?_
      refine ops_ex rfl (guard_none rfl) rfl rfl (ex_move rfl rfl) ?_
      refine ops_ex rfl (guard_none rfl) rfl rfl (ex_len (d := kCoin) (xs := x0) rfl rfl Try.underlying44 hp0) ?_
      refine ops_ex rfl (guard_none rfl) rfl rfl (ex_lss rfl rfl rfl) ?_
      refine ops_nil ?_
      refine at_then ?_
      refine run_cond (b := (decide (a1395 < (x0.length : Int)))) rfl (fun hb1414 => ?_) (fun hb1414 => ?_)
      · replace ho1377 := cond_t hb1414 ho1377
        refine run_skip ?_
        refine at_then ?_
        refine run_seq ?_
        refine run_block ?_
        refine run_seq ?_
        obtain ⟨e1415, ho1377⟩ := chk_some ho1377
        obtain ⟨e1419, ho1377⟩ := chk_some ho1377
        obtain ⟨t1423, h1424, ho1377⟩ := bind_some ho1377
        refine run_meet (fun ρ_ w_ => ρ_ = [(0, p0), (1, .int .i64 x1), (4, .pointer (some ⟨b1313, 0, none⟩)), (6, .int .i64 a1394), (7, .int .i64 a1395), (38, .bool ((((gt x0 a1395).fOut.fRule.fNeed) == 1) && t1423))] ∧ Mem w [] w_ [box b1313 42 [.int .i64 0, .int .i64 0]]) ?_ ?_
        · skip
          refine run_region rfl ?_
          refine ops_ex rfl (guard_none rfl) rfl rfl (ex_move rfl rfl) ?_
          refine ops_ex rfl (guard_none rfl) rfl rfl (ex_move rfl rfl) ?_
          obtain ⟨kv1417, hc1416, hk1418⟩ : ∃ u, CellsAt _ (sb p0) (so p0 + (a1395).toNat * 8) [(.int .i64 ((gt x0 a1395).fRef.fTx)), (.int .i64 ((gt x0 a1395).fRef.fAt)), (.int .i64 ((gt x0 a1395).fOut.fValue)), u, (.int .i64 ((gt x0 a1395).fOut.fRule.fNeed)), (.int .i64 ((gt x0 a1395).fOut.fRule.fAfter)), (.int .i64 ((gt x0 a1395).fHeight)), (.bool ((gt x0 a1395).fMined))] ∧ RdS kInt _ u ((gt x0 a1395).fOut.fRule.fKeys) := rd_with1 hp0 e1415
          refine ops_ex rfl (guard_none rfl) rfl rfl (ex_indexAddr (d := kCoin) rfl rfl rfl Try.underlying44 tsz123 hp0 (idx_lo e1415) (idx_hi e1415)) ?_
          refine ops_ex rfl (guard_none rfl) rfl rfl (ex_fieldAddr (off' := so p0 + (a1395).toNat * 8 + 2) rfl rfl Try.underlying123 rfl tsz121 rfl) ?_
          refine ops_ex rfl (guard_none rfl) rfl rfl (ex_fieldAddr (off' := so p0 + (a1395).toNat * 8 + 3) rfl rfl Try.underlying121 rfl tsz119 rfl) ?_
          refine ops_ex rfl (guard_none rfl) rfl rfl (ex_fieldAddr (off' := so p0 + (a1395).toNat * 8 + 4) rfl rfl Try.underlying119 rfl tsz2 rfl) ?_
          refine ops_ex rfl (guard_none rfl) rfl rfl (ex_load1 rfl rfl Try.underlying2 rfl ((HM.at_ hc1416) 4 _ rfl)) ?_
          refine ops_ex rfl (guard_none rfl) rfl rfl (ex_eql rfl rfl rfl) ?_
          refine ops_ex rfl (guard_none rfl) rfl rfl (ex_move rfl rfl) ?_
          refine bool_cases (((gt x0 a1395).fOut.fRule.fNeed) == 1) (fun hg1425 => ?_) (fun hg1425 => ?_)
          · skip
            refine ops_ex rfl (guard_on rfl rfl rfl hg1425) rfl rfl (ex_move rfl rfl) ?_
            refine ops_ex rfl (guard_on rfl rfl rfl hg1425) rfl rfl (ex_move rfl rfl) ?_
            obtain ⟨kv1421, hc1420, hk1422⟩ : ∃ u, CellsAt _ (sb p0) (so p0 + (a1395).toNat * 8) [(.int .i64 ((gt x0 a1395).fRef.fTx)), (.int .i64 ((gt x0 a1395).fRef.fAt)), (.int .i64 ((gt x0 a1395).fOut.fValue)), u, (.int .i64 ((gt x0 a1395).fOut.fRule.fNeed)), (.int .i64 ((gt x0 a1395).fOut.fRule.fAfter)), (.int .i64 ((gt x0 a1395).fHeight)), (.bool ((gt x0 a1395).fMined))] ∧ RdS kInt _ u ((gt x0 a1395).fOut.fRule.fKeys) := rd_with1 hp0 (or_t e1419 hg1425)
            refine ops_ex rfl (guard_on rfl rfl rfl hg1425) rfl rfl (ex_indexAddr (d := kCoin) rfl rfl rfl Try.underlying44 tsz123 hp0 (idx_lo (or_t e1419 hg1425)) (idx_hi (or_t e1419 hg1425))) ?_
            refine ops_ex rfl (guard_on rfl rfl rfl hg1425) rfl rfl (ex_fieldAddr (off' := so p0 + (a1395).toNat * 8 + 2) rfl rfl Try.underlying123 rfl tsz121 rfl) ?_
            refine ops_ex rfl (guard_on rfl rfl rfl hg1425) rfl rfl (ex_fieldAddr (off' := so p0 + (a1395).toNat * 8 + 3) rfl rfl Try.underlying121 rfl tsz119 rfl) ?_
            refine ops_ex rfl (guard_on rfl rfl rfl hg1425) rfl rfl (ex_fieldAddr (off' := so p0 + (a1395).toNat * 8 + 3) rfl rfl Try.underlying119 rfl tsz111 rfl) ?_
            refine ops_ex rfl (guard_on rfl rfl rfl hg1425) rfl rfl (ex_load1 rfl rfl Try.underlying111 rfl ((HM.at_ hc1420) 3 _ rfl)) ?_
            refine ops_ex rfl (guard_on rfl rfl rfl hg1425) rfl rfl (ex_move rfl rfl) ?_
            refine ops_does rfl (guard_on rfl rfl rfl hg1425) rfl rfl (does_callk rfl callok74 rfl (spec_l4Among.calls (x0 := (gt x0 a1395).fOut.fRule.fKeys) (x1 := x1) (HM.rd hk1422) (cond_t hg1425 h1424))) ?_
            rintro _ w1426 ⟨rfl, hn⟩
            replace HM : Mem w [] w1426 [box b1313 42 [.int .i64 0, .int .i64 0]] := HM.call hn
            refine ops_ex (v := .bool ((((gt x0 a1395).fOut.fRule.fNeed) == 1) && t1423)) rfl (guard_none rfl) rfl rfl (ex_pand_t rfl rfl hg1425 rfl) ?_
            refine ops_nil ?_
            exact at_meet [(0, p0), (1, .int .i64 x1), (4, .pointer (some ⟨b1313, 0, none⟩)), (6, .int .i64 a1394), (7, .int .i64 a1395), (38, .bool ((((gt x0 a1395).fOut.fRule.fNeed) == 1) && t1423))] ⟨rfl, HM⟩ (Sub.cons rfl (Sub.cons rfl (Sub.cons rfl (Sub.cons rfl (Sub.cons rfl (Sub.cons rfl Sub.nil))))))
          · skip
            refine ops_off rfl (guard_off rfl rfl rfl hg1425) rfl rfl ?_
            refine ops_off rfl (guard_off rfl rfl rfl hg1425) rfl rfl ?_
            refine ops_off rfl (guard_off rfl rfl rfl hg1425) rfl rfl ?_
            refine ops_off rfl (guard_off rfl rfl rfl hg1425) rfl rfl ?_
            refine ops_off rfl (guard_off rfl rfl rfl hg1425) rfl rfl ?_
            refine ops_off rfl (guard_off rfl rfl rfl hg1425) rfl rfl ?_
            refine ops_off rfl (guard_off rfl rfl rfl hg1425) rfl rfl ?_
            refine ops_off rfl (guard_off rfl rfl rfl hg1425) rfl rfl ?_
            refine ops_off rfl (guard_off rfl rfl rfl hg1425) rfl rfl ?_
            have hg1427 : ((((gt x0 a1395).fOut.fRule.fNeed) == 1) && t1423) = false := by simp only [hg1425, Bool.and_true, Bool.true_and, Bool.and_false, Bool.false_and, Bool.or_true, Bool.true_or, Bool.or_false, Bool.false_or, Bool.not_true, Bool.not_false, Bool.not_not]
            refine ops_ex (v := .bool ((((gt x0 a1395).fOut.fRule.fNeed) == 1) && t1423)) rfl (guard_none rfl) rfl rfl (ex_pand_f rfl rfl hg1425) ?_
            refine ops_nil ?_
            exact at_meet [(0, p0), (1, .int .i64 x1), (4, .pointer (some ⟨b1313, 0, none⟩)), (6, .int .i64 a1394), (7, .int .i64 a1395), (38, .bool ((((gt x0 a1395).fOut.fRule.fNeed) == 1) && t1423))] ⟨rfl, HM⟩ (Sub.cons rfl (Sub.cons rfl (Sub.cons rfl (Sub.cons rfl (Sub.cons rfl (Sub.cons rfl Sub.nil))))))
        · rintro _ w1428 ⟨rfl, HM⟩
          refine at_then ?_
          refine run_cond (b := ((((gt x0 a1395).fOut.fRule.fNeed) == 1) && t1423)) rfl (fun hb1429 => ?_) (fun hb1429 => ?_)
          · replace ho1377 := cond_t hb1429 ho1377
            obtain ⟨e1430, ho1377⟩ := chk_some ho1377
            refine run_region rfl ?_
            refine ops_ex rfl (guard_none rfl) rfl rfl (ex_move rfl rfl) ?_
            refine ops_ex rfl (guard_none rfl) rfl rfl (ex_move rfl rfl) ?_
            refine ops_ex rfl (guard_none rfl) rfl rfl (ex_move rfl rfl) ?_
            obtain ⟨kv1432, hc1431, hk1433⟩ : ∃ u, CellsAt _ (sb p0) (so p0 + (a1395).toNat * 8) [(.int .i64 ((gt x0 a1395).fRef.fTx)), (.int .i64 ((gt x0 a1395).fRef.fAt)), (.int .i64 ((gt x0 a1395).fOut.fValue)), u, (.int .i64 ((gt x0 a1395).fOut.fRule.fNeed)), (.int .i64 ((gt x0 a1395).fOut.fRule.fAfter)), (.int .i64 ((gt x0 a1395).fHeight)), (.bool ((gt x0 a1395).fMined))] ∧ RdS kInt _ u ((gt x0 a1395).fOut.fRule.fKeys) := rd_with1 hp0 e1430
            refine ops_ex rfl (guard_none rfl) rfl rfl (ex_indexAddr (d := kCoin) rfl rfl rfl Try.underlying44 tsz123 hp0 (idx_lo e1430) (idx_hi e1430)) ?_
            refine ops_ex rfl (guard_none rfl) rfl rfl (ex_fieldAddr (off' := so p0 + (a1395).toNat * 8 + 2) rfl rfl Try.underlying123 rfl tsz121 rfl) ?_
            refine ops_ex rfl (guard_none rfl) rfl rfl (ex_fieldAddr (off' := so p0 + (a1395).toNat * 8 + 2) rfl rfl Try.underlying121 rfl tsz2 rfl) ?_
            refine ops_ex rfl (guard_none rfl) rfl rfl (ex_load1 rfl rfl Try.underlying2 rfl ((HM.at_ hc1431) 2 _ rfl)) ?_
            refine ops_ex rfl (guard_none rfl) rfl rfl (ex_add rfl rfl rfl) ?_
            refine ops_ex rfl (guard_none rfl) rfl rfl (ex_assign rfl rfl) ?_
            refine ops_nil ?_
            refine at_block ?_
            refine at_then ?_
            refine run_region rfl ?_
            refine ops_ex rfl (guard_none rfl) rfl rfl (ex_move rfl rfl) ?_
            refine ops_ex rfl (guard_none rfl) rfl rfl (ex_add rfl rfl rfl) ?_
            refine ops_ex rfl (guard_none rfl) rfl rfl (ex_assign rfl rfl) ?_
            refine ops_nil ?_
            exact at_again k1412 (ρ1 := [(0, p0), (1, .int .i64 x1), (4, .pointer (some ⟨b1313, 0, none⟩)), (6, .int .i64 (wrap64 (a1394 + ((gt x0 a1395).fOut.fValue)))), (7, .int .i64 (wrap64 (a1395 + 1)))]) (Nat.lt_succ_self _) ⟨_, _, ho1377, rfl, HM⟩ (Sub.cons rfl (Sub.cons rfl (Sub.cons rfl (Sub.cons rfl (Sub.cons rfl Sub.nil)))))
          · replace ho1377 := cond_f hb1429 ho1377
            refine run_skip ?_
            refine at_block ?_
            refine at_then ?_
            refine run_region rfl ?_
            refine ops_ex rfl (guard_none rfl) rfl rfl (ex_move rfl rfl) ?_
            refine ops_ex rfl (guard_none rfl) rfl rfl (ex_add rfl rfl rfl) ?_
            refine ops_ex rfl (guard_none rfl) rfl rfl (ex_assign rfl rfl) ?_
            refine ops_nil ?_
            exact at_again k1412 (ρ1 := [(0, p0), (1, .int .i64 x1), (4, .pointer (some ⟨b1313, 0, none⟩)), (6, .int .i64 a1394), (7, .int .i64 (wrap64 (a1395 + 1)))]) (Nat.lt_succ_self _) ⟨_, _, ho1377, rfl, HM⟩ (Sub.cons rfl (Sub.cons rfl (Sub.cons rfl (Sub.cons rfl (Sub.cons rfl Sub.nil)))))
      · replace ho1377 := cond_f hb1414 ho1377
        refine run_exit ?_
        refine at_then_exit ?_
        refine at_then_exit ?_
        refine at_block_exit ?_
        exact at_mid (ρ' := [(4, .pointer (some ⟨b1313, 0, none⟩)), (6, .int .i64 a1394)]) ⟨_, (Option.some.inj ho1377), rfl, HM⟩ (Sub.cons rfl (Sub.cons rfl Sub.nil))
    · rintro _ w1434 ⟨a1375, rfl, rfl, HM⟩
      refine run_seq ?_
      refine run_region rfl ?_
      refine ops_ex rfl (guard_none rfl) rfl rfl (ex_move rfl rfl) ?_
      refine ops_ex rfl (guard_none rfl) rfl rfl (ex_build (cells := #[(.int .i64 0), (.int .i64 a1375)]) rfl rfl (by kernel_rfl)) ?_
      refine ops_doesS rfl (guard_none rfl) rfl (does_store (vs := [.int .i64 0, .int .i64 a1375]) (cs' := [.int .i64 0, .int .i64 a1375]) rfl rfl rfl rfl tsz42 (Ones.int (Ones.int Ones.nil)) rfl rfl HM) ?_
      rintro w1435 HM
      refine ops_nil ?_
      refine at_then ?_
      refine run_ret ?_
      have hcb0 := HM.box_at 0 rfl
      replace HM := (HM.front 0 rfl rfl).drop
      have hR := Option.some.inj H
      subst hR
      exact at_retN rfl rfl Try.underlying42 rfl tsz42 rfl hcb0 ⟨_, rfl, rfl, HM⟩
end Go.Proofs.Ytigojhglkilodaa.Zk
