/- What functions of the program compute, each as a plain function, and that they do. Conditions: as each theorem states them. -/
import Derived.Test.YtigojhglkilodaaCoinAtZkF0
namespace Go.Proofs.Ytigojhglkilodaa.Zk
open Go Go.RowKit Go.IntWalk Go.Proofs
set_option linter.unusedVariables false
set_option linter.unusedSimpArgs false
set_option maxRecDepth 100000
set_option maxHeartbeats 4000000
def spec_l2Height.f (k : Nat) (x0 : Int) : Option Bool := ((spec_l1In.f k x0 0 999).bind fun t526 => some t526)
theorem spec_l2Height.calls {k : Nat} {x0 : Int}  {w : World}  {r : Bool} (H : spec_l2Height.f k x0 = some r) :
    Calls Try.prog 100 ([.int .i64 x0] : List Value).toArray w (fun e w_ => ∃ v, e = .returned v ∧ v = (.bool r) ∧ Mem w [] w_ []) := by
  have HM := Mem.start w
  refine calls_run (N := 5) Try.func100 rfl rfl rfl rfl ?_
  unfold spec_l2Height.f at H
  refine run_seq ?_
  refine run_region rfl ?_
  refine ops_ex rfl (guard_none rfl) rfl rfl (ex_assign rfl rfl) ?_
  refine ops_nil ?_
  refine at_then ?_
  refine run_seq ?_
  obtain ⟨t526, h527, H⟩ := bind_some H
  refine run_region rfl ?_
  refine ops_ex rfl (guard_none rfl) rfl rfl (ex_move rfl rfl) ?_
  refine ops_does rfl (guard_none rfl) rfl rfl (does_callk rfl callok88 rfl (spec_l1In.calls (x0 := x0) (x1 := 0) (x2 := 999) h527)) ?_
  rintro _ w528 ⟨rfl, hn⟩
  replace HM : Mem w [] w528 [] := HM.call hn
  refine ops_ex rfl (guard_none rfl) rfl rfl (ex_assign rfl rfl) ?_
  refine ops_nil ?_
  refine at_then ?_
  refine run_ret ?_
  have hR := Option.some.inj H
  subst hR
  exact at_ret1 rfl rfl ⟨_, rfl, rfl, HM⟩

def spec_l1Key.f (k : Nat) (x0 : Int) : Option Bool := ((spec_l1In.f k x0 1 999).bind fun t566 => some t566)
theorem spec_l1Key.calls {k : Nat} {x0 : Int}  {w : World}  {r : Bool} (H : spec_l1Key.f k x0 = some r) :
    Calls Try.prog 107 ([.int .i64 x0] : List Value).toArray w (fun e w_ => ∃ v, e = .returned v ∧ v = (.bool r) ∧ Mem w [] w_ []) := by
  have HM := Mem.start w
  refine calls_run (N := 5) Try.func107 rfl rfl rfl rfl ?_
  unfold spec_l1Key.f at H
  refine run_seq ?_
  refine run_region rfl ?_
  refine ops_ex rfl (guard_none rfl) rfl rfl (ex_assign rfl rfl) ?_
  refine ops_nil ?_
  refine at_then ?_
  refine run_seq ?_
  obtain ⟨t566, h567, H⟩ := bind_some H
  refine run_region rfl ?_
  refine ops_ex rfl (guard_none rfl) rfl rfl (ex_move rfl rfl) ?_
  refine ops_does rfl (guard_none rfl) rfl rfl (does_callk rfl callok88 rfl (spec_l1In.calls (x0 := x0) (x1 := 1) (x2 := 999) h567)) ?_
  rintro _ w568 ⟨rfl, hn⟩
  replace HM : Mem w [] w568 [] := HM.call hn
  refine ops_ex rfl (guard_none rfl) rfl rfl (ex_assign rfl rfl) ?_
  refine ops_nil ?_
  refine at_then ?_
  refine run_ret ?_
  have hR := Option.some.inj H
  subst hR
  exact at_ret1 rfl rfl ⟨_, rfl, rfl, HM⟩

def spec_l2Fault.l0 (x0 : Rule) : Nat → Int → Option (Int ⊕ Unit)
  | 0, _ => none
  | k + 1, a652 => (bif (decide (a652 < (x0.fKeys.length : Int))) then (chk (idxOk a652 x0.fKeys.length) ((spec_l1Key.f k (gt x0.fKeys a652)).bind fun t664 => (bif !t664 then some (.inl 3) else spec_l2Fault.l0 x0 k (wrap64 (a652 + 1))))) else some (.inr ()))
theorem spec_l2Fault.l0_z (x0 : Rule) (a652 : Int) : spec_l2Fault.l0 x0 0 a652 = none := rfl
theorem spec_l2Fault.l0_s (x0 : Rule) (k : Nat) (a652 : Int) : spec_l2Fault.l0 x0 (k + 1) a652 = (bif (decide (a652 < (x0.fKeys.length : Int))) then (chk (idxOk a652 x0.fKeys.length) ((spec_l1Key.f k (gt x0.fKeys a652)).bind fun t664 => (bif !t664 then some (.inl 3) else spec_l2Fault.l0 x0 k (wrap64 (a652 + 1))))) else some (.inr ())) := rfl
def spec_l2Fault.l1 (x0 : Rule) : Nat → Int → Option (Int ⊕ Unit)
  | 0, _ => none
  | k + 1, a711 => (bif (decide (a711 < (x0.fKeys.length : Int))) then (chk (idxOk a711 x0.fKeys.length) (chk (idxOk (wrap64 (a711 - 1)) x0.fKeys.length) (bif (decide ((gt x0.fKeys a711) ≤ (gt x0.fKeys (wrap64 (a711 - 1))))) then some (.inl 1) else spec_l2Fault.l1 x0 k (wrap64 (a711 + 1))))) else some (.inr ()))
theorem spec_l2Fault.l1_z (x0 : Rule) (a711 : Int) : spec_l2Fault.l1 x0 0 a711 = none := rfl
theorem spec_l2Fault.l1_s (x0 : Rule) (k : Nat) (a711 : Int) : spec_l2Fault.l1 x0 (k + 1) a711 = (bif (decide (a711 < (x0.fKeys.length : Int))) then (chk (idxOk a711 x0.fKeys.length) (chk (idxOk (wrap64 (a711 - 1)) x0.fKeys.length) (bif (decide ((gt x0.fKeys a711) ≤ (gt x0.fKeys (wrap64 (a711 - 1))))) then some (.inl 1) else spec_l2Fault.l1 x0 k (wrap64 (a711 + 1))))) else some (.inr ())) := rfl
def spec_l2Fault.f (k : Nat) (x0 : Rule) : Option Int := ((spec_l1In.f k (x0.fKeys.length : Int) 1 3).bind fun t621 => (bif !t621 then some 2 else ((spec_l2Fault.l0 x0 k 0).bind fun o644 => thn o644 (fun r => some r) (fun _ => ((spec_l1In.f k x0.fNeed 1 (x0.fKeys.length : Int)).bind fun t674 => ((bif (!(!t674)) then spec_l2Height.f k x0.fAfter else some default).bind fun t676 => (bif ((!t674) || (!t676)) then some 3 else ((spec_l2Fault.l1 x0 k 1).bind fun o703 => thn o703 (fun r => some r) (fun _ => some 0)))))))))
theorem spec_l2Fault.calls {k : Nat} {x0 : Rule} {b0 f0 : Nat} {p0_0 : Value} {w : World} (hc0 : CellsAt w b0 f0 [p0_0, .int .i64 x0.fNeed, .int .i64 x0.fAfter]) (hp0_0 : RdS kInt w p0_0 x0.fKeys) {r : Int} (H : spec_l2Fault.f k x0 = some r) :
    Calls Try.prog 152 ([.pointer (some ⟨b0, f0, none⟩)] : List Value).toArray w (fun e w_ => ∃ v, e = .returned v ∧ v = (.int .i64 r) ∧ Mem w [] w_ []) := by
  have HM := Mem.start w
  refine calls_run (N := 72) Try.func152 rfl rfl rfl rfl ?_
  unfold spec_l2Fault.f at H
  refine run_seq ?_
  refine run_region rfl ?_
  refine ops_ex rfl (guard_none rfl) rfl rfl (ex_assign rfl rfl) ?_
  refine ops_nil ?_
  refine at_then ?_
  refine run_seq ?_
  refine run_region rfl ?_
  refine ops_ex rfl (guard_none rfl) rfl rfl (ex_move rfl rfl) ?_
  refine ops_ex rfl (guard_none rfl) rfl rfl (ex_nilCheck rfl rfl) ?_
  refine ops_ex rfl (guard_none rfl) rfl rfl (ex_fieldAddr (off' := f0) rfl rfl Try.underlying119 rfl tsz111 rfl) ?_
  refine ops_ex rfl (guard_none rfl) rfl rfl (ex_load1 rfl rfl Try.underlying111 rfl ((HM.at_ hc0) 0 _ rfl)) ?_
  refine ops_ex rfl (guard_none rfl) rfl rfl (ex_len (d := kInt) (xs := x0.fKeys) rfl rfl Try.underlying111 hp0_0) ?_
  refine ops_ex rfl (guard_none rfl) rfl rfl (ex_assign rfl rfl) ?_
  refine ops_nil ?_
  refine at_then ?_
  refine run_seq ?_
  refine run_seq ?_
  obtain ⟨t621, h622, H⟩ := bind_some H
  refine run_region rfl ?_
  refine ops_ex rfl (guard_none rfl) rfl rfl (ex_move rfl rfl) ?_
  refine ops_does rfl (guard_none rfl) rfl rfl (does_callk rfl callok88 rfl (spec_l1In.calls (x0 := (x0.fKeys.length : Int)) (x1 := 1) (x2 := 3) h622)) ?_
  rintro _ w623 ⟨rfl, hn⟩
  replace HM : Mem w [] w623 [] := HM.call hn
  refine ops_ex rfl (guard_none rfl) rfl rfl (ex_not rfl rfl) ?_
  refine ops_nil ?_
  refine at_then ?_
  refine run_cond (b := !t621) rfl (fun hb624 => ?_) (fun hb624 => ?_)
  · replace H := cond_t hb624 H
    refine run_seq ?_
    refine run_region rfl ?_
    refine ops_ex rfl (guard_none rfl) rfl rfl (ex_assign rfl rfl) ?_
    refine ops_nil ?_
    refine at_then ?_
    refine run_ret ?_
    refine at_then_ret ?_
    have hR := Option.some.inj H
    subst hR
    exact at_ret1 rfl rfl ⟨_, rfl, rfl, HM⟩
  · replace H := cond_f hb624 H
    refine run_skip ?_
    refine at_then ?_
    obtain ⟨o644, ho645, H⟩ := bind_some H
    refine run_mid (fun ρ_ w_ => Sum.inr () = o644 ∧ ρ_ = [(0, .pointer (some ⟨b0, f0, none⟩)), (3, .int .i64 (x0.fKeys.length : Int))] ∧ Mem w [] w_ []) ?_ ?_
    · skip
      refine run_seq ?_
      refine run_region rfl ?_
      refine ops_ex rfl (guard_none rfl) rfl rfl (ex_assign rfl rfl) ?_
      refine ops_nil ?_
      refine at_then ?_
      refine run_block ?_
      refine run_loop (fun k_ ρ_ w_ => ∃ a652 : Int, spec_l2Fault.l0 x0 k_ a652 = some o644 ∧ ρ_ = [(0, .pointer (some ⟨b0, f0, none⟩)), (3, .int .i64 (x0.fKeys.length : Int)), (4, .int .i64 a652)] ∧ Mem w [] w_ []) k (ρ1 := [(0, .pointer (some ⟨b0, f0, none⟩)), (3, .int .i64 (x0.fKeys.length : Int)), (4, .int .i64 0)]) ⟨_, ho645, rfl, HM⟩ (Sub.cons rfl (Sub.cons rfl (Sub.cons rfl Sub.nil))) ?_
      clear HM ho645
      rintro k659 _ w660 ⟨a652, ho645, rfl, HM⟩
      obtain _ | k659 := k659
      · exact nomatch ((spec_l2Fault.l0_z x0 a652).symm.trans ho645)
      replace ho645 := (spec_l2Fault.l0_s x0 k659 a652).symm.trans ho645
      refine run_seq ?_
      refine run_seq ?_
      refine run_region rfl ?_
      refine ops_ex rfl (guard_none rfl) rfl rfl (ex_move rfl rfl) ?_
      refine ops_ex rfl (guard_none rfl) rfl rfl (ex_move rfl rfl) ?_
      refine ops_ex rfl (guard_none rfl) rfl rfl (ex_nilCheck rfl rfl) ?_
      refine ops_ex rfl (guard_none rfl) rfl rfl (ex_fieldAddr (off' := f0) rfl rfl Try.underlying119 rfl tsz111 rfl) ?_
      refine ops_ex rfl (guard_none rfl) rfl rfl (ex_load1 rfl rfl Try.underlying111 rfl ((HM.at_ hc0) 0 _ rfl)) ?_
      refine ops_ex rfl (guard_none rfl) rfl rfl (ex_len (d := kInt) (xs := x0.fKeys) rfl rfl Try.underlying111 hp0_0) ?_
      refine ops_ex rfl (guard_none rfl) rfl rfl (ex_lss rfl rfl rfl) ?_
      refine ops_nil ?_
      refine at_then ?_
      refine run_cond (b := (decide (a652 < (x0.fKeys.length : Int)))) rfl (fun hb661 => ?_) (fun hb661 => ?_)
      · replace ho645 := cond_t hb661 ho645
        refine run_skip ?_
        refine at_then ?_
        refine run_seq ?_
        refine run_block ?_
        refine run_seq ?_
        obtain ⟨e662, ho645⟩ := chk_some ho645
        obtain ⟨t664, h665, ho645⟩ := bind_some ho645
        refine run_region rfl ?_
        refine ops_ex rfl (guard_none rfl) rfl rfl (ex_move rfl rfl) ?_
        refine ops_ex rfl (guard_none rfl) rfl rfl (ex_nilCheck rfl rfl) ?_
        refine ops_ex rfl (guard_none rfl) rfl rfl (ex_fieldAddr (off' := f0) rfl rfl Try.underlying119 rfl tsz111 rfl) ?_
        refine ops_ex rfl (guard_none rfl) rfl rfl (ex_load1 rfl rfl Try.underlying111 rfl ((HM.at_ hc0) 0 _ rfl)) ?_
        refine ops_ex rfl (guard_none rfl) rfl rfl (ex_move rfl rfl) ?_
        have hc663 : CellsAt _ (sb p0_0) (so p0_0 + (a652).toNat * 1) [(.int .i64 (gt x0.fKeys a652))] := rd_plain hp0_0 e662
        refine ops_ex rfl (guard_none rfl) rfl rfl (ex_indexAddr (d := kInt) rfl rfl rfl Try.underlying111 tsz2 hp0_0 (idx_lo e662) (idx_hi e662)) ?_
        refine ops_ex rfl (guard_none rfl) rfl rfl (ex_load1 rfl rfl Try.underlying2 rfl ((HM.at_ hc663) 0 _ rfl)) ?_
        refine ops_does rfl (guard_none rfl) rfl rfl (does_callk rfl callok107 rfl (spec_l1Key.calls (x0 := (gt x0.fKeys a652)) h665)) ?_
        rintro _ w666 ⟨rfl, hn⟩
        replace HM : Mem w [] w666 [] := HM.call hn
        refine ops_ex rfl (guard_none rfl) rfl rfl (ex_not rfl rfl) ?_
        refine ops_nil ?_
        refine at_then ?_
        refine run_cond (b := !t664) rfl (fun hb667 => ?_) (fun hb667 => ?_)
        · replace ho645 := cond_t hb667 ho645
          refine run_seq ?_
          refine run_region rfl ?_
          refine ops_ex rfl (guard_none rfl) rfl rfl (ex_assign rfl rfl) ?_
          refine ops_nil ?_
          refine at_then ?_
          refine run_ret ?_
          refine at_block_ret ?_
          refine at_then_ret ?_
          refine at_then_ret ?_
          refine at_block_ret ?_
          refine at_then_ret ?_
          have hR := Option.some.inj ho645
          subst hR
          have hT := thn_inl H
          have hR := Option.some.inj hT
          subst hR
          exact at_ret1 rfl rfl ⟨_, rfl, rfl, HM⟩
        · replace ho645 := cond_f hb667 ho645
          refine run_skip ?_
          refine at_block ?_
          refine at_then ?_
          refine run_region rfl ?_
          refine ops_ex rfl (guard_none rfl) rfl rfl (ex_move rfl rfl) ?_
          refine ops_ex rfl (guard_none rfl) rfl rfl (ex_add rfl rfl rfl) ?_
          refine ops_ex rfl (guard_none rfl) rfl rfl (ex_assign rfl rfl) ?_
          refine ops_nil ?_
          exact at_again k659 (ρ1 := [(0, .pointer (some ⟨b0, f0, none⟩)), (3, .int .i64 (x0.fKeys.length : Int)), (4, .int .i64 (wrap64 (a652 + 1)))]) (Nat.lt_succ_self _) ⟨_, ho645, rfl, HM⟩ (Sub.cons rfl (Sub.cons rfl (Sub.cons rfl Sub.nil)))
      · replace ho645 := cond_f hb661 ho645
        refine run_exit ?_
        refine at_then_exit ?_
        refine at_then_exit ?_
        refine at_block_exit ?_
        exact at_mid (ρ' := [(0, .pointer (some ⟨b0, f0, none⟩)), (3, .int .i64 (x0.fKeys.length : Int))]) ⟨(Option.some.inj ho645), rfl, HM⟩ (Sub.cons rfl (Sub.cons rfl Sub.nil))
    · rintro _ w668 ⟨rfl, rfl, HM⟩
      replace H := (thn_inr H)
      refine run_seq ?_
      refine run_seq ?_
      obtain ⟨t674, h675, H⟩ := bind_some H
      obtain ⟨t676, h677, H⟩ := bind_some H
      refine run_meet (fun ρ_ w_ => ρ_ = [(0, .pointer (some ⟨b0, f0, none⟩)), (46, .bool ((!t674) || (!t676)))] ∧ Mem w [] w_ []) ?_ ?_
      · skip
        refine run_region rfl ?_
        refine ops_ex rfl (guard_none rfl) rfl rfl (ex_move rfl rfl) ?_
        refine ops_ex rfl (guard_none rfl) rfl rfl (ex_nilCheck rfl rfl) ?_
        refine ops_ex rfl (guard_none rfl) rfl rfl (ex_fieldAddr (off' := f0 + 1) rfl rfl Try.underlying119 rfl tsz2 rfl) ?_
        refine ops_ex rfl (guard_none rfl) rfl rfl (ex_load1 rfl rfl Try.underlying2 rfl ((HM.at_ hc0) 1 _ rfl)) ?_
        refine ops_ex rfl (guard_none rfl) rfl rfl (ex_move rfl rfl) ?_
        refine ops_does rfl (guard_none rfl) rfl rfl (does_callk rfl callok88 rfl (spec_l1In.calls (x0 := x0.fNeed) (x1 := 1) (x2 := (x0.fKeys.length : Int)) h675)) ?_
        rintro _ w678 ⟨rfl, hn⟩
        replace HM : Mem w [] w678 [] := HM.call hn
        refine ops_ex rfl (guard_none rfl) rfl rfl (ex_not rfl rfl) ?_
        refine ops_ex rfl (guard_none rfl) rfl rfl (ex_move rfl rfl) ?_
        refine bool_cases (!t674) (fun hg679 => ?_) (fun hg679 => ?_)
        · skip
          refine ops_off rfl (guard_off rfl rfl rfl hg679) rfl rfl ?_
          refine ops_off rfl (guard_off rfl rfl rfl hg679) rfl rfl ?_
          refine ops_off rfl (guard_off rfl rfl rfl hg679) rfl rfl ?_
          refine ops_off rfl (guard_off rfl rfl rfl hg679) rfl rfl ?_
          refine ops_off rfl (guard_off rfl rfl rfl hg679) rfl rfl ?_
          refine ops_off rfl (guard_off rfl rfl rfl hg679) rfl rfl ?_
          have hg680 : ((!t674) || (!t676)) = true := by simp only [hg679, Bool.and_true, Bool.true_and, Bool.and_false, Bool.false_and, Bool.or_true, Bool.true_or, Bool.or_false, Bool.false_or, Bool.not_true, Bool.not_false, Bool.not_not]
          refine ops_ex (v := .bool ((!t674) || (!t676))) rfl (guard_none rfl) rfl rfl (ex_por_t rfl rfl hg679) ?_
          refine ops_nil ?_
          exact at_meet [(0, .pointer (some ⟨b0, f0, none⟩)), (46, .bool ((!t674) || (!t676)))] ⟨rfl, HM⟩ (Sub.cons rfl (Sub.cons rfl Sub.nil))
        · skip
          refine ops_ex rfl (guard_on rfl rfl rfl hg679) rfl rfl (ex_move rfl rfl) ?_
          refine ops_ex rfl (guard_on rfl rfl rfl hg679) rfl rfl (ex_nilCheck rfl rfl) ?_
          refine ops_ex rfl (guard_on rfl rfl rfl hg679) rfl rfl (ex_fieldAddr (off' := f0 + 2) rfl rfl Try.underlying119 rfl tsz2 rfl) ?_
          refine ops_ex rfl (guard_on rfl rfl rfl hg679) rfl rfl (ex_load1 rfl rfl Try.underlying2 rfl ((HM.at_ hc0) 2 _ rfl)) ?_
          refine ops_does rfl (guard_on rfl rfl rfl hg679) rfl rfl (does_callk rfl callok100 rfl (spec_l2Height.calls (x0 := x0.fAfter) (cond_t (not_mk hg679) h677))) ?_
          rintro _ w681 ⟨rfl, hn⟩
          replace HM : Mem w [] w681 [] := HM.call hn
          refine ops_ex rfl (guard_on rfl rfl rfl hg679) rfl rfl (ex_not rfl rfl) ?_
          refine ops_ex (v := .bool ((!t674) || (!t676))) rfl (guard_none rfl) rfl rfl (ex_por_f rfl rfl hg679 rfl) ?_
          refine ops_nil ?_
          exact at_meet [(0, .pointer (some ⟨b0, f0, none⟩)), (46, .bool ((!t674) || (!t676)))] ⟨rfl, HM⟩ (Sub.cons rfl (Sub.cons rfl Sub.nil))
      · rintro _ w682 ⟨rfl, HM⟩
        refine at_then ?_
        refine run_cond (b := ((!t674) || (!t676))) rfl (fun hb683 => ?_) (fun hb683 => ?_)
        · replace H := cond_t hb683 H
          refine run_seq ?_
          refine run_region rfl ?_
          refine ops_ex rfl (guard_none rfl) rfl rfl (ex_assign rfl rfl) ?_
          refine ops_nil ?_
          refine at_then ?_
          refine run_ret ?_
          refine at_then_ret ?_
          have hR := Option.some.inj H
          subst hR
          exact at_ret1 rfl rfl ⟨_, rfl, rfl, HM⟩
        · replace H := cond_f hb683 H
          refine run_skip ?_
          refine at_then ?_
          obtain ⟨o703, ho704, H⟩ := bind_some H
          refine run_mid (fun ρ_ w_ => Sum.inr () = o703 ∧ ρ_ = [] ∧ Mem w [] w_ []) ?_ ?_
          · skip
            refine run_seq ?_
            refine run_region rfl ?_
            refine ops_ex rfl (guard_none rfl) rfl rfl (ex_assign rfl rfl) ?_
            refine ops_nil ?_
            refine at_then ?_
            refine run_block ?_
            refine run_loop (fun k_ ρ_ w_ => ∃ a711 : Int, spec_l2Fault.l1 x0 k_ a711 = some o703 ∧ ρ_ = [(0, .pointer (some ⟨b0, f0, none⟩)), (5, .int .i64 a711)] ∧ Mem w [] w_ []) k (ρ1 := [(0, .pointer (some ⟨b0, f0, none⟩)), (5, .int .i64 1)]) ⟨_, ho704, rfl, HM⟩ (Sub.cons rfl (Sub.cons rfl Sub.nil)) ?_
            clear HM ho704
            rintro k718 _ w719 ⟨a711, ho704, rfl, HM⟩
            obtain _ | k718 := k718
            · exact nomatch ((spec_l2Fault.l1_z x0 a711).symm.trans ho704)
            replace ho704 := (spec_l2Fault.l1_s x0 k718 a711).symm.trans ho704
            refine run_seq ?_
            refine run_seq ?_
            refine run_region rfl ?_
            refine ops_ex rfl (guard_none rfl) rfl rfl (ex_move rfl rfl) ?_
            refine ops_ex rfl (guard_none rfl) rfl rfl (ex_move rfl rfl) ?_
            refine ops_ex rfl (guard_none rfl) rfl rfl (ex_nilCheck rfl rfl) ?_
            refine ops_ex rfl (guard_none rfl) rfl rfl (ex_fieldAddr (off' := f0) rfl rfl Try.underlying119 rfl tsz111 rfl) ?_
            refine ops_ex rfl (guard_none rfl) rfl rfl (ex_load1 rfl rfl Try.underlying111 rfl ((HM.at_ hc0) 0 _ rfl)) ?_
            refine ops_ex rfl (guard_none rfl) rfl rfl (ex_len (d := kInt) (xs := x0.fKeys) rfl rfl Try.underlying111 hp0_0) ?_
            refine ops_ex rfl (guard_none rfl) rfl rfl (ex_lss rfl rfl rfl) ?_
            refine ops_nil ?_
            refine at_then ?_
            refine run_cond (b := (decide (a711 < (x0.fKeys.length : Int)))) rfl (fun hb720 => ?_) (fun hb720 => ?_)
            · replace ho704 := cond_t hb720 ho704
              refine run_skip ?_
              refine at_then ?_
              refine run_seq ?_
              refine run_block ?_
              refine run_seq ?_
              obtain ⟨e721, ho704⟩ := chk_some ho704
              obtain ⟨e723, ho704⟩ := chk_some ho704
              refine run_drawf (fun w_ => Mem w [] w_ []) [(0, true), (1, true), (2, true), (3, true), (4, true), (5, true), (6, true), (7, true), (8, true), (9, true), (10, true), (11, true), (12, true), (13, true), (14, true), (15, true)] mixed rfl rfl (by kernel_rfl) ?_
              replace HM := HM.grow (fr_drew _)
              have hS := Mem.suf (M := []) HM
              refine drwp_take rfl (guard_none rfl) rfl rfl (fun w_ hS_ => (ex_move rfl rfl)) hS ?_
              refine drwp_take rfl (guard_none rfl) rfl rfl (fun w_ hS_ => (ex_nilCheck rfl rfl)) hS ?_
              refine drwp_take rfl (guard_none rfl) rfl rfl (fun w_ hS_ => (ex_fieldAddr (off' := f0) rfl rfl Try.underlying119 rfl tsz111 rfl)) hS ?_
              refine drwp_take rfl (guard_none rfl) rfl rfl (fun w_ hS_ => (ex_load1 rfl rfl Try.underlying111 rfl ((hS_.at_ hc0) 0 _ rfl))) hS ?_
              refine drwp_take rfl (guard_none rfl) rfl rfl (fun w_ hS_ => (ex_move rfl rfl)) hS ?_
              have hc722 : CellsAt _ (sb p0_0) (so p0_0 + (a711).toNat * 1) [(.int .i64 (gt x0.fKeys a711))] := rd_plain hp0_0 e721
              refine drwp_take rfl (guard_none rfl) rfl rfl (fun w_ hS_ => (ex_indexAddr (d := kInt) rfl rfl rfl Try.underlying111 tsz2 hp0_0 (idx_lo e721) (idx_hi e721))) hS ?_
              refine drwp_take rfl (guard_none rfl) rfl rfl (fun w_ hS_ => (ex_load1 rfl rfl Try.underlying2 rfl ((hS_.at_ hc722) 0 _ rfl))) hS ?_
              refine drwp_take rfl (guard_none rfl) rfl rfl (fun w_ hS_ => (ex_move rfl rfl)) hS ?_
              refine drwp_take rfl (guard_none rfl) rfl rfl (fun w_ hS_ => (ex_nilCheck rfl rfl)) hS ?_
              refine drwp_take rfl (guard_none rfl) rfl rfl (fun w_ hS_ => (ex_fieldAddr (off' := f0) rfl rfl Try.underlying119 rfl tsz111 rfl)) hS ?_
              refine drwp_take rfl (guard_none rfl) rfl rfl (fun w_ hS_ => (ex_load1 rfl rfl Try.underlying111 rfl ((hS_.at_ hc0) 0 _ rfl))) hS ?_
              refine drwp_take rfl (guard_none rfl) rfl rfl (fun w_ hS_ => (ex_move rfl rfl)) hS ?_
              refine drwp_take rfl (guard_none rfl) rfl rfl (fun w_ hS_ => (ex_sub rfl rfl rfl)) hS ?_
              have hc724 : CellsAt _ (sb p0_0) (so p0_0 + (wrap64 (a711 - 1)).toNat * 1) [(.int .i64 (gt x0.fKeys (wrap64 (a711 - 1))))] := rd_plain hp0_0 e723
              refine drwp_take rfl (guard_none rfl) rfl rfl (fun w_ hS_ => (ex_indexAddr (d := kInt) rfl rfl rfl Try.underlying111 tsz2 hp0_0 (idx_lo e723) (idx_hi e723))) hS ?_
              refine drwp_take rfl (guard_none rfl) rfl rfl (fun w_ hS_ => (ex_load1 rfl rfl Try.underlying2 rfl ((hS_.at_ hc724) 0 _ rfl))) hS ?_
              refine drwp_take rfl (guard_none rfl) rfl rfl (fun w_ hS_ => (ex_leq rfl rfl rfl)) hS ?_
              refine drwp_done ?_
              refine at_then ?_
              refine run_cond (b := (decide ((gt x0.fKeys a711) ≤ (gt x0.fKeys (wrap64 (a711 - 1)))))) rfl (fun hb725 => ?_) (fun hb725 => ?_)
              · replace ho704 := cond_t hb725 ho704
                refine run_seq ?_
                refine run_region rfl ?_
                refine ops_ex rfl (guard_none rfl) rfl rfl (ex_assign rfl rfl) ?_
                refine ops_nil ?_
                refine at_then ?_
                refine run_ret ?_
                refine at_block_ret ?_
                refine at_then_ret ?_
                refine at_then_ret ?_
                refine at_block_ret ?_
                refine at_then_ret ?_
                have hR := Option.some.inj ho704
                subst hR
                have hT := thn_inl H
                have hR := Option.some.inj hT
                subst hR
                exact at_ret1 rfl rfl ⟨_, rfl, rfl, HM⟩
              · replace ho704 := cond_f hb725 ho704
                refine run_skip ?_
                refine at_block ?_
                refine at_then ?_
                refine run_region rfl ?_
                refine ops_ex rfl (guard_none rfl) rfl rfl (ex_move rfl rfl) ?_
                refine ops_ex rfl (guard_none rfl) rfl rfl (ex_add rfl rfl rfl) ?_
                refine ops_ex rfl (guard_none rfl) rfl rfl (ex_assign rfl rfl) ?_
                refine ops_nil ?_
                exact at_again k718 (ρ1 := [(0, .pointer (some ⟨b0, f0, none⟩)), (5, .int .i64 (wrap64 (a711 + 1)))]) (Nat.lt_succ_self _) ⟨_, ho704, rfl, HM⟩ (Sub.cons rfl (Sub.cons rfl Sub.nil))
            · replace ho704 := cond_f hb720 ho704
              refine run_exit ?_
              refine at_then_exit ?_
              refine at_then_exit ?_
              refine at_block_exit ?_
              exact at_mid (ρ' := []) ⟨(Option.some.inj ho704), rfl, HM⟩ Sub.nil
          · rintro _ w726 ⟨rfl, rfl, HM⟩
            replace H := (thn_inr H)
            refine run_seq ?_
            refine run_region rfl ?_
            refine ops_ex rfl (guard_none rfl) rfl rfl (ex_assign rfl rfl) ?_
            refine ops_nil ?_
            refine at_then ?_
            refine run_ret ?_
            have hR := Option.some.inj H
            subst hR
            exact at_ret1 rfl rfl ⟨_, rfl, rfl, HM⟩

def spec_l4Out.f (k : Nat) (x0 : Out) : Option Int := ((spec_l1In.f k x0.fValue 1 1000000).bind fun t732 => (bif !t732 then some 3 else ((spec_l2Fault.f k x0.fRule).bind fun t736 => some t736)))
theorem spec_l4Out.calls {k : Nat} {x0 : Out} {b0 f0 : Nat} {p0_0 : Value} {w : World} (hc0 : CellsAt w b0 f0 [.int .i64 x0.fValue, p0_0, .int .i64 x0.fRule.fNeed, .int .i64 x0.fRule.fAfter]) (hp0_0 : RdS kInt w p0_0 x0.fRule.fKeys) {r : Int} (H : spec_l4Out.f k x0 = some r) :
    Calls Try.prog 101 ([.pointer (some ⟨b0, f0, none⟩)] : List Value).toArray w (fun e w_ => ∃ v, e = .returned v ∧ v = (.int .i64 r) ∧ Mem w [] w_ []) := by
  have HM := Mem.start w
  refine calls_run (N := 13) Try.func101 rfl rfl rfl rfl ?_
  unfold spec_l4Out.f at H
  refine run_seq ?_
  refine run_region rfl ?_
  refine ops_ex rfl (guard_none rfl) rfl rfl (ex_assign rfl rfl) ?_
  refine ops_nil ?_
  refine at_then ?_
  refine run_seq ?_
  refine run_seq ?_
  obtain ⟨t732, h733, H⟩ := bind_some H
  refine run_region rfl ?_
  refine ops_ex rfl (guard_none rfl) rfl rfl (ex_move rfl rfl) ?_
  refine ops_ex rfl (guard_none rfl) rfl rfl (ex_nilCheck rfl rfl) ?_
  refine ops_ex rfl (guard_none rfl) rfl rfl (ex_fieldAddr (off' := f0) rfl rfl Try.underlying121 rfl tsz2 rfl) ?_
  refine ops_ex rfl (guard_none rfl) rfl rfl (ex_load1 rfl rfl Try.underlying2 rfl ((HM.at_ hc0) 0 _ rfl)) ?_
  refine ops_does rfl (guard_none rfl) rfl rfl (does_callk rfl callok88 rfl (spec_l1In.calls (x0 := x0.fValue) (x1 := 1) (x2 := 1000000) h733)) ?_
  rintro _ w734 ⟨rfl, hn⟩
  replace HM : Mem w [] w734 [] := HM.call hn
  refine ops_ex rfl (guard_none rfl) rfl rfl (ex_not rfl rfl) ?_
  refine ops_nil ?_
  refine at_then ?_
  refine run_cond (b := !t732) rfl (fun hb735 => ?_) (fun hb735 => ?_)
  · replace H := cond_t hb735 H
    refine run_seq ?_
    refine run_region rfl ?_
    refine ops_ex rfl (guard_none rfl) rfl rfl (ex_assign rfl rfl) ?_
    refine ops_nil ?_
    refine at_then ?_
    refine run_ret ?_
    refine at_then_ret ?_
    have hR := Option.some.inj H
    subst hR
    exact at_ret1 rfl rfl ⟨_, rfl, rfl, HM⟩
  · replace H := cond_f hb735 H
    refine run_skip ?_
    refine at_then ?_
    refine run_seq ?_
    obtain ⟨t736, h737, H⟩ := bind_some H
    refine run_region rfl ?_
    refine ops_ex rfl (guard_none rfl) rfl rfl (ex_move rfl rfl) ?_
    refine ops_ex rfl (guard_none rfl) rfl rfl (ex_nilCheck rfl rfl) ?_
    refine ops_ex rfl (guard_none rfl) rfl rfl (ex_fieldAddr (off' := f0 + 1) rfl rfl Try.underlying121 rfl tsz119 rfl) ?_
    refine ops_does rfl (guard_none rfl) rfl rfl (does_callk rfl callok152 rfl (spec_l2Fault.calls (x0 := x0.fRule) (CellsAt.sub (HM.at_ hc0) 1 3 rfl) (HM.rd hp0_0) h737)) ?_
    rintro _ w738 ⟨rfl, hn⟩
    replace HM : Mem w [] w738 [] := HM.call hn
    refine ops_ex rfl (guard_none rfl) rfl rfl (ex_assign rfl rfl) ?_
    refine ops_nil ?_
    refine at_then ?_
    refine run_ret ?_
    have hR := Option.some.inj H
    subst hR
    exact at_ret1 rfl rfl ⟨_, rfl, rfl, HM⟩

def spec_l4Ahead.f (k : Nat) (x0 : Ref) (x1 : Ref) : Option Bool := (bif (x0.fTx != x1.fTx) then some (decide (x0.fTx < x1.fTx)) else some (decide (x0.fAt < x1.fAt)))
theorem spec_l4Ahead.calls {k : Nat} {x0 : Ref} {x1 : Ref}  {w : World}  {r : Bool} (H : spec_l4Ahead.f k x0 x1 = some r) :
    Calls Try.prog 122 ([.agg #[(.int .i64 x0.fTx), (.int .i64 x0.fAt)], .agg #[(.int .i64 x1.fTx), (.int .i64 x1.fAt)]] : List Value).toArray w (fun e w_ => ∃ v, e = .returned v ∧ v = (.bool r) ∧ Mem w [] w_ []) := by
  have HM := Mem.start w
  refine calls_run (N := 20) Try.func122 rfl rfl rfl rfl ?_
  unfold spec_l4Ahead.f at H
  refine run_seq ?_
  refine run_region rfl ?_
  refine ops_does rfl (guard_none rfl) rfl rfl (does_box (cs := [.int .i64 x0.fTx, .int .i64 x0.fAt]) rfl rfl rfl HM) ?_
  rintro _ w771 ⟨b765, rfl, HM⟩
  refine ops_does rfl (guard_none rfl) rfl rfl (does_box (cs := [.int .i64 x1.fTx, .int .i64 x1.fAt]) rfl rfl rfl HM) ?_
  rintro _ w772 ⟨b768, rfl, HM⟩
  refine ops_ex rfl (guard_none rfl) rfl rfl (ex_assign rfl rfl) ?_
  refine ops_nil ?_
  refine at_then ?_
  refine run_seq ?_
  refine run_seq ?_
  refine run_region rfl ?_
  refine ops_ex rfl (guard_none rfl) rfl rfl (ex_fieldAddr (off' := 0) rfl rfl Try.underlying54 rfl tsz2 rfl) ?_
  refine ops_ex rfl (guard_none rfl) rfl rfl (ex_load1 rfl rfl Try.underlying2 rfl ((HM.box_at 1 rfl) 0 _ rfl)) ?_
  refine ops_ex rfl (guard_none rfl) rfl rfl (ex_fieldAddr (off' := 0) rfl rfl Try.underlying54 rfl tsz2 rfl) ?_
  refine ops_ex rfl (guard_none rfl) rfl rfl (ex_load1 rfl rfl Try.underlying2 rfl ((HM.box_at 0 rfl) 0 _ rfl)) ?_
  refine ops_ex rfl (guard_none rfl) rfl rfl (ex_neq rfl rfl rfl) ?_
  refine ops_nil ?_
  refine at_then ?_
  refine run_cond (b := (x0.fTx != x1.fTx)) rfl (fun hb774 => ?_) (fun hb774 => ?_)
  · replace H := cond_t hb774 H
    refine run_seq ?_
    refine run_region rfl ?_
    refine ops_ex rfl (guard_none rfl) rfl rfl (ex_fieldAddr (off' := 0) rfl rfl Try.underlying54 rfl tsz2 rfl) ?_
    refine ops_ex rfl (guard_none rfl) rfl rfl (ex_load1 rfl rfl Try.underlying2 rfl ((HM.box_at 1 rfl) 0 _ rfl)) ?_
    refine ops_ex rfl (guard_none rfl) rfl rfl (ex_fieldAddr (off' := 0) rfl rfl Try.underlying54 rfl tsz2 rfl) ?_
    refine ops_ex rfl (guard_none rfl) rfl rfl (ex_load1 rfl rfl Try.underlying2 rfl ((HM.box_at 0 rfl) 0 _ rfl)) ?_
    refine ops_ex rfl (guard_none rfl) rfl rfl (ex_lss rfl rfl rfl) ?_
    refine ops_ex rfl (guard_none rfl) rfl rfl (ex_assign rfl rfl) ?_
    refine ops_nil ?_
    refine at_then ?_
    refine run_ret ?_
    refine at_then_ret ?_
    replace HM := (HM.front 0 rfl rfl).drop
    replace HM := (HM.front 0 rfl rfl).drop
    have hR := Option.some.inj H
    subst hR
    exact at_ret1 rfl rfl ⟨_, rfl, rfl, HM⟩
  · replace H := cond_f hb774 H
    refine run_skip ?_
    refine at_then ?_
    refine run_seq ?_
    refine run_region rfl ?_
    refine ops_ex rfl (guard_none rfl) rfl rfl (ex_fieldAddr (off' := 1) rfl rfl Try.underlying54 rfl tsz2 rfl) ?_
    refine ops_ex rfl (guard_none rfl) rfl rfl (ex_load1 rfl rfl Try.underlying2 rfl ((HM.box_at 1 rfl) 1 _ rfl)) ?_
    refine ops_ex rfl (guard_none rfl) rfl rfl (ex_fieldAddr (off' := 1) rfl rfl Try.underlying54 rfl tsz2 rfl) ?_
    refine ops_ex rfl (guard_none rfl) rfl rfl (ex_load1 rfl rfl Try.underlying2 rfl ((HM.box_at 0 rfl) 1 _ rfl)) ?_
    refine ops_ex rfl (guard_none rfl) rfl rfl (ex_lss rfl rfl rfl) ?_
    refine ops_ex rfl (guard_none rfl) rfl rfl (ex_assign rfl rfl) ?_
    refine ops_nil ?_
    refine at_then ?_
    refine run_ret ?_
    replace HM := (HM.front 0 rfl rfl).drop
    replace HM := (HM.front 0 rfl rfl).drop
    have hR := Option.some.inj H
    subst hR
    exact at_ret1 rfl rfl ⟨_, rfl, rfl, HM⟩

def spec_l4Fault.l0 (x0 : List Coin) : Nat → Int → Option (Int ⊕ Unit)
  | 0, _ => none
  | k + 1, a1098 => (bif (decide (a1098 < (x0.length : Int))) then (chk (idxOk a1098 x0.length) ((spec_l3Ref.f k ((gt x0 a1098).fRef)).bind fun t1171 => (chk (!(!(!t1171)) || (idxOk a1098 x0.length)) ((bif (!(!t1171)) then spec_l2Height.f k ((gt x0 a1098).fHeight) else some default).bind fun t1177 => (bif ((!t1171) || (!t1177)) then some (.inl 3) else (chk (idxOk a1098 x0.length) ((spec_l4Out.f k ((gt x0 a1098).fOut)).bind fun t1196 => (bif (t1196 != 0) then some (.inl t1196) else (chk (!(decide (0 < a1098)) || (idxOk (wrap64 (a1098 - 1)) x0.length)) (chk (!(decide (0 < a1098)) || (idxOk a1098 x0.length)) ((bif (decide (0 < a1098)) then spec_l4Ahead.f k ((gt x0 (wrap64 (a1098 - 1))).fRef) ((gt x0 a1098).fRef) else some default).bind fun t1208 => (bif ((decide (0 < a1098)) && (!t1208)) then some (.inl 1) else spec_l4Fault.l0 x0 k (wrap64 (a1098 + 1)))))))))))))) else some (.inr ()))
theorem spec_l4Fault.l0_z (x0 : List Coin) (a1098 : Int) : spec_l4Fault.l0 x0 0 a1098 = none := rfl
theorem spec_l4Fault.l0_s (x0 : List Coin) (k : Nat) (a1098 : Int) : spec_l4Fault.l0 x0 (k + 1) a1098 = (bif (decide (a1098 < (x0.length : Int))) then (chk (idxOk a1098 x0.length) ((spec_l3Ref.f k ((gt x0 a1098).fRef)).bind fun t1171 => (chk (!(!(!t1171)) || (idxOk a1098 x0.length)) ((bif (!(!t1171)) then spec_l2Height.f k ((gt x0 a1098).fHeight) else some default).bind fun t1177 => (bif ((!t1171) || (!t1177)) then some (.inl 3) else (chk (idxOk a1098 x0.length) ((spec_l4Out.f k ((gt x0 a1098).fOut)).bind fun t1196 => (bif (t1196 != 0) then some (.inl t1196) else (chk (!(decide (0 < a1098)) || (idxOk (wrap64 (a1098 - 1)) x0.length)) (chk (!(decide (0 < a1098)) || (idxOk a1098 x0.length)) ((bif (decide (0 < a1098)) then spec_l4Ahead.f k ((gt x0 (wrap64 (a1098 - 1))).fRef) ((gt x0 a1098).fRef) else some default).bind fun t1208 => (bif ((decide (0 < a1098)) && (!t1208)) then some (.inl 1) else spec_l4Fault.l0 x0 k (wrap64 (a1098 + 1)))))))))))))) else some (.inr ())) := rfl
def spec_l4Fault.f (k : Nat) (x0 : List Coin) : Option Int := (bif (decide (40 < (x0.length : Int))) then some 2 else ((spec_l4Fault.l0 x0 k 0).bind fun o1044 => thn o1044 (fun r => some r) (fun _ => some 0)))
theorem spec_l4Fault.calls {k : Nat} {x0 : List Coin} {p0 : Value} {w : World} (hp0 : RdS kCoin w p0 x0) {r : Int} (H : spec_l4Fault.f k x0 = some r) :
    Calls Try.prog 73 ([p0] : List Value).toArray w (fun e w_ => ∃ v, e = .returned v ∧ v = (.int .i64 r) ∧ Mem w [] w_ []) := by
  have HM := Mem.start w
  refine calls_run (N := 55) Try.func73 rfl rfl rfl rfl ?_
  unfold spec_l4Fault.f at H
  refine run_seq ?_
  refine run_region rfl ?_
  refine ops_ex rfl (guard_none rfl) rfl rfl (ex_assign rfl rfl) ?_
  refine ops_nil ?_
  refine at_then ?_
  refine run_seq ?_
  refine run_seq ?_
  refine run_region rfl ?_
  refine ops_ex rfl (guard_none rfl) rfl rfl (ex_move rfl rfl) ?_
  refine ops_ex rfl (guard_none rfl) rfl rfl (ex_len (d := kCoin) (xs := x0) rfl rfl Try.underlying44 hp0) ?_
  refine ops_ex rfl (guard_none rfl) rfl rfl (ex_gtr rfl rfl rfl) ?_
  refine ops_nil ?_
  refine at_then ?_
  refine run_cond (b := (decide (40 < (x0.length : Int)))) rfl (fun hb886 => ?_) (fun hb886 => ?_)
  · replace H := cond_t hb886 H
    refine run_seq ?_
    refine run_region rfl ?_
    refine ops_ex rfl (guard_none rfl) rfl rfl (ex_assign rfl rfl) ?_
    refine ops_nil ?_
    refine at_then ?_
    refine run_ret ?_
    refine at_then_ret ?_
    have hR := Option.some.inj H
    subst hR
    exact at_ret1 rfl rfl ⟨_, rfl, rfl, HM⟩
  · replace H := cond_f hb886 H
    refine run_skip ?_
    refine at_then ?_
    obtain ⟨o1044, ho1045, H⟩ := bind_some H
    refine run_mid (fun ρ_ w_ => Sum.inr () = o1044 ∧ ρ_ = [] ∧ Mem w [] w_ []) ?_ ?_
    · skip
      refine run_seq ?_
      refine run_region rfl ?_
      refine ops_ex rfl (guard_none rfl) rfl rfl (ex_assign rfl rfl) ?_
      refine ops_nil ?_
      refine at_then ?_
      refine run_block ?_
      refine run_loop (fun k_ ρ_ w_ => ∃ a1098 : Int, spec_l4Fault.l0 x0 k_ a1098 = some o1044 ∧ ρ_ = [(0, p0), (3, .int .i64 a1098)] ∧ Mem w [] w_ []) k (ρ1 := [(0, p0), (3, .int .i64 0)]) ⟨_, ho1045, rfl, HM⟩ (Sub.cons rfl (Sub.cons rfl Sub.nil)) ?_
      clear HM ho1045
      rintro k1151 _ w1152 ⟨a1098, ho1045, rfl, HM⟩
      obtain _ | k1151 := k1151
      · exact nomatch ((spec_l4Fault.l0_z x0 a1098).symm.trans ho1045)
      replace ho1045 := (spec_l4Fault.l0_s x0 k1151 a1098).symm.trans ho1045
      refine run_seq ?_
      refine run_seq ?_
      refine run_region rfl ?_
      refine ops_ex rfl (guard_none rfl) rfl rfl (ex_move rfl rfl) ?_
      refine ops_ex rfl (guard_none rfl) rfl rfl (ex_move rfl rfl) ?_
      refine ops_ex rfl (guard_none rfl) rfl rfl (ex_len (d := kCoin) (xs := x0) rfl rfl Try.underlying44 hp0) ?_
      refine ops_ex rfl (guard_none rfl) rfl rfl (ex_lss rfl rfl rfl) ?_
      refine ops_nil ?_
      refine at_then ?_
      refine run_cond (b := (decide (a1098 < (x0.length : Int)))) rfl (fun hb1153 => ?_) (fun hb1153 => ?_)
      · replace ho1045 := cond_t hb1153 ho1045
        refine run_skip ?_
        refine at_then ?_
        refine run_seq ?_
        refine run_block ?_
        refine run_seq ?_
        refine run_seq ?_
        obtain ⟨e1167, ho1045⟩ := chk_some ho1045
        obtain ⟨t1171, h1172, ho1045⟩ := bind_some ho1045
        obtain ⟨e1173, ho1045⟩ := chk_some ho1045
        obtain ⟨t1177, h1178, ho1045⟩ := bind_some ho1045
        refine run_meet (fun ρ_ w_ => ρ_ = [(0, p0), (3, .int .i64 a1098), (29, .bool ((!t1171) || (!t1177)))] ∧ Mem w [] w_ []) ?_ ?_
        · skip
          refine run_region rfl ?_
          refine ops_ex rfl (guard_none rfl) rfl rfl (ex_move rfl rfl) ?_
          refine ops_ex rfl (guard_none rfl) rfl rfl (ex_move rfl rfl) ?_
          obtain ⟨kv1169, hc1168, hk1170⟩ : ∃ u, CellsAt _ (sb p0) (so p0 + (a1098).toNat * 8) [(.int .i64 ((gt x0 a1098).fRef.fTx)), (.int .i64 ((gt x0 a1098).fRef.fAt)), (.int .i64 ((gt x0 a1098).fOut.fValue)), u, (.int .i64 ((gt x0 a1098).fOut.fRule.fNeed)), (.int .i64 ((gt x0 a1098).fOut.fRule.fAfter)), (.int .i64 ((gt x0 a1098).fHeight)), (.bool ((gt x0 a1098).fMined))] ∧ RdS kInt _ u ((gt x0 a1098).fOut.fRule.fKeys) := rd_with1 hp0 e1167
          refine ops_ex rfl (guard_none rfl) rfl rfl (ex_indexAddr (d := kCoin) rfl rfl rfl Try.underlying44 tsz123 hp0 (idx_lo e1167) (idx_hi e1167)) ?_
          refine ops_ex rfl (guard_none rfl) rfl rfl (ex_fieldAddr (off' := so p0 + (a1098).toNat * 8) rfl rfl Try.underlying123 rfl tsz54 rfl) ?_
          refine ops_ex rfl (guard_none rfl) rfl rfl (ex_loadN (cs := [(.int .i64 ((gt x0 a1098).fRef.fTx)), (.int .i64 ((gt x0 a1098).fRef.fAt))]) rfl rfl Try.underlying54 rfl tsz54 rfl ((HM.at_ hc1168).sub 0 2 rfl)) ?_
          refine ops_does rfl (guard_none rfl) rfl rfl (does_callk rfl callok121 rfl (spec_l3Ref.calls (x0 := (gt x0 a1098).fRef) h1172)) ?_
          rintro _ w1179 ⟨rfl, hn⟩
          replace HM : Mem w [] w1179 [] := HM.call hn
          refine ops_ex rfl (guard_none rfl) rfl rfl (ex_not rfl rfl) ?_
          refine ops_ex rfl (guard_none rfl) rfl rfl (ex_move rfl rfl) ?_
          refine bool_cases (!t1171) (fun hg1180 => ?_) (fun hg1180 => ?_)
          · skip
            refine ops_off rfl (guard_off rfl rfl rfl hg1180) rfl rfl ?_
            refine ops_off rfl (guard_off rfl rfl rfl hg1180) rfl rfl ?_
            refine ops_off rfl (guard_off rfl rfl rfl hg1180) rfl rfl ?_
            refine ops_off rfl (guard_off rfl rfl rfl hg1180) rfl rfl ?_
            refine ops_off rfl (guard_off rfl rfl rfl hg1180) rfl rfl ?_
            refine ops_off rfl (guard_off rfl rfl rfl hg1180) rfl rfl ?_
            refine ops_off rfl (guard_off rfl rfl rfl hg1180) rfl rfl ?_
            have hg1181 : ((!t1171) || (!t1177)) = true := by simp only [hg1180, Bool.and_true, Bool.true_and, Bool.and_false, Bool.false_and, Bool.or_true, Bool.true_or, Bool.or_false, Bool.false_or, Bool.not_true, Bool.not_false, Bool.not_not]
            refine ops_ex (v := .bool ((!t1171) || (!t1177))) rfl (guard_none rfl) rfl rfl (ex_por_t rfl rfl hg1180) ?_
            refine ops_nil ?_
            exact at_meet [(0, p0), (3, .int .i64 a1098), (29, .bool ((!t1171) || (!t1177)))] ⟨rfl, HM⟩ (Sub.cons rfl (Sub.cons rfl (Sub.cons rfl Sub.nil)))
          · skip
            refine ops_ex rfl (guard_on rfl rfl rfl hg1180) rfl rfl (ex_move rfl rfl) ?_
            refine ops_ex rfl (guard_on rfl rfl rfl hg1180) rfl rfl (ex_move rfl rfl) ?_
            obtain ⟨kv1175, hc1174, hk1176⟩ : ∃ u, CellsAt _ (sb p0) (so p0 + (a1098).toNat * 8) [(.int .i64 ((gt x0 a1098).fRef.fTx)), (.int .i64 ((gt x0 a1098).fRef.fAt)), (.int .i64 ((gt x0 a1098).fOut.fValue)), u, (.int .i64 ((gt x0 a1098).fOut.fRule.fNeed)), (.int .i64 ((gt x0 a1098).fOut.fRule.fAfter)), (.int .i64 ((gt x0 a1098).fHeight)), (.bool ((gt x0 a1098).fMined))] ∧ RdS kInt _ u ((gt x0 a1098).fOut.fRule.fKeys) := rd_with1 hp0 (or_t e1173 (not_mk hg1180))
            refine ops_ex rfl (guard_on rfl rfl rfl hg1180) rfl rfl (ex_indexAddr (d := kCoin) rfl rfl rfl Try.underlying44 tsz123 hp0 (idx_lo (or_t e1173 (not_mk hg1180))) (idx_hi (or_t e1173 (not_mk hg1180)))) ?_
            refine ops_ex rfl (guard_on rfl rfl rfl hg1180) rfl rfl (ex_fieldAddr (off' := so p0 + (a1098).toNat * 8 + 6) rfl rfl Try.underlying123 rfl tsz2 rfl) ?_
            refine ops_ex rfl (guard_on rfl rfl rfl hg1180) rfl rfl (ex_load1 rfl rfl Try.underlying2 rfl ((HM.at_ hc1174) 6 _ rfl)) ?_
            refine ops_does rfl (guard_on rfl rfl rfl hg1180) rfl rfl (does_callk rfl callok100 rfl (spec_l2Height.calls (x0 := (gt x0 a1098).fHeight) (cond_t (not_mk hg1180) h1178))) ?_
            rintro _ w1182 ⟨rfl, hn⟩
            replace HM : Mem w [] w1182 [] := HM.call hn
            refine ops_ex rfl (guard_on rfl rfl rfl hg1180) rfl rfl (ex_not rfl rfl) ?_
            refine ops_ex (v := .bool ((!t1171) || (!t1177))) rfl (guard_none rfl) rfl rfl (ex_por_f rfl rfl hg1180 rfl) ?_
            refine ops_nil ?_
            exact at_meet [(0, p0), (3, .int .i64 a1098), (29, .bool ((!t1171) || (!t1177)))] ⟨rfl, HM⟩ (Sub.cons rfl (Sub.cons rfl (Sub.cons rfl Sub.nil)))
        · rintro _ w1183 ⟨rfl, HM⟩
          refine at_then ?_
          refine run_cond (b := ((!t1171) || (!t1177))) rfl (fun hb1184 => ?_) (fun hb1184 => ?_)
          · replace ho1045 := cond_t hb1184 ho1045
            refine run_seq ?_
            refine run_region rfl ?_
            refine ops_ex rfl (guard_none rfl) rfl rfl (ex_assign rfl rfl) ?_
            refine ops_nil ?_
            refine at_then ?_
            refine run_ret ?_
            refine at_then_ret ?_
            refine at_block_ret ?_
            refine at_then_ret ?_
            refine at_then_ret ?_
            refine at_block_ret ?_
            refine at_then_ret ?_
            have hR := Option.some.inj ho1045
            subst hR
            have hT := thn_inl H
            have hR := Option.some.inj hT
            subst hR
            exact at_ret1 rfl rfl ⟨_, rfl, rfl, HM⟩
          · replace ho1045 := cond_f hb1184 ho1045
            refine run_skip ?_
            refine at_then ?_
            refine run_seq ?_
            refine run_seq ?_
            obtain ⟨e1192, ho1045⟩ := chk_some ho1045
            obtain ⟨t1196, h1197, ho1045⟩ := bind_some ho1045
            refine run_region rfl ?_
            refine ops_ex rfl (guard_none rfl) rfl rfl (ex_move rfl rfl) ?_
            refine ops_ex rfl (guard_none rfl) rfl rfl (ex_move rfl rfl) ?_
            obtain ⟨kv1194, hc1193, hk1195⟩ : ∃ u, CellsAt _ (sb p0) (so p0 + (a1098).toNat * 8) [(.int .i64 ((gt x0 a1098).fRef.fTx)), (.int .i64 ((gt x0 a1098).fRef.fAt)), (.int .i64 ((gt x0 a1098).fOut.fValue)), u, (.int .i64 ((gt x0 a1098).fOut.fRule.fNeed)), (.int .i64 ((gt x0 a1098).fOut.fRule.fAfter)), (.int .i64 ((gt x0 a1098).fHeight)), (.bool ((gt x0 a1098).fMined))] ∧ RdS kInt _ u ((gt x0 a1098).fOut.fRule.fKeys) := rd_with1 hp0 e1192
            refine ops_ex rfl (guard_none rfl) rfl rfl (ex_indexAddr (d := kCoin) rfl rfl rfl Try.underlying44 tsz123 hp0 (idx_lo e1192) (idx_hi e1192)) ?_
            refine ops_ex rfl (guard_none rfl) rfl rfl (ex_fieldAddr (off' := so p0 + (a1098).toNat * 8 + 2) rfl rfl Try.underlying123 rfl tsz121 rfl) ?_
            refine ops_does rfl (guard_none rfl) rfl rfl (does_callk rfl callok101 rfl (spec_l4Out.calls (x0 := (gt x0 a1098).fOut) (CellsAt.sub (HM.at_ hc1193) 2 4 rfl) (HM.rd hk1195) h1197)) ?_
            rintro _ w1198 ⟨rfl, hn⟩
            replace HM : Mem w [] w1198 [] := HM.call hn
            refine ops_ex rfl (guard_none rfl) rfl rfl (ex_assign rfl rfl) ?_
            refine ops_nil ?_
            refine at_then ?_
            refine run_seq ?_
            refine run_region rfl ?_
            refine ops_ex rfl (guard_none rfl) rfl rfl (ex_move rfl rfl) ?_
            refine ops_ex rfl (guard_none rfl) rfl rfl (ex_neq rfl rfl rfl) ?_
            refine ops_nil ?_
            refine at_then ?_
            refine run_cond (b := (t1196 != 0)) rfl (fun hb1199 => ?_) (fun hb1199 => ?_)
            · replace ho1045 := cond_t hb1199 ho1045
              refine run_seq ?_
              refine run_region rfl ?_
              refine ops_ex rfl (guard_none rfl) rfl rfl (ex_move rfl rfl) ?_
              refine ops_ex rfl (guard_none rfl) rfl rfl (ex_assign rfl rfl) ?_
              refine ops_nil ?_
              refine at_then ?_
              refine run_ret ?_
              refine at_then_ret ?_
              refine at_block_ret ?_
              refine at_then_ret ?_
              refine at_then_ret ?_
              refine at_block_ret ?_
              refine at_then_ret ?_
              have hR := Option.some.inj ho1045
              subst hR
              have hT := thn_inl H
              have hR := Option.some.inj hT
              subst hR
              exact at_ret1 rfl rfl ⟨_, rfl, rfl, HM⟩
            · replace ho1045 := cond_f hb1199 ho1045
              refine run_skip ?_
              refine at_then ?_
              refine run_seq ?_
              obtain ⟨e1200, ho1045⟩ := chk_some ho1045
              obtain ⟨e1204, ho1045⟩ := chk_some ho1045
              obtain ⟨t1208, h1209, ho1045⟩ := bind_some ho1045
              refine run_meet (fun ρ_ w_ => ρ_ = [(0, p0), (3, .int .i64 a1098), (54, .bool ((decide (0 < a1098)) && (!t1208)))] ∧ Mem w [] w_ []) ?_ ?_
              · skip
                refine run_drawf (fun w_ => Mem w [] w_ []) [(0, true), (1, true), (2, true), (3, true), (4, true), (5, true), (6, true), (7, true), (8, true), (9, true), (10, true), (11, true), (12, true), (13, true), (14, false), (15, true), (16, true)] mixed rfl rfl (by kernel_rfl) ?_
                replace HM := HM.grow (fr_drew _)
                have hS := Mem.suf (M := []) HM
                refine drwp_take rfl (guard_none rfl) rfl rfl (fun w_ hS_ => (ex_move rfl rfl)) hS ?_
                refine drwp_take rfl (guard_none rfl) rfl rfl (fun w_ hS_ => (ex_gtr rfl rfl rfl)) hS ?_
                refine drwp_take rfl (guard_none rfl) rfl rfl (fun w_ hS_ => (ex_move rfl rfl)) hS ?_
                refine bool_cases (decide (0 < a1098)) (fun hg1210 => ?_) (fun hg1210 => ?_)
                · skip
                  refine drwp_take rfl (guard_on rfl rfl rfl hg1210) rfl rfl (fun w_ hS_ => (ex_move rfl rfl)) hS ?_
                  refine drwp_take rfl (guard_on rfl rfl rfl hg1210) rfl rfl (fun w_ hS_ => (ex_move rfl rfl)) hS ?_
                  refine drwp_take rfl (guard_on rfl rfl rfl hg1210) rfl rfl (fun w_ hS_ => (ex_sub rfl rfl rfl)) hS ?_
                  obtain ⟨kv1202, hc1201, hk1203⟩ : ∃ u, CellsAt _ (sb p0) (so p0 + (wrap64 (a1098 - 1)).toNat * 8) [(.int .i64 ((gt x0 (wrap64 (a1098 - 1))).fRef.fTx)), (.int .i64 ((gt x0 (wrap64 (a1098 - 1))).fRef.fAt)), (.int .i64 ((gt x0 (wrap64 (a1098 - 1))).fOut.fValue)), u, (.int .i64 ((gt x0 (wrap64 (a1098 - 1))).fOut.fRule.fNeed)), (.int .i64 ((gt x0 (wrap64 (a1098 - 1))).fOut.fRule.fAfter)), (.int .i64 ((gt x0 (wrap64 (a1098 - 1))).fHeight)), (.bool ((gt x0 (wrap64 (a1098 - 1))).fMined))] ∧ RdS kInt _ u ((gt x0 (wrap64 (a1098 - 1))).fOut.fRule.fKeys) := rd_with1 hp0 (or_t e1200 hg1210)
                  refine drwp_take rfl (guard_on rfl rfl rfl hg1210) rfl rfl (fun w_ hS_ => (ex_indexAddr (d := kCoin) rfl rfl rfl Try.underlying44 tsz123 hp0 (idx_lo (or_t e1200 hg1210)) (idx_hi (or_t e1200 hg1210)))) hS ?_
                  refine drwp_take rfl (guard_on rfl rfl rfl hg1210) rfl rfl (fun w_ hS_ => (ex_fieldAddr (off' := so p0 + (wrap64 (a1098 - 1)).toNat * 8) rfl rfl Try.underlying123 rfl tsz54 rfl)) hS ?_
                  refine drwp_take rfl (guard_on rfl rfl rfl hg1210) rfl rfl (fun w_ hS_ => (ex_loadN (cs := [(.int .i64 ((gt x0 (wrap64 (a1098 - 1))).fRef.fTx)), (.int .i64 ((gt x0 (wrap64 (a1098 - 1))).fRef.fAt))]) rfl rfl Try.underlying54 rfl tsz54 rfl ((hS_.at_ hc1201).sub 0 2 rfl))) hS ?_
                  refine drwp_take rfl (guard_on rfl rfl rfl hg1210) rfl rfl (fun w_ hS_ => (ex_move rfl rfl)) hS ?_
                  refine drwp_take rfl (guard_on rfl rfl rfl hg1210) rfl rfl (fun w_ hS_ => (ex_move rfl rfl)) hS ?_
                  obtain ⟨kv1206, hc1205, hk1207⟩ : ∃ u, CellsAt _ (sb p0) (so p0 + (a1098).toNat * 8) [(.int .i64 ((gt x0 a1098).fRef.fTx)), (.int .i64 ((gt x0 a1098).fRef.fAt)), (.int .i64 ((gt x0 a1098).fOut.fValue)), u, (.int .i64 ((gt x0 a1098).fOut.fRule.fNeed)), (.int .i64 ((gt x0 a1098).fOut.fRule.fAfter)), (.int .i64 ((gt x0 a1098).fHeight)), (.bool ((gt x0 a1098).fMined))] ∧ RdS kInt _ u ((gt x0 a1098).fOut.fRule.fKeys) := rd_with1 hp0 (or_t e1204 hg1210)
                  refine drwp_take rfl (guard_on rfl rfl rfl hg1210) rfl rfl (fun w_ hS_ => (ex_indexAddr (d := kCoin) rfl rfl rfl Try.underlying44 tsz123 hp0 (idx_lo (or_t e1204 hg1210)) (idx_hi (or_t e1204 hg1210)))) hS ?_
                  refine drwp_take rfl (guard_on rfl rfl rfl hg1210) rfl rfl (fun w_ hS_ => (ex_fieldAddr (off' := so p0 + (a1098).toNat * 8) rfl rfl Try.underlying123 rfl tsz54 rfl)) hS ?_
                  refine drwp_take rfl (guard_on rfl rfl rfl hg1210) rfl rfl (fun w_ hS_ => (ex_loadN (cs := [(.int .i64 ((gt x0 a1098).fRef.fTx)), (.int .i64 ((gt x0 a1098).fRef.fAt))]) rfl rfl Try.underlying54 rfl tsz54 rfl ((hS_.at_ hc1205).sub 0 2 rfl))) hS ?_
                  refine drwp_one rfl (guard_on rfl rfl rfl hg1210) rfl rfl (does_callk rfl callok122 rfl (spec_l4Ahead.calls (x0 := (gt x0 (wrap64 (a1098 - 1))).fRef) (x1 := (gt x0 a1098).fRef) (cond_t hg1210 h1209))) ?_
                  rintro _ w1211 ⟨rfl, hn⟩
                  replace HM : Mem w [] w1211 [] := HM.call hn
                  refine ⟨Mem.suf (M := []) HM, ?_⟩
                  have hS := Mem.suf (M := []) HM
                  refine drwp_take rfl (guard_on rfl rfl rfl hg1210) rfl rfl (fun w_ hS_ => (ex_not rfl rfl)) hS ?_
                  refine drwp_take (v := .bool ((decide (0 < a1098)) && (!t1208))) rfl (guard_none rfl) rfl rfl (fun w_ hS_ => (ex_pand_t rfl rfl hg1210 rfl)) hS ?_
                  refine drwp_done ?_
                  exact at_meet [(0, p0), (3, .int .i64 a1098), (54, .bool ((decide (0 < a1098)) && (!t1208)))] ⟨rfl, HM⟩ (Sub.cons rfl (Sub.cons rfl (Sub.cons rfl Sub.nil)))
                · skip
                  refine drwp_off rfl (guard_off rfl rfl rfl hg1210) rfl rfl hS ?_
                  refine drwp_off rfl (guard_off rfl rfl rfl hg1210) rfl rfl hS ?_
                  refine drwp_off rfl (guard_off rfl rfl rfl hg1210) rfl rfl hS ?_
                  refine drwp_off rfl (guard_off rfl rfl rfl hg1210) rfl rfl hS ?_
                  refine drwp_off rfl (guard_off rfl rfl rfl hg1210) rfl rfl hS ?_
                  refine drwp_off rfl (guard_off rfl rfl rfl hg1210) rfl rfl hS ?_
                  refine drwp_off rfl (guard_off rfl rfl rfl hg1210) rfl rfl hS ?_
                  refine drwp_off rfl (guard_off rfl rfl rfl hg1210) rfl rfl hS ?_
                  refine drwp_off rfl (guard_off rfl rfl rfl hg1210) rfl rfl hS ?_
                  refine drwp_off rfl (guard_off rfl rfl rfl hg1210) rfl rfl hS ?_
                  refine drwp_off rfl (guard_off rfl rfl rfl hg1210) rfl rfl hS ?_
                  refine drwp_off1 rfl (guard_off rfl rfl rfl hg1210) rfl rfl ⟨hS, ?_⟩
                  refine drwp_off rfl (guard_off rfl rfl rfl hg1210) rfl rfl hS ?_
                  have hg1212 : ((decide (0 < a1098)) && (!t1208)) = false := by simp only [hg1210, Bool.and_true, Bool.true_and, Bool.and_false, Bool.false_and, Bool.or_true, Bool.true_or, Bool.or_false, Bool.false_or, Bool.not_true, Bool.not_false, Bool.not_not]
                  refine drwp_take (v := .bool ((decide (0 < a1098)) && (!t1208))) rfl (guard_none rfl) rfl rfl (fun w_ hS_ => (ex_pand_f rfl rfl hg1210)) hS ?_
                  refine drwp_done ?_
                  exact at_meet [(0, p0), (3, .int .i64 a1098), (54, .bool ((decide (0 < a1098)) && (!t1208)))] ⟨rfl, HM⟩ (Sub.cons rfl (Sub.cons rfl (Sub.cons rfl Sub.nil)))
              · rintro _ w1213 ⟨rfl, HM⟩
                refine at_then ?_
                refine run_cond (b := ((decide (0 < a1098)) && (!t1208))) rfl (fun hb1214 => ?_) (fun hb1214 => ?_)
                · replace ho1045 := cond_t hb1214 ho1045
                  refine run_seq ?_
                  refine run_region rfl ?_
                  refine ops_ex rfl (guard_none rfl) rfl rfl (ex_assign rfl rfl) ?_
                  refine ops_nil ?_
                  refine at_then ?_
                  refine run_ret ?_
                  refine at_block_ret ?_
                  refine at_then_ret ?_
                  refine at_then_ret ?_
                  refine at_block_ret ?_
                  refine at_then_ret ?_
                  have hR := Option.some.inj ho1045
                  subst hR
                  have hT := thn_inl H
                  have hR := Option.some.inj hT
                  subst hR
                  exact at_ret1 rfl rfl ⟨_, rfl, rfl, HM⟩
                · replace ho1045 := cond_f hb1214 ho1045
                  refine run_skip ?_
                  refine at_block ?_
                  refine at_then ?_
                  refine run_region rfl ?_
                  refine ops_ex rfl (guard_none rfl) rfl rfl (ex_move rfl rfl) ?_
                  refine ops_ex rfl (guard_none rfl) rfl rfl (ex_add rfl rfl rfl) ?_
                  refine ops_ex rfl (guard_none rfl) rfl rfl (ex_assign rfl rfl) ?_
                  refine ops_nil ?_
                  exact at_again k1151 (ρ1 := [(0, p0), (3, .int .i64 (wrap64 (a1098 + 1)))]) (Nat.lt_succ_self _) ⟨_, ho1045, rfl, HM⟩ (Sub.cons rfl (Sub.cons rfl Sub.nil))
      · replace ho1045 := cond_f hb1153 ho1045
        refine run_exit ?_
        refine at_then_exit ?_
        refine at_then_exit ?_
        refine at_block_exit ?_
        exact at_mid (ρ' := []) ⟨(Option.some.inj ho1045), rfl, HM⟩ Sub.nil
    · rintro _ w1215 ⟨rfl, rfl, HM⟩
      replace H := (thn_inr H)
      refine run_seq ?_
      refine run_region rfl ?_
      refine ops_ex rfl (guard_none rfl) rfl rfl (ex_assign rfl rfl) ?_
      refine ops_nil ?_
      refine at_then ?_
      refine run_ret ?_
      have hR := Option.some.inj H
      subst hR
      exact at_ret1 rfl rfl ⟨_, rfl, rfl, HM⟩

def spec_l4At.l0 (x0 : List Coin) (x1 : Ref) : Nat → Int → Option (Int ⊕ Unit)
  | 0, _ => none
  | k + 1, a1277 => (bif (decide (a1277 < (x0.length : Int))) then (chk (idxOk a1277 x0.length) (bif ((((gt x0 a1277).fRef.fTx) == x1.fTx) && (((gt x0 a1277).fRef.fAt) == x1.fAt)) then some (.inl a1277) else spec_l4At.l0 x0 x1 k (wrap64 (a1277 + 1)))) else some (.inr ()))
theorem spec_l4At.l0_z (x0 : List Coin) (x1 : Ref) (a1277 : Int) : spec_l4At.l0 x0 x1 0 a1277 = none := rfl
theorem spec_l4At.l0_s (x0 : List Coin) (x1 : Ref) (k : Nat) (a1277 : Int) : spec_l4At.l0 x0 x1 (k + 1) a1277 = (bif (decide (a1277 < (x0.length : Int))) then (chk (idxOk a1277 x0.length) (bif ((((gt x0 a1277).fRef.fTx) == x1.fTx) && (((gt x0 a1277).fRef.fAt) == x1.fAt)) then some (.inl a1277) else spec_l4At.l0 x0 x1 k (wrap64 (a1277 + 1)))) else some (.inr ())) := rfl
def spec_l4At.f (k : Nat) (x0 : List Coin) (x1 : Ref) : Option Int := ((spec_l4At.l0 x0 x1 k 0).bind fun o1269 => thn o1269 (fun r => some r) (fun _ => some (-1)))
theorem spec_l4At.calls {k : Nat} {x0 : List Coin} {x1 : Ref} {p0 : Value} {w : World} (hp0 : RdS kCoin w p0 x0) {r : Int} (H : spec_l4At.f k x0 x1 = some r) :
    Calls Try.prog 80 ([p0, .agg #[(.int .i64 x1.fTx), (.int .i64 x1.fAt)]] : List Value).toArray w (fun e w_ => ∃ v, e = .returned v ∧ v = (.int .i64 r) ∧ Mem w [] w_ []) := by
  have HM := Mem.start w
  refine calls_run (N := 20) Try.func80 rfl rfl rfl rfl ?_
  unfold spec_l4At.f at H
  refine run_seq ?_
  refine run_region rfl ?_
  refine ops_does rfl (guard_none rfl) rfl rfl (does_box (cs := [.int .i64 x1.fTx, .int .i64 x1.fAt]) rfl rfl rfl HM) ?_
  rintro _ w1249 ⟨b1246, rfl, HM⟩
  refine ops_ex rfl (guard_none rfl) rfl rfl (ex_assign rfl rfl) ?_
  refine ops_nil ?_
  refine at_then ?_
  obtain ⟨o1269, ho1270, H⟩ := bind_some H
  refine run_mid (fun ρ_ w_ => Sum.inr () = o1269 ∧ ρ_ = [] ∧ Mem w [] w_ []) ?_ ?_
  · skip
    refine run_seq ?_
    refine run_region rfl ?_
    refine ops_ex rfl (guard_none rfl) rfl rfl (ex_assign rfl rfl) ?_
    refine ops_nil ?_
    refine at_then ?_
    refine run_block ?_
    refine run_loop (fun k_ ρ_ w_ => ∃ a1277 : Int, spec_l4At.l0 x0 x1 k_ a1277 = some o1269 ∧ ρ_ = [(0, p0), (3, .pointer (some ⟨b1246, 0, none⟩)), (5, .int .i64 a1277)] ∧ Mem w [] w_ [box b1246 54 [.int .i64 x1.fTx, .int .i64 x1.fAt]]) k (ρ1 := [(0, p0), (3, .pointer (some ⟨b1246, 0, none⟩)), (5, .int .i64 0)]) ⟨_, ho1270, rfl, HM⟩ (Sub.cons rfl (Sub.cons rfl (Sub.cons rfl Sub.nil))) ?_
    clear HM ho1270
    rintro k1284 _ w1285 ⟨a1277, ho1270, rfl, HM⟩
    obtain _ | k1284 := k1284
    · exact nomatch ((spec_l4At.l0_z x0 x1 a1277).symm.trans ho1270)
    replace ho1270 := (spec_l4At.l0_s x0 x1 k1284 a1277).symm.trans ho1270
    refine run_seq ?_
    refine run_seq ?_
    refine run_region rfl ?_
    refine ops_ex rfl (guard_none rfl) rfl rfl (ex_move rfl rfl) ?_
    refine ops_ex rfl (guard_none rfl) rfl rfl (ex_move rfl rfl) ?_
    refine ops_ex rfl (guard_none rfl) rfl rfl (ex_len (d := kCoin) (xs := x0) rfl rfl Try.underlying44 hp0) ?_
    refine ops_ex rfl (guard_none rfl) rfl rfl (ex_lss rfl rfl rfl) ?_
    refine ops_nil ?_
    refine at_then ?_
    refine run_cond (b := (decide (a1277 < (x0.length : Int)))) rfl (fun hb1286 => ?_) (fun hb1286 => ?_)
    · replace ho1270 := cond_t hb1286 ho1270
      refine run_skip ?_
      refine at_then ?_
      refine run_seq ?_
      refine run_block ?_
      refine run_seq ?_
      obtain ⟨e1287, ho1270⟩ := chk_some ho1270
      refine run_drawf (fun w_ => Mem w [] w_ [box b1246 54 [.int .i64 x1.fTx, .int .i64 x1.fAt]]) [(0, true), (1, true), (2, true), (3, true), (4, true), (5, true), (6, true)] mixed rfl rfl (by kernel_rfl) ?_
      replace HM := HM.grow (fr_drew _)
      have hS := Mem.suf (M := []) HM
      refine drwp_take rfl (guard_none rfl) rfl rfl (fun w_ hS_ => (ex_move rfl rfl)) hS ?_
      refine drwp_take rfl (guard_none rfl) rfl rfl (fun w_ hS_ => (ex_move rfl rfl)) hS ?_
      obtain ⟨kv1289, hc1288, hk1290⟩ : ∃ u, CellsAt _ (sb p0) (so p0 + (a1277).toNat * 8) [(.int .i64 ((gt x0 a1277).fRef.fTx)), (.int .i64 ((gt x0 a1277).fRef.fAt)), (.int .i64 ((gt x0 a1277).fOut.fValue)), u, (.int .i64 ((gt x0 a1277).fOut.fRule.fNeed)), (.int .i64 ((gt x0 a1277).fOut.fRule.fAfter)), (.int .i64 ((gt x0 a1277).fHeight)), (.bool ((gt x0 a1277).fMined))] ∧ RdS kInt _ u ((gt x0 a1277).fOut.fRule.fKeys) := rd_with1 hp0 e1287
      refine drwp_take rfl (guard_none rfl) rfl rfl (fun w_ hS_ => (ex_indexAddr (d := kCoin) rfl rfl rfl Try.underlying44 tsz123 hp0 (idx_lo e1287) (idx_hi e1287))) hS ?_
      refine drwp_take rfl (guard_none rfl) rfl rfl (fun w_ hS_ => (ex_fieldAddr (off' := so p0 + (a1277).toNat * 8) rfl rfl Try.underlying123 rfl tsz54 rfl)) hS ?_
      refine drwp_take rfl (guard_none rfl) rfl rfl (fun w_ hS_ => (ex_loadN (cs := [(.int .i64 ((gt x0 a1277).fRef.fTx)), (.int .i64 ((gt x0 a1277).fRef.fAt))]) rfl rfl Try.underlying54 rfl tsz54 rfl ((hS_.at_ hc1288).sub 0 2 rfl))) hS ?_
      refine drwp_take rfl (guard_none rfl) rfl rfl (fun w_ hS_ => (ex_loadN (cs := [(.int .i64 x1.fTx), (.int .i64 x1.fAt)]) rfl rfl Try.underlying54 rfl tsz54 rfl ((hS_.box_at 0 rfl).sub 0 2 rfl))) hS ?_
      refine drwp_take rfl (guard_none rfl) rfl rfl (fun w_ hS_ => (ex_aeql rfl rfl rfl (by kernel_rfl) (eqs54 _ _ _ _ _))) hS ?_
      refine drwp_done ?_
      refine at_then ?_
      refine run_cond (b := ((((gt x0 a1277).fRef.fTx) == x1.fTx) && (((gt x0 a1277).fRef.fAt) == x1.fAt))) rfl (fun hb1291 => ?_) (fun hb1291 => ?_)
      · replace ho1270 := cond_t hb1291 ho1270
        refine run_seq ?_
        refine run_region rfl ?_
        refine ops_ex rfl (guard_none rfl) rfl rfl (ex_move rfl rfl) ?_
        refine ops_ex rfl (guard_none rfl) rfl rfl (ex_assign rfl rfl) ?_
        refine ops_nil ?_
        refine at_then ?_
        refine run_ret ?_
        refine at_block_ret ?_
        refine at_then_ret ?_
        refine at_then_ret ?_
        refine at_block_ret ?_
        refine at_then_ret ?_
        replace HM := (HM.front 0 rfl rfl).drop
        have hR := Option.some.inj ho1270
        subst hR
        have hT := thn_inl H
        have hR := Option.some.inj hT
        subst hR
        exact at_ret1 rfl rfl ⟨_, rfl, rfl, HM⟩
      · replace ho1270 := cond_f hb1291 ho1270
        refine run_skip ?_
        refine at_block ?_
        refine at_then ?_
        refine run_region rfl ?_
        refine ops_ex rfl (guard_none rfl) rfl rfl (ex_move rfl rfl) ?_
        refine ops_ex rfl (guard_none rfl) rfl rfl (ex_add rfl rfl rfl) ?_
        refine ops_ex rfl (guard_none rfl) rfl rfl (ex_assign rfl rfl) ?_
        refine ops_nil ?_
        exact at_again k1284 (ρ1 := [(0, p0), (3, .pointer (some ⟨b1246, 0, none⟩)), (5, .int .i64 (wrap64 (a1277 + 1)))]) (Nat.lt_succ_self _) ⟨_, ho1270, rfl, HM⟩ (Sub.cons rfl (Sub.cons rfl (Sub.cons rfl Sub.nil)))
    · replace ho1270 := cond_f hb1286 ho1270
      refine run_exit ?_
      refine at_then_exit ?_
      refine at_then_exit ?_
      refine at_block_exit ?_
      replace HM := (HM.front 0 rfl rfl).drop
      exact at_mid (ρ' := []) ⟨(Option.some.inj ho1270), rfl, HM⟩ Sub.nil
  · rintro _ w1292 ⟨rfl, rfl, HM⟩
    replace H := (thn_inr H)
    refine run_seq ?_
    refine run_region rfl ?_
    refine ops_ex rfl (guard_none rfl) rfl rfl (ex_assign rfl rfl) ?_
    refine ops_nil ?_
    refine at_then ?_
    refine run_ret ?_
    have hR := Option.some.inj H
    subst hR
    exact at_ret1 rfl rfl ⟨_, rfl, rfl, HM⟩
end Go.Proofs.Ytigojhglkilodaa.Zk
