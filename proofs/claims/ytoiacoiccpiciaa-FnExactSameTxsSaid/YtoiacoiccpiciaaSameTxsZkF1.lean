/- What functions of the program compute, each as a plain function, and that they do. Conditions: as each theorem states them. -/
import Derived.Test.YtoiacoiccpiciaaSameTxsZkF0
namespace Go.Proofs.Ytoiacoiccpiciaa.Zk
open Go Go.RowKit Go.IntWalk Go.Proofs
set_option linter.unusedVariables false
set_option linter.unusedSimpArgs false
set_option maxRecDepth 100000
set_option maxHeartbeats 4000000
def spec_l2Ints.l0 (x0 : List Int) (x1 : List Int) : Nat → Int → Option (Bool ⊕ Unit)
  | 0, _ => none
  | k + 1, a700 => (bif (decide (a700 < (x0.length : Int))) then (chk (idxOk a700 x0.length) (chk (idxOk a700 x1.length) (bif ((gt x0 a700) != (gt x1 a700)) then some (.inl false) else spec_l2Ints.l0 x0 x1 k (wrap64 (a700 + 1))))) else some (.inr ()))
theorem spec_l2Ints.l0_z (x0 : List Int) (x1 : List Int) (a700 : Int) : spec_l2Ints.l0 x0 x1 0 a700 = none := rfl
theorem spec_l2Ints.l0_s (x0 : List Int) (x1 : List Int) (k : Nat) (a700 : Int) : spec_l2Ints.l0 x0 x1 (k + 1) a700 = (bif (decide (a700 < (x0.length : Int))) then (chk (idxOk a700 x0.length) (chk (idxOk a700 x1.length) (bif ((gt x0 a700) != (gt x1 a700)) then some (.inl false) else spec_l2Ints.l0 x0 x1 k (wrap64 (a700 + 1))))) else some (.inr ())) := rfl
def spec_l2Ints.f (k : Nat) (x0 : List Int) (x1 : List Int) : Option Bool := (bif ((x0.length : Int) != (x1.length : Int)) then some false else ((spec_l2Ints.l0 x0 x1 k 0).bind fun o692 => thn o692 (fun r => some r) (fun _ => some true)))
theorem spec_l2Ints.calls {k : Nat} {x0 : List Int} {x1 : List Int} {p0 : Value} {p1 : Value} {w : World} (hp0 : RdS kInt w p0 x0) (hp1 : RdS kInt w p1 x1) {r : Bool} (H : spec_l2Ints.f k x0 x1 = some r) :
    Calls Try.prog 157 ([p0, p1] : List Value).toArray w (fun e w_ => ∃ v, e = .returned v ∧ v = (.bool r) ∧ Mem w [] w_ []) := by
  have HM := Mem.start w
  refine calls_run (N := 26) Try.func157 rfl rfl rfl rfl ?_
  unfold spec_l2Ints.f at H
  refine run_seq ?_
  refine run_region rfl ?_
  refine ops_ex rfl (guard_none rfl) rfl rfl (ex_assign rfl rfl) ?_
  refine ops_nil ?_
  refine at_then ?_
  refine run_seq ?_
  refine run_seq ?_
  refine run_region rfl ?_
  refine ops_ex rfl (guard_none rfl) rfl rfl (ex_move rfl rfl) ?_
  refine ops_ex rfl (guard_none rfl) rfl rfl (ex_len (d := kInt) (xs := x0) rfl rfl Try.underlying74 hp0) ?_
  refine ops_ex rfl (guard_none rfl) rfl rfl (ex_move rfl rfl) ?_
  refine ops_ex rfl (guard_none rfl) rfl rfl (ex_len (d := kInt) (xs := x1) rfl rfl Try.underlying74 hp1) ?_
  refine ops_ex rfl (guard_none rfl) rfl rfl (ex_neq rfl rfl rfl) ?_
  refine ops_nil ?_
  refine at_then ?_
  refine run_cond (b := ((x0.length : Int) != (x1.length : Int))) rfl (fun hb672 => ?_) (fun hb672 => ?_)
  · replace H := cond_t hb672 H
    refine run_seq ?_
    refine run_region rfl ?_
    refine ops_ex rfl (guard_none rfl) rfl rfl (ex_assign rfl rfl) ?_
    refine ops_nil ?_
    refine at_then ?_
    refine run_ret ?_
    refine at_then_ret ?_
    have hR := Option.some.inj H
    subst hR
    exact at_ret1 rfl rfl ⟨_, rfl, rfl, HM⟩
  · replace H := cond_f hb672 H
    refine run_skip ?_
    refine at_then ?_
    obtain ⟨o692, ho693, H⟩ := bind_some H
    refine run_mid (fun ρ_ w_ => Sum.inr () = o692 ∧ ρ_ = [] ∧ Mem w [] w_ []) ?_ ?_
    · skip
      refine run_seq ?_
      refine run_region rfl ?_
      refine ops_ex rfl (guard_none rfl) rfl rfl (ex_assign rfl rfl) ?_
      refine ops_nil ?_
      refine at_then ?_
      refine run_block ?_
      refine run_loop (fun k_ ρ_ w_ => ∃ a700 : Int, spec_l2Ints.l0 x0 x1 k_ a700 = some o692 ∧ ρ_ = [(0, p0), (1, p1), (5, .int .i64 a700)] ∧ Mem w [] w_ []) k (ρ1 := [(0, p0), (1, p1), (5, .int .i64 0)]) ⟨_, ho693, rfl, HM⟩ (Sub.cons rfl (Sub.cons rfl (Sub.cons rfl Sub.nil))) ?_
      clear HM ho693
      rintro k707 _ w708 ⟨a700, ho693, rfl, HM⟩
      obtain _ | k707 := k707
      · exact nomatch ((spec_l2Ints.l0_z x0 x1 a700).symm.trans ho693)
      replace ho693 := (spec_l2Ints.l0_s x0 x1 k707 a700).symm.trans ho693
      refine run_seq ?_
      refine run_seq ?_
      refine run_region rfl ?_
      refine ops_ex rfl (guard_none rfl) rfl rfl (ex_move rfl rfl) ?_
      refine ops_ex rfl (guard_none rfl) rfl rfl (ex_move rfl rfl) ?_
      refine ops_ex rfl (guard_none rfl) rfl rfl (ex_len (d := kInt) (xs := x0) rfl rfl Try.underlying74 hp0) ?_
      refine ops_ex rfl (guard_none rfl) rfl rfl (ex_lss rfl rfl rfl) ?_
      refine ops_nil ?_
      refine at_then ?_
      refine run_cond (b := (decide (a700 < (x0.length : Int)))) rfl (fun hb709 => ?_) (fun hb709 => ?_)
      · replace ho693 := cond_t hb709 ho693
        refine run_skip ?_
        refine at_then ?_
        refine run_seq ?_
        refine run_block ?_
        refine run_seq ?_
        obtain ⟨e710, ho693⟩ := chk_some ho693
        obtain ⟨e712, ho693⟩ := chk_some ho693
        refine run_drawf (fun w_ => Mem w [] w_ []) [(0, true), (1, true), (2, true), (3, true), (4, true), (5, true), (6, true), (7, true), (8, true)] mixed rfl rfl (by kernel_rfl) ?_
        replace HM := HM.grow (fr_drew _)
        have hS := Mem.suf (M := []) HM
        refine drwp_take rfl (guard_none rfl) rfl rfl (fun w_ hS_ => (ex_move rfl rfl)) hS ?_
        refine drwp_take rfl (guard_none rfl) rfl rfl (fun w_ hS_ => (ex_move rfl rfl)) hS ?_
        have hc711 : CellsAt _ (sb p0) (so p0 + (a700).toNat * 1) [(.int .i64 (gt x0 a700))] := rd_plain hp0 e710
        refine drwp_take rfl (guard_none rfl) rfl rfl (fun w_ hS_ => (ex_indexAddr (d := kInt) rfl rfl rfl Try.underlying74 tsz2 hp0 (idx_lo e710) (idx_hi e710))) hS ?_
        refine drwp_take rfl (guard_none rfl) rfl rfl (fun w_ hS_ => (ex_load1 rfl rfl Try.underlying2 rfl ((hS_.at_ hc711) 0 _ rfl))) hS ?_
        refine drwp_take rfl (guard_none rfl) rfl rfl (fun w_ hS_ => (ex_move rfl rfl)) hS ?_
        refine drwp_take rfl (guard_none rfl) rfl rfl (fun w_ hS_ => (ex_move rfl rfl)) hS ?_
        have hc713 : CellsAt _ (sb p1) (so p1 + (a700).toNat * 1) [(.int .i64 (gt x1 a700))] := rd_plain hp1 e712
        refine drwp_take rfl (guard_none rfl) rfl rfl (fun w_ hS_ => (ex_indexAddr (d := kInt) rfl rfl rfl Try.underlying74 tsz2 hp1 (idx_lo e712) (idx_hi e712))) hS ?_
        refine drwp_take rfl (guard_none rfl) rfl rfl (fun w_ hS_ => (ex_load1 rfl rfl Try.underlying2 rfl ((hS_.at_ hc713) 0 _ rfl))) hS ?_
        refine drwp_take rfl (guard_none rfl) rfl rfl (fun w_ hS_ => (ex_neq rfl rfl rfl)) hS ?_
        refine drwp_done ?_
        refine at_then ?_
        refine run_cond (b := ((gt x0 a700) != (gt x1 a700))) rfl (fun hb714 => ?_) (fun hb714 => ?_)
        · replace ho693 := cond_t hb714 ho693
          refine run_seq ?_
          refine run_region rfl ?_
          refine ops_ex rfl (guard_none rfl) rfl rfl (ex_assign rfl rfl) ?_
          refine ops_nil ?_
          refine at_then ?_
          refine run_ret ?_
          refine at_block_ret ?_
          refine at_then_ret ?_
          refine at_then_ret ?_
          refine at_block_ret ?_
          refine at_then_ret ?_
          have hR := Option.some.inj ho693
          subst hR
          have hT := thn_inl H
          have hR := Option.some.inj hT
          subst hR
          exact at_ret1 rfl rfl ⟨_, rfl, rfl, HM⟩
        · replace ho693 := cond_f hb714 ho693
          refine run_skip ?_
          refine at_block ?_
          refine at_then ?_
          refine run_region rfl ?_
          refine ops_ex rfl (guard_none rfl) rfl rfl (ex_move rfl rfl) ?_
          refine ops_ex rfl (guard_none rfl) rfl rfl (ex_add rfl rfl rfl) ?_
          refine ops_ex rfl (guard_none rfl) rfl rfl (ex_assign rfl rfl) ?_
          refine ops_nil ?_
          exact at_again k707 (ρ1 := [(0, p0), (1, p1), (5, .int .i64 (wrap64 (a700 + 1)))]) (Nat.lt_succ_self _) ⟨_, ho693, rfl, HM⟩ (Sub.cons rfl (Sub.cons rfl (Sub.cons rfl Sub.nil)))
      · replace ho693 := cond_f hb709 ho693
        refine run_exit ?_
        refine at_then_exit ?_
        refine at_then_exit ?_
        refine at_block_exit ?_
        exact at_mid (ρ' := []) ⟨(Option.some.inj ho693), rfl, HM⟩ Sub.nil
    · rintro _ w715 ⟨rfl, rfl, HM⟩
      replace H := (thn_inr H)
      refine run_seq ?_
      refine run_region rfl ?_
      refine ops_ex rfl (guard_none rfl) rfl rfl (ex_assign rfl rfl) ?_
      refine ops_nil ?_
      refine at_then ?_
      refine run_ret ?_
      have hR := Option.some.inj H
      subst hR
      exact at_ret1 rfl rfl ⟨_, rfl, rfl, HM⟩

def spec_l2Same.f (k : Nat) (x0 : Rule) (x1 : Rule) : Option Bool := ((bif ((x0.fNeed == x1.fNeed) && (x0.fAfter == x1.fAfter)) then spec_l2Ints.f k x0.fKeys x1.fKeys else some default).bind fun t718 => some (((x0.fNeed == x1.fNeed) && (x0.fAfter == x1.fAfter)) && t718))
theorem spec_l2Same.calls {k : Nat} {x0 : Rule} {x1 : Rule} {b0 f0 : Nat} {p0_0 : Value} {b1 f1 : Nat} {p1_0 : Value} {w : World} (hc0 : CellsAt w b0 f0 [p0_0, .int .i64 x0.fNeed, .int .i64 x0.fAfter]) (hp0_0 : RdS kInt w p0_0 x0.fKeys) (hc1 : CellsAt w b1 f1 [p1_0, .int .i64 x1.fNeed, .int .i64 x1.fAfter]) (hp1_0 : RdS kInt w p1_0 x1.fKeys) {r : Bool} (H : spec_l2Same.f k x0 x1 = some r) :
    Calls Try.prog 121 ([.pointer (some ⟨b0, f0, none⟩), .pointer (some ⟨b1, f1, none⟩)] : List Value).toArray w (fun e w_ => ∃ v, e = .returned v ∧ v = (.bool r) ∧ Mem w [] w_ []) := by
  have HM := Mem.start w
  refine calls_run (N := 36) Try.func121 rfl rfl rfl rfl ?_
  unfold spec_l2Same.f at H
  refine run_seq ?_
  refine run_region rfl ?_
  refine ops_ex rfl (guard_none rfl) rfl rfl (ex_assign rfl rfl) ?_
  refine ops_nil ?_
  refine at_then ?_
  refine run_seq ?_
  obtain ⟨t718, h719, H⟩ := bind_some H
  refine run_meet (fun ρ_ w_ => ρ_ = [(4, .bool (((x0.fNeed == x1.fNeed) && (x0.fAfter == x1.fAfter)) && t718))] ∧ Mem w [] w_ []) ?_ ?_
  · skip
    refine run_drawf (fun w_ => Mem w [] w_ []) [(0, true), (1, true), (2, true), (3, true), (4, true), (5, true), (6, true), (7, true), (8, true), (9, true), (10, true), (11, true), (12, true), (13, true), (14, true), (15, true), (16, true), (17, true), (18, true), (19, true), (20, true), (21, true), (22, true), (23, true), (24, true), (25, true), (26, true), (27, true), (28, true), (29, false), (30, true), (31, true)] mixed rfl rfl (by kernel_rfl) ?_
    replace HM := HM.grow (fr_drew _)
    have hS := Mem.suf (M := []) HM
    refine drwp_take rfl (guard_none rfl) rfl rfl (fun w_ hS_ => (ex_move rfl rfl)) hS ?_
    refine drwp_take rfl (guard_none rfl) rfl rfl (fun w_ hS_ => (ex_nilCheck rfl rfl)) hS ?_
    refine drwp_take rfl (guard_none rfl) rfl rfl (fun w_ hS_ => (ex_fieldAddr (off' := f0 + 1) rfl rfl Try.underlying100 rfl tsz2 rfl)) hS ?_
    refine drwp_take rfl (guard_none rfl) rfl rfl (fun w_ hS_ => (ex_load1 rfl rfl Try.underlying2 rfl ((hS_.at_ hc0) 1 _ rfl))) hS ?_
    refine drwp_take rfl (guard_none rfl) rfl rfl (fun w_ hS_ => (ex_move rfl rfl)) hS ?_
    refine drwp_take rfl (guard_none rfl) rfl rfl (fun w_ hS_ => (ex_nilCheck rfl rfl)) hS ?_
    refine drwp_take rfl (guard_none rfl) rfl rfl (fun w_ hS_ => (ex_fieldAddr (off' := f1 + 1) rfl rfl Try.underlying100 rfl tsz2 rfl)) hS ?_
    refine drwp_take rfl (guard_none rfl) rfl rfl (fun w_ hS_ => (ex_load1 rfl rfl Try.underlying2 rfl ((hS_.at_ hc1) 1 _ rfl))) hS ?_
    refine drwp_take rfl (guard_none rfl) rfl rfl (fun w_ hS_ => (ex_eql rfl rfl rfl)) hS ?_
    refine drwp_take rfl (guard_none rfl) rfl rfl (fun w_ hS_ => (ex_move rfl rfl)) hS ?_
    refine bool_cases (x0.fNeed == x1.fNeed) (fun hg720 => ?_) (fun hg720 => ?_)
    · skip
      refine drwp_take rfl (guard_on rfl rfl rfl hg720) rfl rfl (fun w_ hS_ => (ex_move rfl rfl)) hS ?_
      refine drwp_take rfl (guard_on rfl rfl rfl hg720) rfl rfl (fun w_ hS_ => (ex_nilCheck rfl rfl)) hS ?_
      refine drwp_take rfl (guard_on rfl rfl rfl hg720) rfl rfl (fun w_ hS_ => (ex_fieldAddr (off' := f0 + 2) rfl rfl Try.underlying100 rfl tsz2 rfl)) hS ?_
      refine drwp_take rfl (guard_on rfl rfl rfl hg720) rfl rfl (fun w_ hS_ => (ex_load1 rfl rfl Try.underlying2 rfl ((hS_.at_ hc0) 2 _ rfl))) hS ?_
      refine drwp_take rfl (guard_on rfl rfl rfl hg720) rfl rfl (fun w_ hS_ => (ex_move rfl rfl)) hS ?_
      refine drwp_take rfl (guard_on rfl rfl rfl hg720) rfl rfl (fun w_ hS_ => (ex_nilCheck rfl rfl)) hS ?_
      refine drwp_take rfl (guard_on rfl rfl rfl hg720) rfl rfl (fun w_ hS_ => (ex_fieldAddr (off' := f1 + 2) rfl rfl Try.underlying100 rfl tsz2 rfl)) hS ?_
      refine drwp_take rfl (guard_on rfl rfl rfl hg720) rfl rfl (fun w_ hS_ => (ex_load1 rfl rfl Try.underlying2 rfl ((hS_.at_ hc1) 2 _ rfl))) hS ?_
      refine drwp_take rfl (guard_on rfl rfl rfl hg720) rfl rfl (fun w_ hS_ => (ex_eql rfl rfl rfl)) hS ?_
      refine drwp_take (v := .bool ((x0.fNeed == x1.fNeed) && (x0.fAfter == x1.fAfter))) rfl (guard_none rfl) rfl rfl (fun w_ hS_ => (ex_pand_t rfl rfl hg720 rfl)) hS ?_
      refine drwp_take rfl (guard_none rfl) rfl rfl (fun w_ hS_ => (ex_move rfl rfl)) hS ?_
      refine bool_cases ((x0.fNeed == x1.fNeed) && (x0.fAfter == x1.fAfter)) (fun hg721 => ?_) (fun hg721 => ?_)
      · skip
        refine drwp_take rfl (guard_on rfl rfl rfl hg721) rfl rfl (fun w_ hS_ => (ex_move rfl rfl)) hS ?_
        refine drwp_take rfl (guard_on rfl rfl rfl hg721) rfl rfl (fun w_ hS_ => (ex_nilCheck rfl rfl)) hS ?_
        refine drwp_take rfl (guard_on rfl rfl rfl hg721) rfl rfl (fun w_ hS_ => (ex_fieldAddr (off' := f0) rfl rfl Try.underlying100 rfl tsz74 rfl)) hS ?_
        refine drwp_take rfl (guard_on rfl rfl rfl hg721) rfl rfl (fun w_ hS_ => (ex_load1 rfl rfl Try.underlying74 rfl ((hS_.at_ hc0) 0 _ rfl))) hS ?_
        refine drwp_take rfl (guard_on rfl rfl rfl hg721) rfl rfl (fun w_ hS_ => (ex_move rfl rfl)) hS ?_
        refine drwp_take rfl (guard_on rfl rfl rfl hg721) rfl rfl (fun w_ hS_ => (ex_nilCheck rfl rfl)) hS ?_
        refine drwp_take rfl (guard_on rfl rfl rfl hg721) rfl rfl (fun w_ hS_ => (ex_fieldAddr (off' := f1) rfl rfl Try.underlying100 rfl tsz74 rfl)) hS ?_
        refine drwp_take rfl (guard_on rfl rfl rfl hg721) rfl rfl (fun w_ hS_ => (ex_load1 rfl rfl Try.underlying74 rfl ((hS_.at_ hc1) 0 _ rfl))) hS ?_
        refine drwp_one rfl (guard_on rfl rfl rfl hg721) rfl rfl (does_callk rfl callok157 rfl (spec_l2Ints.calls (x0 := x0.fKeys) (x1 := x1.fKeys) (HM.rd hp0_0) (HM.rd hp1_0) (cond_t hg721 h719))) ?_
        rintro _ w722 ⟨rfl, hn⟩
        replace HM : Mem w [] w722 [] := HM.call hn
        refine ⟨Mem.suf (M := []) HM, ?_⟩
        have hS := Mem.suf (M := []) HM
        refine drwp_take (v := .bool (((x0.fNeed == x1.fNeed) && (x0.fAfter == x1.fAfter)) && t718)) rfl (guard_none rfl) rfl rfl (fun w_ hS_ => (ex_pand_t rfl rfl hg721 rfl)) hS ?_
        refine drwp_take rfl (guard_none rfl) rfl rfl (fun w_ hS_ => (ex_assign rfl rfl)) hS ?_
        refine drwp_done ?_
        exact at_meet [(4, .bool (((x0.fNeed == x1.fNeed) && (x0.fAfter == x1.fAfter)) && t718))] ⟨rfl, HM⟩ (Sub.cons rfl Sub.nil)
      · skip
        refine drwp_off rfl (guard_off rfl rfl rfl hg721) rfl rfl hS ?_
        refine drwp_off rfl (guard_off rfl rfl rfl hg721) rfl rfl hS ?_
        refine drwp_off rfl (guard_off rfl rfl rfl hg721) rfl rfl hS ?_
        refine drwp_off rfl (guard_off rfl rfl rfl hg721) rfl rfl hS ?_
        refine drwp_off rfl (guard_off rfl rfl rfl hg721) rfl rfl hS ?_
        refine drwp_off rfl (guard_off rfl rfl rfl hg721) rfl rfl hS ?_
        refine drwp_off rfl (guard_off rfl rfl rfl hg721) rfl rfl hS ?_
        refine drwp_off rfl (guard_off rfl rfl rfl hg721) rfl rfl hS ?_
        refine drwp_off1 rfl (guard_off rfl rfl rfl hg721) rfl rfl ⟨hS, ?_⟩
        have hg723 : (((x0.fNeed == x1.fNeed) && (x0.fAfter == x1.fAfter)) && t718) = false := by simp only [hg721, Bool.and_true, Bool.true_and, Bool.and_false, Bool.false_and, Bool.or_true, Bool.true_or, Bool.or_false, Bool.false_or, Bool.not_true, Bool.not_false, Bool.not_not]
        refine drwp_take (v := .bool (((x0.fNeed == x1.fNeed) && (x0.fAfter == x1.fAfter)) && t718)) rfl (guard_none rfl) rfl rfl (fun w_ hS_ => (ex_pand_f rfl rfl hg721)) hS ?_
        refine drwp_take rfl (guard_none rfl) rfl rfl (fun w_ hS_ => (ex_assign rfl rfl)) hS ?_
        refine drwp_done ?_
        exact at_meet [(4, .bool (((x0.fNeed == x1.fNeed) && (x0.fAfter == x1.fAfter)) && t718))] ⟨rfl, HM⟩ (Sub.cons rfl Sub.nil)
    · skip
      refine drwp_off rfl (guard_off rfl rfl rfl hg720) rfl rfl hS ?_
      refine drwp_off rfl (guard_off rfl rfl rfl hg720) rfl rfl hS ?_
      refine drwp_off rfl (guard_off rfl rfl rfl hg720) rfl rfl hS ?_
      refine drwp_off rfl (guard_off rfl rfl rfl hg720) rfl rfl hS ?_
      refine drwp_off rfl (guard_off rfl rfl rfl hg720) rfl rfl hS ?_
      refine drwp_off rfl (guard_off rfl rfl rfl hg720) rfl rfl hS ?_
      refine drwp_off rfl (guard_off rfl rfl rfl hg720) rfl rfl hS ?_
      refine drwp_off rfl (guard_off rfl rfl rfl hg720) rfl rfl hS ?_
      refine drwp_off rfl (guard_off rfl rfl rfl hg720) rfl rfl hS ?_
      have hg724 : ((x0.fNeed == x1.fNeed) && (x0.fAfter == x1.fAfter)) = false := by simp only [hg720, Bool.and_true, Bool.true_and, Bool.and_false, Bool.false_and, Bool.or_true, Bool.true_or, Bool.or_false, Bool.false_or, Bool.not_true, Bool.not_false, Bool.not_not]
      refine drwp_take (v := .bool ((x0.fNeed == x1.fNeed) && (x0.fAfter == x1.fAfter))) rfl (guard_none rfl) rfl rfl (fun w_ hS_ => (ex_pand_f rfl rfl hg720)) hS ?_
      refine drwp_take rfl (guard_none rfl) rfl rfl (fun w_ hS_ => (ex_move rfl rfl)) hS ?_
      refine drwp_off rfl (guard_off rfl rfl rfl hg724) rfl rfl hS ?_
      refine drwp_off rfl (guard_off rfl rfl rfl hg724) rfl rfl hS ?_
      refine drwp_off rfl (guard_off rfl rfl rfl hg724) rfl rfl hS ?_
      refine drwp_off rfl (guard_off rfl rfl rfl hg724) rfl rfl hS ?_
      refine drwp_off rfl (guard_off rfl rfl rfl hg724) rfl rfl hS ?_
      refine drwp_off rfl (guard_off rfl rfl rfl hg724) rfl rfl hS ?_
      refine drwp_off rfl (guard_off rfl rfl rfl hg724) rfl rfl hS ?_
      refine drwp_off rfl (guard_off rfl rfl rfl hg724) rfl rfl hS ?_
      refine drwp_off1 rfl (guard_off rfl rfl rfl hg724) rfl rfl ⟨hS, ?_⟩
      have hg725 : (((x0.fNeed == x1.fNeed) && (x0.fAfter == x1.fAfter)) && t718) = false := by simp only [hg724, Bool.and_true, Bool.true_and, Bool.and_false, Bool.false_and, Bool.or_true, Bool.true_or, Bool.or_false, Bool.false_or, Bool.not_true, Bool.not_false, Bool.not_not]
      refine drwp_take (v := .bool (((x0.fNeed == x1.fNeed) && (x0.fAfter == x1.fAfter)) && t718)) rfl (guard_none rfl) rfl rfl (fun w_ hS_ => (ex_pand_f rfl rfl hg724)) hS ?_
      refine drwp_take rfl (guard_none rfl) rfl rfl (fun w_ hS_ => (ex_assign rfl rfl)) hS ?_
      refine drwp_done ?_
      exact at_meet [(4, .bool (((x0.fNeed == x1.fNeed) && (x0.fAfter == x1.fAfter)) && t718))] ⟨rfl, HM⟩ (Sub.cons rfl Sub.nil)
  · rintro _ w726 ⟨rfl, HM⟩
    refine at_then ?_
    refine run_ret ?_
    have hR := Option.some.inj H
    subst hR
    exact at_ret1 rfl rfl ⟨_, rfl, rfl, HM⟩

def spec_l3Same.l0 (x0 : Tx) (x1 : Tx) : Nat → Int → Option (Bool ⊕ Unit)
  | 0, _ => none
  | k + 1, a812 => (bif (decide (a812 < (x0.fIns.length : Int))) then (chk (idxOk a812 x0.fIns.length) (chk (idxOk a812 x1.fIns.length) (bif (!((((gt x0.fIns a812).fTx) == ((gt x1.fIns a812).fTx)) && (((gt x0.fIns a812).fAt) == ((gt x1.fIns a812).fAt)))) then some (.inl false) else spec_l3Same.l0 x0 x1 k (wrap64 (a812 + 1))))) else some (.inr ()))
theorem spec_l3Same.l0_z (x0 : Tx) (x1 : Tx) (a812 : Int) : spec_l3Same.l0 x0 x1 0 a812 = none := rfl
theorem spec_l3Same.l0_s (x0 : Tx) (x1 : Tx) (k : Nat) (a812 : Int) : spec_l3Same.l0 x0 x1 (k + 1) a812 = (bif (decide (a812 < (x0.fIns.length : Int))) then (chk (idxOk a812 x0.fIns.length) (chk (idxOk a812 x1.fIns.length) (bif (!((((gt x0.fIns a812).fTx) == ((gt x1.fIns a812).fTx)) && (((gt x0.fIns a812).fAt) == ((gt x1.fIns a812).fAt)))) then some (.inl false) else spec_l3Same.l0 x0 x1 k (wrap64 (a812 + 1))))) else some (.inr ())) := rfl
def spec_l3Same.l1 (x0 : Tx) (x1 : Tx) : Nat → Int → Option (Bool ⊕ Unit)
  | 0, _ => none
  | k + 1, a911 => (bif (decide (a911 < (x0.fOuts.length : Int))) then (chk (idxOk a911 x0.fOuts.length) (chk (idxOk a911 x1.fOuts.length) (chk (!(!(((gt x0.fOuts a911).fValue) != ((gt x1.fOuts a911).fValue))) || (idxOk a911 x0.fOuts.length)) (chk (!(!(((gt x0.fOuts a911).fValue) != ((gt x1.fOuts a911).fValue))) || (idxOk a911 x1.fOuts.length)) ((bif (!(((gt x0.fOuts a911).fValue) != ((gt x1.fOuts a911).fValue))) then spec_l2Same.f k ((gt x0.fOuts a911).fRule) ((gt x1.fOuts a911).fRule) else some default).bind fun t951 => (bif ((((gt x0.fOuts a911).fValue) != ((gt x1.fOuts a911).fValue)) || (!t951)) then some (.inl false) else spec_l3Same.l1 x0 x1 k (wrap64 (a911 + 1)))))))) else some (.inr ()))
theorem spec_l3Same.l1_z (x0 : Tx) (x1 : Tx) (a911 : Int) : spec_l3Same.l1 x0 x1 0 a911 = none := rfl
theorem spec_l3Same.l1_s (x0 : Tx) (x1 : Tx) (k : Nat) (a911 : Int) : spec_l3Same.l1 x0 x1 (k + 1) a911 = (bif (decide (a911 < (x0.fOuts.length : Int))) then (chk (idxOk a911 x0.fOuts.length) (chk (idxOk a911 x1.fOuts.length) (chk (!(!(((gt x0.fOuts a911).fValue) != ((gt x1.fOuts a911).fValue))) || (idxOk a911 x0.fOuts.length)) (chk (!(!(((gt x0.fOuts a911).fValue) != ((gt x1.fOuts a911).fValue))) || (idxOk a911 x1.fOuts.length)) ((bif (!(((gt x0.fOuts a911).fValue) != ((gt x1.fOuts a911).fValue))) then spec_l2Same.f k ((gt x0.fOuts a911).fRule) ((gt x1.fOuts a911).fRule) else some default).bind fun t951 => (bif ((((gt x0.fOuts a911).fValue) != ((gt x1.fOuts a911).fValue)) || (!t951)) then some (.inl false) else spec_l3Same.l1 x0 x1 k (wrap64 (a911 + 1)))))))) else some (.inr ())) := rfl
def spec_l3Same.f (k : Nat) (x0 : Tx) (x1 : Tx) : Option Bool := (bif ((((x0.fKind != x1.fKind) || (x0.fMember != x1.fMember)) || ((x0.fIns.length : Int) != (x1.fIns.length : Int))) || ((x0.fOuts.length : Int) != (x1.fOuts.length : Int))) then some false else ((spec_l3Same.l0 x0 x1 k 0).bind fun o804 => thn o804 (fun r => some r) (fun _ => ((spec_l3Same.l1 x0 x1 k 0).bind fun o889 => thn o889 (fun r => some r) (fun _ => some true)))))
theorem spec_l3Same.calls {k : Nat} {x0 : Tx} {x1 : Tx} {b0 f0 : Nat} {p0_0 : Value} {p0_1 : Value} {b1 f1 : Nat} {p1_0 : Value} {p1_1 : Value} {w : World} (hc0 : CellsAt w b0 f0 [.int .i64 x0.fKind, .int .i64 x0.fMember, p0_0, p0_1]) (hp0_0 : RdS kRef w p0_0 x0.fIns) (hp0_1 : RdS kOut w p0_1 x0.fOuts) (hc1 : CellsAt w b1 f1 [.int .i64 x1.fKind, .int .i64 x1.fMember, p1_0, p1_1]) (hp1_0 : RdS kRef w p1_0 x1.fIns) (hp1_1 : RdS kOut w p1_1 x1.fOuts) {r : Bool} (H : spec_l3Same.f k x0 x1 = some r) :
    Calls Try.prog 70 ([.pointer (some ⟨b0, f0, none⟩), .pointer (some ⟨b1, f1, none⟩)] : List Value).toArray w (fun e w_ => ∃ v, e = .returned v ∧ v = (.bool r) ∧ Mem w [] w_ []) := by
  have HM := Mem.start w
  refine calls_run (N := 121) Try.func70 rfl rfl rfl rfl ?_
  unfold spec_l3Same.f at H
  refine run_seq ?_
  refine run_region rfl ?_
  refine ops_ex rfl (guard_none rfl) rfl rfl (ex_assign rfl rfl) ?_
  refine ops_nil ?_
  refine at_then ?_
  refine run_seq ?_
  refine run_seq ?_
  refine run_meet (fun ρ_ w_ => ρ_ = [(0, .pointer (some ⟨b0, f0, none⟩)), (1, .pointer (some ⟨b1, f1, none⟩)), (52, .bool ((((x0.fKind != x1.fKind) || (x0.fMember != x1.fMember)) || ((x0.fIns.length : Int) != (x1.fIns.length : Int))) || ((x0.fOuts.length : Int) != (x1.fOuts.length : Int))))] ∧ Mem w [] w_ []) ?_ ?_
  · skip
    refine run_drawf (fun w_ => Mem w [] w_ []) [(0, true), (1, true), (2, true), (3, true), (4, true), (5, true), (6, true), (7, true), (8, true), (9, true), (10, true), (11, true), (12, true), (13, true), (14, true), (15, true), (16, true), (17, true), (18, true), (19, true), (20, true), (21, true), (22, true), (23, true), (24, true), (25, true), (26, true), (27, true), (28, true), (29, true), (30, true), (31, true), (32, true), (33, true), (34, true), (35, true), (36, true), (37, true), (38, true), (39, true), (40, true), (41, true), (42, true), (43, true), (44, true), (45, true)] mixed rfl rfl (by kernel_rfl) ?_
    replace HM := HM.grow (fr_drew _)
    have hS := Mem.suf (M := []) HM
    refine drwp_take rfl (guard_none rfl) rfl rfl (fun w_ hS_ => (ex_move rfl rfl)) hS ?_
    refine drwp_take rfl (guard_none rfl) rfl rfl (fun w_ hS_ => (ex_nilCheck rfl rfl)) hS ?_
    refine drwp_take rfl (guard_none rfl) rfl rfl (fun w_ hS_ => (ex_fieldAddr (off' := f0) rfl rfl Try.underlying37 rfl tsz2 rfl)) hS ?_
    refine drwp_take rfl (guard_none rfl) rfl rfl (fun w_ hS_ => (ex_load1 rfl rfl Try.underlying2 rfl ((hS_.at_ hc0) 0 _ rfl))) hS ?_
    refine drwp_take rfl (guard_none rfl) rfl rfl (fun w_ hS_ => (ex_move rfl rfl)) hS ?_
    refine drwp_take rfl (guard_none rfl) rfl rfl (fun w_ hS_ => (ex_nilCheck rfl rfl)) hS ?_
    refine drwp_take rfl (guard_none rfl) rfl rfl (fun w_ hS_ => (ex_fieldAddr (off' := f1) rfl rfl Try.underlying37 rfl tsz2 rfl)) hS ?_
    refine drwp_take rfl (guard_none rfl) rfl rfl (fun w_ hS_ => (ex_load1 rfl rfl Try.underlying2 rfl ((hS_.at_ hc1) 0 _ rfl))) hS ?_
    refine drwp_take rfl (guard_none rfl) rfl rfl (fun w_ hS_ => (ex_neq rfl rfl rfl)) hS ?_
    refine drwp_take rfl (guard_none rfl) rfl rfl (fun w_ hS_ => (ex_move rfl rfl)) hS ?_
    refine bool_cases (x0.fKind != x1.fKind) (fun hg774 => ?_) (fun hg774 => ?_)
    · skip
      refine drwp_off rfl (guard_off rfl rfl rfl hg774) rfl rfl hS ?_
      refine drwp_off rfl (guard_off rfl rfl rfl hg774) rfl rfl hS ?_
      refine drwp_off rfl (guard_off rfl rfl rfl hg774) rfl rfl hS ?_
      refine drwp_off rfl (guard_off rfl rfl rfl hg774) rfl rfl hS ?_
      refine drwp_off rfl (guard_off rfl rfl rfl hg774) rfl rfl hS ?_
      refine drwp_off rfl (guard_off rfl rfl rfl hg774) rfl rfl hS ?_
      refine drwp_off rfl (guard_off rfl rfl rfl hg774) rfl rfl hS ?_
      refine drwp_off rfl (guard_off rfl rfl rfl hg774) rfl rfl hS ?_
      refine drwp_off rfl (guard_off rfl rfl rfl hg774) rfl rfl hS ?_
      have hg775 : ((x0.fKind != x1.fKind) || (x0.fMember != x1.fMember)) = true := by simp only [hg774, Bool.and_true, Bool.true_and, Bool.and_false, Bool.false_and, Bool.or_true, Bool.true_or, Bool.or_false, Bool.false_or, Bool.not_true, Bool.not_false, Bool.not_not]
      refine drwp_take (v := .bool ((x0.fKind != x1.fKind) || (x0.fMember != x1.fMember))) rfl (guard_none rfl) rfl rfl (fun w_ hS_ => (ex_por_t rfl rfl hg774)) hS ?_
      refine drwp_take rfl (guard_none rfl) rfl rfl (fun w_ hS_ => (ex_move rfl rfl)) hS ?_
      refine drwp_off rfl (guard_off rfl rfl rfl hg775) rfl rfl hS ?_
      refine drwp_off rfl (guard_off rfl rfl rfl hg775) rfl rfl hS ?_
      refine drwp_off rfl (guard_off rfl rfl rfl hg775) rfl rfl hS ?_
      refine drwp_off rfl (guard_off rfl rfl rfl hg775) rfl rfl hS ?_
      refine drwp_off rfl (guard_off rfl rfl rfl hg775) rfl rfl hS ?_
      refine drwp_off rfl (guard_off rfl rfl rfl hg775) rfl rfl hS ?_
      refine drwp_off rfl (guard_off rfl rfl rfl hg775) rfl rfl hS ?_
      refine drwp_off rfl (guard_off rfl rfl rfl hg775) rfl rfl hS ?_
      refine drwp_off rfl (guard_off rfl rfl rfl hg775) rfl rfl hS ?_
      refine drwp_off rfl (guard_off rfl rfl rfl hg775) rfl rfl hS ?_
      refine drwp_off rfl (guard_off rfl rfl rfl hg775) rfl rfl hS ?_
      have hg776 : (((x0.fKind != x1.fKind) || (x0.fMember != x1.fMember)) || ((x0.fIns.length : Int) != (x1.fIns.length : Int))) = true := by simp only [hg775, Bool.and_true, Bool.true_and, Bool.and_false, Bool.false_and, Bool.or_true, Bool.true_or, Bool.or_false, Bool.false_or, Bool.not_true, Bool.not_false, Bool.not_not]
      refine drwp_take (v := .bool (((x0.fKind != x1.fKind) || (x0.fMember != x1.fMember)) || ((x0.fIns.length : Int) != (x1.fIns.length : Int)))) rfl (guard_none rfl) rfl rfl (fun w_ hS_ => (ex_por_t rfl rfl hg775)) hS ?_
      refine drwp_take rfl (guard_none rfl) rfl rfl (fun w_ hS_ => (ex_move rfl rfl)) hS ?_
      refine drwp_off rfl (guard_off rfl rfl rfl hg776) rfl rfl hS ?_
      refine drwp_off rfl (guard_off rfl rfl rfl hg776) rfl rfl hS ?_
      refine drwp_off rfl (guard_off rfl rfl rfl hg776) rfl rfl hS ?_
      refine drwp_off rfl (guard_off rfl rfl rfl hg776) rfl rfl hS ?_
      refine drwp_off rfl (guard_off rfl rfl rfl hg776) rfl rfl hS ?_
      refine drwp_off rfl (guard_off rfl rfl rfl hg776) rfl rfl hS ?_
      refine drwp_off rfl (guard_off rfl rfl rfl hg776) rfl rfl hS ?_
      refine drwp_off rfl (guard_off rfl rfl rfl hg776) rfl rfl hS ?_
      refine drwp_off rfl (guard_off rfl rfl rfl hg776) rfl rfl hS ?_
      refine drwp_off rfl (guard_off rfl rfl rfl hg776) rfl rfl hS ?_
      refine drwp_off rfl (guard_off rfl rfl rfl hg776) rfl rfl hS ?_
      have hg777 : ((((x0.fKind != x1.fKind) || (x0.fMember != x1.fMember)) || ((x0.fIns.length : Int) != (x1.fIns.length : Int))) || ((x0.fOuts.length : Int) != (x1.fOuts.length : Int))) = true := by simp only [hg776, Bool.and_true, Bool.true_and, Bool.and_false, Bool.false_and, Bool.or_true, Bool.true_or, Bool.or_false, Bool.false_or, Bool.not_true, Bool.not_false, Bool.not_not]
      refine drwp_take (v := .bool ((((x0.fKind != x1.fKind) || (x0.fMember != x1.fMember)) || ((x0.fIns.length : Int) != (x1.fIns.length : Int))) || ((x0.fOuts.length : Int) != (x1.fOuts.length : Int)))) rfl (guard_none rfl) rfl rfl (fun w_ hS_ => (ex_por_t rfl rfl hg776)) hS ?_
      refine drwp_done ?_
      exact at_meet [(0, .pointer (some ⟨b0, f0, none⟩)), (1, .pointer (some ⟨b1, f1, none⟩)), (52, .bool ((((x0.fKind != x1.fKind) || (x0.fMember != x1.fMember)) || ((x0.fIns.length : Int) != (x1.fIns.length : Int))) || ((x0.fOuts.length : Int) != (x1.fOuts.length : Int))))] ⟨rfl, HM⟩ (Sub.cons rfl (Sub.cons rfl (Sub.cons rfl Sub.nil)))
    · skip
      refine drwp_take rfl (guard_on rfl rfl rfl hg774) rfl rfl (fun w_ hS_ => (ex_move rfl rfl)) hS ?_
      refine drwp_take rfl (guard_on rfl rfl rfl hg774) rfl rfl (fun w_ hS_ => (ex_nilCheck rfl rfl)) hS ?_
      refine drwp_take rfl (guard_on rfl rfl rfl hg774) rfl rfl (fun w_ hS_ => (ex_fieldAddr (off' := f0 + 1) rfl rfl Try.underlying37 rfl tsz2 rfl)) hS ?_
      refine drwp_take rfl (guard_on rfl rfl rfl hg774) rfl rfl (fun w_ hS_ => (ex_load1 rfl rfl Try.underlying2 rfl ((hS_.at_ hc0) 1 _ rfl))) hS ?_
      refine drwp_take rfl (guard_on rfl rfl rfl hg774) rfl rfl (fun w_ hS_ => (ex_move rfl rfl)) hS ?_
      refine drwp_take rfl (guard_on rfl rfl rfl hg774) rfl rfl (fun w_ hS_ => (ex_nilCheck rfl rfl)) hS ?_
      refine drwp_take rfl (guard_on rfl rfl rfl hg774) rfl rfl (fun w_ hS_ => (ex_fieldAddr (off' := f1 + 1) rfl rfl Try.underlying37 rfl tsz2 rfl)) hS ?_
      refine drwp_take rfl (guard_on rfl rfl rfl hg774) rfl rfl (fun w_ hS_ => (ex_load1 rfl rfl Try.underlying2 rfl ((hS_.at_ hc1) 1 _ rfl))) hS ?_
      refine drwp_take rfl (guard_on rfl rfl rfl hg774) rfl rfl (fun w_ hS_ => (ex_neq rfl rfl rfl)) hS ?_
      refine drwp_take (v := .bool ((x0.fKind != x1.fKind) || (x0.fMember != x1.fMember))) rfl (guard_none rfl) rfl rfl (fun w_ hS_ => (ex_por_f rfl rfl hg774 rfl)) hS ?_
      refine drwp_take rfl (guard_none rfl) rfl rfl (fun w_ hS_ => (ex_move rfl rfl)) hS ?_
      refine bool_cases ((x0.fKind != x1.fKind) || (x0.fMember != x1.fMember)) (fun hg778 => ?_) (fun hg778 => ?_)
      · skip
        refine drwp_off rfl (guard_off rfl rfl rfl hg778) rfl rfl hS ?_
        refine drwp_off rfl (guard_off rfl rfl rfl hg778) rfl rfl hS ?_
        refine drwp_off rfl (guard_off rfl rfl rfl hg778) rfl rfl hS ?_
        refine drwp_off rfl (guard_off rfl rfl rfl hg778) rfl rfl hS ?_
        refine drwp_off rfl (guard_off rfl rfl rfl hg778) rfl rfl hS ?_
        refine drwp_off rfl (guard_off rfl rfl rfl hg778) rfl rfl hS ?_
        refine drwp_off rfl (guard_off rfl rfl rfl hg778) rfl rfl hS ?_
        refine drwp_off rfl (guard_off rfl rfl rfl hg778) rfl rfl hS ?_
        refine drwp_off rfl (guard_off rfl rfl rfl hg778) rfl rfl hS ?_
        refine drwp_off rfl (guard_off rfl rfl rfl hg778) rfl rfl hS ?_
        refine drwp_off rfl (guard_off rfl rfl rfl hg778) rfl rfl hS ?_
        have hg779 : (((x0.fKind != x1.fKind) || (x0.fMember != x1.fMember)) || ((x0.fIns.length : Int) != (x1.fIns.length : Int))) = true := by simp only [hg778, Bool.and_true, Bool.true_and, Bool.and_false, Bool.false_and, Bool.or_true, Bool.true_or, Bool.or_false, Bool.false_or, Bool.not_true, Bool.not_false, Bool.not_not]
        refine drwp_take (v := .bool (((x0.fKind != x1.fKind) || (x0.fMember != x1.fMember)) || ((x0.fIns.length : Int) != (x1.fIns.length : Int)))) rfl (guard_none rfl) rfl rfl (fun w_ hS_ => (ex_por_t rfl rfl hg778)) hS ?_
        refine drwp_take rfl (guard_none rfl) rfl rfl (fun w_ hS_ => (ex_move rfl rfl)) hS ?_
        refine drwp_off rfl (guard_off rfl rfl rfl hg779) rfl rfl hS ?_
        refine drwp_off rfl (guard_off rfl rfl rfl hg779) rfl rfl hS ?_
        refine drwp_off rfl (guard_off rfl rfl rfl hg779) rfl rfl hS ?_
        refine drwp_off rfl (guard_off rfl rfl rfl hg779) rfl rfl hS ?_
        refine drwp_off rfl (guard_off rfl rfl rfl hg779) rfl rfl hS ?_
        refine drwp_off rfl (guard_off rfl rfl rfl hg779) rfl rfl hS ?_
        refine drwp_off rfl (guard_off rfl rfl rfl hg779) rfl rfl hS ?_
        refine drwp_off rfl (guard_off rfl rfl rfl hg779) rfl rfl hS ?_
        refine drwp_off rfl (guard_off rfl rfl rfl hg779) rfl rfl hS ?_
        refine drwp_off rfl (guard_off rfl rfl rfl hg779) rfl rfl hS ?_
        refine drwp_off rfl (guard_off rfl rfl rfl hg779) rfl rfl hS ?_
        have hg780 : ((((x0.fKind != x1.fKind) || (x0.fMember != x1.fMember)) || ((x0.fIns.length : Int) != (x1.fIns.length : Int))) || ((x0.fOuts.length : Int) != (x1.fOuts.length : Int))) = true := by simp only [hg779, Bool.and_true, Bool.true_and, Bool.and_false, Bool.false_and, Bool.or_true, Bool.true_or, Bool.or_false, Bool.false_or, Bool.not_true, Bool.not_false, Bool.not_not]
        refine drwp_take (v := .bool ((((x0.fKind != x1.fKind) || (x0.fMember != x1.fMember)) || ((x0.fIns.length : Int) != (x1.fIns.length : Int))) || ((x0.fOuts.length : Int) != (x1.fOuts.length : Int)))) rfl (guard_none rfl) rfl rfl (fun w_ hS_ => (ex_por_t rfl rfl hg779)) hS ?_
        refine drwp_done ?_
        exact at_meet [(0, .pointer (some ⟨b0, f0, none⟩)), (1, .pointer (some ⟨b1, f1, none⟩)), (52, .bool ((((x0.fKind != x1.fKind) || (x0.fMember != x1.fMember)) || ((x0.fIns.length : Int) != (x1.fIns.length : Int))) || ((x0.fOuts.length : Int) != (x1.fOuts.length : Int))))] ⟨rfl, HM⟩ (Sub.cons rfl (Sub.cons rfl (Sub.cons rfl Sub.nil)))
      · skip
        refine drwp_take rfl (guard_on rfl rfl rfl hg778) rfl rfl (fun w_ hS_ => (ex_move rfl rfl)) hS ?_
        refine drwp_take rfl (guard_on rfl rfl rfl hg778) rfl rfl (fun w_ hS_ => (ex_nilCheck rfl rfl)) hS ?_
        refine drwp_take rfl (guard_on rfl rfl rfl hg778) rfl rfl (fun w_ hS_ => (ex_fieldAddr (off' := f0 + 2) rfl rfl Try.underlying37 rfl tsz34 rfl)) hS ?_
        refine drwp_take rfl (guard_on rfl rfl rfl hg778) rfl rfl (fun w_ hS_ => (ex_load1 rfl rfl Try.underlying34 rfl ((hS_.at_ hc0) 2 _ rfl))) hS ?_
        refine drwp_take rfl (guard_on rfl rfl rfl hg778) rfl rfl (fun w_ hS_ => (ex_len (d := kRef) (xs := x0.fIns) rfl rfl Try.underlying34 hp0_0)) hS ?_
        refine drwp_take rfl (guard_on rfl rfl rfl hg778) rfl rfl (fun w_ hS_ => (ex_move rfl rfl)) hS ?_
        refine drwp_take rfl (guard_on rfl rfl rfl hg778) rfl rfl (fun w_ hS_ => (ex_nilCheck rfl rfl)) hS ?_
        refine drwp_take rfl (guard_on rfl rfl rfl hg778) rfl rfl (fun w_ hS_ => (ex_fieldAddr (off' := f1 + 2) rfl rfl Try.underlying37 rfl tsz34 rfl)) hS ?_
        refine drwp_take rfl (guard_on rfl rfl rfl hg778) rfl rfl (fun w_ hS_ => (ex_load1 rfl rfl Try.underlying34 rfl ((hS_.at_ hc1) 2 _ rfl))) hS ?_
        refine drwp_take rfl (guard_on rfl rfl rfl hg778) rfl rfl (fun w_ hS_ => (ex_len (d := kRef) (xs := x1.fIns) rfl rfl Try.underlying34 hp1_0)) hS ?_
        refine drwp_take rfl (guard_on rfl rfl rfl hg778) rfl rfl (fun w_ hS_ => (ex_neq rfl rfl rfl)) hS ?_
        refine drwp_take (v := .bool (((x0.fKind != x1.fKind) || (x0.fMember != x1.fMember)) || ((x0.fIns.length : Int) != (x1.fIns.length : Int)))) rfl (guard_none rfl) rfl rfl (fun w_ hS_ => (ex_por_f rfl rfl hg778 rfl)) hS ?_
        refine drwp_take rfl (guard_none rfl) rfl rfl (fun w_ hS_ => (ex_move rfl rfl)) hS ?_
        refine bool_cases (((x0.fKind != x1.fKind) || (x0.fMember != x1.fMember)) || ((x0.fIns.length : Int) != (x1.fIns.length : Int))) (fun hg781 => ?_) (fun hg781 => ?_)
        · skip
          refine drwp_off rfl (guard_off rfl rfl rfl hg781) rfl rfl hS ?_
          refine drwp_off rfl (guard_off rfl rfl rfl hg781) rfl rfl hS ?_
          refine drwp_off rfl (guard_off rfl rfl rfl hg781) rfl rfl hS ?_
          refine drwp_off rfl (guard_off rfl rfl rfl hg781) rfl rfl hS ?_
          refine drwp_off rfl (guard_off rfl rfl rfl hg781) rfl rfl hS ?_
          refine drwp_off rfl (guard_off rfl rfl rfl hg781) rfl rfl hS ?_
          refine drwp_off rfl (guard_off rfl rfl rfl hg781) rfl rfl hS ?_
          refine drwp_off rfl (guard_off rfl rfl rfl hg781) rfl rfl hS ?_
          refine drwp_off rfl (guard_off rfl rfl rfl hg781) rfl rfl hS ?_
          refine drwp_off rfl (guard_off rfl rfl rfl hg781) rfl rfl hS ?_
          refine drwp_off rfl (guard_off rfl rfl rfl hg781) rfl rfl hS ?_
          have hg782 : ((((x0.fKind != x1.fKind) || (x0.fMember != x1.fMember)) || ((x0.fIns.length : Int) != (x1.fIns.length : Int))) || ((x0.fOuts.length : Int) != (x1.fOuts.length : Int))) = true := by simp only [hg781, Bool.and_true, Bool.true_and, Bool.and_false, Bool.false_and, Bool.or_true, Bool.true_or, Bool.or_false, Bool.false_or, Bool.not_true, Bool.not_false, Bool.not_not]
          refine drwp_take (v := .bool ((((x0.fKind != x1.fKind) || (x0.fMember != x1.fMember)) || ((x0.fIns.length : Int) != (x1.fIns.length : Int))) || ((x0.fOuts.length : Int) != (x1.fOuts.length : Int)))) rfl (guard_none rfl) rfl rfl (fun w_ hS_ => (ex_por_t rfl rfl hg781)) hS ?_
          refine drwp_done ?_
          exact at_meet [(0, .pointer (some ⟨b0, f0, none⟩)), (1, .pointer (some ⟨b1, f1, none⟩)), (52, .bool ((((x0.fKind != x1.fKind) || (x0.fMember != x1.fMember)) || ((x0.fIns.length : Int) != (x1.fIns.length : Int))) || ((x0.fOuts.length : Int) != (x1.fOuts.length : Int))))] ⟨rfl, HM⟩ (Sub.cons rfl (Sub.cons rfl (Sub.cons rfl Sub.nil)))
        · skip
          refine drwp_take rfl (guard_on rfl rfl rfl hg781) rfl rfl (fun w_ hS_ => (ex_move rfl rfl)) hS ?_
          refine drwp_take rfl (guard_on rfl rfl rfl hg781) rfl rfl (fun w_ hS_ => (ex_nilCheck rfl rfl)) hS ?_
          refine drwp_take rfl (guard_on rfl rfl rfl hg781) rfl rfl (fun w_ hS_ => (ex_fieldAddr (off' := f0 + 3) rfl rfl Try.underlying37 rfl tsz35 rfl)) hS ?_
          refine drwp_take rfl (guard_on rfl rfl rfl hg781) rfl rfl (fun w_ hS_ => (ex_load1 rfl rfl Try.underlying35 rfl ((hS_.at_ hc0) 3 _ rfl))) hS ?_
          refine drwp_take rfl (guard_on rfl rfl rfl hg781) rfl rfl (fun w_ hS_ => (ex_len (d := kOut) (xs := x0.fOuts) rfl rfl Try.underlying35 hp0_1)) hS ?_
          refine drwp_take rfl (guard_on rfl rfl rfl hg781) rfl rfl (fun w_ hS_ => (ex_move rfl rfl)) hS ?_
          refine drwp_take rfl (guard_on rfl rfl rfl hg781) rfl rfl (fun w_ hS_ => (ex_nilCheck rfl rfl)) hS ?_
          refine drwp_take rfl (guard_on rfl rfl rfl hg781) rfl rfl (fun w_ hS_ => (ex_fieldAddr (off' := f1 + 3) rfl rfl Try.underlying37 rfl tsz35 rfl)) hS ?_
          refine drwp_take rfl (guard_on rfl rfl rfl hg781) rfl rfl (fun w_ hS_ => (ex_load1 rfl rfl Try.underlying35 rfl ((hS_.at_ hc1) 3 _ rfl))) hS ?_
          refine drwp_take rfl (guard_on rfl rfl rfl hg781) rfl rfl (fun w_ hS_ => (ex_len (d := kOut) (xs := x1.fOuts) rfl rfl Try.underlying35 hp1_1)) hS ?_
          refine drwp_take rfl (guard_on rfl rfl rfl hg781) rfl rfl (fun w_ hS_ => (ex_neq rfl rfl rfl)) hS ?_
          refine drwp_take (v := .bool ((((x0.fKind != x1.fKind) || (x0.fMember != x1.fMember)) || ((x0.fIns.length : Int) != (x1.fIns.length : Int))) || ((x0.fOuts.length : Int) != (x1.fOuts.length : Int)))) rfl (guard_none rfl) rfl rfl (fun w_ hS_ => (ex_por_f rfl rfl hg781 rfl)) hS ?_
          refine drwp_done ?_
          exact at_meet [(0, .pointer (some ⟨b0, f0, none⟩)), (1, .pointer (some ⟨b1, f1, none⟩)), (52, .bool ((((x0.fKind != x1.fKind) || (x0.fMember != x1.fMember)) || ((x0.fIns.length : Int) != (x1.fIns.length : Int))) || ((x0.fOuts.length : Int) != (x1.fOuts.length : Int))))] ⟨rfl, HM⟩ (Sub.cons rfl (Sub.cons rfl (Sub.cons rfl Sub.nil)))
  · rintro _ w783 ⟨rfl, HM⟩
    refine at_then ?_
    refine run_cond (b := ((((x0.fKind != x1.fKind) || (x0.fMember != x1.fMember)) || ((x0.fIns.length : Int) != (x1.fIns.length : Int))) || ((x0.fOuts.length : Int) != (x1.fOuts.length : Int)))) rfl (fun hb784 => ?_) (fun hb784 => ?_)
    · replace H := cond_t hb784 H
      refine run_seq ?_
      refine run_region rfl ?_
      refine ops_ex rfl (guard_none rfl) rfl rfl (ex_assign rfl rfl) ?_
      refine ops_nil ?_
      refine at_then ?_
      refine run_ret ?_
      refine at_then_ret ?_
      have hR := Option.some.inj H
      subst hR
      exact at_ret1 rfl rfl ⟨_, rfl, rfl, HM⟩
    · replace H := cond_f hb784 H
      refine run_skip ?_
      refine at_then ?_
      obtain ⟨o804, ho805, H⟩ := bind_some H
      refine run_mid (fun ρ_ w_ => Sum.inr () = o804 ∧ ρ_ = [(0, .pointer (some ⟨b0, f0, none⟩)), (1, .pointer (some ⟨b1, f1, none⟩))] ∧ Mem w [] w_ []) ?_ ?_
      · skip
        refine run_seq ?_
        refine run_region rfl ?_
        refine ops_ex rfl (guard_none rfl) rfl rfl (ex_assign rfl rfl) ?_
        refine ops_nil ?_
        refine at_then ?_
        refine run_block ?_
        refine run_loop (fun k_ ρ_ w_ => ∃ a812 : Int, spec_l3Same.l0 x0 x1 k_ a812 = some o804 ∧ ρ_ = [(0, .pointer (some ⟨b0, f0, none⟩)), (1, .pointer (some ⟨b1, f1, none⟩)), (5, .int .i64 a812)] ∧ Mem w [] w_ []) k (ρ1 := [(0, .pointer (some ⟨b0, f0, none⟩)), (1, .pointer (some ⟨b1, f1, none⟩)), (5, .int .i64 0)]) ⟨_, ho805, rfl, HM⟩ (Sub.cons rfl (Sub.cons rfl (Sub.cons rfl Sub.nil))) ?_
        clear HM ho805
        rintro k819 _ w820 ⟨a812, ho805, rfl, HM⟩
        obtain _ | k819 := k819
        · exact nomatch ((spec_l3Same.l0_z x0 x1 a812).symm.trans ho805)
        replace ho805 := (spec_l3Same.l0_s x0 x1 k819 a812).symm.trans ho805
        refine run_seq ?_
        refine run_seq ?_
        refine run_region rfl ?_
        refine ops_ex rfl (guard_none rfl) rfl rfl (ex_move rfl rfl) ?_
        refine ops_ex rfl (guard_none rfl) rfl rfl (ex_move rfl rfl) ?_
        refine ops_ex rfl (guard_none rfl) rfl rfl (ex_nilCheck rfl rfl) ?_
        refine ops_ex rfl (guard_none rfl) rfl rfl (ex_fieldAddr (off' := f0 + 2) rfl rfl Try.underlying37 rfl tsz34 rfl) ?_
        refine ops_ex rfl (guard_none rfl) rfl rfl (ex_load1 rfl rfl Try.underlying34 rfl ((HM.at_ hc0) 2 _ rfl)) ?_
        refine ops_ex rfl (guard_none rfl) rfl rfl (ex_len (d := kRef) (xs := x0.fIns) rfl rfl Try.underlying34 hp0_0) ?_
        refine ops_ex rfl (guard_none rfl) rfl rfl (ex_lss rfl rfl rfl) ?_
        refine ops_nil ?_
        refine at_then ?_
        refine run_cond (b := (decide (a812 < (x0.fIns.length : Int)))) rfl (fun hb821 => ?_) (fun hb821 => ?_)
        · replace ho805 := cond_t hb821 ho805
          refine run_skip ?_
          refine at_then ?_
          refine run_seq ?_
          refine run_block ?_
          refine run_seq ?_
          obtain ⟨e822, ho805⟩ := chk_some ho805
          obtain ⟨e824, ho805⟩ := chk_some ho805
          refine run_drawf (fun w_ => Mem w [] w_ []) [(0, true), (1, true), (2, true), (3, true), (4, true), (5, true), (6, true), (7, true), (8, true), (9, true), (10, true), (11, true), (12, true), (13, true), (14, true)] mixed rfl rfl (by kernel_rfl) ?_
          replace HM := HM.grow (fr_drew _)
          have hS := Mem.suf (M := []) HM
          refine drwp_take rfl (guard_none rfl) rfl rfl (fun w_ hS_ => (ex_move rfl rfl)) hS ?_
          refine drwp_take rfl (guard_none rfl) rfl rfl (fun w_ hS_ => (ex_nilCheck rfl rfl)) hS ?_
          refine drwp_take rfl (guard_none rfl) rfl rfl (fun w_ hS_ => (ex_fieldAddr (off' := f0 + 2) rfl rfl Try.underlying37 rfl tsz34 rfl)) hS ?_
          refine drwp_take rfl (guard_none rfl) rfl rfl (fun w_ hS_ => (ex_load1 rfl rfl Try.underlying34 rfl ((hS_.at_ hc0) 2 _ rfl))) hS ?_
          refine drwp_take rfl (guard_none rfl) rfl rfl (fun w_ hS_ => (ex_move rfl rfl)) hS ?_
          have hc823 : CellsAt _ (sb p0_0) (so p0_0 + (a812).toNat * 2) [(.int .i64 ((gt x0.fIns a812).fTx)), (.int .i64 ((gt x0.fIns a812).fAt))] := rd_plain hp0_0 e822
          refine drwp_take rfl (guard_none rfl) rfl rfl (fun w_ hS_ => (ex_indexAddr (d := kRef) rfl rfl rfl Try.underlying34 tsz99 hp0_0 (idx_lo e822) (idx_hi e822))) hS ?_
          refine drwp_take rfl (guard_none rfl) rfl rfl (fun w_ hS_ => (ex_loadN (cs := [(.int .i64 ((gt x0.fIns a812).fTx)), (.int .i64 ((gt x0.fIns a812).fAt))]) rfl rfl Try.underlying99 rfl tsz99 rfl ((hS_.at_ hc823).sub 0 2 rfl))) hS ?_
          refine drwp_take rfl (guard_none rfl) rfl rfl (fun w_ hS_ => (ex_move rfl rfl)) hS ?_
          refine drwp_take rfl (guard_none rfl) rfl rfl (fun w_ hS_ => (ex_nilCheck rfl rfl)) hS ?_
          refine drwp_take rfl (guard_none rfl) rfl rfl (fun w_ hS_ => (ex_fieldAddr (off' := f1 + 2) rfl rfl Try.underlying37 rfl tsz34 rfl)) hS ?_
          refine drwp_take rfl (guard_none rfl) rfl rfl (fun w_ hS_ => (ex_load1 rfl rfl Try.underlying34 rfl ((hS_.at_ hc1) 2 _ rfl))) hS ?_
          refine drwp_take rfl (guard_none rfl) rfl rfl (fun w_ hS_ => (ex_move rfl rfl)) hS ?_
          have hc825 : CellsAt _ (sb p1_0) (so p1_0 + (a812).toNat * 2) [(.int .i64 ((gt x1.fIns a812).fTx)), (.int .i64 ((gt x1.fIns a812).fAt))] := rd_plain hp1_0 e824
          refine drwp_take rfl (guard_none rfl) rfl rfl (fun w_ hS_ => (ex_indexAddr (d := kRef) rfl rfl rfl Try.underlying34 tsz99 hp1_0 (idx_lo e824) (idx_hi e824))) hS ?_
          refine drwp_take rfl (guard_none rfl) rfl rfl (fun w_ hS_ => (ex_loadN (cs := [(.int .i64 ((gt x1.fIns a812).fTx)), (.int .i64 ((gt x1.fIns a812).fAt))]) rfl rfl Try.underlying99 rfl tsz99 rfl ((hS_.at_ hc825).sub 0 2 rfl))) hS ?_
          refine drwp_take rfl (guard_none rfl) rfl rfl (fun w_ hS_ => (ex_aneq rfl rfl rfl (by kernel_rfl) (eqs99 _ _ _ _ _))) hS ?_
          refine drwp_done ?_
          refine at_then ?_
          refine run_cond (b := (!((((gt x0.fIns a812).fTx) == ((gt x1.fIns a812).fTx)) && (((gt x0.fIns a812).fAt) == ((gt x1.fIns a812).fAt))))) rfl (fun hb826 => ?_) (fun hb826 => ?_)
          · replace ho805 := cond_t hb826 ho805
            refine run_seq ?_
            refine run_region rfl ?_
            refine ops_ex rfl (guard_none rfl) rfl rfl (ex_assign rfl rfl) ?_
            refine ops_nil ?_
            refine at_then ?_
            refine run_ret ?_
            refine at_block_ret ?_
            refine at_then_ret ?_
            refine at_then_ret ?_
            refine at_block_ret ?_
            refine at_then_ret ?_
            have hR := Option.some.inj ho805
            subst hR
            have hT := thn_inl H
            have hR := Option.some.inj hT
            subst hR
            exact at_ret1 rfl rfl ⟨_, rfl, rfl, HM⟩
          · replace ho805 := cond_f hb826 ho805
            refine run_skip ?_
            refine at_block ?_
            refine at_then ?_
            refine run_region rfl ?_
            refine ops_ex rfl (guard_none rfl) rfl rfl (ex_move rfl rfl) ?_
            refine ops_ex rfl (guard_none rfl) rfl rfl (ex_add rfl rfl rfl) ?_
            refine ops_ex rfl (guard_none rfl) rfl rfl (ex_assign rfl rfl) ?_
            refine ops_nil ?_
            exact at_again k819 (ρ1 := [(0, .pointer (some ⟨b0, f0, none⟩)), (1, .pointer (some ⟨b1, f1, none⟩)), (5, .int .i64 (wrap64 (a812 + 1)))]) (Nat.lt_succ_self _) ⟨_, ho805, rfl, HM⟩ (Sub.cons rfl (Sub.cons rfl (Sub.cons rfl Sub.nil)))
        · replace ho805 := cond_f hb821 ho805
          refine run_exit ?_
          refine at_then_exit ?_
          refine at_then_exit ?_
          refine at_block_exit ?_
          exact at_mid (ρ' := [(0, .pointer (some ⟨b0, f0, none⟩)), (1, .pointer (some ⟨b1, f1, none⟩))]) ⟨(Option.some.inj ho805), rfl, HM⟩ (Sub.cons rfl (Sub.cons rfl Sub.nil))
      · rintro _ w827 ⟨rfl, rfl, HM⟩
        replace H := (thn_inr H)
        obtain ⟨o889, ho890, H⟩ := bind_some H
        refine run_mid (fun ρ_ w_ => Sum.inr () = o889 ∧ ρ_ = [] ∧ Mem w [] w_ []) ?_ ?_
        · skip
          refine run_seq ?_
          refine run_region rfl ?_
          refine ops_ex rfl (guard_none rfl) rfl rfl (ex_assign rfl rfl) ?_
          refine ops_nil ?_
          refine at_then ?_
          refine run_block ?_
          refine run_loop (fun k_ ρ_ w_ => ∃ a911 : Int, spec_l3Same.l1 x0 x1 k_ a911 = some o889 ∧ ρ_ = [(0, .pointer (some ⟨b0, f0, none⟩)), (1, .pointer (some ⟨b1, f1, none⟩)), (6, .int .i64 a911)] ∧ Mem w [] w_ []) k (ρ1 := [(0, .pointer (some ⟨b0, f0, none⟩)), (1, .pointer (some ⟨b1, f1, none⟩)), (6, .int .i64 0)]) ⟨_, ho890, rfl, HM⟩ (Sub.cons rfl (Sub.cons rfl (Sub.cons rfl Sub.nil))) ?_
          clear HM ho890
          rintro k932 _ w933 ⟨a911, ho890, rfl, HM⟩
          obtain _ | k932 := k932
          · exact nomatch ((spec_l3Same.l1_z x0 x1 a911).symm.trans ho890)
          replace ho890 := (spec_l3Same.l1_s x0 x1 k932 a911).symm.trans ho890
          refine run_seq ?_
          refine run_seq ?_
          refine run_region rfl ?_
          refine ops_ex rfl (guard_none rfl) rfl rfl (ex_move rfl rfl) ?_
          refine ops_ex rfl (guard_none rfl) rfl rfl (ex_move rfl rfl) ?_
          refine ops_ex rfl (guard_none rfl) rfl rfl (ex_nilCheck rfl rfl) ?_
          refine ops_ex rfl (guard_none rfl) rfl rfl (ex_fieldAddr (off' := f0 + 3) rfl rfl Try.underlying37 rfl tsz35 rfl) ?_
          refine ops_ex rfl (guard_none rfl) rfl rfl (ex_load1 rfl rfl Try.underlying35 rfl ((HM.at_ hc0) 3 _ rfl)) ?_
          refine ops_ex rfl (guard_none rfl) rfl rfl (ex_len (d := kOut) (xs := x0.fOuts) rfl rfl Try.underlying35 hp0_1) ?_
          refine ops_ex rfl (guard_none rfl) rfl rfl (ex_lss rfl rfl rfl) ?_
          refine ops_nil ?_
          refine at_then ?_
          refine run_cond (b := (decide (a911 < (x0.fOuts.length : Int)))) rfl (fun hb934 => ?_) (fun hb934 => ?_)
          · replace ho890 := cond_t hb934 ho890
            refine run_skip ?_
            refine at_then ?_
            refine run_seq ?_
            refine run_block ?_
            refine run_seq ?_
            obtain ⟨e935, ho890⟩ := chk_some ho890
            obtain ⟨e939, ho890⟩ := chk_some ho890
            obtain ⟨e943, ho890⟩ := chk_some ho890
            obtain ⟨e947, ho890⟩ := chk_some ho890
            obtain ⟨t951, h952, ho890⟩ := bind_some ho890
            refine run_meet (fun ρ_ w_ => ρ_ = [(0, .pointer (some ⟨b0, f0, none⟩)), (1, .pointer (some ⟨b1, f1, none⟩)), (6, .int .i64 a911), (120, .bool ((((gt x0.fOuts a911).fValue) != ((gt x1.fOuts a911).fValue)) || (!t951)))] ∧ Mem w [] w_ []) ?_ ?_
            · skip
              refine run_drawf (fun w_ => Mem w [] w_ []) [(0, true), (1, true), (2, true), (3, true), (4, true), (5, true), (6, true), (7, true), (8, true), (9, true), (10, true), (11, true), (12, true), (13, true), (14, true), (15, true), (16, true), (17, true), (18, true), (19, true), (20, true), (21, true), (22, true), (23, true), (24, true), (25, true), (26, true), (27, true), (28, true), (29, true), (30, true), (31, true), (32, false), (33, true), (34, true)] mixed rfl rfl (by kernel_rfl) ?_
              replace HM := HM.grow (fr_drew _)
              have hS := Mem.suf (M := []) HM
              refine drwp_take rfl (guard_none rfl) rfl rfl (fun w_ hS_ => (ex_move rfl rfl)) hS ?_
              refine drwp_take rfl (guard_none rfl) rfl rfl (fun w_ hS_ => (ex_nilCheck rfl rfl)) hS ?_
              refine drwp_take rfl (guard_none rfl) rfl rfl (fun w_ hS_ => (ex_fieldAddr (off' := f0 + 3) rfl rfl Try.underlying37 rfl tsz35 rfl)) hS ?_
              refine drwp_take rfl (guard_none rfl) rfl rfl (fun w_ hS_ => (ex_load1 rfl rfl Try.underlying35 rfl ((hS_.at_ hc0) 3 _ rfl))) hS ?_
              refine drwp_take rfl (guard_none rfl) rfl rfl (fun w_ hS_ => (ex_move rfl rfl)) hS ?_
              obtain ⟨kv937, hc936, hk938⟩ : ∃ u, CellsAt _ (sb p0_1) (so p0_1 + (a911).toNat * 4) [(.int .i64 ((gt x0.fOuts a911).fValue)), u, (.int .i64 ((gt x0.fOuts a911).fRule.fNeed)), (.int .i64 ((gt x0.fOuts a911).fRule.fAfter))] ∧ RdS kInt _ u ((gt x0.fOuts a911).fRule.fKeys) := rd_with1 hp0_1 e935
              refine drwp_take rfl (guard_none rfl) rfl rfl (fun w_ hS_ => (ex_indexAddr (d := kOut) rfl rfl rfl Try.underlying35 tsz102 hp0_1 (idx_lo e935) (idx_hi e935))) hS ?_
              refine drwp_take rfl (guard_none rfl) rfl rfl (fun w_ hS_ => (ex_fieldAddr (off' := so p0_1 + (a911).toNat * 4) rfl rfl Try.underlying102 rfl tsz2 rfl)) hS ?_
              refine drwp_take rfl (guard_none rfl) rfl rfl (fun w_ hS_ => (ex_load1 rfl rfl Try.underlying2 rfl ((hS_.at_ hc936) 0 _ rfl))) hS ?_
              refine drwp_take rfl (guard_none rfl) rfl rfl (fun w_ hS_ => (ex_move rfl rfl)) hS ?_
              refine drwp_take rfl (guard_none rfl) rfl rfl (fun w_ hS_ => (ex_nilCheck rfl rfl)) hS ?_
              refine drwp_take rfl (guard_none rfl) rfl rfl (fun w_ hS_ => (ex_fieldAddr (off' := f1 + 3) rfl rfl Try.underlying37 rfl tsz35 rfl)) hS ?_
              refine drwp_take rfl (guard_none rfl) rfl rfl (fun w_ hS_ => (ex_load1 rfl rfl Try.underlying35 rfl ((hS_.at_ hc1) 3 _ rfl))) hS ?_
              refine drwp_take rfl (guard_none rfl) rfl rfl (fun w_ hS_ => (ex_move rfl rfl)) hS ?_
              obtain ⟨kv941, hc940, hk942⟩ : ∃ u, CellsAt _ (sb p1_1) (so p1_1 + (a911).toNat * 4) [(.int .i64 ((gt x1.fOuts a911).fValue)), u, (.int .i64 ((gt x1.fOuts a911).fRule.fNeed)), (.int .i64 ((gt x1.fOuts a911).fRule.fAfter))] ∧ RdS kInt _ u ((gt x1.fOuts a911).fRule.fKeys) := rd_with1 hp1_1 e939
              refine drwp_take rfl (guard_none rfl) rfl rfl (fun w_ hS_ => (ex_indexAddr (d := kOut) rfl rfl rfl Try.underlying35 tsz102 hp1_1 (idx_lo e939) (idx_hi e939))) hS ?_
              refine drwp_take rfl (guard_none rfl) rfl rfl (fun w_ hS_ => (ex_fieldAddr (off' := so p1_1 + (a911).toNat * 4) rfl rfl Try.underlying102 rfl tsz2 rfl)) hS ?_
              refine drwp_take rfl (guard_none rfl) rfl rfl (fun w_ hS_ => (ex_load1 rfl rfl Try.underlying2 rfl ((hS_.at_ hc940) 0 _ rfl))) hS ?_
              refine drwp_take rfl (guard_none rfl) rfl rfl (fun w_ hS_ => (ex_neq rfl rfl rfl)) hS ?_
              refine drwp_take rfl (guard_none rfl) rfl rfl (fun w_ hS_ => (ex_move rfl rfl)) hS ?_
              refine bool_cases (((gt x0.fOuts a911).fValue) != ((gt x1.fOuts a911).fValue)) (fun hg953 => ?_) (fun hg953 => ?_)
              · skip
                refine drwp_off rfl (guard_off rfl rfl rfl hg953) rfl rfl hS ?_
                refine drwp_off rfl (guard_off rfl rfl rfl hg953) rfl rfl hS ?_
                refine drwp_off rfl (guard_off rfl rfl rfl hg953) rfl rfl hS ?_
                refine drwp_off rfl (guard_off rfl rfl rfl hg953) rfl rfl hS ?_
                refine drwp_off rfl (guard_off rfl rfl rfl hg953) rfl rfl hS ?_
                refine drwp_off rfl (guard_off rfl rfl rfl hg953) rfl rfl hS ?_
                refine drwp_off rfl (guard_off rfl rfl rfl hg953) rfl rfl hS ?_
                refine drwp_off rfl (guard_off rfl rfl rfl hg953) rfl rfl hS ?_
                refine drwp_off rfl (guard_off rfl rfl rfl hg953) rfl rfl hS ?_
                refine drwp_off rfl (guard_off rfl rfl rfl hg953) rfl rfl hS ?_
                refine drwp_off rfl (guard_off rfl rfl rfl hg953) rfl rfl hS ?_
                refine drwp_off rfl (guard_off rfl rfl rfl hg953) rfl rfl hS ?_
                refine drwp_off rfl (guard_off rfl rfl rfl hg953) rfl rfl hS ?_
                refine drwp_off rfl (guard_off rfl rfl rfl hg953) rfl rfl hS ?_
                refine drwp_off1 rfl (guard_off rfl rfl rfl hg953) rfl rfl ⟨hS, ?_⟩
                refine drwp_off rfl (guard_off rfl rfl rfl hg953) rfl rfl hS ?_
                have hg954 : ((((gt x0.fOuts a911).fValue) != ((gt x1.fOuts a911).fValue)) || (!t951)) = true := by simp only [hg953, Bool.and_true, Bool.true_and, Bool.and_false, Bool.false_and, Bool.or_true, Bool.true_or, Bool.or_false, Bool.false_or, Bool.not_true, Bool.not_false, Bool.not_not]
                refine drwp_take (v := .bool ((((gt x0.fOuts a911).fValue) != ((gt x1.fOuts a911).fValue)) || (!t951))) rfl (guard_none rfl) rfl rfl (fun w_ hS_ => (ex_por_t rfl rfl hg953)) hS ?_
                refine drwp_done ?_
                exact at_meet [(0, .pointer (some ⟨b0, f0, none⟩)), (1, .pointer (some ⟨b1, f1, none⟩)), (6, .int .i64 a911), (120, .bool ((((gt x0.fOuts a911).fValue) != ((gt x1.fOuts a911).fValue)) || (!t951)))] ⟨rfl, HM⟩ (Sub.cons rfl (Sub.cons rfl (Sub.cons rfl (Sub.cons rfl Sub.nil))))
              · skip
                refine drwp_take rfl (guard_on rfl rfl rfl hg953) rfl rfl (fun w_ hS_ => (ex_move rfl rfl)) hS ?_
                refine drwp_take rfl (guard_on rfl rfl rfl hg953) rfl rfl (fun w_ hS_ => (ex_nilCheck rfl rfl)) hS ?_
                refine drwp_take rfl (guard_on rfl rfl rfl hg953) rfl rfl (fun w_ hS_ => (ex_fieldAddr (off' := f0 + 3) rfl rfl Try.underlying37 rfl tsz35 rfl)) hS ?_
                refine drwp_take rfl (guard_on rfl rfl rfl hg953) rfl rfl (fun w_ hS_ => (ex_load1 rfl rfl Try.underlying35 rfl ((hS_.at_ hc0) 3 _ rfl))) hS ?_
                refine drwp_take rfl (guard_on rfl rfl rfl hg953) rfl rfl (fun w_ hS_ => (ex_move rfl rfl)) hS ?_
                obtain ⟨kv945, hc944, hk946⟩ : ∃ u, CellsAt _ (sb p0_1) (so p0_1 + (a911).toNat * 4) [(.int .i64 ((gt x0.fOuts a911).fValue)), u, (.int .i64 ((gt x0.fOuts a911).fRule.fNeed)), (.int .i64 ((gt x0.fOuts a911).fRule.fAfter))] ∧ RdS kInt _ u ((gt x0.fOuts a911).fRule.fKeys) := rd_with1 hp0_1 (or_t e943 (not_mk hg953))
                refine drwp_take rfl (guard_on rfl rfl rfl hg953) rfl rfl (fun w_ hS_ => (ex_indexAddr (d := kOut) rfl rfl rfl Try.underlying35 tsz102 hp0_1 (idx_lo (or_t e943 (not_mk hg953))) (idx_hi (or_t e943 (not_mk hg953))))) hS ?_
                refine drwp_take rfl (guard_on rfl rfl rfl hg953) rfl rfl (fun w_ hS_ => (ex_fieldAddr (off' := so p0_1 + (a911).toNat * 4 + 1) rfl rfl Try.underlying102 rfl tsz100 rfl)) hS ?_
                refine drwp_take rfl (guard_on rfl rfl rfl hg953) rfl rfl (fun w_ hS_ => (ex_move rfl rfl)) hS ?_
                refine drwp_take rfl (guard_on rfl rfl rfl hg953) rfl rfl (fun w_ hS_ => (ex_nilCheck rfl rfl)) hS ?_
                refine drwp_take rfl (guard_on rfl rfl rfl hg953) rfl rfl (fun w_ hS_ => (ex_fieldAddr (off' := f1 + 3) rfl rfl Try.underlying37 rfl tsz35 rfl)) hS ?_
                refine drwp_take rfl (guard_on rfl rfl rfl hg953) rfl rfl (fun w_ hS_ => (ex_load1 rfl rfl Try.underlying35 rfl ((hS_.at_ hc1) 3 _ rfl))) hS ?_
                refine drwp_take rfl (guard_on rfl rfl rfl hg953) rfl rfl (fun w_ hS_ => (ex_move rfl rfl)) hS ?_
                obtain ⟨kv949, hc948, hk950⟩ : ∃ u, CellsAt _ (sb p1_1) (so p1_1 + (a911).toNat * 4) [(.int .i64 ((gt x1.fOuts a911).fValue)), u, (.int .i64 ((gt x1.fOuts a911).fRule.fNeed)), (.int .i64 ((gt x1.fOuts a911).fRule.fAfter))] ∧ RdS kInt _ u ((gt x1.fOuts a911).fRule.fKeys) := rd_with1 hp1_1 (or_t e947 (not_mk hg953))
                refine drwp_take rfl (guard_on rfl rfl rfl hg953) rfl rfl (fun w_ hS_ => (ex_indexAddr (d := kOut) rfl rfl rfl Try.underlying35 tsz102 hp1_1 (idx_lo (or_t e947 (not_mk hg953))) (idx_hi (or_t e947 (not_mk hg953))))) hS ?_
                refine drwp_take rfl (guard_on rfl rfl rfl hg953) rfl rfl (fun w_ hS_ => (ex_fieldAddr (off' := so p1_1 + (a911).toNat * 4 + 1) rfl rfl Try.underlying102 rfl tsz100 rfl)) hS ?_
                refine drwp_one rfl (guard_on rfl rfl rfl hg953) rfl rfl (does_callk rfl callok121 rfl (spec_l2Same.calls (x0 := (gt x0.fOuts a911).fRule) (x1 := (gt x1.fOuts a911).fRule) (CellsAt.sub (HM.at_ hc944) 1 3 rfl) (HM.rd hk946) (CellsAt.sub (HM.at_ hc948) 1 3 rfl) (HM.rd hk950) (cond_t (not_mk hg953) h952))) ?_
                rintro _ w955 ⟨rfl, hn⟩
                replace HM : Mem w [] w955 [] := HM.call hn
                refine ⟨Mem.suf (M := []) HM, ?_⟩
                have hS := Mem.suf (M := []) HM
                refine drwp_take rfl (guard_on rfl rfl rfl hg953) rfl rfl (fun w_ hS_ => (ex_not rfl rfl)) hS ?_
                refine drwp_take (v := .bool ((((gt x0.fOuts a911).fValue) != ((gt x1.fOuts a911).fValue)) || (!t951))) rfl (guard_none rfl) rfl rfl (fun w_ hS_ => (ex_por_f rfl rfl hg953 rfl)) hS ?_
                refine drwp_done ?_
                exact at_meet [(0, .pointer (some ⟨b0, f0, none⟩)), (1, .pointer (some ⟨b1, f1, none⟩)), (6, .int .i64 a911), (120, .bool ((((gt x0.fOuts a911).fValue) != ((gt x1.fOuts a911).fValue)) || (!t951)))] ⟨rfl, HM⟩ (Sub.cons rfl (Sub.cons rfl (Sub.cons rfl (Sub.cons rfl Sub.nil))))
            · rintro _ w956 ⟨rfl, HM⟩
              refine at_then ?_
              refine run_cond (b := ((((gt x0.fOuts a911).fValue) != ((gt x1.fOuts a911).fValue)) || (!t951))) rfl (fun hb957 => ?_) (fun hb957 => ?_)
              · replace ho890 := cond_t hb957 ho890
                refine run_seq ?_
                refine run_region rfl ?_
                refine ops_ex rfl (guard_none rfl) rfl rfl (ex_assign rfl rfl) ?_
                refine ops_nil ?_
                refine at_then ?_
                refine run_ret ?_
                refine at_block_ret ?_
                refine at_then_ret ?_
                refine at_then_ret ?_
                refine at_block_ret ?_
                refine at_then_ret ?_
                have hR := Option.some.inj ho890
                subst hR
                have hT := thn_inl H
                have hR := Option.some.inj hT
                subst hR
                exact at_ret1 rfl rfl ⟨_, rfl, rfl, HM⟩
              · replace ho890 := cond_f hb957 ho890
                refine run_skip ?_
                refine at_block ?_
                refine at_then ?_
                refine run_region rfl ?_
                refine ops_ex rfl (guard_none rfl) rfl rfl (ex_move rfl rfl) ?_
                refine ops_ex rfl (guard_none rfl) rfl rfl (ex_add rfl rfl rfl) ?_
                refine ops_ex rfl (guard_none rfl) rfl rfl (ex_assign rfl rfl) ?_
                refine ops_nil ?_
                exact at_again k932 (ρ1 := [(0, .pointer (some ⟨b0, f0, none⟩)), (1, .pointer (some ⟨b1, f1, none⟩)), (6, .int .i64 (wrap64 (a911 + 1)))]) (Nat.lt_succ_self _) ⟨_, ho890, rfl, HM⟩ (Sub.cons rfl (Sub.cons rfl (Sub.cons rfl Sub.nil)))
          · replace ho890 := cond_f hb934 ho890
            refine run_exit ?_
            refine at_then_exit ?_
            refine at_then_exit ?_
            refine at_block_exit ?_
            exact at_mid (ρ' := []) ⟨(Option.some.inj ho890), rfl, HM⟩ Sub.nil
        · rintro _ w958 ⟨rfl, rfl, HM⟩
          replace H := (thn_inr H)
          refine run_seq ?_
          refine run_region rfl ?_
          refine ops_ex rfl (guard_none rfl) rfl rfl (ex_assign rfl rfl) ?_
          refine ops_nil ?_
          refine at_then ?_
          refine run_ret ?_
          have hR := Option.some.inj H
          subst hR
          exact at_ret1 rfl rfl ⟨_, rfl, rfl, HM⟩
end Go.Proofs.Ytoiacoiccpiciaa.Zk
