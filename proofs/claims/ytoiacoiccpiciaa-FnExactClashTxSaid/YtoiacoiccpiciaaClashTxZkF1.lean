/- What functions of the program compute, each as a plain function, and that they do. Conditions: as each theorem states them. -/
import Derived.Test.YtoiacoiccpiciaaClashTxZkF0
namespace Go.Proofs.Ytoiacoiccpiciaa.Zk
open Go Go.RowKit Go.IntWalk Go.Proofs
set_option linter.unusedVariables false
set_option linter.unusedSimpArgs false
set_option maxRecDepth 100000
set_option maxHeartbeats 4000000
def spec_l1In.f (k : Nat) (x0 : Int) (x1 : Int) (x2 : Int) : Option Bool := some ((decide (x1 ≤ x0)) && (decide (x0 ≤ x2)))
theorem spec_l1In.calls {k : Nat} {x0 : Int} {x1 : Int} {x2 : Int}  {w : World}  {r : Bool} (H : spec_l1In.f k x0 x1 x2 = some r) :
    Calls Try.prog 136 ([.int .i64 x0, .int .i64 x1, .int .i64 x2] : List Value).toArray w (fun e w_ => ∃ v, e = .returned v ∧ v = (.bool r) ∧ Mem w [] w_ []) := by
  have HM := Mem.start w
  refine calls_run (N := 15) Try.func136 rfl rfl rfl rfl ?_
  unfold spec_l1In.f at H
  refine run_seq ?_
  refine run_region rfl ?_
  refine ops_ex rfl (guard_none rfl) rfl rfl (ex_assign rfl rfl) ?_
  refine ops_nil ?_
  refine at_then ?_
  refine run_seq ?_
  refine run_meet (fun ρ_ w_ => ρ_ = [(6, .bool ((decide (x1 ≤ x0)) && (decide (x0 ≤ x2))))] ∧ Mem w [] w_ []) ?_ ?_
  · skip
    refine run_region rfl ?_
    refine ops_ex rfl (guard_none rfl) rfl rfl (ex_move rfl rfl) ?_
    refine ops_ex rfl (guard_none rfl) rfl rfl (ex_move rfl rfl) ?_
    refine ops_ex rfl (guard_none rfl) rfl rfl (ex_geq rfl rfl rfl) ?_
    refine ops_ex rfl (guard_none rfl) rfl rfl (ex_move rfl rfl) ?_
    refine bool_cases (decide (x1 ≤ x0)) (fun hg608 => ?_) (fun hg608 => ?_)
    · skip
      refine ops_ex rfl (guard_on rfl rfl rfl hg608) rfl rfl (ex_move rfl rfl) ?_
      refine ops_ex rfl (guard_on rfl rfl rfl hg608) rfl rfl (ex_move rfl rfl) ?_
      refine ops_ex rfl (guard_on rfl rfl rfl hg608) rfl rfl (ex_leq rfl rfl rfl) ?_
      refine ops_ex (v := .bool ((decide (x1 ≤ x0)) && (decide (x0 ≤ x2)))) rfl (guard_none rfl) rfl rfl (ex_pand_t rfl rfl hg608 rfl) ?_
      refine ops_ex rfl (guard_none rfl) rfl rfl (ex_assign rfl rfl) ?_
      refine ops_nil ?_
      exact at_meet [(6, .bool ((decide (x1 ≤ x0)) && (decide (x0 ≤ x2))))] ⟨rfl, HM⟩ (Sub.cons rfl Sub.nil)
    · skip
      refine ops_off rfl (guard_off rfl rfl rfl hg608) rfl rfl ?_
      refine ops_off rfl (guard_off rfl rfl rfl hg608) rfl rfl ?_
      refine ops_off rfl (guard_off rfl rfl rfl hg608) rfl rfl ?_
      have hg609 : ((decide (x1 ≤ x0)) && (decide (x0 ≤ x2))) = false := by simp only [hg608, Bool.and_true, Bool.true_and, Bool.and_false, Bool.false_and, Bool.or_true, Bool.true_or, Bool.or_false, Bool.false_or, Bool.not_true, Bool.not_false, Bool.not_not]
      refine ops_ex (v := .bool ((decide (x1 ≤ x0)) && (decide (x0 ≤ x2)))) rfl (guard_none rfl) rfl rfl (ex_pand_f rfl rfl hg608) ?_
      refine ops_ex rfl (guard_none rfl) rfl rfl (ex_assign rfl rfl) ?_
      refine ops_nil ?_
      exact at_meet [(6, .bool ((decide (x1 ≤ x0)) && (decide (x0 ≤ x2))))] ⟨rfl, HM⟩ (Sub.cons rfl Sub.nil)
  · rintro _ w610 ⟨rfl, HM⟩
    refine at_then ?_
    refine run_ret ?_
    have hR := Option.some.inj H
    subst hR
    exact at_ret1 rfl rfl ⟨_, rfl, rfl, HM⟩

def spec_l1Key.f (k : Nat) (x0 : Int) : Option Bool := ((spec_l1In.f k x0 1 999).bind fun t619 => some t619)
theorem spec_l1Key.calls {k : Nat} {x0 : Int}  {w : World}  {r : Bool} (H : spec_l1Key.f k x0 = some r) :
    Calls Try.prog 137 ([.int .i64 x0] : List Value).toArray w (fun e w_ => ∃ v, e = .returned v ∧ v = (.bool r) ∧ Mem w [] w_ []) := by
  have HM := Mem.start w
  refine calls_run (N := 5) Try.func137 rfl rfl rfl rfl ?_
  unfold spec_l1Key.f at H
  refine run_seq ?_
  refine run_region rfl ?_
  refine ops_ex rfl (guard_none rfl) rfl rfl (ex_assign rfl rfl) ?_
  refine ops_nil ?_
  refine at_then ?_
  refine run_seq ?_
  obtain ⟨t619, h620, H⟩ := bind_some H
  refine run_region rfl ?_
  refine ops_ex rfl (guard_none rfl) rfl rfl (ex_move rfl rfl) ?_
  refine ops_does rfl (guard_none rfl) rfl rfl (does_callk rfl callok136 rfl (spec_l1In.calls (x0 := x0) (x1 := 1) (x2 := 999) h620)) ?_
  rintro _ w621 ⟨rfl, hn⟩
  replace HM : Mem w [] w621 [] := HM.call hn
  refine ops_ex rfl (guard_none rfl) rfl rfl (ex_assign rfl rfl) ?_
  refine ops_nil ?_
  refine at_then ?_
  refine run_ret ?_
  have hR := Option.some.inj H
  subst hR
  exact at_ret1 rfl rfl ⟨_, rfl, rfl, HM⟩

def spec_l3Ref.f (k : Nat) (x0 : Ref) : Option Bool := ((spec_l1In.f k x0.fTx 1 60).bind fun t652 => ((bif t652 then spec_l1In.f k x0.fAt 0 3 else some default).bind fun t654 => some (t652 && t654)))
theorem spec_l3Ref.calls {k : Nat} {x0 : Ref}  {w : World}  {r : Bool} (H : spec_l3Ref.f k x0 = some r) :
    Calls Try.prog 127 ([.agg #[(.int .i64 x0.fTx), (.int .i64 x0.fAt)]] : List Value).toArray w (fun e w_ => ∃ v, e = .returned v ∧ v = (.bool r) ∧ Mem w [] w_ []) := by
  have HM := Mem.start w
  refine calls_run (N := 11) Try.func127 rfl rfl rfl rfl ?_
  unfold spec_l3Ref.f at H
  refine run_seq ?_
  refine run_region rfl ?_
  refine ops_does rfl (guard_none rfl) rfl rfl (does_box (cs := [.int .i64 x0.fTx, .int .i64 x0.fAt]) rfl rfl rfl HM) ?_
  rintro _ w651 ⟨b648, rfl, HM⟩
  refine ops_ex rfl (guard_none rfl) rfl rfl (ex_assign rfl rfl) ?_
  refine ops_nil ?_
  refine at_then ?_
  refine run_seq ?_
  obtain ⟨t652, h653, H⟩ := bind_some H
  obtain ⟨t654, h655, H⟩ := bind_some H
  refine run_meet (fun ρ_ w_ => ρ_ = [(2, .bool (t652 && t654))] ∧ Mem w [] w_ []) ?_ ?_
  · skip
    refine run_region rfl ?_
    refine ops_ex rfl (guard_none rfl) rfl rfl (ex_fieldAddr (off' := 0) rfl rfl Try.underlying99 rfl tsz2 rfl) ?_
    refine ops_ex rfl (guard_none rfl) rfl rfl (ex_load1 rfl rfl Try.underlying2 rfl ((HM.box_at 0 rfl) 0 _ rfl)) ?_
    refine ops_does rfl (guard_none rfl) rfl rfl (does_callk rfl callok136 rfl (spec_l1In.calls (x0 := x0.fTx) (x1 := 1) (x2 := 60) h653)) ?_
    rintro _ w656 ⟨rfl, hn⟩
    replace HM : Mem w [] w656 [box b648 99 [.int .i64 x0.fTx, .int .i64 x0.fAt]] := HM.call hn
    refine ops_ex rfl (guard_none rfl) rfl rfl (ex_move rfl rfl) ?_
    refine bool_cases t652 (fun hg657 => ?_) (fun hg657 => ?_)
    · skip
      refine ops_ex rfl (guard_on rfl rfl rfl hg657) rfl rfl (ex_fieldAddr (off' := 1) rfl rfl Try.underlying99 rfl tsz2 rfl) ?_
      refine ops_ex rfl (guard_on rfl rfl rfl hg657) rfl rfl (ex_load1 rfl rfl Try.underlying2 rfl ((HM.box_at 0 rfl) 1 _ rfl)) ?_
      refine ops_does rfl (guard_on rfl rfl rfl hg657) rfl rfl (does_callk rfl callok136 rfl (spec_l1In.calls (x0 := x0.fAt) (x1 := 0) (x2 := 3) (cond_t hg657 h655))) ?_
      rintro _ w658 ⟨rfl, hn⟩
      replace HM : Mem w [] w658 [box b648 99 [.int .i64 x0.fTx, .int .i64 x0.fAt]] := HM.call hn
      refine ops_ex (v := .bool (t652 && t654)) rfl (guard_none rfl) rfl rfl (ex_pand_t rfl rfl hg657 rfl) ?_
      refine ops_ex rfl (guard_none rfl) rfl rfl (ex_assign rfl rfl) ?_
      refine ops_nil ?_
      replace HM := (HM.front 0 rfl rfl).drop
      exact at_meet [(2, .bool (t652 && t654))] ⟨rfl, HM⟩ (Sub.cons rfl Sub.nil)
    · skip
      refine ops_off rfl (guard_off rfl rfl rfl hg657) rfl rfl ?_
      refine ops_off rfl (guard_off rfl rfl rfl hg657) rfl rfl ?_
      refine ops_off rfl (guard_off rfl rfl rfl hg657) rfl rfl ?_
      have hg659 : (t652 && t654) = false := by simp only [hg657, Bool.and_true, Bool.true_and, Bool.and_false, Bool.false_and, Bool.or_true, Bool.true_or, Bool.or_false, Bool.false_or, Bool.not_true, Bool.not_false, Bool.not_not]
      refine ops_ex (v := .bool (t652 && t654)) rfl (guard_none rfl) rfl rfl (ex_pand_f rfl rfl hg657) ?_
      refine ops_ex rfl (guard_none rfl) rfl rfl (ex_assign rfl rfl) ?_
      refine ops_nil ?_
      replace HM := (HM.front 0 rfl rfl).drop
      exact at_meet [(2, .bool (t652 && t654))] ⟨rfl, HM⟩ (Sub.cons rfl Sub.nil)
  · rintro _ w660 ⟨rfl, HM⟩
    refine at_then ?_
    refine run_ret ?_
    have hR := Option.some.inj H
    subst hR
    exact at_ret1 rfl rfl ⟨_, rfl, rfl, HM⟩

def spec_l3Among.l0 (x0 : List Ref) (x1 : Ref) : Nat → Int → Option (Bool ⊕ Unit)
  | 0, _ => none
  | k + 1, a716 => (bif (decide (a716 < (x0.length : Int))) then (chk (idxOk a716 x0.length) (bif ((((gt x0 a716).fTx) == x1.fTx) && (((gt x0 a716).fAt) == x1.fAt)) then some (.inl true) else spec_l3Among.l0 x0 x1 k (wrap64 (a716 + 1)))) else some (.inr ()))
theorem spec_l3Among.l0_z (x0 : List Ref) (x1 : Ref) (a716 : Int) : spec_l3Among.l0 x0 x1 0 a716 = none := rfl
theorem spec_l3Among.l0_s (x0 : List Ref) (x1 : Ref) (k : Nat) (a716 : Int) : spec_l3Among.l0 x0 x1 (k + 1) a716 = (bif (decide (a716 < (x0.length : Int))) then (chk (idxOk a716 x0.length) (bif ((((gt x0 a716).fTx) == x1.fTx) && (((gt x0 a716).fAt) == x1.fAt)) then some (.inl true) else spec_l3Among.l0 x0 x1 k (wrap64 (a716 + 1)))) else some (.inr ())) := rfl
def spec_l3Among.f (k : Nat) (x0 : List Ref) (x1 : Ref) : Option Bool := ((spec_l3Among.l0 x0 x1 k 0).bind fun o710 => thn o710 (fun r => some r) (fun _ => some false))
theorem spec_l3Among.calls {k : Nat} {x0 : List Ref} {x1 : Ref} {p0 : Value} {w : World} (hp0 : RdS kRef w p0 x0) {r : Bool} (H : spec_l3Among.f k x0 x1 = some r) :
    Calls Try.prog 138 ([p0, .agg #[(.int .i64 x1.fTx), (.int .i64 x1.fAt)]] : List Value).toArray w (fun e w_ => ∃ v, e = .returned v ∧ v = (.bool r) ∧ Mem w [] w_ []) := by
  have HM := Mem.start w
  refine calls_run (N := 18) Try.func138 rfl rfl rfl rfl ?_
  unfold spec_l3Among.f at H
  refine run_seq ?_
  refine run_region rfl ?_
  refine ops_does rfl (guard_none rfl) rfl rfl (does_box (cs := [.int .i64 x1.fTx, .int .i64 x1.fAt]) rfl rfl rfl HM) ?_
  rintro _ w696 ⟨b693, rfl, HM⟩
  refine ops_ex rfl (guard_none rfl) rfl rfl (ex_assign rfl rfl) ?_
  refine ops_nil ?_
  refine at_then ?_
  obtain ⟨o710, ho711, H⟩ := bind_some H
  refine run_mid (fun ρ_ w_ => Sum.inr () = o710 ∧ ρ_ = [] ∧ Mem w [] w_ []) ?_ ?_
  · skip
    refine run_seq ?_
    refine run_region rfl ?_
    refine ops_ex rfl (guard_none rfl) rfl rfl (ex_assign rfl rfl) ?_
    refine ops_nil ?_
    refine at_then ?_
    refine run_block ?_
    refine run_loop (fun k_ ρ_ w_ => ∃ a716 : Int, spec_l3Among.l0 x0 x1 k_ a716 = some o710 ∧ ρ_ = [(0, p0), (3, .pointer (some ⟨b693, 0, none⟩)), (5, .int .i64 a716)] ∧ Mem w [] w_ [box b693 99 [.int .i64 x1.fTx, .int .i64 x1.fAt]]) k (ρ1 := [(0, p0), (3, .pointer (some ⟨b693, 0, none⟩)), (5, .int .i64 0)]) ⟨_, ho711, rfl, HM⟩ (Sub.cons rfl (Sub.cons rfl (Sub.cons rfl Sub.nil))) ?_
    clear HM ho711
    rintro k721 _ w722 ⟨a716, ho711, rfl, HM⟩
    obtain _ | k721 := k721
    · exact nomatch ((spec_l3Among.l0_z x0 x1 a716).symm.trans ho711)
    replace ho711 := (spec_l3Among.l0_s x0 x1 k721 a716).symm.trans ho711
    refine run_seq ?_
    refine run_seq ?_
    refine run_region rfl ?_
    refine ops_ex rfl (guard_none rfl) rfl rfl (ex_move rfl rfl) ?_
    refine ops_ex rfl (guard_none rfl) rfl rfl (ex_move rfl rfl) ?_
    refine ops_ex rfl (guard_none rfl) rfl rfl (ex_len (d := kRef) (xs := x0) rfl rfl Try.underlying34 hp0) ?_
    refine ops_ex rfl (guard_none rfl) rfl rfl (ex_lss rfl rfl rfl) ?_
    refine ops_nil ?_
    refine at_then ?_
    refine run_cond (b := (decide (a716 < (x0.length : Int)))) rfl (fun hb723 => ?_) (fun hb723 => ?_)
    · replace ho711 := cond_t hb723 ho711
      refine run_skip ?_
      refine at_then ?_
      refine run_seq ?_
      refine run_block ?_
      refine run_seq ?_
      obtain ⟨e724, ho711⟩ := chk_some ho711
      refine run_drawf (fun w_ => Mem w [] w_ [box b693 99 [.int .i64 x1.fTx, .int .i64 x1.fAt]]) [(0, true), (1, true), (2, true), (3, true), (4, true), (5, true)] mixed rfl rfl (by kernel_rfl) ?_
      replace HM := HM.grow (fr_drew _)
      have hS := Mem.suf (M := []) HM
      refine drwp_take rfl (guard_none rfl) rfl rfl (fun w_ hS_ => (ex_move rfl rfl)) hS ?_
      refine drwp_take rfl (guard_none rfl) rfl rfl (fun w_ hS_ => (ex_move rfl rfl)) hS ?_
      have hc725 : CellsAt _ (sb p0) (so p0 + (a716).toNat * 2) [(.int .i64 ((gt x0 a716).fTx)), (.int .i64 ((gt x0 a716).fAt))] := rd_plain hp0 e724
      refine drwp_take rfl (guard_none rfl) rfl rfl (fun w_ hS_ => (ex_indexAddr (d := kRef) rfl rfl rfl Try.underlying34 tsz99 hp0 (idx_lo e724) (idx_hi e724))) hS ?_
      refine drwp_take rfl (guard_none rfl) rfl rfl (fun w_ hS_ => (ex_loadN (cs := [(.int .i64 ((gt x0 a716).fTx)), (.int .i64 ((gt x0 a716).fAt))]) rfl rfl Try.underlying99 rfl tsz99 rfl ((hS_.at_ hc725).sub 0 2 rfl))) hS ?_
      refine drwp_take rfl (guard_none rfl) rfl rfl (fun w_ hS_ => (ex_loadN (cs := [(.int .i64 x1.fTx), (.int .i64 x1.fAt)]) rfl rfl Try.underlying99 rfl tsz99 rfl ((hS_.box_at 0 rfl).sub 0 2 rfl))) hS ?_
      refine drwp_take rfl (guard_none rfl) rfl rfl (fun w_ hS_ => (ex_aeql rfl rfl rfl (by kernel_rfl) (eqs99 _ _ _ _ _))) hS ?_
      refine drwp_done ?_
      refine at_then ?_
      refine run_cond (b := ((((gt x0 a716).fTx) == x1.fTx) && (((gt x0 a716).fAt) == x1.fAt))) rfl (fun hb726 => ?_) (fun hb726 => ?_)
      · replace ho711 := cond_t hb726 ho711
        refine run_seq ?_
        refine run_region rfl ?_
        refine ops_ex rfl (guard_none rfl) rfl rfl (ex_assign rfl rfl) ?_
        refine ops_nil ?_
        refine at_then ?_
        refine run_ret ?_
        refine at_block_ret ?_
        refine at_then_ret ?_
        refine at_then_ret ?_
        refine at_block_ret ?_
        refine at_then_ret ?_
        replace HM := (HM.front 0 rfl rfl).drop
        have hR := Option.some.inj ho711
        subst hR
        have hT := thn_inl H
        have hR := Option.some.inj hT
        subst hR
        exact at_ret1 rfl rfl ⟨_, rfl, rfl, HM⟩
      · replace ho711 := cond_f hb726 ho711
        refine run_skip ?_
        refine at_block ?_
        refine at_then ?_
        refine run_region rfl ?_
        refine ops_ex rfl (guard_none rfl) rfl rfl (ex_move rfl rfl) ?_
        refine ops_ex rfl (guard_none rfl) rfl rfl (ex_add rfl rfl rfl) ?_
        refine ops_ex rfl (guard_none rfl) rfl rfl (ex_assign rfl rfl) ?_
        refine ops_nil ?_
        exact at_again k721 (ρ1 := [(0, p0), (3, .pointer (some ⟨b693, 0, none⟩)), (5, .int .i64 (wrap64 (a716 + 1)))]) (Nat.lt_succ_self _) ⟨_, ho711, rfl, HM⟩ (Sub.cons rfl (Sub.cons rfl (Sub.cons rfl Sub.nil)))
    · replace ho711 := cond_f hb723 ho711
      refine run_exit ?_
      refine at_then_exit ?_
      refine at_then_exit ?_
      refine at_block_exit ?_
      replace HM := (HM.front 0 rfl rfl).drop
      exact at_mid (ρ' := []) ⟨(Option.some.inj ho711), rfl, HM⟩ Sub.nil
  · rintro _ w727 ⟨rfl, rfl, HM⟩
    replace H := (thn_inr H)
    refine run_seq ?_
    refine run_region rfl ?_
    refine ops_ex rfl (guard_none rfl) rfl rfl (ex_assign rfl rfl) ?_
    refine ops_nil ?_
    refine at_then ?_
    refine run_ret ?_
    have hR := Option.some.inj H
    subst hR
    exact at_ret1 rfl rfl ⟨_, rfl, rfl, HM⟩

def spec_l2Height.f (k : Nat) (x0 : Int) : Option Bool := ((spec_l1In.f k x0 0 999).bind fun t824 => some t824)
theorem spec_l2Height.calls {k : Nat} {x0 : Int}  {w : World}  {r : Bool} (H : spec_l2Height.f k x0 = some r) :
    Calls Try.prog 128 ([.int .i64 x0] : List Value).toArray w (fun e w_ => ∃ v, e = .returned v ∧ v = (.bool r) ∧ Mem w [] w_ []) := by
  have HM := Mem.start w
  refine calls_run (N := 5) Try.func128 rfl rfl rfl rfl ?_
  unfold spec_l2Height.f at H
  refine run_seq ?_
  refine run_region rfl ?_
  refine ops_ex rfl (guard_none rfl) rfl rfl (ex_assign rfl rfl) ?_
  refine ops_nil ?_
  refine at_then ?_
  refine run_seq ?_
  obtain ⟨t824, h825, H⟩ := bind_some H
  refine run_region rfl ?_
  refine ops_ex rfl (guard_none rfl) rfl rfl (ex_move rfl rfl) ?_
  refine ops_does rfl (guard_none rfl) rfl rfl (does_callk rfl callok136 rfl (spec_l1In.calls (x0 := x0) (x1 := 0) (x2 := 999) h825)) ?_
  rintro _ w826 ⟨rfl, hn⟩
  replace HM : Mem w [] w826 [] := HM.call hn
  refine ops_ex rfl (guard_none rfl) rfl rfl (ex_assign rfl rfl) ?_
  refine ops_nil ?_
  refine at_then ?_
  refine run_ret ?_
  have hR := Option.some.inj H
  subst hR
  exact at_ret1 rfl rfl ⟨_, rfl, rfl, HM⟩

def spec_l2Fault.l0 (x0 : Rule) : Nat → Int → Option (Int ⊕ Unit)
  | 0, _ => none
  | k + 1, a890 => (bif (decide (a890 < (x0.fKeys.length : Int))) then (chk (idxOk a890 x0.fKeys.length) ((spec_l1Key.f k (gt x0.fKeys a890)).bind fun t902 => (bif !t902 then some (.inl 3) else spec_l2Fault.l0 x0 k (wrap64 (a890 + 1))))) else some (.inr ()))
theorem spec_l2Fault.l0_z (x0 : Rule) (a890 : Int) : spec_l2Fault.l0 x0 0 a890 = none := rfl
theorem spec_l2Fault.l0_s (x0 : Rule) (k : Nat) (a890 : Int) : spec_l2Fault.l0 x0 (k + 1) a890 = (bif (decide (a890 < (x0.fKeys.length : Int))) then (chk (idxOk a890 x0.fKeys.length) ((spec_l1Key.f k (gt x0.fKeys a890)).bind fun t902 => (bif !t902 then some (.inl 3) else spec_l2Fault.l0 x0 k (wrap64 (a890 + 1))))) else some (.inr ())) := rfl
def spec_l2Fault.l1 (x0 : Rule) : Nat → Int → Option (Int ⊕ Unit)
  | 0, _ => none
  | k + 1, a949 => (bif (decide (a949 < (x0.fKeys.length : Int))) then (chk (idxOk a949 x0.fKeys.length) (chk (idxOk (wrap64 (a949 - 1)) x0.fKeys.length) (bif (decide ((gt x0.fKeys a949) ≤ (gt x0.fKeys (wrap64 (a949 - 1))))) then some (.inl 1) else spec_l2Fault.l1 x0 k (wrap64 (a949 + 1))))) else some (.inr ()))
theorem spec_l2Fault.l1_z (x0 : Rule) (a949 : Int) : spec_l2Fault.l1 x0 0 a949 = none := rfl
theorem spec_l2Fault.l1_s (x0 : Rule) (k : Nat) (a949 : Int) : spec_l2Fault.l1 x0 (k + 1) a949 = (bif (decide (a949 < (x0.fKeys.length : Int))) then (chk (idxOk a949 x0.fKeys.length) (chk (idxOk (wrap64 (a949 - 1)) x0.fKeys.length) (bif (decide ((gt x0.fKeys a949) ≤ (gt x0.fKeys (wrap64 (a949 - 1))))) then some (.inl 1) else spec_l2Fault.l1 x0 k (wrap64 (a949 + 1))))) else some (.inr ())) := rfl
def spec_l2Fault.f (k : Nat) (x0 : Rule) : Option Int := ((spec_l1In.f k (x0.fKeys.length : Int) 1 3).bind fun t859 => (bif !t859 then some 2 else ((spec_l2Fault.l0 x0 k 0).bind fun o882 => thn o882 (fun r => some r) (fun _ => ((spec_l1In.f k x0.fNeed 1 (x0.fKeys.length : Int)).bind fun t912 => ((bif (!(!t912)) then spec_l2Height.f k x0.fAfter else some default).bind fun t914 => (bif ((!t912) || (!t914)) then some 3 else ((spec_l2Fault.l1 x0 k 1).bind fun o941 => thn o941 (fun r => some r) (fun _ => some 0)))))))))
theorem spec_l2Fault.calls {k : Nat} {x0 : Rule} {b0 f0 : Nat} {p0_0 : Value} {w : World} (hc0 : CellsAt w b0 f0 [p0_0, .int .i64 x0.fNeed, .int .i64 x0.fAfter]) (hp0_0 : RdS kInt w p0_0 x0.fKeys) {r : Int} (H : spec_l2Fault.f k x0 = some r) :
    Calls Try.prog 161 ([.pointer (some ⟨b0, f0, none⟩)] : List Value).toArray w (fun e w_ => ∃ v, e = .returned v ∧ v = (.int .i64 r) ∧ Mem w [] w_ []) := by
  have HM := Mem.start w
  refine calls_run (N := 72) Try.func161 rfl rfl rfl rfl ?_
  unfold spec_l2Fault.f at H
  refine run_seq ?_
  refine run_region rfl ?_
  refine ops_ex rfl (guard_none rfl) rfl rfl (ex_assign rfl rfl) ?_
  refine ops_nil ?_
  refine at_then ?_
  refine run_seq ?_
  refine run_region rfl ?_
  refine ops_ex rfl (guard_none rfl) rfl rfl (ex_move rfl rfl) ?_
  refine ops_ex rfl (guard_none rfl) rfl rfl (ex_nilCheck rfl rfl) ?_
  refine ops_ex rfl (guard_none rfl) rfl rfl (ex_fieldAddr (off' := f0) rfl rfl Try.underlying100 rfl tsz74 rfl) ?_
  refine ops_ex rfl (guard_none rfl) rfl rfl (ex_load1 rfl rfl Try.underlying74 rfl ((HM.at_ hc0) 0 _ rfl)) ?_
  refine ops_ex rfl (guard_none rfl) rfl rfl (ex_len (d := kInt) (xs := x0.fKeys) rfl rfl Try.underlying74 hp0_0) ?_
  refine ops_ex rfl (guard_none rfl) rfl rfl (ex_assign rfl rfl) ?_
  refine ops_nil ?_
  refine at_then ?_
  refine run_seq ?_
  refine run_seq ?_
  obtain ⟨t859, h860, H⟩ := bind_some H
  refine run_region rfl ?_
  refine ops_ex rfl (guard_none rfl) rfl rfl (ex_move rfl rfl) ?_
  refine ops_does rfl (guard_none rfl) rfl rfl (does_callk rfl callok136 rfl (spec_l1In.calls (x0 := (x0.fKeys.length : Int)) (x1 := 1) (x2 := 3) h860)) ?_
  rintro _ w861 ⟨rfl, hn⟩
  replace HM : Mem w [] w861 [] := HM.call hn
  refine ops_ex rfl (guard_none rfl) rfl rfl (ex_not rfl rfl) ?_
  refine ops_nil ?_
  refine at_then ?_
  refine run_cond (b := !t859) rfl (fun hb862 => ?_) (fun hb862 => ?_)
  · replace H := cond_t hb862 H
    refine run_seq ?_
    refine run_region rfl ?_
    refine ops_ex rfl (guard_none rfl) rfl rfl (ex_assign rfl rfl) ?_
    refine ops_nil ?_
    refine at_then ?_
    refine run_ret ?_
    refine at_then_ret ?_
    have hR := Option.some.inj H
    subst hR
    exact at_ret1 rfl rfl ⟨_, rfl, rfl, HM⟩
  · replace H := cond_f hb862 H
    refine run_skip ?_
    refine at_then ?_
    obtain ⟨o882, ho883, H⟩ := bind_some H
    refine run_mid (fun ρ_ w_ => Sum.inr () = o882 ∧ ρ_ = [(0, .pointer (some ⟨b0, f0, none⟩)), (3, .int .i64 (x0.fKeys.length : Int))] ∧ Mem w [] w_ []) ?_ ?_
    · skip
      refine run_seq ?_
      refine run_region rfl ?_
      refine ops_ex rfl (guard_none rfl) rfl rfl (ex_assign rfl rfl) ?_
      refine ops_nil ?_
      refine at_then ?_
      refine run_block ?_
      refine run_loop (fun k_ ρ_ w_ => ∃ a890 : Int, spec_l2Fault.l0 x0 k_ a890 = some o882 ∧ ρ_ = [(0, .pointer (some ⟨b0, f0, none⟩)), (3, .int .i64 (x0.fKeys.length : Int)), (4, .int .i64 a890)] ∧ Mem w [] w_ []) k (ρ1 := [(0, .pointer (some ⟨b0, f0, none⟩)), (3, .int .i64 (x0.fKeys.length : Int)), (4, .int .i64 0)]) ⟨_, ho883, rfl, HM⟩ (Sub.cons rfl (Sub.cons rfl (Sub.cons rfl Sub.nil))) ?_
      clear HM ho883
      rintro k897 _ w898 ⟨a890, ho883, rfl, HM⟩
      obtain _ | k897 := k897
      · exact nomatch ((spec_l2Fault.l0_z x0 a890).symm.trans ho883)
      replace ho883 := (spec_l2Fault.l0_s x0 k897 a890).symm.trans ho883
      refine run_seq ?_
      refine run_seq ?_
      refine run_region rfl ?_
      refine ops_ex rfl (guard_none rfl) rfl rfl (ex_move rfl rfl) ?_
      refine ops_ex rfl (guard_none rfl) rfl rfl (ex_move rfl rfl) ?_
      refine ops_ex rfl (guard_none rfl) rfl rfl (ex_nilCheck rfl rfl) ?_
      refine ops_ex rfl (guard_none rfl) rfl rfl (ex_fieldAddr (off' := f0) rfl rfl Try.underlying100 rfl tsz74 rfl) ?_
      refine ops_ex rfl (guard_none rfl) rfl rfl (ex_load1 rfl rfl Try.underlying74 rfl ((HM.at_ hc0) 0 _ rfl)) ?_
      refine ops_ex rfl (guard_none rfl) rfl rfl (ex_len (d := kInt) (xs := x0.fKeys) rfl rfl Try.underlying74 hp0_0) ?_
      refine ops_ex rfl (guard_none rfl) rfl rfl (ex_lss rfl rfl rfl) ?_
      refine ops_nil ?_
      refine at_then ?_
      refine run_cond (b := (decide (a890 < (x0.fKeys.length : Int)))) rfl (fun hb899 => ?_) (fun hb899 => ?_)
      · replace ho883 := cond_t hb899 ho883
        refine run_skip ?_
        refine at_then ?_
        refine run_seq ?_
        refine run_block ?_
        refine run_seq ?_
        obtain ⟨e900, ho883⟩ := chk_some ho883
        obtain ⟨t902, h903, ho883⟩ := bind_some ho883
        refine run_region rfl ?_
        refine ops_ex rfl (guard_none rfl) rfl rfl (ex_move rfl rfl) ?_
        refine ops_ex rfl (guard_none rfl) rfl rfl (ex_nilCheck rfl rfl) ?_
        refine ops_ex rfl (guard_none rfl) rfl rfl (ex_fieldAddr (off' := f0) rfl rfl Try.underlying100 rfl tsz74 rfl) ?_
        refine ops_ex rfl (guard_none rfl) rfl rfl (ex_load1 rfl rfl Try.underlying74 rfl ((HM.at_ hc0) 0 _ rfl)) ?_
        refine ops_ex rfl (guard_none rfl) rfl rfl (ex_move rfl rfl) ?_
        have hc901 : CellsAt _ (sb p0_0) (so p0_0 + (a890).toNat * 1) [(.int .i64 (gt x0.fKeys a890))] := rd_plain hp0_0 e900
        refine ops_ex rfl (guard_none rfl) rfl rfl (ex_indexAddr (d := kInt) rfl rfl rfl Try.underlying74 tsz2 hp0_0 (idx_lo e900) (idx_hi e900)) ?_
        refine ops_ex rfl (guard_none rfl) rfl rfl (ex_load1 rfl rfl Try.underlying2 rfl ((HM.at_ hc901) 0 _ rfl)) ?_
        refine ops_does rfl (guard_none rfl) rfl rfl (does_callk rfl callok137 rfl (spec_l1Key.calls (x0 := (gt x0.fKeys a890)) h903)) ?_
        rintro _ w904 ⟨rfl, hn⟩
        replace HM : Mem w [] w904 [] := HM.call hn
        refine ops_ex rfl (guard_none rfl) rfl rfl (ex_not rfl rfl) ?_
        refine ops_nil ?_
        refine at_then ?_
        refine run_cond (b := !t902) rfl (fun hb905 => ?_) (fun hb905 => ?_)
        · replace ho883 := cond_t hb905 ho883
          refine run_seq ?_
          refine run_region rfl ?_
          refine ops_ex rfl (guard_none rfl) rfl rfl (ex_assign rfl rfl) ?_
          refine ops_nil ?_
          refine at_then ?_
          refine run_ret ?_
          refine at_block_ret ?_
          refine at_then_ret ?_
          refine at_then_ret ?_
          refine at_block_ret ?_
          refine at_then_ret ?_
          have hR := Option.some.inj ho883
          subst hR
          have hT := thn_inl H
          have hR := Option.some.inj hT
          subst hR
          exact at_ret1 rfl rfl ⟨_, rfl, rfl, HM⟩
        · replace ho883 := cond_f hb905 ho883
          refine run_skip ?_
          refine at_block ?_
          refine at_then ?_
          refine run_region rfl ?_
          refine ops_ex rfl (guard_none rfl) rfl rfl (ex_move rfl rfl) ?_
          refine ops_ex rfl (guard_none rfl) rfl rfl (ex_add rfl rfl rfl) ?_
          refine ops_ex rfl (guard_none rfl) rfl rfl (ex_assign rfl rfl) ?_
          refine ops_nil ?_
          exact at_again k897 (ρ1 := [(0, .pointer (some ⟨b0, f0, none⟩)), (3, .int .i64 (x0.fKeys.length : Int)), (4, .int .i64 (wrap64 (a890 + 1)))]) (Nat.lt_succ_self _) ⟨_, ho883, rfl, HM⟩ (Sub.cons rfl (Sub.cons rfl (Sub.cons rfl Sub.nil)))
      · replace ho883 := cond_f hb899 ho883
        refine run_exit ?_
        refine at_then_exit ?_
        refine at_then_exit ?_
        refine at_block_exit ?_
        exact at_mid (ρ' := [(0, .pointer (some ⟨b0, f0, none⟩)), (3, .int .i64 (x0.fKeys.length : Int))]) ⟨(Option.some.inj ho883), rfl, HM⟩ (Sub.cons rfl (Sub.cons rfl Sub.nil))
    · rintro _ w906 ⟨rfl, rfl, HM⟩
      replace H := (thn_inr H)
      refine run_seq ?_
      refine run_seq ?_
      obtain ⟨t912, h913, H⟩ := bind_some H
      obtain ⟨t914, h915, H⟩ := bind_some H
      refine run_meet (fun ρ_ w_ => ρ_ = [(0, .pointer (some ⟨b0, f0, none⟩)), (46, .bool ((!t912) || (!t914)))] ∧ Mem w [] w_ []) ?_ ?_
      · skip
        refine run_region rfl ?_
        refine ops_ex rfl (guard_none rfl) rfl rfl (ex_move rfl rfl) ?_
        refine ops_ex rfl (guard_none rfl) rfl rfl (ex_nilCheck rfl rfl) ?_
        refine ops_ex rfl (guard_none rfl) rfl rfl (ex_fieldAddr (off' := f0 + 1) rfl rfl Try.underlying100 rfl tsz2 rfl) ?_
        refine ops_ex rfl (guard_none rfl) rfl rfl (ex_load1 rfl rfl Try.underlying2 rfl ((HM.at_ hc0) 1 _ rfl)) ?_
        refine ops_ex rfl (guard_none rfl) rfl rfl (ex_move rfl rfl) ?_
        refine ops_does rfl (guard_none rfl) rfl rfl (does_callk rfl callok136 rfl (spec_l1In.calls (x0 := x0.fNeed) (x1 := 1) (x2 := (x0.fKeys.length : Int)) h913)) ?_
        rintro _ w916 ⟨rfl, hn⟩
        replace HM : Mem w [] w916 [] := HM.call hn
        refine ops_ex rfl (guard_none rfl) rfl rfl (ex_not rfl rfl) ?_
        refine ops_ex rfl (guard_none rfl) rfl rfl (ex_move rfl rfl) ?_
        refine bool_cases (!t912) (fun hg917 => ?_) (fun hg917 => ?_)
        · skip
          refine ops_off rfl (guard_off rfl rfl rfl hg917) rfl rfl ?_
          refine ops_off rfl (guard_off rfl rfl rfl hg917) rfl rfl ?_
          refine ops_off rfl (guard_off rfl rfl rfl hg917) rfl rfl ?_
          refine ops_off rfl (guard_off rfl rfl rfl hg917) rfl rfl ?_
          refine ops_off rfl (guard_off rfl rfl rfl hg917) rfl rfl ?_
          refine ops_off rfl (guard_off rfl rfl rfl hg917) rfl rfl ?_
          have hg918 : ((!t912) || (!t914)) = true := by simp only [hg917, Bool.and_true, Bool.true_and, Bool.and_false, Bool.false_and, Bool.or_true, Bool.true_or, Bool.or_false, Bool.false_or, Bool.not_true, Bool.not_false, Bool.not_not]
          refine ops_ex (v := .bool ((!t912) || (!t914))) rfl (guard_none rfl) rfl rfl (ex_por_t rfl rfl hg917) ?_
          refine ops_nil ?_
          exact at_meet [(0, .pointer (some ⟨b0, f0, none⟩)), (46, .bool ((!t912) || (!t914)))] ⟨rfl, HM⟩ (Sub.cons rfl (Sub.cons rfl Sub.nil))
        · skip
          refine ops_ex rfl (guard_on rfl rfl rfl hg917) rfl rfl (ex_move rfl rfl) ?_
          refine ops_ex rfl (guard_on rfl rfl rfl hg917) rfl rfl (ex_nilCheck rfl rfl) ?_
          refine ops_ex rfl (guard_on rfl rfl rfl hg917) rfl rfl (ex_fieldAddr (off' := f0 + 2) rfl rfl Try.underlying100 rfl tsz2 rfl) ?_
          refine ops_ex rfl (guard_on rfl rfl rfl hg917) rfl rfl (ex_load1 rfl rfl Try.underlying2 rfl ((HM.at_ hc0) 2 _ rfl)) ?_
          refine ops_does rfl (guard_on rfl rfl rfl hg917) rfl rfl (does_callk rfl callok128 rfl (spec_l2Height.calls (x0 := x0.fAfter) (cond_t (not_mk hg917) h915))) ?_
          rintro _ w919 ⟨rfl, hn⟩
          replace HM : Mem w [] w919 [] := HM.call hn
          refine ops_ex rfl (guard_on rfl rfl rfl hg917) rfl rfl (ex_not rfl rfl) ?_
          refine ops_ex (v := .bool ((!t912) || (!t914))) rfl (guard_none rfl) rfl rfl (ex_por_f rfl rfl hg917 rfl) ?_
          refine ops_nil ?_
          exact at_meet [(0, .pointer (some ⟨b0, f0, none⟩)), (46, .bool ((!t912) || (!t914)))] ⟨rfl, HM⟩ (Sub.cons rfl (Sub.cons rfl Sub.nil))
      · rintro _ w920 ⟨rfl, HM⟩
        refine at_then ?_
        refine run_cond (b := ((!t912) || (!t914))) rfl (fun hb921 => ?_) (fun hb921 => ?_)
        · replace H := cond_t hb921 H
          refine run_seq ?_
          refine run_region rfl ?_
          refine ops_ex rfl (guard_none rfl) rfl rfl (ex_assign rfl rfl) ?_
          refine ops_nil ?_
          refine at_then ?_
          refine run_ret ?_
          refine at_then_ret ?_
          have hR := Option.some.inj H
          subst hR
          exact at_ret1 rfl rfl ⟨_, rfl, rfl, HM⟩
        · replace H := cond_f hb921 H
          refine run_skip ?_
          refine at_then ?_
          obtain ⟨o941, ho942, H⟩ := bind_some H
          refine run_mid (fun ρ_ w_ => Sum.inr () = o941 ∧ ρ_ = [] ∧ Mem w [] w_ []) ?_ ?_
          · skip
            refine run_seq ?_
            refine run_region rfl ?_
            refine ops_ex rfl (guard_none rfl) rfl rfl (ex_assign rfl rfl) ?_
            refine ops_nil ?_
            refine at_then ?_
            refine run_block ?_
            refine run_loop (fun k_ ρ_ w_ => ∃ a949 : Int, spec_l2Fault.l1 x0 k_ a949 = some o941 ∧ ρ_ = [(0, .pointer (some ⟨b0, f0, none⟩)), (5, .int .i64 a949)] ∧ Mem w [] w_ []) k (ρ1 := [(0, .pointer (some ⟨b0, f0, none⟩)), (5, .int .i64 1)]) ⟨_, ho942, rfl, HM⟩ (Sub.cons rfl (Sub.cons rfl Sub.nil)) ?_
            clear HM ho942
            rintro k956 _ w957 ⟨a949, ho942, rfl, HM⟩
            obtain _ | k956 := k956
            · exact nomatch ((spec_l2Fault.l1_z x0 a949).symm.trans ho942)
            replace ho942 := (spec_l2Fault.l1_s x0 k956 a949).symm.trans ho942
            refine run_seq ?_
            refine run_seq ?_
            refine run_region rfl ?_
            refine ops_ex rfl (guard_none rfl) rfl rfl (ex_move rfl rfl) ?_
            refine ops_ex rfl (guard_none rfl) rfl rfl (ex_move rfl rfl) ?_
            refine ops_ex rfl (guard_none rfl) rfl rfl (ex_nilCheck rfl rfl) ?_
            refine ops_ex rfl (guard_none rfl) rfl rfl (ex_fieldAddr (off' := f0) rfl rfl Try.underlying100 rfl tsz74 rfl) ?_
            refine ops_ex rfl (guard_none rfl) rfl rfl (ex_load1 rfl rfl Try.underlying74 rfl ((HM.at_ hc0) 0 _ rfl)) ?_
            refine ops_ex rfl (guard_none rfl) rfl rfl (ex_len (d := kInt) (xs := x0.fKeys) rfl rfl Try.underlying74 hp0_0) ?_
            refine ops_ex rfl (guard_none rfl) rfl rfl (ex_lss rfl rfl rfl) ?_
            refine ops_nil ?_
            refine at_then ?_
            refine run_cond (b := (decide (a949 < (x0.fKeys.length : Int)))) rfl (fun hb958 => ?_) (fun hb958 => ?_)
            · replace ho942 := cond_t hb958 ho942
              refine run_skip ?_
              refine at_then ?_
              refine run_seq ?_
              refine run_block ?_
              refine run_seq ?_
              obtain ⟨e959, ho942⟩ := chk_some ho942
              obtain ⟨e961, ho942⟩ := chk_some ho942
              refine run_drawf (fun w_ => Mem w [] w_ []) [(0, true), (1, true), (2, true), (3, true), (4, true), (5, true), (6, true), (7, true), (8, true), (9, true), (10, true), (11, true), (12, true), (13, true), (14, true), (15, true)] mixed rfl rfl (by kernel_rfl) ?_
              replace HM := HM.grow (fr_drew _)
              have hS := Mem.suf (M := []) HM
              refine drwp_take rfl (guard_none rfl) rfl rfl (fun w_ hS_ => (ex_move rfl rfl)) hS ?_
              refine drwp_take rfl (guard_none rfl) rfl rfl (fun w_ hS_ => (ex_nilCheck rfl rfl)) hS ?_
              refine drwp_take rfl (guard_none rfl) rfl rfl (fun w_ hS_ => (ex_fieldAddr (off' := f0) rfl rfl Try.underlying100 rfl tsz74 rfl)) hS ?_
              refine drwp_take rfl (guard_none rfl) rfl rfl (fun w_ hS_ => (ex_load1 rfl rfl Try.underlying74 rfl ((hS_.at_ hc0) 0 _ rfl))) hS ?_
              refine drwp_take rfl (guard_none rfl) rfl rfl (fun w_ hS_ => (ex_move rfl rfl)) hS ?_
              have hc960 : CellsAt _ (sb p0_0) (so p0_0 + (a949).toNat * 1) [(.int .i64 (gt x0.fKeys a949))] := rd_plain hp0_0 e959
              refine drwp_take rfl (guard_none rfl) rfl rfl (fun w_ hS_ => (ex_indexAddr (d := kInt) rfl rfl rfl Try.underlying74 tsz2 hp0_0 (idx_lo e959) (idx_hi e959))) hS ?_
              refine drwp_take rfl (guard_none rfl) rfl rfl (fun w_ hS_ => (ex_load1 rfl rfl Try.underlying2 rfl ((hS_.at_ hc960) 0 _ rfl))) hS ?_
              refine drwp_take rfl (guard_none rfl) rfl rfl (fun w_ hS_ => (ex_move rfl rfl)) hS ?_
              refine drwp_take rfl (guard_none rfl) rfl rfl (fun w_ hS_ => (ex_nilCheck rfl rfl)) hS ?_
              refine drwp_take rfl (guard_none rfl) rfl rfl (fun w_ hS_ => (ex_fieldAddr (off' := f0) rfl rfl Try.underlying100 rfl tsz74 rfl)) hS ?_
              refine drwp_take rfl (guard_none rfl) rfl rfl (fun w_ hS_ => (ex_load1 rfl rfl Try.underlying74 rfl ((hS_.at_ hc0) 0 _ rfl))) hS ?_
              refine drwp_take rfl (guard_none rfl) rfl rfl (fun w_ hS_ => (ex_move rfl rfl)) hS ?_
              refine drwp_take rfl (guard_none rfl) rfl rfl (fun w_ hS_ => (ex_sub rfl rfl rfl)) hS ?_
              have hc962 : CellsAt _ (sb p0_0) (so p0_0 + (wrap64 (a949 - 1)).toNat * 1) [(.int .i64 (gt x0.fKeys (wrap64 (a949 - 1))))] := rd_plain hp0_0 e961
              refine drwp_take rfl (guard_none rfl) rfl rfl (fun w_ hS_ => (ex_indexAddr (d := kInt) rfl rfl rfl Try.underlying74 tsz2 hp0_0 (idx_lo e961) (idx_hi e961))) hS ?_
              refine drwp_take rfl (guard_none rfl) rfl rfl (fun w_ hS_ => (ex_load1 rfl rfl Try.underlying2 rfl ((hS_.at_ hc962) 0 _ rfl))) hS ?_
              refine drwp_take rfl (guard_none rfl) rfl rfl (fun w_ hS_ => (ex_leq rfl rfl rfl)) hS ?_
              refine drwp_done ?_
              refine at_then ?_
              refine run_cond (b := (decide ((gt x0.fKeys a949) ≤ (gt x0.fKeys (wrap64 (a949 - 1)))))) rfl (fun hb963 => ?_) (fun hb963 => ?_)
              · replace ho942 := cond_t hb963 ho942
                refine run_seq ?_
                refine run_region rfl ?_
                refine ops_ex rfl (guard_none rfl) rfl rfl (ex_assign rfl rfl) ?_
                refine ops_nil ?_
                refine at_then ?_
                refine run_ret ?_
                refine at_block_ret ?_
                refine at_then_ret ?_
                refine at_then_ret ?_
                refine at_block_ret ?_
                refine at_then_ret ?_
                have hR := Option.some.inj ho942
                subst hR
                have hT := thn_inl H
                have hR := Option.some.inj hT
                subst hR
                exact at_ret1 rfl rfl ⟨_, rfl, rfl, HM⟩
              · replace ho942 := cond_f hb963 ho942
                refine run_skip ?_
                refine at_block ?_
                refine at_then ?_
                refine run_region rfl ?_
                refine ops_ex rfl (guard_none rfl) rfl rfl (ex_move rfl rfl) ?_
                refine ops_ex rfl (guard_none rfl) rfl rfl (ex_add rfl rfl rfl) ?_
                refine ops_ex rfl (guard_none rfl) rfl rfl (ex_assign rfl rfl) ?_
                refine ops_nil ?_
                exact at_again k956 (ρ1 := [(0, .pointer (some ⟨b0, f0, none⟩)), (5, .int .i64 (wrap64 (a949 + 1)))]) (Nat.lt_succ_self _) ⟨_, ho942, rfl, HM⟩ (Sub.cons rfl (Sub.cons rfl Sub.nil))
            · replace ho942 := cond_f hb958 ho942
              refine run_exit ?_
              refine at_then_exit ?_
              refine at_then_exit ?_
              refine at_block_exit ?_
              exact at_mid (ρ' := []) ⟨(Option.some.inj ho942), rfl, HM⟩ Sub.nil
          · rintro _ w964 ⟨rfl, rfl, HM⟩
            replace H := (thn_inr H)
            refine run_seq ?_
            refine run_region rfl ?_
            refine ops_ex rfl (guard_none rfl) rfl rfl (ex_assign rfl rfl) ?_
            refine ops_nil ?_
            refine at_then ?_
            refine run_ret ?_
            have hR := Option.some.inj H
            subst hR
            exact at_ret1 rfl rfl ⟨_, rfl, rfl, HM⟩

def spec_l3Outs.l0 (x0 : Tx) : Nat → Int → Option (Int ⊕ Unit)
  | 0, _ => none
  | k + 1, a1111 => (bif (decide (a1111 < (x0.fOuts.length : Int))) then (chk (idxOk a1111 x0.fOuts.length) ((spec_l1In.f k ((gt x0.fOuts a1111).fValue) 1 1000000).bind fun t1148 => (bif !t1148 then some (.inl 3) else (chk (idxOk a1111 x0.fOuts.length) ((spec_l2Fault.f k ((gt x0.fOuts a1111).fRule)).bind fun t1156 => (bif (t1156 != 0) then some (.inl t1156) else spec_l3Outs.l0 x0 k (wrap64 (a1111 + 1)))))))) else some (.inr ()))
theorem spec_l3Outs.l0_z (x0 : Tx) (a1111 : Int) : spec_l3Outs.l0 x0 0 a1111 = none := rfl
theorem spec_l3Outs.l0_s (x0 : Tx) (k : Nat) (a1111 : Int) : spec_l3Outs.l0 x0 (k + 1) a1111 = (bif (decide (a1111 < (x0.fOuts.length : Int))) then (chk (idxOk a1111 x0.fOuts.length) ((spec_l1In.f k ((gt x0.fOuts a1111).fValue) 1 1000000).bind fun t1148 => (bif !t1148 then some (.inl 3) else (chk (idxOk a1111 x0.fOuts.length) ((spec_l2Fault.f k ((gt x0.fOuts a1111).fRule)).bind fun t1156 => (bif (t1156 != 0) then some (.inl t1156) else spec_l3Outs.l0 x0 k (wrap64 (a1111 + 1)))))))) else some (.inr ())) := rfl
def spec_l3Outs.f (k : Nat) (x0 : Tx) : Option Int := ((spec_l3Outs.l0 x0 k 0).bind fun o1087 => thn o1087 (fun r => some r) (fun _ => (chk (!(x0.fKind == 1) || (idxOk (0 : Int) x0.fOuts.length)) (bif ((x0.fKind == 1) && (decide (((gt x0.fOuts (0 : Int)).fValue) < 100))) then some 8 else some 0))))
theorem spec_l3Outs.calls {k : Nat} {x0 : Tx} {b0 f0 : Nat} {p0_0 : Value} {p0_1 : Value} {w : World} (hc0 : CellsAt w b0 f0 [.int .i64 x0.fKind, .int .i64 x0.fMember, p0_0, p0_1]) (hp0_0 : RdS kRef w p0_0 x0.fIns) (hp0_1 : RdS kOut w p0_1 x0.fOuts) {r : Int} (H : spec_l3Outs.f k x0 = some r) :
    Calls Try.prog 139 ([.pointer (some ⟨b0, f0, none⟩)] : List Value).toArray w (fun e w_ => ∃ v, e = .returned v ∧ v = (.int .i64 r) ∧ Mem w [] w_ []) := by
  have HM := Mem.start w
  refine calls_run (N := 50) Try.func139 rfl rfl rfl rfl ?_
  unfold spec_l3Outs.f at H
  refine run_seq ?_
  refine run_region rfl ?_
  refine ops_ex rfl (guard_none rfl) rfl rfl (ex_assign rfl rfl) ?_
  refine ops_nil ?_
  refine at_then ?_
  obtain ⟨o1087, ho1088, H⟩ := bind_some H
  refine run_mid (fun ρ_ w_ => Sum.inr () = o1087 ∧ ρ_ = [(0, .pointer (some ⟨b0, f0, none⟩))] ∧ Mem w [] w_ []) ?_ ?_
  · skip
    refine run_seq ?_
    refine run_region rfl ?_
    refine ops_ex rfl (guard_none rfl) rfl rfl (ex_assign rfl rfl) ?_
    refine ops_nil ?_
    refine at_then ?_
    refine run_block ?_
    refine run_loop (fun k_ ρ_ w_ => ∃ a1111 : Int, spec_l3Outs.l0 x0 k_ a1111 = some o1087 ∧ ρ_ = [(0, .pointer (some ⟨b0, f0, none⟩)), (3, .int .i64 a1111)] ∧ Mem w [] w_ []) k (ρ1 := [(0, .pointer (some ⟨b0, f0, none⟩)), (3, .int .i64 0)]) ⟨_, ho1088, rfl, HM⟩ (Sub.cons rfl (Sub.cons rfl Sub.nil)) ?_
    clear HM ho1088
    rintro k1134 _ w1135 ⟨a1111, ho1088, rfl, HM⟩
    obtain _ | k1134 := k1134
    · exact nomatch ((spec_l3Outs.l0_z x0 a1111).symm.trans ho1088)
    replace ho1088 := (spec_l3Outs.l0_s x0 k1134 a1111).symm.trans ho1088
    refine run_seq ?_
    refine run_seq ?_
    refine run_region rfl ?_
    refine ops_ex rfl (guard_none rfl) rfl rfl (ex_move rfl rfl) ?_
    refine ops_ex rfl (guard_none rfl) rfl rfl (ex_move rfl rfl) ?_
    refine ops_ex rfl (guard_none rfl) rfl rfl (ex_nilCheck rfl rfl) ?_
    refine ops_ex rfl (guard_none rfl) rfl rfl (ex_fieldAddr (off' := f0 + 3) rfl rfl Try.underlying37 rfl tsz35 rfl) ?_
    refine ops_ex rfl (guard_none rfl) rfl rfl (ex_load1 rfl rfl Try.underlying35 rfl ((HM.at_ hc0) 3 _ rfl)) ?_
    refine ops_ex rfl (guard_none rfl) rfl rfl (ex_len (d := kOut) (xs := x0.fOuts) rfl rfl Try.underlying35 hp0_1) ?_
    refine ops_ex rfl (guard_none rfl) rfl rfl (ex_lss rfl rfl rfl) ?_
    refine ops_nil ?_
    refine at_then ?_
    refine run_cond (b := (decide (a1111 < (x0.fOuts.length : Int)))) rfl (fun hb1136 => ?_) (fun hb1136 => ?_)
    · replace ho1088 := cond_t hb1136 ho1088
      refine run_skip ?_
      refine at_then ?_
      refine run_seq ?_
      refine run_block ?_
      refine run_seq ?_
      refine run_seq ?_
      obtain ⟨e1144, ho1088⟩ := chk_some ho1088
      obtain ⟨t1148, h1149, ho1088⟩ := bind_some ho1088
      refine run_region rfl ?_
      refine ops_ex rfl (guard_none rfl) rfl rfl (ex_move rfl rfl) ?_
      refine ops_ex rfl (guard_none rfl) rfl rfl (ex_nilCheck rfl rfl) ?_
      refine ops_ex rfl (guard_none rfl) rfl rfl (ex_fieldAddr (off' := f0 + 3) rfl rfl Try.underlying37 rfl tsz35 rfl) ?_
      refine ops_ex rfl (guard_none rfl) rfl rfl (ex_load1 rfl rfl Try.underlying35 rfl ((HM.at_ hc0) 3 _ rfl)) ?_
      refine ops_ex rfl (guard_none rfl) rfl rfl (ex_move rfl rfl) ?_
      obtain ⟨kv1146, hc1145, hk1147⟩ : ∃ u, CellsAt _ (sb p0_1) (so p0_1 + (a1111).toNat * 4) [(.int .i64 ((gt x0.fOuts a1111).fValue)), u, (.int .i64 ((gt x0.fOuts a1111).fRule.fNeed)), (.int .i64 ((gt x0.fOuts a1111).fRule.fAfter))] ∧ RdS kInt _ u ((gt x0.fOuts a1111).fRule.fKeys) := rd_with1 hp0_1 e1144
      refine ops_ex rfl (guard_none rfl) rfl rfl (ex_indexAddr (d := kOut) rfl rfl rfl Try.underlying35 tsz102 hp0_1 (idx_lo e1144) (idx_hi e1144)) ?_
      refine ops_ex rfl (guard_none rfl) rfl rfl (ex_fieldAddr (off' := so p0_1 + (a1111).toNat * 4) rfl rfl Try.underlying102 rfl tsz2 rfl) ?_
      refine ops_ex rfl (guard_none rfl) rfl rfl (ex_load1 rfl rfl Try.underlying2 rfl ((HM.at_ hc1145) 0 _ rfl)) ?_
      refine ops_does rfl (guard_none rfl) rfl rfl (does_callk rfl callok136 rfl (spec_l1In.calls (x0 := (gt x0.fOuts a1111).fValue) (x1 := 1) (x2 := 1000000) h1149)) ?_
      rintro _ w1150 ⟨rfl, hn⟩
      replace HM : Mem w [] w1150 [] := HM.call hn
      refine ops_ex rfl (guard_none rfl) rfl rfl (ex_not rfl rfl) ?_
      refine ops_nil ?_
      refine at_then ?_
      refine run_cond (b := !t1148) rfl (fun hb1151 => ?_) (fun hb1151 => ?_)
      · replace ho1088 := cond_t hb1151 ho1088
        refine run_seq ?_
        refine run_region rfl ?_
        refine ops_ex rfl (guard_none rfl) rfl rfl (ex_assign rfl rfl) ?_
        refine ops_nil ?_
        refine at_then ?_
        refine run_ret ?_
        refine at_then_ret ?_
        refine at_block_ret ?_
        refine at_then_ret ?_
        refine at_then_ret ?_
        refine at_block_ret ?_
        refine at_then_ret ?_
        have hR := Option.some.inj ho1088
        subst hR
        have hT := thn_inl H
        have hR := Option.some.inj hT
        subst hR
        exact at_ret1 rfl rfl ⟨_, rfl, rfl, HM⟩
      · replace ho1088 := cond_f hb1151 ho1088
        refine run_skip ?_
        refine at_then ?_
        refine run_seq ?_
        obtain ⟨e1152, ho1088⟩ := chk_some ho1088
        obtain ⟨t1156, h1157, ho1088⟩ := bind_some ho1088
        refine run_region rfl ?_
        refine ops_ex rfl (guard_none rfl) rfl rfl (ex_move rfl rfl) ?_
        refine ops_ex rfl (guard_none rfl) rfl rfl (ex_nilCheck rfl rfl) ?_
        refine ops_ex rfl (guard_none rfl) rfl rfl (ex_fieldAddr (off' := f0 + 3) rfl rfl Try.underlying37 rfl tsz35 rfl) ?_
        refine ops_ex rfl (guard_none rfl) rfl rfl (ex_load1 rfl rfl Try.underlying35 rfl ((HM.at_ hc0) 3 _ rfl)) ?_
        refine ops_ex rfl (guard_none rfl) rfl rfl (ex_move rfl rfl) ?_
        obtain ⟨kv1154, hc1153, hk1155⟩ : ∃ u, CellsAt _ (sb p0_1) (so p0_1 + (a1111).toNat * 4) [(.int .i64 ((gt x0.fOuts a1111).fValue)), u, (.int .i64 ((gt x0.fOuts a1111).fRule.fNeed)), (.int .i64 ((gt x0.fOuts a1111).fRule.fAfter))] ∧ RdS kInt _ u ((gt x0.fOuts a1111).fRule.fKeys) := rd_with1 hp0_1 e1152
        refine ops_ex rfl (guard_none rfl) rfl rfl (ex_indexAddr (d := kOut) rfl rfl rfl Try.underlying35 tsz102 hp0_1 (idx_lo e1152) (idx_hi e1152)) ?_
        refine ops_ex rfl (guard_none rfl) rfl rfl (ex_fieldAddr (off' := so p0_1 + (a1111).toNat * 4 + 1) rfl rfl Try.underlying102 rfl tsz100 rfl) ?_
        refine ops_does rfl (guard_none rfl) rfl rfl (does_callk rfl callok161 rfl (spec_l2Fault.calls (x0 := (gt x0.fOuts a1111).fRule) (CellsAt.sub (HM.at_ hc1153) 1 3 rfl) (HM.rd hk1155) h1157)) ?_
        rintro _ w1158 ⟨rfl, hn⟩
        replace HM : Mem w [] w1158 [] := HM.call hn
        refine ops_ex rfl (guard_none rfl) rfl rfl (ex_assign rfl rfl) ?_
        refine ops_nil ?_
        refine at_then ?_
        refine run_seq ?_
        refine run_region rfl ?_
        refine ops_ex rfl (guard_none rfl) rfl rfl (ex_move rfl rfl) ?_
        refine ops_ex rfl (guard_none rfl) rfl rfl (ex_neq rfl rfl rfl) ?_
        refine ops_nil ?_
        refine at_then ?_
        refine run_cond (b := (t1156 != 0)) rfl (fun hb1159 => ?_) (fun hb1159 => ?_)
        · replace ho1088 := cond_t hb1159 ho1088
          refine run_seq ?_
          refine run_region rfl ?_
          refine ops_ex rfl (guard_none rfl) rfl rfl (ex_move rfl rfl) ?_
          refine ops_ex rfl (guard_none rfl) rfl rfl (ex_assign rfl rfl) ?_
          refine ops_nil ?_
          refine at_then ?_
          refine run_ret ?_
          refine at_block_ret ?_
          refine at_then_ret ?_
          refine at_then_ret ?_
          refine at_block_ret ?_
          refine at_then_ret ?_
          have hR := Option.some.inj ho1088
          subst hR
          have hT := thn_inl H
          have hR := Option.some.inj hT
          subst hR
          exact at_ret1 rfl rfl ⟨_, rfl, rfl, HM⟩
        · replace ho1088 := cond_f hb1159 ho1088
          refine run_skip ?_
          refine at_block ?_
          refine at_then ?_
          refine run_region rfl ?_
          refine ops_ex rfl (guard_none rfl) rfl rfl (ex_move rfl rfl) ?_
          refine ops_ex rfl (guard_none rfl) rfl rfl (ex_add rfl rfl rfl) ?_
          refine ops_ex rfl (guard_none rfl) rfl rfl (ex_assign rfl rfl) ?_
          refine ops_nil ?_
          exact at_again k1134 (ρ1 := [(0, .pointer (some ⟨b0, f0, none⟩)), (3, .int .i64 (wrap64 (a1111 + 1)))]) (Nat.lt_succ_self _) ⟨_, ho1088, rfl, HM⟩ (Sub.cons rfl (Sub.cons rfl Sub.nil))
    · replace ho1088 := cond_f hb1136 ho1088
      refine run_exit ?_
      refine at_then_exit ?_
      refine at_then_exit ?_
      refine at_block_exit ?_
      exact at_mid (ρ' := [(0, .pointer (some ⟨b0, f0, none⟩))]) ⟨(Option.some.inj ho1088), rfl, HM⟩ (Sub.cons rfl Sub.nil)
  · rintro _ w1160 ⟨rfl, rfl, HM⟩
    replace H := (thn_inr H)
    refine run_seq ?_
    refine run_seq ?_
    obtain ⟨e1161, H⟩ := chk_some H
    refine run_meet (fun ρ_ w_ => ρ_ = [(49, .bool ((x0.fKind == 1) && (decide (((gt x0.fOuts (0 : Int)).fValue) < 100))))] ∧ Mem w [] w_ []) ?_ ?_
    · skip
      refine run_region rfl ?_
      refine ops_ex rfl (guard_none rfl) rfl rfl (ex_move rfl rfl) ?_
      refine ops_ex rfl (guard_none rfl) rfl rfl (ex_nilCheck rfl rfl) ?_
      refine ops_ex rfl (guard_none rfl) rfl rfl (ex_fieldAddr (off' := f0) rfl rfl Try.underlying37 rfl tsz2 rfl) ?_
      refine ops_ex rfl (guard_none rfl) rfl rfl (ex_load1 rfl rfl Try.underlying2 rfl ((HM.at_ hc0) 0 _ rfl)) ?_
      refine ops_ex rfl (guard_none rfl) rfl rfl (ex_eql rfl rfl rfl) ?_
      refine ops_ex rfl (guard_none rfl) rfl rfl (ex_move rfl rfl) ?_
      refine bool_cases (x0.fKind == 1) (fun hg1165 => ?_) (fun hg1165 => ?_)
      · skip
        refine ops_ex rfl (guard_on rfl rfl rfl hg1165) rfl rfl (ex_move rfl rfl) ?_
        refine ops_ex rfl (guard_on rfl rfl rfl hg1165) rfl rfl (ex_nilCheck rfl rfl) ?_
        refine ops_ex rfl (guard_on rfl rfl rfl hg1165) rfl rfl (ex_fieldAddr (off' := f0 + 3) rfl rfl Try.underlying37 rfl tsz35 rfl) ?_
        refine ops_ex rfl (guard_on rfl rfl rfl hg1165) rfl rfl (ex_load1 rfl rfl Try.underlying35 rfl ((HM.at_ hc0) 3 _ rfl)) ?_
        obtain ⟨kv1163, hc1162, hk1164⟩ : ∃ u, CellsAt _ (sb p0_1) (so p0_1 + ((0 : Int)).toNat * 4) [(.int .i64 ((gt x0.fOuts (0 : Int)).fValue)), u, (.int .i64 ((gt x0.fOuts (0 : Int)).fRule.fNeed)), (.int .i64 ((gt x0.fOuts (0 : Int)).fRule.fAfter))] ∧ RdS kInt _ u ((gt x0.fOuts (0 : Int)).fRule.fKeys) := rd_with1 hp0_1 (or_t e1161 hg1165)
        refine ops_ex rfl (guard_on rfl rfl rfl hg1165) rfl rfl (ex_indexAddr (d := kOut) rfl rfl rfl Try.underlying35 tsz102 hp0_1 (idx_lo (or_t e1161 hg1165)) (idx_hi (or_t e1161 hg1165))) ?_
        refine ops_ex rfl (guard_on rfl rfl rfl hg1165) rfl rfl (ex_fieldAddr (off' := so p0_1 + ((0 : Int)).toNat * 4) rfl rfl Try.underlying102 rfl tsz2 rfl) ?_
        refine ops_ex rfl (guard_on rfl rfl rfl hg1165) rfl rfl (ex_load1 rfl rfl Try.underlying2 rfl ((HM.at_ hc1162) 0 _ rfl)) ?_
        refine ops_ex rfl (guard_on rfl rfl rfl hg1165) rfl rfl (ex_lss rfl rfl rfl) ?_
        refine ops_ex (v := .bool ((x0.fKind == 1) && (decide (((gt x0.fOuts (0 : Int)).fValue) < 100)))) rfl (guard_none rfl) rfl rfl (ex_pand_t rfl rfl hg1165 rfl) ?_
        refine ops_nil ?_
        exact at_meet [(49, .bool ((x0.fKind == 1) && (decide (((gt x0.fOuts (0 : Int)).fValue) < 100))))] ⟨rfl, HM⟩ (Sub.cons rfl Sub.nil)
      · skip
        refine ops_off rfl (guard_off rfl rfl rfl hg1165) rfl rfl ?_
        refine ops_off rfl (guard_off rfl rfl rfl hg1165) rfl rfl ?_
        refine ops_off rfl (guard_off rfl rfl rfl hg1165) rfl rfl ?_
        refine ops_off rfl (guard_off rfl rfl rfl hg1165) rfl rfl ?_
        refine ops_off rfl (guard_off rfl rfl rfl hg1165) rfl rfl ?_
        refine ops_off rfl (guard_off rfl rfl rfl hg1165) rfl rfl ?_
        refine ops_off rfl (guard_off rfl rfl rfl hg1165) rfl rfl ?_
        refine ops_off rfl (guard_off rfl rfl rfl hg1165) rfl rfl ?_
        have hg1166 : ((x0.fKind == 1) && (decide (((gt x0.fOuts (0 : Int)).fValue) < 100))) = false := by simp only [hg1165, Bool.and_true, Bool.true_and, Bool.and_false, Bool.false_and, Bool.or_true, Bool.true_or, Bool.or_false, Bool.false_or, Bool.not_true, Bool.not_false, Bool.not_not]
        refine ops_ex (v := .bool ((x0.fKind == 1) && (decide (((gt x0.fOuts (0 : Int)).fValue) < 100)))) rfl (guard_none rfl) rfl rfl (ex_pand_f rfl rfl hg1165) ?_
        refine ops_nil ?_
        exact at_meet [(49, .bool ((x0.fKind == 1) && (decide (((gt x0.fOuts (0 : Int)).fValue) < 100))))] ⟨rfl, HM⟩ (Sub.cons rfl Sub.nil)
    · rintro _ w1167 ⟨rfl, HM⟩
      refine at_then ?_
      refine run_cond (b := ((x0.fKind == 1) && (decide (((gt x0.fOuts (0 : Int)).fValue) < 100)))) rfl (fun hb1168 => ?_) (fun hb1168 => ?_)
      · replace H := cond_t hb1168 H
        refine run_seq ?_
        refine run_region rfl ?_
        refine ops_ex rfl (guard_none rfl) rfl rfl (ex_assign rfl rfl) ?_
        refine ops_nil ?_
        refine at_then ?_
        refine run_ret ?_
        refine at_then_ret ?_
        have hR := Option.some.inj H
        subst hR
        exact at_ret1 rfl rfl ⟨_, rfl, rfl, HM⟩
      · replace H := cond_f hb1168 H
        refine run_skip ?_
        refine at_then ?_
        refine run_seq ?_
        refine run_region rfl ?_
        refine ops_ex rfl (guard_none rfl) rfl rfl (ex_assign rfl rfl) ?_
        refine ops_nil ?_
        refine at_then ?_
        refine run_ret ?_
        have hR := Option.some.inj H
        subst hR
        exact at_ret1 rfl rfl ⟨_, rfl, rfl, HM⟩

def spec_l3Fault.l0 (x0 : Tx) : Nat → Int → Option (Int ⊕ Unit)
  | 0, _ => none
  | k + 1, a1289 => (bif (decide (a1289 < (x0.fIns.length : Int))) then (chk (idxOk a1289 x0.fIns.length) ((spec_l3Ref.f k (gt x0.fIns a1289)).bind fun t1320 => (bif !t1320 then some (.inl 3) else (chk (cutOk a1289 x0.fIns.length) (chk (idxOk a1289 x0.fIns.length) ((spec_l3Among.f k (x0.fIns.take (a1289).toNat) (gt x0.fIns a1289)).bind fun t1330 => (bif t1330 then some (.inl 7) else spec_l3Fault.l0 x0 k (wrap64 (a1289 + 1))))))))) else some (.inr ()))
theorem spec_l3Fault.l0_z (x0 : Tx) (a1289 : Int) : spec_l3Fault.l0 x0 0 a1289 = none := rfl
theorem spec_l3Fault.l0_s (x0 : Tx) (k : Nat) (a1289 : Int) : spec_l3Fault.l0 x0 (k + 1) a1289 = (bif (decide (a1289 < (x0.fIns.length : Int))) then (chk (idxOk a1289 x0.fIns.length) ((spec_l3Ref.f k (gt x0.fIns a1289)).bind fun t1320 => (bif !t1320 then some (.inl 3) else (chk (cutOk a1289 x0.fIns.length) (chk (idxOk a1289 x0.fIns.length) ((spec_l3Among.f k (x0.fIns.take (a1289).toNat) (gt x0.fIns a1289)).bind fun t1330 => (bif t1330 then some (.inl 7) else spec_l3Fault.l0 x0 k (wrap64 (a1289 + 1))))))))) else some (.inr ())) := rfl
def spec_l3Fault.f (k : Nat) (x0 : Tx) : Option Int := ((spec_l1In.f k x0.fKind 0 2).bind fun t1174 => (bif ((!t1174) || ((x0.fKind == 0) != (x0.fMember == 0))) then some 1 else ((bif (x0.fKind != 0) then spec_l1Key.f k x0.fMember else some default).bind fun t1184 => (bif ((x0.fKind != 0) && (!t1184)) then some 3 else ((spec_l1In.f k (x0.fIns.length : Int) 1 4).bind fun t1196 => ((bif (!(!t1196)) then spec_l1In.f k (x0.fOuts.length : Int) 1 4 else some default).bind fun t1198 => (bif ((!t1196) || (!t1198)) then some 2 else ((spec_l3Fault.l0 x0 k 0).bind fun o1267 => thn o1267 (fun r => some r) (fun _ => ((spec_l3Outs.f k x0).bind fun t1335 => some t1335))))))))))
theorem spec_l3Fault.calls {k : Nat} {x0 : Tx} {b0 f0 : Nat} {p0_0 : Value} {p0_1 : Value} {w : World} (hc0 : CellsAt w b0 f0 [.int .i64 x0.fKind, .int .i64 x0.fMember, p0_0, p0_1]) (hp0_0 : RdS kRef w p0_0 x0.fIns) (hp0_1 : RdS kOut w p0_1 x0.fOuts) {r : Int} (H : spec_l3Fault.f k x0 = some r) :
    Calls Try.prog 84 ([.pointer (some ⟨b0, f0, none⟩)] : List Value).toArray w (fun e w_ => ∃ v, e = .returned v ∧ v = (.int .i64 r) ∧ Mem w [] w_ []) := by
  have HM := Mem.start w
  refine calls_run (N := 86) Try.func84 rfl rfl rfl rfl ?_
  unfold spec_l3Fault.f at H
  refine run_seq ?_
  refine run_region rfl ?_
  refine ops_ex rfl (guard_none rfl) rfl rfl (ex_assign rfl rfl) ?_
  refine ops_nil ?_
  refine at_then ?_
  refine run_seq ?_
  refine run_seq ?_
  obtain ⟨t1174, h1175, H⟩ := bind_some H
  refine run_meet (fun ρ_ w_ => ρ_ = [(0, .pointer (some ⟨b0, f0, none⟩)), (22, .bool ((!t1174) || ((x0.fKind == 0) != (x0.fMember == 0))))] ∧ Mem w [] w_ []) ?_ ?_
  · skip
    refine run_drawf (fun w_ => Mem w [] w_ []) [(0, true), (1, true), (2, true), (3, true), (4, false), (5, true), (6, true), (7, true), (8, true), (9, true), (10, true), (11, true), (12, true), (13, true), (14, true), (15, true), (16, true), (17, true), (18, true)] mixed rfl rfl (by kernel_rfl) ?_
    replace HM := HM.grow (fr_drew _)
    have hS := Mem.suf (M := []) HM
    refine drwp_take rfl (guard_none rfl) rfl rfl (fun w_ hS_ => (ex_move rfl rfl)) hS ?_
    refine drwp_take rfl (guard_none rfl) rfl rfl (fun w_ hS_ => (ex_nilCheck rfl rfl)) hS ?_
    refine drwp_take rfl (guard_none rfl) rfl rfl (fun w_ hS_ => (ex_fieldAddr (off' := f0) rfl rfl Try.underlying37 rfl tsz2 rfl)) hS ?_
    refine drwp_take rfl (guard_none rfl) rfl rfl (fun w_ hS_ => (ex_load1 rfl rfl Try.underlying2 rfl ((hS_.at_ hc0) 0 _ rfl))) hS ?_
    refine drwp_one rfl (guard_none rfl) rfl rfl (does_callk rfl callok136 rfl (spec_l1In.calls (x0 := x0.fKind) (x1 := 0) (x2 := 2) h1175)) ?_
    rintro _ w1176 ⟨rfl, hn⟩
    replace HM : Mem w [] w1176 [] := HM.call hn
    refine ⟨Mem.suf (M := []) HM, ?_⟩
    have hS := Mem.suf (M := []) HM
    refine drwp_take rfl (guard_none rfl) rfl rfl (fun w_ hS_ => (ex_not rfl rfl)) hS ?_
    refine drwp_take rfl (guard_none rfl) rfl rfl (fun w_ hS_ => (ex_move rfl rfl)) hS ?_
    refine bool_cases (!t1174) (fun hg1177 => ?_) (fun hg1177 => ?_)
    · skip
      refine drwp_off rfl (guard_off rfl rfl rfl hg1177) rfl rfl hS ?_
      refine drwp_off rfl (guard_off rfl rfl rfl hg1177) rfl rfl hS ?_
      refine drwp_off rfl (guard_off rfl rfl rfl hg1177) rfl rfl hS ?_
      refine drwp_off rfl (guard_off rfl rfl rfl hg1177) rfl rfl hS ?_
      refine drwp_off rfl (guard_off rfl rfl rfl hg1177) rfl rfl hS ?_
      refine drwp_off rfl (guard_off rfl rfl rfl hg1177) rfl rfl hS ?_
      refine drwp_off rfl (guard_off rfl rfl rfl hg1177) rfl rfl hS ?_
      refine drwp_off rfl (guard_off rfl rfl rfl hg1177) rfl rfl hS ?_
      refine drwp_off rfl (guard_off rfl rfl rfl hg1177) rfl rfl hS ?_
      refine drwp_off rfl (guard_off rfl rfl rfl hg1177) rfl rfl hS ?_
      refine drwp_off rfl (guard_off rfl rfl rfl hg1177) rfl rfl hS ?_
      have hg1178 : ((!t1174) || ((x0.fKind == 0) != (x0.fMember == 0))) = true := by simp only [hg1177, Bool.and_true, Bool.true_and, Bool.and_false, Bool.false_and, Bool.or_true, Bool.true_or, Bool.or_false, Bool.false_or, Bool.not_true, Bool.not_false, Bool.not_not]
      refine drwp_take (v := .bool ((!t1174) || ((x0.fKind == 0) != (x0.fMember == 0)))) rfl (guard_none rfl) rfl rfl (fun w_ hS_ => (ex_por_t rfl rfl hg1177)) hS ?_
      refine drwp_done ?_
      exact at_meet [(0, .pointer (some ⟨b0, f0, none⟩)), (22, .bool ((!t1174) || ((x0.fKind == 0) != (x0.fMember == 0))))] ⟨rfl, HM⟩ (Sub.cons rfl (Sub.cons rfl Sub.nil))
    · skip
      refine drwp_take rfl (guard_on rfl rfl rfl hg1177) rfl rfl (fun w_ hS_ => (ex_move rfl rfl)) hS ?_
      refine drwp_take rfl (guard_on rfl rfl rfl hg1177) rfl rfl (fun w_ hS_ => (ex_nilCheck rfl rfl)) hS ?_
      refine drwp_take rfl (guard_on rfl rfl rfl hg1177) rfl rfl (fun w_ hS_ => (ex_fieldAddr (off' := f0) rfl rfl Try.underlying37 rfl tsz2 rfl)) hS ?_
      refine drwp_take rfl (guard_on rfl rfl rfl hg1177) rfl rfl (fun w_ hS_ => (ex_load1 rfl rfl Try.underlying2 rfl ((hS_.at_ hc0) 0 _ rfl))) hS ?_
      refine drwp_take rfl (guard_on rfl rfl rfl hg1177) rfl rfl (fun w_ hS_ => (ex_eql rfl rfl rfl)) hS ?_
      refine drwp_take rfl (guard_on rfl rfl rfl hg1177) rfl rfl (fun w_ hS_ => (ex_move rfl rfl)) hS ?_
      refine drwp_take rfl (guard_on rfl rfl rfl hg1177) rfl rfl (fun w_ hS_ => (ex_nilCheck rfl rfl)) hS ?_
      refine drwp_take rfl (guard_on rfl rfl rfl hg1177) rfl rfl (fun w_ hS_ => (ex_fieldAddr (off' := f0 + 1) rfl rfl Try.underlying37 rfl tsz2 rfl)) hS ?_
      refine drwp_take rfl (guard_on rfl rfl rfl hg1177) rfl rfl (fun w_ hS_ => (ex_load1 rfl rfl Try.underlying2 rfl ((hS_.at_ hc0) 1 _ rfl))) hS ?_
      refine drwp_take rfl (guard_on rfl rfl rfl hg1177) rfl rfl (fun w_ hS_ => (ex_eql rfl rfl rfl)) hS ?_
      refine drwp_take rfl (guard_on rfl rfl rfl hg1177) rfl rfl (fun w_ hS_ => (ex_bneq rfl rfl rfl Try.underlying4)) hS ?_
      refine drwp_take (v := .bool ((!t1174) || ((x0.fKind == 0) != (x0.fMember == 0)))) rfl (guard_none rfl) rfl rfl (fun w_ hS_ => (ex_por_f rfl rfl hg1177 rfl)) hS ?_
      refine drwp_done ?_
      exact at_meet [(0, .pointer (some ⟨b0, f0, none⟩)), (22, .bool ((!t1174) || ((x0.fKind == 0) != (x0.fMember == 0))))] ⟨rfl, HM⟩ (Sub.cons rfl (Sub.cons rfl Sub.nil))
  · rintro _ w1179 ⟨rfl, HM⟩
    refine at_then ?_
    refine run_cond (b := ((!t1174) || ((x0.fKind == 0) != (x0.fMember == 0)))) rfl (fun hb1180 => ?_) (fun hb1180 => ?_)
    · replace H := cond_t hb1180 H
      refine run_seq ?_
      refine run_region rfl ?_
      refine ops_ex rfl (guard_none rfl) rfl rfl (ex_assign rfl rfl) ?_
      refine ops_nil ?_
      refine at_then ?_
      refine run_ret ?_
      refine at_then_ret ?_
      have hR := Option.some.inj H
      subst hR
      exact at_ret1 rfl rfl ⟨_, rfl, rfl, HM⟩
    · replace H := cond_f hb1180 H
      refine run_skip ?_
      refine at_then ?_
      refine run_seq ?_
      refine run_seq ?_
      obtain ⟨t1184, h1185, H⟩ := bind_some H
      refine run_meet (fun ρ_ w_ => ρ_ = [(0, .pointer (some ⟨b0, f0, none⟩)), (35, .bool ((x0.fKind != 0) && (!t1184)))] ∧ Mem w [] w_ []) ?_ ?_
      · skip
        refine run_region rfl ?_
        refine ops_ex rfl (guard_none rfl) rfl rfl (ex_move rfl rfl) ?_
        refine ops_ex rfl (guard_none rfl) rfl rfl (ex_nilCheck rfl rfl) ?_
        refine ops_ex rfl (guard_none rfl) rfl rfl (ex_fieldAddr (off' := f0) rfl rfl Try.underlying37 rfl tsz2 rfl) ?_
        refine ops_ex rfl (guard_none rfl) rfl rfl (ex_load1 rfl rfl Try.underlying2 rfl ((HM.at_ hc0) 0 _ rfl)) ?_
        refine ops_ex rfl (guard_none rfl) rfl rfl (ex_neq rfl rfl rfl) ?_
        refine ops_ex rfl (guard_none rfl) rfl rfl (ex_move rfl rfl) ?_
        refine bool_cases (x0.fKind != 0) (fun hg1186 => ?_) (fun hg1186 => ?_)
        · skip
          refine ops_ex rfl (guard_on rfl rfl rfl hg1186) rfl rfl (ex_move rfl rfl) ?_
          refine ops_ex rfl (guard_on rfl rfl rfl hg1186) rfl rfl (ex_nilCheck rfl rfl) ?_
          refine ops_ex rfl (guard_on rfl rfl rfl hg1186) rfl rfl (ex_fieldAddr (off' := f0 + 1) rfl rfl Try.underlying37 rfl tsz2 rfl) ?_
          refine ops_ex rfl (guard_on rfl rfl rfl hg1186) rfl rfl (ex_load1 rfl rfl Try.underlying2 rfl ((HM.at_ hc0) 1 _ rfl)) ?_
          refine ops_does rfl (guard_on rfl rfl rfl hg1186) rfl rfl (does_callk rfl callok137 rfl (spec_l1Key.calls (x0 := x0.fMember) (cond_t hg1186 h1185))) ?_
          rintro _ w1187 ⟨rfl, hn⟩
          replace HM : Mem w [] w1187 [] := HM.call hn
          refine ops_ex rfl (guard_on rfl rfl rfl hg1186) rfl rfl (ex_not rfl rfl) ?_
          refine ops_ex (v := .bool ((x0.fKind != 0) && (!t1184))) rfl (guard_none rfl) rfl rfl (ex_pand_t rfl rfl hg1186 rfl) ?_
          refine ops_nil ?_
          exact at_meet [(0, .pointer (some ⟨b0, f0, none⟩)), (35, .bool ((x0.fKind != 0) && (!t1184)))] ⟨rfl, HM⟩ (Sub.cons rfl (Sub.cons rfl Sub.nil))
        · skip
          refine ops_off rfl (guard_off rfl rfl rfl hg1186) rfl rfl ?_
          refine ops_off rfl (guard_off rfl rfl rfl hg1186) rfl rfl ?_
          refine ops_off rfl (guard_off rfl rfl rfl hg1186) rfl rfl ?_
          refine ops_off rfl (guard_off rfl rfl rfl hg1186) rfl rfl ?_
          refine ops_off rfl (guard_off rfl rfl rfl hg1186) rfl rfl ?_
          refine ops_off rfl (guard_off rfl rfl rfl hg1186) rfl rfl ?_
          have hg1188 : ((x0.fKind != 0) && (!t1184)) = false := by simp only [hg1186, Bool.and_true, Bool.true_and, Bool.and_false, Bool.false_and, Bool.or_true, Bool.true_or, Bool.or_false, Bool.false_or, Bool.not_true, Bool.not_false, Bool.not_not]
          refine ops_ex (v := .bool ((x0.fKind != 0) && (!t1184))) rfl (guard_none rfl) rfl rfl (ex_pand_f rfl rfl hg1186) ?_
          refine ops_nil ?_
          exact at_meet [(0, .pointer (some ⟨b0, f0, none⟩)), (35, .bool ((x0.fKind != 0) && (!t1184)))] ⟨rfl, HM⟩ (Sub.cons rfl (Sub.cons rfl Sub.nil))
      · rintro _ w1189 ⟨rfl, HM⟩
        refine at_then ?_
        refine run_cond (b := ((x0.fKind != 0) && (!t1184))) rfl (fun hb1190 => ?_) (fun hb1190 => ?_)
        · replace H := cond_t hb1190 H
          refine run_seq ?_
          refine run_region rfl ?_
          refine ops_ex rfl (guard_none rfl) rfl rfl (ex_assign rfl rfl) ?_
          refine ops_nil ?_
          refine at_then ?_
          refine run_ret ?_
          refine at_then_ret ?_
          have hR := Option.some.inj H
          subst hR
          exact at_ret1 rfl rfl ⟨_, rfl, rfl, HM⟩
        · replace H := cond_f hb1190 H
          refine run_skip ?_
          refine at_then ?_
          refine run_seq ?_
          refine run_seq ?_
          obtain ⟨t1196, h1197, H⟩ := bind_some H
          obtain ⟨t1198, h1199, H⟩ := bind_some H
          refine run_meet (fun ρ_ w_ => ρ_ = [(0, .pointer (some ⟨b0, f0, none⟩)), (51, .bool ((!t1196) || (!t1198)))] ∧ Mem w [] w_ []) ?_ ?_
          · skip
            refine run_region rfl ?_
            refine ops_ex rfl (guard_none rfl) rfl rfl (ex_move rfl rfl) ?_
            refine ops_ex rfl (guard_none rfl) rfl rfl (ex_nilCheck rfl rfl) ?_
            refine ops_ex rfl (guard_none rfl) rfl rfl (ex_fieldAddr (off' := f0 + 2) rfl rfl Try.underlying37 rfl tsz34 rfl) ?_
            refine ops_ex rfl (guard_none rfl) rfl rfl (ex_load1 rfl rfl Try.underlying34 rfl ((HM.at_ hc0) 2 _ rfl)) ?_
            refine ops_ex rfl (guard_none rfl) rfl rfl (ex_len (d := kRef) (xs := x0.fIns) rfl rfl Try.underlying34 hp0_0) ?_
            refine ops_does rfl (guard_none rfl) rfl rfl (does_callk rfl callok136 rfl (spec_l1In.calls (x0 := (x0.fIns.length : Int)) (x1 := 1) (x2 := 4) h1197)) ?_
            rintro _ w1200 ⟨rfl, hn⟩
            replace HM : Mem w [] w1200 [] := HM.call hn
            refine ops_ex rfl (guard_none rfl) rfl rfl (ex_not rfl rfl) ?_
            refine ops_ex rfl (guard_none rfl) rfl rfl (ex_move rfl rfl) ?_
            refine bool_cases (!t1196) (fun hg1201 => ?_) (fun hg1201 => ?_)
            · skip
              refine ops_off rfl (guard_off rfl rfl rfl hg1201) rfl rfl ?_
              refine ops_off rfl (guard_off rfl rfl rfl hg1201) rfl rfl ?_
              refine ops_off rfl (guard_off rfl rfl rfl hg1201) rfl rfl ?_
              refine ops_off rfl (guard_off rfl rfl rfl hg1201) rfl rfl ?_
              refine ops_off rfl (guard_off rfl rfl rfl hg1201) rfl rfl ?_
              refine ops_off rfl (guard_off rfl rfl rfl hg1201) rfl rfl ?_
              refine ops_off rfl (guard_off rfl rfl rfl hg1201) rfl rfl ?_
              have hg1202 : ((!t1196) || (!t1198)) = true := by simp only [hg1201, Bool.and_true, Bool.true_and, Bool.and_false, Bool.false_and, Bool.or_true, Bool.true_or, Bool.or_false, Bool.false_or, Bool.not_true, Bool.not_false, Bool.not_not]
              refine ops_ex (v := .bool ((!t1196) || (!t1198))) rfl (guard_none rfl) rfl rfl (ex_por_t rfl rfl hg1201) ?_
              refine ops_nil ?_
              exact at_meet [(0, .pointer (some ⟨b0, f0, none⟩)), (51, .bool ((!t1196) || (!t1198)))] ⟨rfl, HM⟩ (Sub.cons rfl (Sub.cons rfl Sub.nil))
            · skip
              refine ops_ex rfl (guard_on rfl rfl rfl hg1201) rfl rfl (ex_move rfl rfl) ?_
              refine ops_ex rfl (guard_on rfl rfl rfl hg1201) rfl rfl (ex_nilCheck rfl rfl) ?_
              refine ops_ex rfl (guard_on rfl rfl rfl hg1201) rfl rfl (ex_fieldAddr (off' := f0 + 3) rfl rfl Try.underlying37 rfl tsz35 rfl) ?_
              refine ops_ex rfl (guard_on rfl rfl rfl hg1201) rfl rfl (ex_load1 rfl rfl Try.underlying35 rfl ((HM.at_ hc0) 3 _ rfl)) ?_
              refine ops_ex rfl (guard_on rfl rfl rfl hg1201) rfl rfl (ex_len (d := kOut) (xs := x0.fOuts) rfl rfl Try.underlying35 hp0_1) ?_
              refine ops_does rfl (guard_on rfl rfl rfl hg1201) rfl rfl (does_callk rfl callok136 rfl (spec_l1In.calls (x0 := (x0.fOuts.length : Int)) (x1 := 1) (x2 := 4) (cond_t (not_mk hg1201) h1199))) ?_
              rintro _ w1203 ⟨rfl, hn⟩
              replace HM : Mem w [] w1203 [] := HM.call hn
              refine ops_ex rfl (guard_on rfl rfl rfl hg1201) rfl rfl (ex_not rfl rfl) ?_
              refine ops_ex (v := .bool ((!t1196) || (!t1198))) rfl (guard_none rfl) rfl rfl (ex_por_f rfl rfl hg1201 rfl) ?_
              refine ops_nil ?_
              exact at_meet [(0, .pointer (some ⟨b0, f0, none⟩)), (51, .bool ((!t1196) || (!t1198)))] ⟨rfl, HM⟩ (Sub.cons rfl (Sub.cons rfl Sub.nil))
          · rintro _ w1204 ⟨rfl, HM⟩
            refine at_then ?_
            refine run_cond (b := ((!t1196) || (!t1198))) rfl (fun hb1205 => ?_) (fun hb1205 => ?_)
            · replace H := cond_t hb1205 H
              refine run_seq ?_
              refine run_region rfl ?_
              refine ops_ex rfl (guard_none rfl) rfl rfl (ex_assign rfl rfl) ?_
              refine ops_nil ?_
              refine at_then ?_
              refine run_ret ?_
              refine at_then_ret ?_
              have hR := Option.some.inj H
              subst hR
              exact at_ret1 rfl rfl ⟨_, rfl, rfl, HM⟩
            · replace H := cond_f hb1205 H
              refine run_skip ?_
              refine at_then ?_
              obtain ⟨o1267, ho1268, H⟩ := bind_some H
              refine run_mid (fun ρ_ w_ => Sum.inr () = o1267 ∧ ρ_ = [(0, .pointer (some ⟨b0, f0, none⟩))] ∧ Mem w [] w_ []) ?_ ?_
              · skip
                refine run_seq ?_
                refine run_region rfl ?_
                refine ops_ex rfl (guard_none rfl) rfl rfl (ex_assign rfl rfl) ?_
                refine ops_nil ?_
                refine at_then ?_
                refine run_block ?_
                refine run_loop (fun k_ ρ_ w_ => ∃ a1289 : Int, spec_l3Fault.l0 x0 k_ a1289 = some o1267 ∧ ρ_ = [(0, .pointer (some ⟨b0, f0, none⟩)), (3, .int .i64 a1289)] ∧ Mem w [] w_ []) k (ρ1 := [(0, .pointer (some ⟨b0, f0, none⟩)), (3, .int .i64 0)]) ⟨_, ho1268, rfl, HM⟩ (Sub.cons rfl (Sub.cons rfl Sub.nil)) ?_
                clear HM ho1268
                rintro k1310 _ w1311 ⟨a1289, ho1268, rfl, HM⟩
                obtain _ | k1310 := k1310
                · exact nomatch ((spec_l3Fault.l0_z x0 a1289).symm.trans ho1268)
                replace ho1268 := (spec_l3Fault.l0_s x0 k1310 a1289).symm.trans ho1268
                refine run_seq ?_
                refine run_seq ?_
                refine run_region rfl ?_
                refine ops_ex rfl (guard_none rfl) rfl rfl (ex_move rfl rfl) ?_
                refine ops_ex rfl (guard_none rfl) rfl rfl (ex_move rfl rfl) ?_
                refine ops_ex rfl (guard_none rfl) rfl rfl (ex_nilCheck rfl rfl) ?_
                refine ops_ex rfl (guard_none rfl) rfl rfl (ex_fieldAddr (off' := f0 + 2) rfl rfl Try.underlying37 rfl tsz34 rfl) ?_
                refine ops_ex rfl (guard_none rfl) rfl rfl (ex_load1 rfl rfl Try.underlying34 rfl ((HM.at_ hc0) 2 _ rfl)) ?_
                refine ops_ex rfl (guard_none rfl) rfl rfl (ex_len (d := kRef) (xs := x0.fIns) rfl rfl Try.underlying34 hp0_0) ?_
                refine ops_ex rfl (guard_none rfl) rfl rfl (ex_lss rfl rfl rfl) ?_
                refine ops_nil ?_
                refine at_then ?_
                refine run_cond (b := (decide (a1289 < (x0.fIns.length : Int)))) rfl (fun hb1312 => ?_) (fun hb1312 => ?_)
                · replace ho1268 := cond_t hb1312 ho1268
                  refine run_skip ?_
                  refine at_then ?_
                  refine run_seq ?_
                  refine run_block ?_
                  refine run_seq ?_
                  refine run_seq ?_
                  obtain ⟨e1318, ho1268⟩ := chk_some ho1268
                  obtain ⟨t1320, h1321, ho1268⟩ := bind_some ho1268
                  refine run_region rfl ?_
                  refine ops_ex rfl (guard_none rfl) rfl rfl (ex_move rfl rfl) ?_
                  refine ops_ex rfl (guard_none rfl) rfl rfl (ex_nilCheck rfl rfl) ?_
                  refine ops_ex rfl (guard_none rfl) rfl rfl (ex_fieldAddr (off' := f0 + 2) rfl rfl Try.underlying37 rfl tsz34 rfl) ?_
                  refine ops_ex rfl (guard_none rfl) rfl rfl (ex_load1 rfl rfl Try.underlying34 rfl ((HM.at_ hc0) 2 _ rfl)) ?_
                  refine ops_ex rfl (guard_none rfl) rfl rfl (ex_move rfl rfl) ?_
                  have hc1319 : CellsAt _ (sb p0_0) (so p0_0 + (a1289).toNat * 2) [(.int .i64 ((gt x0.fIns a1289).fTx)), (.int .i64 ((gt x0.fIns a1289).fAt))] := rd_plain hp0_0 e1318
                  refine ops_ex rfl (guard_none rfl) rfl rfl (ex_indexAddr (d := kRef) rfl rfl rfl Try.underlying34 tsz99 hp0_0 (idx_lo e1318) (idx_hi e1318)) ?_
                  refine ops_ex rfl (guard_none rfl) rfl rfl (ex_loadN (cs := [(.int .i64 ((gt x0.fIns a1289).fTx)), (.int .i64 ((gt x0.fIns a1289).fAt))]) rfl rfl Try.underlying99 rfl tsz99 rfl ((HM.at_ hc1319).sub 0 2 rfl)) ?_
                  refine ops_does rfl (guard_none rfl) rfl rfl (does_callk rfl callok127 rfl (spec_l3Ref.calls (x0 := (gt x0.fIns a1289)) h1321)) ?_
                  rintro _ w1322 ⟨rfl, hn⟩
                  replace HM : Mem w [] w1322 [] := HM.call hn
                  refine ops_ex rfl (guard_none rfl) rfl rfl (ex_not rfl rfl) ?_
                  refine ops_nil ?_
                  refine at_then ?_
                  refine run_cond (b := !t1320) rfl (fun hb1323 => ?_) (fun hb1323 => ?_)
                  · replace ho1268 := cond_t hb1323 ho1268
                    refine run_seq ?_
                    refine run_region rfl ?_
                    refine ops_ex rfl (guard_none rfl) rfl rfl (ex_assign rfl rfl) ?_
                    refine ops_nil ?_
                    refine at_then ?_
                    refine run_ret ?_
                    refine at_then_ret ?_
                    refine at_block_ret ?_
                    refine at_then_ret ?_
                    refine at_then_ret ?_
                    refine at_block_ret ?_
                    refine at_then_ret ?_
                    have hR := Option.some.inj ho1268
                    subst hR
                    have hT := thn_inl H
                    have hR := Option.some.inj hT
                    subst hR
                    exact at_ret1 rfl rfl ⟨_, rfl, rfl, HM⟩
                  · replace ho1268 := cond_f hb1323 ho1268
                    refine run_skip ?_
                    refine at_then ?_
                    refine run_seq ?_
                    obtain ⟨e1324, ho1268⟩ := chk_some ho1268
                    obtain ⟨e1328, ho1268⟩ := chk_some ho1268
                    obtain ⟨t1330, h1331, ho1268⟩ := bind_some ho1268
                    refine run_drawf (fun w_ => Mem w [] w_ []) [(0, true), (1, true), (2, true), (3, true), (4, true), (5, true), (6, true), (7, true), (8, true), (9, true), (10, true), (11, true), (12, true), (13, false)] mixed rfl rfl (by kernel_rfl) ?_
                    replace HM := HM.grow (fr_drew _)
                    have hS := Mem.suf (M := []) HM
                    refine drwp_take rfl (guard_none rfl) rfl rfl (fun w_ hS_ => (ex_move rfl rfl)) hS ?_
                    refine drwp_take rfl (guard_none rfl) rfl rfl (fun w_ hS_ => (ex_nilCheck rfl rfl)) hS ?_
                    refine drwp_take rfl (guard_none rfl) rfl rfl (fun w_ hS_ => (ex_fieldAddr (off' := f0 + 2) rfl rfl Try.underlying37 rfl tsz34 rfl)) hS ?_
                    refine drwp_take rfl (guard_none rfl) rfl rfl (fun w_ hS_ => (ex_load1 rfl rfl Try.underlying34 rfl ((hS_.at_ hc0) 2 _ rfl))) hS ?_
                    refine drwp_take rfl (guard_none rfl) rfl rfl (fun w_ hS_ => (ex_move rfl rfl)) hS ?_
                    refine drwp_takeE rfl (guard_none rfl) rfl rfl (ex_cutH kRef rfl rfl rfl Try.underlying34 tsz99 hp0_0 e1324) hS ?_
                    intro u1325 hr1327
                    refine drwp_take rfl (guard_none rfl) rfl rfl (fun w_ hS_ => (ex_move rfl rfl)) hS ?_
                    refine drwp_take rfl (guard_none rfl) rfl rfl (fun w_ hS_ => (ex_nilCheck rfl rfl)) hS ?_
                    refine drwp_take rfl (guard_none rfl) rfl rfl (fun w_ hS_ => (ex_fieldAddr (off' := f0 + 2) rfl rfl Try.underlying37 rfl tsz34 rfl)) hS ?_
                    refine drwp_take rfl (guard_none rfl) rfl rfl (fun w_ hS_ => (ex_load1 rfl rfl Try.underlying34 rfl ((hS_.at_ hc0) 2 _ rfl))) hS ?_
                    refine drwp_take rfl (guard_none rfl) rfl rfl (fun w_ hS_ => (ex_move rfl rfl)) hS ?_
                    have hc1329 : CellsAt _ (sb p0_0) (so p0_0 + (a1289).toNat * 2) [(.int .i64 ((gt x0.fIns a1289).fTx)), (.int .i64 ((gt x0.fIns a1289).fAt))] := rd_plain hp0_0 e1328
                    refine drwp_take rfl (guard_none rfl) rfl rfl (fun w_ hS_ => (ex_indexAddr (d := kRef) rfl rfl rfl Try.underlying34 tsz99 hp0_0 (idx_lo e1328) (idx_hi e1328))) hS ?_
                    refine drwp_take rfl (guard_none rfl) rfl rfl (fun w_ hS_ => (ex_loadN (cs := [(.int .i64 ((gt x0.fIns a1289).fTx)), (.int .i64 ((gt x0.fIns a1289).fAt))]) rfl rfl Try.underlying99 rfl tsz99 rfl ((hS_.at_ hc1329).sub 0 2 rfl))) hS ?_
                    refine drwp_one rfl (guard_none rfl) rfl rfl (does_callk rfl callok138 rfl (spec_l3Among.calls (x0 := x0.fIns.take (a1289).toNat) (x1 := (gt x0.fIns a1289)) (HM.rd hr1327) h1331)) ?_
                    rintro _ w1332 ⟨rfl, hn⟩
                    replace HM : Mem w [] w1332 [] := HM.call hn
                    refine ⟨Mem.suf (M := []) HM, ?_⟩
                    have hS := Mem.suf (M := []) HM
                    refine drwp_done ?_
                    refine at_then ?_
                    refine run_cond (b := t1330) rfl (fun hb1333 => ?_) (fun hb1333 => ?_)
                    · replace ho1268 := cond_t hb1333 ho1268
                      refine run_seq ?_
                      refine run_region rfl ?_
                      refine ops_ex rfl (guard_none rfl) rfl rfl (ex_assign rfl rfl) ?_
                      refine ops_nil ?_
                      refine at_then ?_
                      refine run_ret ?_
                      refine at_block_ret ?_
                      refine at_then_ret ?_
                      refine at_then_ret ?_
                      refine at_block_ret ?_
                      refine at_then_ret ?_
                      have hR := Option.some.inj ho1268
                      subst hR
                      have hT := thn_inl H
                      have hR := Option.some.inj hT
                      subst hR
                      exact at_ret1 rfl rfl ⟨_, rfl, rfl, HM⟩
                    · replace ho1268 := cond_f hb1333 ho1268
                      refine run_skip ?_
                      refine at_block ?_
                      refine at_then ?_
                      refine run_region rfl ?_
                      refine ops_ex rfl (guard_none rfl) rfl rfl (ex_move rfl rfl) ?_
                      refine ops_ex rfl (guard_none rfl) rfl rfl (ex_add rfl rfl rfl) ?_
                      refine ops_ex rfl (guard_none rfl) rfl rfl (ex_assign rfl rfl) ?_
                      refine ops_nil ?_
                      exact at_again k1310 (ρ1 := [(0, .pointer (some ⟨b0, f0, none⟩)), (3, .int .i64 (wrap64 (a1289 + 1)))]) (Nat.lt_succ_self _) ⟨_, ho1268, rfl, HM⟩ (Sub.cons rfl (Sub.cons rfl Sub.nil))
                · replace ho1268 := cond_f hb1312 ho1268
                  refine run_exit ?_
                  refine at_then_exit ?_
                  refine at_then_exit ?_
                  refine at_block_exit ?_
                  exact at_mid (ρ' := [(0, .pointer (some ⟨b0, f0, none⟩))]) ⟨(Option.some.inj ho1268), rfl, HM⟩ (Sub.cons rfl Sub.nil)
              · rintro _ w1334 ⟨rfl, rfl, HM⟩
                replace H := (thn_inr H)
                refine run_seq ?_
                obtain ⟨t1335, h1336, H⟩ := bind_some H
                refine run_region rfl ?_
                refine ops_ex rfl (guard_none rfl) rfl rfl (ex_move rfl rfl) ?_
                refine ops_does rfl (guard_none rfl) rfl rfl (does_callk rfl callok139 rfl (spec_l3Outs.calls (x0 := x0) (HM.at_ hc0) (HM.rd hp0_0) (HM.rd hp0_1) h1336)) ?_
                rintro _ w1337 ⟨rfl, hn⟩
                replace HM : Mem w [] w1337 [] := HM.call hn
                refine ops_ex rfl (guard_none rfl) rfl rfl (ex_assign rfl rfl) ?_
                refine ops_nil ?_
                refine at_then ?_
                refine run_ret ?_
                have hR := Option.some.inj H
                subst hR
                exact at_ret1 rfl rfl ⟨_, rfl, rfl, HM⟩
end Go.Proofs.Ytoiacoiccpiciaa.Zk
