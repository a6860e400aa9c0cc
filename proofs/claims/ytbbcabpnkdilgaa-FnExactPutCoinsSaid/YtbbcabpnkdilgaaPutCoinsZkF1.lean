/- What functions of the program compute, each as a plain function, and that they do. Conditions: as each theorem states them. -/
import Derived.Test.YtbbcabpnkdilgaaPutCoinsZkF0
namespace Go.Proofs.Ytbbcabpnkdilgaa.Zk
open Go Go.RowKit Go.IntWalk Go.Proofs
set_option linter.unusedVariables false
set_option linter.unusedSimpArgs false
set_option maxRecDepth 100000
set_option maxHeartbeats 4000000
def laws_toOutS.l0 (x0 : List Out) : Nat → (List Out) → Int → Option ((List Out))
  | 0, _, _ => none
  | k + 1, a673, a675 => (bif (decide (a675 < (x0.length : Int))) then (chk (idxOk a675 x0.length) ((laws_toOut.f k (gt x0 a675)).bind fun t693 => (chk (idxOk a675 a673.length) (laws_toOutS.l0 x0 k (a673.set (a675).toNat t693) (wrap64 (a675 + 1)))))) else some a673)
theorem laws_toOutS.l0_z (x0 : List Out) (a673 : List Out) (a675 : Int) : laws_toOutS.l0 x0 0 a673 a675 = none := rfl
theorem laws_toOutS.l0_s (x0 : List Out) (k : Nat) (a673 : List Out) (a675 : Int) : laws_toOutS.l0 x0 (k + 1) a673 a675 = (bif (decide (a675 < (x0.length : Int))) then (chk (idxOk a675 x0.length) ((laws_toOut.f k (gt x0 a675)).bind fun t693 => (chk (idxOk a675 a673.length) (laws_toOutS.l0 x0 k (a673.set (a675).toNat t693) (wrap64 (a675 + 1)))))) else some a673) := rfl
def laws_toOutS.f (k : Nat) (x0 : List Out) : Option ((List Out)) := (chk (decide (0 ≤ (x0.length : Int))) (chk (leB (((x0.length : Int)).toNat * 48) 281474976710656) ((laws_toOutS.l0 x0 k (List.replicate ((x0.length : Int)).toNat (⟨0, (⟨[], 0, 0⟩ : Rule)⟩ : Out)) 0).bind (fun a658 => some a658))))
theorem laws_toOutS.calls {k : Nat} {x0 : List Out} {p0 : Value} {w : World} (hp0 : RdS kOut w p0 x0) {r : (List Out)} (H : laws_toOutS.f k x0 = some r) :
    Calls Try.prog 39 ([p0] : List Value).toArray w (fun e w_ => ∃ v, e = .returned v ∧ ∃ u0 : Value, v = u0 ∧ Mem w [] w_ [own kOut 69 u0 r]) := by
  have HM := Mem.start w
  refine calls_run (N := 23) Try.func39 rfl rfl rfl rfl ?_
  unfold laws_toOutS.f at H
  refine run_seq ?_
  refine run_region rfl ?_
  refine ops_ex rfl (guard_none rfl) rfl rfl (ex_assign rfl rfl) ?_
  refine ops_nil ?_
  refine at_then ?_
  refine run_seq ?_
  obtain ⟨e620, H⟩ := chk_some H
  obtain ⟨e621, H⟩ := chk_some H
  refine run_region rfl ?_
  refine ops_ex rfl (guard_none rfl) rfl rfl (ex_move rfl rfl) ?_
  refine ops_ex rfl (guard_none rfl) rfl rfl (ex_len (d := kOut) (xs := x0) rfl rfl Try.underlying47 hp0) ?_
  refine ops_does rfl (guard_none rfl) rfl rfl (does_make (x := (⟨0, (⟨[], 0, 0⟩ : Rule)⟩ : Out)) kOut rfl rfl rfl Try.underlying26 tsz69 tby69 tz69 rfl rfl (fun _ => ⟨.slice none 0 0, rfl, OwS.nil _ _ _ _⟩) (of_decide_eq_true e620) rfl (leB_le e621) rfl HM) ?_
  rintro v617 w622 HM
  refine ops_ex rfl (guard_none rfl) rfl rfl (ex_assign rfl rfl) ?_
  refine ops_nil ?_
  refine at_then ?_
  obtain ⟨o660, ho661, H⟩ := bind_some H
  refine run_mid (fun ρ_ w_ => ∃ v657 : Value, ∃ a658 : List Out, a658 = o660 ∧ ρ_ = [(3, v657)] ∧ Mem w [] w_ [own kOut 69 v657 a658]) ?_ ?_
  · clear H
    refine run_seq ?_
    refine run_region rfl ?_
    refine ops_ex rfl (guard_none rfl) rfl rfl (ex_assign rfl rfl) ?_
    refine ops_nil ?_
    refine at_then ?_
    refine run_block ?_
    refine run_loop (fun k_ ρ_ w_ => ∃ v672 : Value, ∃ a673 : List Out, ∃ a675 : Int, laws_toOutS.l0 x0 k_ a673 a675 = some o660 ∧ ρ_ = [(0, p0), (3, v672), (4, .int .i64 a675)] ∧ Mem w [] w_ [own kOut 69 v672 a673]) k (ρ1 := [(0, p0), (3, v617), (4, .int .i64 0)]) ⟨_, _, _, ho661, rfl, HM⟩ (Sub.cons rfl (Sub.cons rfl (Sub.cons rfl Sub.nil))) ?_
    clear HM ho661
    rintro k686 _ w687 ⟨v672, a673, a675, ho661, rfl, HM⟩
    obtain _ | k686 := k686
    · exact nomatch ((laws_toOutS.l0_z x0 a673 a675).symm.trans ho661)
    replace ho661 := (laws_toOutS.l0_s x0 k686 a673 a675).symm.trans ho661
    refine run_seq ?_
    refine run_seq ?_
    refine run_region rfl ?_
    refine ops_ex rfl (guard_none rfl) rfl rfl (ex_move rfl rfl) ?_
    refine ops_ex rfl (guard_none rfl) rfl rfl (ex_move rfl rfl) ?_
    refine ops_ex rfl (guard_none rfl) rfl rfl (ex_len (d := kOut) (xs := x0) rfl rfl Try.underlying47 hp0) ?_
    refine ops_ex rfl (guard_none rfl) rfl rfl (ex_lss rfl rfl rfl) ?_
    refine ops_nil ?_
    refine at_then ?_
    refine run_cond (b := (decide (a675 < (x0.length : Int)))) rfl (fun hb688 => ?_) (fun hb688 => ?_)
    · replace ho661 := cond_t hb688 ho661
      refine run_skip ?_
      refine at_then ?_
      refine run_seq ?_
      refine run_block ?_
      obtain ⟨e689, ho661⟩ := chk_some ho661
      obtain ⟨t693, h694, ho661⟩ := bind_some ho661
      obtain ⟨e697, ho661⟩ := chk_some ho661
      refine run_region rfl ?_
      refine ops_ex rfl (guard_none rfl) rfl rfl (ex_move rfl rfl) ?_
      refine ops_ex rfl (guard_none rfl) rfl rfl (ex_move rfl rfl) ?_
      refine ops_ex rfl (guard_none rfl) rfl rfl (ex_move rfl rfl) ?_
      refine ops_ex rfl (guard_none rfl) rfl rfl (ex_move rfl rfl) ?_
      obtain ⟨kv691, hc690, hk692⟩ : ∃ u, CellsAt _ (sb p0) (so p0 + (a675).toNat * 4) [(.int .i64 ((gt x0 a675).fValue)), u, (.int .i64 ((gt x0 a675).fRule.fNeed)), (.int .i64 ((gt x0 a675).fRule.fAfter))] ∧ RdS kInt _ u ((gt x0 a675).fRule.fKeys) := rd_with1 hp0 e689
      refine ops_ex rfl (guard_none rfl) rfl rfl (ex_indexAddr (d := kOut) rfl rfl rfl Try.underlying47 tsz141 hp0 (idx_lo e689) (idx_hi e689)) ?_
      refine ops_ex rfl (guard_none rfl) rfl rfl (ex_loadN (cs := [(.int .i64 ((gt x0 a675).fValue)), kv691, (.int .i64 ((gt x0 a675).fRule.fNeed)), (.int .i64 ((gt x0 a675).fRule.fAfter))]) rfl rfl Try.underlying141 rfl tsz141 rfl ((HM.at_ hc690).sub 0 4 rfl)) ?_
      refine ops_does rfl (guard_none rfl) rfl rfl (does_callk rfl callok98 rfl (laws_toOut.calls (x0 := (gt x0 a675)) (HM.rd hk692) h694)) ?_
      rintro _ w698 ⟨u695, rfl, hn⟩
      replace HM : Mem w [] w698 [own kInt 2 u695 t693.fRule.fKeys, own kOut 69 v672 a673] := HM.call hn
      refine ops_ex rfl (guard_none rfl) rfl rfl (ex_indexAddr (d := kOut) rfl rfl rfl Try.underlying26 tsz69 (HM.own_rd 1 rfl) (idx_lo e697) (idx_hi e697)) ?_
      replace HM := HM.front 1 rfl rfl
      refine ops_doesS rfl (guard_none rfl) rfl (does_setElem (vs := [(.int .i64 t693.fValue), u695, (.int .i64 t693.fRule.fNeed), (.int .i64 t693.fRule.fAfter)]) (y := t693) kOut rfl rfl rfl rfl rfl tsz69 rfl rfl (idx_nat e697) (fun _ _ h => ⟨_, rfl, h⟩) HM) ?_
      rintro w699 HM
      refine ops_nil ?_
      refine at_block ?_
      refine at_then ?_
      refine run_region rfl ?_
      refine ops_ex rfl (guard_none rfl) rfl rfl (ex_move rfl rfl) ?_
      refine ops_ex rfl (guard_none rfl) rfl rfl (ex_add rfl rfl rfl) ?_
      refine ops_ex rfl (guard_none rfl) rfl rfl (ex_assign rfl rfl) ?_
      refine ops_nil ?_
      exact at_again k686 (ρ1 := [(0, p0), (3, v672), (4, .int .i64 (wrap64 (a675 + 1)))]) (Nat.lt_succ_self _) ⟨_, _, _, ho661, rfl, HM⟩ (Sub.cons rfl (Sub.cons rfl (Sub.cons rfl Sub.nil)))
    · replace ho661 := cond_f hb688 ho661
      refine run_exit ?_
      refine at_then_exit ?_
      refine at_then_exit ?_
      refine at_block_exit ?_
      exact at_mid (ρ' := [(3, v672)]) ⟨_, _, (Option.some.inj ho661), rfl, HM⟩ (Sub.cons rfl Sub.nil)
  · rintro _ w700 ⟨v657, a658, rfl, rfl, HM⟩
    refine run_seq ?_
    refine run_region rfl ?_
    refine ops_ex rfl (guard_none rfl) rfl rfl (ex_move rfl rfl) ?_
    refine ops_ex rfl (guard_none rfl) rfl rfl (ex_assign rfl rfl) ?_
    refine ops_nil ?_
    refine at_then ?_
    refine run_ret ?_
    have hR := Option.some.inj H
    subst hR
    exact at_ret1 rfl rfl ⟨_, rfl, _, rfl, HM⟩

def spec_l1In.f (k : Nat) (x0 : Int) (x1 : Int) (x2 : Int) : Option Bool := some ((decide (x1 ≤ x0)) && (decide (x0 ≤ x2)))
theorem spec_l1In.calls {k : Nat} {x0 : Int} {x1 : Int} {x2 : Int}  {w : World}  {r : Bool} (H : spec_l1In.f k x0 x1 x2 = some r) :
    Calls Try.prog 58 ([.int .i64 x0, .int .i64 x1, .int .i64 x2] : List Value).toArray w (fun e w_ => ∃ v, e = .returned v ∧ v = (.bool r) ∧ Mem w [] w_ []) := by
  have HM := Mem.start w
  refine calls_run (N := 15) Try.func58 rfl rfl rfl rfl ?_
  unfold spec_l1In.f at H
  refine run_seq ?_
  refine run_region rfl ?_
  refine ops_ex rfl (guard_none rfl) rfl rfl (ex_assign rfl rfl) ?_
  refine ops_nil ?_
  refine at_then ?_
  refine run_seq ?_
  refine run_meet (fun ρ_ w_ => ρ_ = [(6, .bool ((decide (x1 ≤ x0)) && (decide (x0 ≤ x2))))] ∧ Mem w [] w_ []) ?_ ?_
  · skip
    refine run_region rfl ?_
    refine ops_ex rfl (guard_none rfl) rfl rfl (ex_move rfl rfl) ?_
    refine ops_ex rfl (guard_none rfl) rfl rfl (ex_move rfl rfl) ?_
    refine ops_ex rfl (guard_none rfl) rfl rfl (ex_geq rfl rfl rfl) ?_
    refine ops_ex rfl (guard_none rfl) rfl rfl (ex_move rfl rfl) ?_
    refine bool_cases (decide (x1 ≤ x0)) (fun hg718 => ?_) (fun hg718 => ?_)
    · skip
      refine ops_ex rfl (guard_on rfl rfl rfl hg718) rfl rfl (ex_move rfl rfl) ?_
      refine ops_ex rfl (guard_on rfl rfl rfl hg718) rfl rfl (ex_move rfl rfl) ?_
      refine ops_ex rfl (guard_on rfl rfl rfl hg718) rfl rfl (ex_leq rfl rfl rfl) ?_
      refine ops_ex (v := .bool ((decide (x1 ≤ x0)) && (decide (x0 ≤ x2)))) rfl (guard_none rfl) rfl rfl (ex_pand_t rfl rfl hg718 rfl) ?_
      refine ops_ex rfl (guard_none rfl) rfl rfl (ex_assign rfl rfl) ?_
      refine ops_nil ?_
      exact at_meet [(6, .bool ((decide (x1 ≤ x0)) && (decide (x0 ≤ x2))))] ⟨rfl, HM⟩ (Sub.cons rfl Sub.nil)
    · skip
      refine ops_off rfl (guard_off rfl rfl rfl hg718) rfl rfl ?_
      refine ops_off rfl (guard_off rfl rfl rfl hg718) rfl rfl ?_
      refine ops_off rfl (guard_off rfl rfl rfl hg718) rfl rfl ?_
      have hg719 : ((decide (x1 ≤ x0)) && (decide (x0 ≤ x2))) = false := by simp only [hg718, Bool.and_true, Bool.true_and, Bool.and_false, Bool.false_and, Bool.or_true, Bool.true_or, Bool.or_false, Bool.false_or, Bool.not_true, Bool.not_false, Bool.not_not]
      refine ops_ex (v := .bool ((decide (x1 ≤ x0)) && (decide (x0 ≤ x2)))) rfl (guard_none rfl) rfl rfl (ex_pand_f rfl rfl hg718) ?_
      refine ops_ex rfl (guard_none rfl) rfl rfl (ex_assign rfl rfl) ?_
      refine ops_nil ?_
      exact at_meet [(6, .bool ((decide (x1 ≤ x0)) && (decide (x0 ≤ x2))))] ⟨rfl, HM⟩ (Sub.cons rfl Sub.nil)
  · rintro _ w720 ⟨rfl, HM⟩
    refine at_then ?_
    refine run_ret ?_
    have hR := Option.some.inj H
    subst hR
    exact at_ret1 rfl rfl ⟨_, rfl, rfl, HM⟩

def spec_l3Ref.f (k : Nat) (x0 : Ref) : Option Bool := ((spec_l1In.f k x0.fTx 1 60).bind fun t729 => ((bif t729 then spec_l1In.f k x0.fAt 0 3 else some default).bind fun t731 => some (t729 && t731)))
theorem spec_l3Ref.calls {k : Nat} {x0 : Ref}  {w : World}  {r : Bool} (H : spec_l3Ref.f k x0 = some r) :
    Calls Try.prog 117 ([.agg #[(.int .i64 x0.fTx), (.int .i64 x0.fAt)]] : List Value).toArray w (fun e w_ => ∃ v, e = .returned v ∧ v = (.bool r) ∧ Mem w [] w_ []) := by
  have HM := Mem.start w
  refine calls_run (N := 11) Try.func117 rfl rfl rfl rfl ?_
  unfold spec_l3Ref.f at H
  refine run_seq ?_
  refine run_region rfl ?_
  refine ops_does rfl (guard_none rfl) rfl rfl (does_box (cs := [.int .i64 x0.fTx, .int .i64 x0.fAt]) rfl rfl rfl HM) ?_
  rintro _ w728 ⟨b725, rfl, HM⟩
  refine ops_ex rfl (guard_none rfl) rfl rfl (ex_assign rfl rfl) ?_
  refine ops_nil ?_
  refine at_then ?_
  refine run_seq ?_
  obtain ⟨t729, h730, H⟩ := bind_some H
  obtain ⟨t731, h732, H⟩ := bind_some H
  refine run_meet (fun ρ_ w_ => ρ_ = [(2, .bool (t729 && t731))] ∧ Mem w [] w_ []) ?_ ?_
  · skip
    refine run_region rfl ?_
    refine ops_ex rfl (guard_none rfl) rfl rfl (ex_fieldAddr (off' := 0) rfl rfl Try.underlying36 rfl tsz2 rfl) ?_
    refine ops_ex rfl (guard_none rfl) rfl rfl (ex_load1 rfl rfl Try.underlying2 rfl ((HM.box_at 0 rfl) 0 _ rfl)) ?_
    refine ops_does rfl (guard_none rfl) rfl rfl (does_callk rfl callok58 rfl (spec_l1In.calls (x0 := x0.fTx) (x1 := 1) (x2 := 60) h730)) ?_
    rintro _ w733 ⟨rfl, hn⟩
    replace HM : Mem w [] w733 [box b725 36 [.int .i64 x0.fTx, .int .i64 x0.fAt]] := HM.call hn
    refine ops_ex rfl (guard_none rfl) rfl rfl (ex_move rfl rfl) ?_
    refine bool_cases t729 (fun hg734 => ?_) (fun hg734 => ?_)
    · skip
      refine ops_ex rfl (guard_on rfl rfl rfl hg734) rfl rfl (ex_fieldAddr (off' := 1) rfl rfl Try.underlying36 rfl tsz2 rfl) ?_
      refine ops_ex rfl (guard_on rfl rfl rfl hg734) rfl rfl (ex_load1 rfl rfl Try.underlying2 rfl ((HM.box_at 0 rfl) 1 _ rfl)) ?_
      refine ops_does rfl (guard_on rfl rfl rfl hg734) rfl rfl (does_callk rfl callok58 rfl (spec_l1In.calls (x0 := x0.fAt) (x1 := 0) (x2 := 3) (cond_t hg734 h732))) ?_
      rintro _ w735 ⟨rfl, hn⟩
      replace HM : Mem w [] w735 [box b725 36 [.int .i64 x0.fTx, .int .i64 x0.fAt]] := HM.call hn
      refine ops_ex (v := .bool (t729 && t731)) rfl (guard_none rfl) rfl rfl (ex_pand_t rfl rfl hg734 rfl) ?_
      refine ops_ex rfl (guard_none rfl) rfl rfl (ex_assign rfl rfl) ?_
      refine ops_nil ?_
      replace HM := (HM.front 0 rfl rfl).drop
      exact at_meet [(2, .bool (t729 && t731))] ⟨rfl, HM⟩ (Sub.cons rfl Sub.nil)
    · skip
      refine ops_off rfl (guard_off rfl rfl rfl hg734) rfl rfl ?_
      refine ops_off rfl (guard_off rfl rfl rfl hg734) rfl rfl ?_
      refine ops_off rfl (guard_off rfl rfl rfl hg734) rfl rfl ?_
      have hg736 : (t729 && t731) = false := by simp only [hg734, Bool.and_true, Bool.true_and, Bool.and_false, Bool.false_and, Bool.or_true, Bool.true_or, Bool.or_false, Bool.false_or, Bool.not_true, Bool.not_false, Bool.not_not]
      refine ops_ex (v := .bool (t729 && t731)) rfl (guard_none rfl) rfl rfl (ex_pand_f rfl rfl hg734) ?_
      refine ops_ex rfl (guard_none rfl) rfl rfl (ex_assign rfl rfl) ?_
      refine ops_nil ?_
      replace HM := (HM.front 0 rfl rfl).drop
      exact at_meet [(2, .bool (t729 && t731))] ⟨rfl, HM⟩ (Sub.cons rfl Sub.nil)
  · rintro _ w737 ⟨rfl, HM⟩
    refine at_then ?_
    refine run_ret ?_
    have hR := Option.some.inj H
    subst hR
    exact at_ret1 rfl rfl ⟨_, rfl, rfl, HM⟩

def spec_l2Height.f (k : Nat) (x0 : Int) : Option Bool := ((spec_l1In.f k x0 0 999).bind fun t746 => some t746)
theorem spec_l2Height.calls {k : Nat} {x0 : Int}  {w : World}  {r : Bool} (H : spec_l2Height.f k x0 = some r) :
    Calls Try.prog 79 ([.int .i64 x0] : List Value).toArray w (fun e w_ => ∃ v, e = .returned v ∧ v = (.bool r) ∧ Mem w [] w_ []) := by
  have HM := Mem.start w
  refine calls_run (N := 5) Try.func79 rfl rfl rfl rfl ?_
  unfold spec_l2Height.f at H
  refine run_seq ?_
  refine run_region rfl ?_
  refine ops_ex rfl (guard_none rfl) rfl rfl (ex_assign rfl rfl) ?_
  refine ops_nil ?_
  refine at_then ?_
  refine run_seq ?_
  obtain ⟨t746, h747, H⟩ := bind_some H
  refine run_region rfl ?_
  refine ops_ex rfl (guard_none rfl) rfl rfl (ex_move rfl rfl) ?_
  refine ops_does rfl (guard_none rfl) rfl rfl (does_callk rfl callok58 rfl (spec_l1In.calls (x0 := x0) (x1 := 0) (x2 := 999) h747)) ?_
  rintro _ w748 ⟨rfl, hn⟩
  replace HM : Mem w [] w748 [] := HM.call hn
  refine ops_ex rfl (guard_none rfl) rfl rfl (ex_assign rfl rfl) ?_
  refine ops_nil ?_
  refine at_then ?_
  refine run_ret ?_
  have hR := Option.some.inj H
  subst hR
  exact at_ret1 rfl rfl ⟨_, rfl, rfl, HM⟩

def spec_l1Key.f (k : Nat) (x0 : Int) : Option Bool := ((spec_l1In.f k x0 1 999).bind fun t786 => some t786)
theorem spec_l1Key.calls {k : Nat} {x0 : Int}  {w : World}  {r : Bool} (H : spec_l1Key.f k x0 = some r) :
    Calls Try.prog 116 ([.int .i64 x0] : List Value).toArray w (fun e w_ => ∃ v, e = .returned v ∧ v = (.bool r) ∧ Mem w [] w_ []) := by
  have HM := Mem.start w
  refine calls_run (N := 5) Try.func116 rfl rfl rfl rfl ?_
  unfold spec_l1Key.f at H
  refine run_seq ?_
  refine run_region rfl ?_
  refine ops_ex rfl (guard_none rfl) rfl rfl (ex_assign rfl rfl) ?_
  refine ops_nil ?_
  refine at_then ?_
  refine run_seq ?_
  obtain ⟨t786, h787, H⟩ := bind_some H
  refine run_region rfl ?_
  refine ops_ex rfl (guard_none rfl) rfl rfl (ex_move rfl rfl) ?_
  refine ops_does rfl (guard_none rfl) rfl rfl (does_callk rfl callok58 rfl (spec_l1In.calls (x0 := x0) (x1 := 1) (x2 := 999) h787)) ?_
  rintro _ w788 ⟨rfl, hn⟩
  replace HM : Mem w [] w788 [] := HM.call hn
  refine ops_ex rfl (guard_none rfl) rfl rfl (ex_assign rfl rfl) ?_
  refine ops_nil ?_
  refine at_then ?_
  refine run_ret ?_
  have hR := Option.some.inj H
  subst hR
  exact at_ret1 rfl rfl ⟨_, rfl, rfl, HM⟩

def spec_l2Fault.l0 (x0 : Rule) : Nat → Int → Option (Int ⊕ Unit)
  | 0, _ => none
  | k + 1, a872 => (bif (decide (a872 < (x0.fKeys.length : Int))) then (chk (idxOk a872 x0.fKeys.length) ((spec_l1Key.f k (gt x0.fKeys a872)).bind fun t884 => (bif !t884 then some (.inl 3) else spec_l2Fault.l0 x0 k (wrap64 (a872 + 1))))) else some (.inr ()))
theorem spec_l2Fault.l0_z (x0 : Rule) (a872 : Int) : spec_l2Fault.l0 x0 0 a872 = none := rfl
theorem spec_l2Fault.l0_s (x0 : Rule) (k : Nat) (a872 : Int) : spec_l2Fault.l0 x0 (k + 1) a872 = (bif (decide (a872 < (x0.fKeys.length : Int))) then (chk (idxOk a872 x0.fKeys.length) ((spec_l1Key.f k (gt x0.fKeys a872)).bind fun t884 => (bif !t884 then some (.inl 3) else spec_l2Fault.l0 x0 k (wrap64 (a872 + 1))))) else some (.inr ())) := rfl
def spec_l2Fault.l1 (x0 : Rule) : Nat → Int → Option (Int ⊕ Unit)
  | 0, _ => none
  | k + 1, a931 => (bif (decide (a931 < (x0.fKeys.length : Int))) then (chk (idxOk a931 x0.fKeys.length) (chk (idxOk (wrap64 (a931 - 1)) x0.fKeys.length) (bif (decide ((gt x0.fKeys a931) ≤ (gt x0.fKeys (wrap64 (a931 - 1))))) then some (.inl 1) else spec_l2Fault.l1 x0 k (wrap64 (a931 + 1))))) else some (.inr ()))
theorem spec_l2Fault.l1_z (x0 : Rule) (a931 : Int) : spec_l2Fault.l1 x0 0 a931 = none := rfl
theorem spec_l2Fault.l1_s (x0 : Rule) (k : Nat) (a931 : Int) : spec_l2Fault.l1 x0 (k + 1) a931 = (bif (decide (a931 < (x0.fKeys.length : Int))) then (chk (idxOk a931 x0.fKeys.length) (chk (idxOk (wrap64 (a931 - 1)) x0.fKeys.length) (bif (decide ((gt x0.fKeys a931) ≤ (gt x0.fKeys (wrap64 (a931 - 1))))) then some (.inl 1) else spec_l2Fault.l1 x0 k (wrap64 (a931 + 1))))) else some (.inr ())) := rfl
def spec_l2Fault.f (k : Nat) (x0 : Rule) : Option Int := ((spec_l1In.f k (x0.fKeys.length : Int) 1 3).bind fun t841 => (bif !t841 then some 2 else ((spec_l2Fault.l0 x0 k 0).bind fun o864 => thn o864 (fun r => some r) (fun _ => ((spec_l1In.f k x0.fNeed 1 (x0.fKeys.length : Int)).bind fun t894 => ((bif (!(!t894)) then spec_l2Height.f k x0.fAfter else some default).bind fun t896 => (bif ((!t894) || (!t896)) then some 3 else ((spec_l2Fault.l1 x0 k 1).bind fun o923 => thn o923 (fun r => some r) (fun _ => some 0)))))))))
theorem spec_l2Fault.calls {k : Nat} {x0 : Rule} {b0 f0 : Nat} {p0_0 : Value} {w : World} (hc0 : CellsAt w b0 f0 [p0_0, .int .i64 x0.fNeed, .int .i64 x0.fAfter]) (hp0_0 : RdS kInt w p0_0 x0.fKeys) {r : Int} (H : spec_l2Fault.f k x0 = some r) :
    Calls Try.prog 132 ([.pointer (some ⟨b0, f0, none⟩)] : List Value).toArray w (fun e w_ => ∃ v, e = .returned v ∧ v = (.int .i64 r) ∧ Mem w [] w_ []) := by
  have HM := Mem.start w
  refine calls_run (N := 72) Try.func132 rfl rfl rfl rfl ?_
  unfold spec_l2Fault.f at H
  refine run_seq ?_
  refine run_region rfl ?_
  refine ops_ex rfl (guard_none rfl) rfl rfl (ex_assign rfl rfl) ?_
  refine ops_nil ?_
  refine at_then ?_
  refine run_seq ?_
  refine run_region rfl ?_
  refine ops_ex rfl (guard_none rfl) rfl rfl (ex_move rfl rfl) ?_
  refine ops_ex rfl (guard_none rfl) rfl rfl (ex_nilCheck rfl rfl) ?_
  refine ops_ex rfl (guard_none rfl) rfl rfl (ex_fieldAddr (off' := f0) rfl rfl Try.underlying67 rfl tsz39 rfl) ?_
  refine ops_ex rfl (guard_none rfl) rfl rfl (ex_load1 rfl rfl Try.underlying39 rfl ((HM.at_ hc0) 0 _ rfl)) ?_
  refine ops_ex rfl (guard_none rfl) rfl rfl (ex_len (d := kInt) (xs := x0.fKeys) rfl rfl Try.underlying39 hp0_0) ?_
  refine ops_ex rfl (guard_none rfl) rfl rfl (ex_assign rfl rfl) ?_
  refine ops_nil ?_
  refine at_then ?_
  refine run_seq ?_
  refine run_seq ?_
  obtain ⟨t841, h842, H⟩ := bind_some H
  refine run_region rfl ?_
  refine ops_ex rfl (guard_none rfl) rfl rfl (ex_move rfl rfl) ?_
  refine ops_does rfl (guard_none rfl) rfl rfl (does_callk rfl callok58 rfl (spec_l1In.calls (x0 := (x0.fKeys.length : Int)) (x1 := 1) (x2 := 3) h842)) ?_
  rintro _ w843 ⟨rfl, hn⟩
  replace HM : Mem w [] w843 [] := HM.call hn
  refine ops_ex rfl (guard_none rfl) rfl rfl (ex_not rfl rfl) ?_
  refine ops_nil ?_
  refine at_then ?_
  refine run_cond (b := !t841) rfl (fun hb844 => ?_) (fun hb844 => ?_)
  · replace H := cond_t hb844 H
    refine run_seq ?_
    refine run_region rfl ?_
    refine ops_ex rfl (guard_none rfl) rfl rfl (ex_assign rfl rfl) ?_
    refine ops_nil ?_
    refine at_then ?_
    refine run_ret ?_
    refine at_then_ret ?_
    have hR := Option.some.inj H
    subst hR
    exact at_ret1 rfl rfl ⟨_, rfl, rfl, HM⟩
  · replace H := cond_f hb844 H
    refine run_skip ?_
    refine at_then ?_
    obtain ⟨o864, ho865, H⟩ := bind_some H
    refine run_mid (fun ρ_ w_ => Sum.inr () = o864 ∧ ρ_ = [(0, .pointer (some ⟨b0, f0, none⟩)), (3, .int .i64 (x0.fKeys.length : Int))] ∧ Mem w [] w_ []) ?_ ?_
    · skip
      refine run_seq ?_
      refine run_region rfl ?_
      refine ops_ex rfl (guard_none rfl) rfl rfl (ex_assign rfl rfl) ?_
      refine ops_nil ?_
      refine at_then ?_
      refine run_block ?_
      refine run_loop (fun k_ ρ_ w_ => ∃ a872 : Int, spec_l2Fault.l0 x0 k_ a872 = some o864 ∧ ρ_ = [(0, .pointer (some ⟨b0, f0, none⟩)), (3, .int .i64 (x0.fKeys.length : Int)), (4, .int .i64 a872)] ∧ Mem w [] w_ []) k (ρ1 := [(0, .pointer (some ⟨b0, f0, none⟩)), (3, .int .i64 (x0.fKeys.length : Int)), (4, .int .i64 0)]) ⟨_, ho865, rfl, HM⟩ (Sub.cons rfl (Sub.cons rfl (Sub.cons rfl Sub.nil))) ?_
      clear HM ho865
      rintro k879 _ w880 ⟨a872, ho865, rfl, HM⟩
      obtain _ | k879 := k879
      · exact nomatch ((spec_l2Fault.l0_z x0 a872).symm.trans ho865)
      replace ho865 := (spec_l2Fault.l0_s x0 k879 a872).symm.trans ho865
      refine run_seq ?_
      refine run_seq ?_
      refine run_region rfl ?_
      refine ops_ex rfl (guard_none rfl) rfl rfl (ex_move rfl rfl) ?_
      refine ops_ex rfl (guard_none rfl) rfl rfl (ex_move rfl rfl) ?_
      refine ops_ex rfl (guard_none rfl) rfl rfl (ex_nilCheck rfl rfl) ?_
      refine ops_ex rfl (guard_none rfl) rfl rfl (ex_fieldAddr (off' := f0) rfl rfl Try.underlying67 rfl tsz39 rfl) ?_
      refine ops_ex rfl (guard_none rfl) rfl rfl (ex_load1 rfl rfl Try.underlying39 rfl ((HM.at_ hc0) 0 _ rfl)) ?_
      refine ops_ex rfl (guard_none rfl) rfl rfl (ex_len (d := kInt) (xs := x0.fKeys) rfl rfl Try.underlying39 hp0_0) ?_
      refine ops_ex rfl (guard_none rfl) rfl rfl (ex_lss rfl rfl rfl) ?_
      refine ops_nil ?_
      refine at_then ?_
      refine run_cond (b := (decide (a872 < (x0.fKeys.length : Int)))) rfl (fun hb881 => ?_) (fun hb881 => ?_)
      · replace ho865 := cond_t hb881 ho865
        refine run_skip ?_
        refine at_then ?_
        refine run_seq ?_
        refine run_block ?_
        refine run_seq ?_
        obtain ⟨e882, ho865⟩ := chk_some ho865
        obtain ⟨t884, h885, ho865⟩ := bind_some ho865
        refine run_region rfl ?_
        refine ops_ex rfl (guard_none rfl) rfl rfl (ex_move rfl rfl) ?_
        refine ops_ex rfl (guard_none rfl) rfl rfl (ex_nilCheck rfl rfl) ?_
        refine ops_ex rfl (guard_none rfl) rfl rfl (ex_fieldAddr (off' := f0) rfl rfl Try.underlying67 rfl tsz39 rfl) ?_
        refine ops_ex rfl (guard_none rfl) rfl rfl (ex_load1 rfl rfl Try.underlying39 rfl ((HM.at_ hc0) 0 _ rfl)) ?_
        refine ops_ex rfl (guard_none rfl) rfl rfl (ex_move rfl rfl) ?_
        have hc883 : CellsAt _ (sb p0_0) (so p0_0 + (a872).toNat * 1) [(.int .i64 (gt x0.fKeys a872))] := rd_plain hp0_0 e882
        refine ops_ex rfl (guard_none rfl) rfl rfl (ex_indexAddr (d := kInt) rfl rfl rfl Try.underlying39 tsz2 hp0_0 (idx_lo e882) (idx_hi e882)) ?_
        refine ops_ex rfl (guard_none rfl) rfl rfl (ex_load1 rfl rfl Try.underlying2 rfl ((HM.at_ hc883) 0 _ rfl)) ?_
        refine ops_does rfl (guard_none rfl) rfl rfl (does_callk rfl callok116 rfl (spec_l1Key.calls (x0 := (gt x0.fKeys a872)) h885)) ?_
        rintro _ w886 ⟨rfl, hn⟩
        replace HM : Mem w [] w886 [] := HM.call hn
        refine ops_ex rfl (guard_none rfl) rfl rfl (ex_not rfl rfl) ?_
        refine ops_nil ?_
        refine at_then ?_
        refine run_cond (b := !t884) rfl (fun hb887 => ?_) (fun hb887 => ?_)
        · replace ho865 := cond_t hb887 ho865
          refine run_seq ?_
          refine run_region rfl ?_
          refine ops_ex rfl (guard_none rfl) rfl rfl (ex_assign rfl rfl) ?_
          refine ops_nil ?_
          refine at_then ?_
          refine run_ret ?_
          refine at_block_ret ?_
          refine at_then_ret ?_
          refine at_then_ret ?_
          refine at_block_ret ?_
          refine at_then_ret ?_
          have hR := Option.some.inj ho865
          subst hR
          have hT := thn_inl H
          have hR := Option.some.inj hT
          subst hR
          exact at_ret1 rfl rfl ⟨_, rfl, rfl, HM⟩
        · replace ho865 := cond_f hb887 ho865
          refine run_skip ?_
          refine at_block ?_
          refine at_then ?_
          refine run_region rfl ?_
          refine ops_ex rfl (guard_none rfl) rfl rfl (ex_move rfl rfl) ?_
          refine ops_ex rfl (guard_none rfl) rfl rfl (ex_add rfl rfl rfl) ?_
          refine ops_ex rfl (guard_none rfl) rfl rfl (ex_assign rfl rfl) ?_
          refine ops_nil ?_
          exact at_again k879 (ρ1 := [(0, .pointer (some ⟨b0, f0, none⟩)), (3, .int .i64 (x0.fKeys.length : Int)), (4, .int .i64 (wrap64 (a872 + 1)))]) (Nat.lt_succ_self _) ⟨_, ho865, rfl, HM⟩ (Sub.cons rfl (Sub.cons rfl (Sub.cons rfl Sub.nil)))
      · replace ho865 := cond_f hb881 ho865
        refine run_exit ?_
        refine at_then_exit ?_
        refine at_then_exit ?_
        refine at_block_exit ?_
        exact at_mid (ρ' := [(0, .pointer (some ⟨b0, f0, none⟩)), (3, .int .i64 (x0.fKeys.length : Int))]) ⟨(Option.some.inj ho865), rfl, HM⟩ (Sub.cons rfl (Sub.cons rfl Sub.nil))
    · rintro _ w888 ⟨rfl, rfl, HM⟩
      replace H := (thn_inr H)
      refine run_seq ?_
      refine run_seq ?_
      obtain ⟨t894, h895, H⟩ := bind_some H
      obtain ⟨t896, h897, H⟩ := bind_some H
      refine run_meet (fun ρ_ w_ => ρ_ = [(0, .pointer (some ⟨b0, f0, none⟩)), (46, .bool ((!t894) || (!t896)))] ∧ Mem w [] w_ []) ?_ ?_
      · skip
        refine run_region rfl ?_
        refine ops_ex rfl (guard_none rfl) rfl rfl (ex_move rfl rfl) ?_
        refine ops_ex rfl (guard_none rfl) rfl rfl (ex_nilCheck rfl rfl) ?_
        refine ops_ex rfl (guard_none rfl) rfl rfl (ex_fieldAddr (off' := f0 + 1) rfl rfl Try.underlying67 rfl tsz2 rfl) ?_
        refine ops_ex rfl (guard_none rfl) rfl rfl (ex_load1 rfl rfl Try.underlying2 rfl ((HM.at_ hc0) 1 _ rfl)) ?_
        refine ops_ex rfl (guard_none rfl) rfl rfl (ex_move rfl rfl) ?_
        refine ops_does rfl (guard_none rfl) rfl rfl (does_callk rfl callok58 rfl (spec_l1In.calls (x0 := x0.fNeed) (x1 := 1) (x2 := (x0.fKeys.length : Int)) h895)) ?_
        rintro _ w898 ⟨rfl, hn⟩
        replace HM : Mem w [] w898 [] := HM.call hn
        refine ops_ex rfl (guard_none rfl) rfl rfl (ex_not rfl rfl) ?_
        refine ops_ex rfl (guard_none rfl) rfl rfl (ex_move rfl rfl) ?_
        refine bool_cases (!t894) (fun hg899 => ?_) (fun hg899 => ?_)
        · skip
          refine ops_off rfl (guard_off rfl rfl rfl hg899) rfl rfl ?_
          refine ops_off rfl (guard_off rfl rfl rfl hg899) rfl rfl ?_
          refine ops_off rfl (guard_off rfl rfl rfl hg899) rfl rfl ?_
          refine ops_off rfl (guard_off rfl rfl rfl hg899) rfl rfl ?_
          refine ops_off rfl (guard_off rfl rfl rfl hg899) rfl rfl ?_
          refine ops_off rfl (guard_off rfl rfl rfl hg899) rfl rfl ?_
          have hg900 : ((!t894) || (!t896)) = true := by simp only [hg899, Bool.and_true, Bool.true_and, Bool.and_false, Bool.false_and, Bool.or_true, Bool.true_or, Bool.or_false, Bool.false_or, Bool.not_true, Bool.not_false, Bool.not_not]
          refine ops_ex (v := .bool ((!t894) || (!t896))) rfl (guard_none rfl) rfl rfl (ex_por_t rfl rfl hg899) ?_
          refine ops_nil ?_
          exact at_meet [(0, .pointer (some ⟨b0, f0, none⟩)), (46, .bool ((!t894) || (!t896)))] ⟨rfl, HM⟩ (Sub.cons rfl (Sub.cons rfl Sub.nil))
        · skip
          refine ops_ex rfl (guard_on rfl rfl rfl hg899) rfl rfl (ex_move rfl rfl) ?_
          refine ops_ex rfl (guard_on rfl rfl rfl hg899) rfl rfl (ex_nilCheck rfl rfl) ?_
          refine ops_ex rfl (guard_on rfl rfl rfl hg899) rfl rfl (ex_fieldAddr (off' := f0 + 2) rfl rfl Try.underlying67 rfl tsz2 rfl) ?_
          refine ops_ex rfl (guard_on rfl rfl rfl hg899) rfl rfl (ex_load1 rfl rfl Try.underlying2 rfl ((HM.at_ hc0) 2 _ rfl)) ?_
          refine ops_does rfl (guard_on rfl rfl rfl hg899) rfl rfl (does_callk rfl callok79 rfl (spec_l2Height.calls (x0 := x0.fAfter) (cond_t (not_mk hg899) h897))) ?_
          rintro _ w901 ⟨rfl, hn⟩
          replace HM : Mem w [] w901 [] := HM.call hn
          refine ops_ex rfl (guard_on rfl rfl rfl hg899) rfl rfl (ex_not rfl rfl) ?_
          refine ops_ex (v := .bool ((!t894) || (!t896))) rfl (guard_none rfl) rfl rfl (ex_por_f rfl rfl hg899 rfl) ?_
          refine ops_nil ?_
          exact at_meet [(0, .pointer (some ⟨b0, f0, none⟩)), (46, .bool ((!t894) || (!t896)))] ⟨rfl, HM⟩ (Sub.cons rfl (Sub.cons rfl Sub.nil))
      · rintro _ w902 ⟨rfl, HM⟩
        refine at_then ?_
        refine run_cond (b := ((!t894) || (!t896))) rfl (fun hb903 => ?_) (fun hb903 => ?_)
        · replace H := cond_t hb903 H
          refine run_seq ?_
          refine run_region rfl ?_
          refine ops_ex rfl (guard_none rfl) rfl rfl (ex_assign rfl rfl) ?_
          refine ops_nil ?_
          refine at_then ?_
          refine run_ret ?_
          refine at_then_ret ?_
          have hR := Option.some.inj H
          subst hR
          exact at_ret1 rfl rfl ⟨_, rfl, rfl, HM⟩
        · replace H := cond_f hb903 H
          refine run_skip ?_
          refine at_then ?_
          obtain ⟨o923, ho924, H⟩ := bind_some H
          refine run_mid (fun ρ_ w_ => Sum.inr () = o923 ∧ ρ_ = [] ∧ Mem w [] w_ []) ?_ ?_
          · skip
            refine run_seq ?_
            refine run_region rfl ?_
            refine ops_ex rfl (guard_none rfl) rfl rfl (ex_assign rfl rfl) ?_
            refine ops_nil ?_
            refine at_then ?_
            refine run_block ?_
            refine run_loop (fun k_ ρ_ w_ => ∃ a931 : Int, spec_l2Fault.l1 x0 k_ a931 = some o923 ∧ ρ_ = [(0, .pointer (some ⟨b0, f0, none⟩)), (5, .int .i64 a931)] ∧ Mem w [] w_ []) k (ρ1 := [(0, .pointer (some ⟨b0, f0, none⟩)), (5, .int .i64 1)]) ⟨_, ho924, rfl, HM⟩ (Sub.cons rfl (Sub.cons rfl Sub.nil)) ?_
            clear HM ho924
            rintro k938 _ w939 ⟨a931, ho924, rfl, HM⟩
            obtain _ | k938 := k938
            · exact nomatch ((spec_l2Fault.l1_z x0 a931).symm.trans ho924)
            replace ho924 := (spec_l2Fault.l1_s x0 k938 a931).symm.trans ho924
            refine run_seq ?_
            refine run_seq ?_
            refine run_region rfl ?_
            refine ops_ex rfl (guard_none rfl) rfl rfl (ex_move rfl rfl) ?_
            refine ops_ex rfl (guard_none rfl) rfl rfl (ex_move rfl rfl) ?_
            refine ops_ex rfl (guard_none rfl) rfl rfl (ex_nilCheck rfl rfl) ?_
            refine ops_ex rfl (guard_none rfl) rfl rfl (ex_fieldAddr (off' := f0) rfl rfl Try.underlying67 rfl tsz39 rfl) ?_
            refine ops_ex rfl (guard_none rfl) rfl rfl (ex_load1 rfl rfl Try.underlying39 rfl ((HM.at_ hc0) 0 _ rfl)) ?_
            refine ops_ex rfl (guard_none rfl) rfl rfl (ex_len (d := kInt) (xs := x0.fKeys) rfl rfl Try.underlying39 hp0_0) ?_
            refine ops_ex rfl (guard_none rfl) rfl rfl (ex_lss rfl rfl rfl) ?_
            refine ops_nil ?_
            refine at_then ?_
            refine run_cond (b := (decide (a931 < (x0.fKeys.length : Int)))) rfl (fun hb940 => ?_) (fun hb940 => ?_)
            · replace ho924 := cond_t hb940 ho924
              refine run_skip ?_
              refine at_then ?_
              refine run_seq ?_
              refine run_block ?_
              refine run_seq ?_
              obtain ⟨e941, ho924⟩ := chk_some ho924
              obtain ⟨e943, ho924⟩ := chk_some ho924
              refine run_drawf (fun w_ => Mem w [] w_ []) [(0, true), (1, true), (2, true), (3, true), (4, true), (5, true), (6, true), (7, true), (8, true), (9, true), (10, true), (11, true), (12, true), (13, true), (14, true), (15, true)] mixed rfl rfl (by kernel_rfl) ?_
              replace HM := HM.grow (fr_drew _)
              have hS := Mem.suf (M := []) HM
              refine drwp_take rfl (guard_none rfl) rfl rfl (fun w_ hS_ => (ex_move rfl rfl)) hS ?_
              refine drwp_take rfl (guard_none rfl) rfl rfl (fun w_ hS_ => (ex_nilCheck rfl rfl)) hS ?_
              refine drwp_take rfl (guard_none rfl) rfl rfl (fun w_ hS_ => (ex_fieldAddr (off' := f0) rfl rfl Try.underlying67 rfl tsz39 rfl)) hS ?_
              refine drwp_take rfl (guard_none rfl) rfl rfl (fun w_ hS_ => (ex_load1 rfl rfl Try.underlying39 rfl ((hS_.at_ hc0) 0 _ rfl))) hS ?_
              refine drwp_take rfl (guard_none rfl) rfl rfl (fun w_ hS_ => (ex_move rfl rfl)) hS ?_
              have hc942 : CellsAt _ (sb p0_0) (so p0_0 + (a931).toNat * 1) [(.int .i64 (gt x0.fKeys a931))] := rd_plain hp0_0 e941
              refine drwp_take rfl (guard_none rfl) rfl rfl (fun w_ hS_ => (ex_indexAddr (d := kInt) rfl rfl rfl Try.underlying39 tsz2 hp0_0 (idx_lo e941) (idx_hi e941))) hS ?_
              refine drwp_take rfl (guard_none rfl) rfl rfl (fun w_ hS_ => (ex_load1 rfl rfl Try.underlying2 rfl ((hS_.at_ hc942) 0 _ rfl))) hS ?_
              refine drwp_take rfl (guard_none rfl) rfl rfl (fun w_ hS_ => (ex_move rfl rfl)) hS ?_
              refine drwp_take rfl (guard_none rfl) rfl rfl (fun w_ hS_ => (ex_nilCheck rfl rfl)) hS ?_
              refine drwp_take rfl (guard_none rfl) rfl rfl (fun w_ hS_ => (ex_fieldAddr (off' := f0) rfl rfl Try.underlying67 rfl tsz39 rfl)) hS ?_
              refine drwp_take rfl (guard_none rfl) rfl rfl (fun w_ hS_ => (ex_load1 rfl rfl Try.underlying39 rfl ((hS_.at_ hc0) 0 _ rfl))) hS ?_
              refine drwp_take rfl (guard_none rfl) rfl rfl (fun w_ hS_ => (ex_move rfl rfl)) hS ?_
              refine drwp_take rfl (guard_none rfl) rfl rfl (fun w_ hS_ => (ex_sub rfl rfl rfl)) hS ?_
              have hc944 : CellsAt _ (sb p0_0) (so p0_0 + (wrap64 (a931 - 1)).toNat * 1) [(.int .i64 (gt x0.fKeys (wrap64 (a931 - 1))))] := rd_plain hp0_0 e943
              refine drwp_take rfl (guard_none rfl) rfl rfl (fun w_ hS_ => (ex_indexAddr (d := kInt) rfl rfl rfl Try.underlying39 tsz2 hp0_0 (idx_lo e943) (idx_hi e943))) hS ?_
              refine drwp_take rfl (guard_none rfl) rfl rfl (fun w_ hS_ => (ex_load1 rfl rfl Try.underlying2 rfl ((hS_.at_ hc944) 0 _ rfl))) hS ?_
              refine drwp_take rfl (guard_none rfl) rfl rfl (fun w_ hS_ => (ex_leq rfl rfl rfl)) hS ?_
              refine drwp_done ?_
              refine at_then ?_
              refine run_cond (b := (decide ((gt x0.fKeys a931) ≤ (gt x0.fKeys (wrap64 (a931 - 1)))))) rfl (fun hb945 => ?_) (fun hb945 => ?_)
              · replace ho924 := cond_t hb945 ho924
                refine run_seq ?_
                refine run_region rfl ?_
                refine ops_ex rfl (guard_none rfl) rfl rfl (ex_assign rfl rfl) ?_
                refine ops_nil ?_
                refine at_then ?_
                refine run_ret ?_
                refine at_block_ret ?_
                refine at_then_ret ?_
                refine at_then_ret ?_
                refine at_block_ret ?_
                refine at_then_ret ?_
                have hR := Option.some.inj ho924
                subst hR
                have hT := thn_inl H
                have hR := Option.some.inj hT
                subst hR
                exact at_ret1 rfl rfl ⟨_, rfl, rfl, HM⟩
              · replace ho924 := cond_f hb945 ho924
                refine run_skip ?_
                refine at_block ?_
                refine at_then ?_
                refine run_region rfl ?_
                refine ops_ex rfl (guard_none rfl) rfl rfl (ex_move rfl rfl) ?_
                refine ops_ex rfl (guard_none rfl) rfl rfl (ex_add rfl rfl rfl) ?_
                refine ops_ex rfl (guard_none rfl) rfl rfl (ex_assign rfl rfl) ?_
                refine ops_nil ?_
                exact at_again k938 (ρ1 := [(0, .pointer (some ⟨b0, f0, none⟩)), (5, .int .i64 (wrap64 (a931 + 1)))]) (Nat.lt_succ_self _) ⟨_, ho924, rfl, HM⟩ (Sub.cons rfl (Sub.cons rfl Sub.nil))
            · replace ho924 := cond_f hb940 ho924
              refine run_exit ?_
              refine at_then_exit ?_
              refine at_then_exit ?_
              refine at_block_exit ?_
              exact at_mid (ρ' := []) ⟨(Option.some.inj ho924), rfl, HM⟩ Sub.nil
          · rintro _ w946 ⟨rfl, rfl, HM⟩
            replace H := (thn_inr H)
            refine run_seq ?_
            refine run_region rfl ?_
            refine ops_ex rfl (guard_none rfl) rfl rfl (ex_assign rfl rfl) ?_
            refine ops_nil ?_
            refine at_then ?_
            refine run_ret ?_
            have hR := Option.some.inj H
            subst hR
            exact at_ret1 rfl rfl ⟨_, rfl, rfl, HM⟩

def spec_l4Out.f (k : Nat) (x0 : Out) : Option Int := ((spec_l1In.f k x0.fValue 1 1000000).bind fun t952 => (bif !t952 then some 3 else ((spec_l2Fault.f k x0.fRule).bind fun t956 => some t956)))
theorem spec_l4Out.calls {k : Nat} {x0 : Out} {b0 f0 : Nat} {p0_0 : Value} {w : World} (hc0 : CellsAt w b0 f0 [.int .i64 x0.fValue, p0_0, .int .i64 x0.fRule.fNeed, .int .i64 x0.fRule.fAfter]) (hp0_0 : RdS kInt w p0_0 x0.fRule.fKeys) {r : Int} (H : spec_l4Out.f k x0 = some r) :
    Calls Try.prog 80 ([.pointer (some ⟨b0, f0, none⟩)] : List Value).toArray w (fun e w_ => ∃ v, e = .returned v ∧ v = (.int .i64 r) ∧ Mem w [] w_ []) := by
  have HM := Mem.start w
  refine calls_run (N := 13) Try.func80 rfl rfl rfl rfl ?_
  unfold spec_l4Out.f at H
  refine run_seq ?_
  refine run_region rfl ?_
  refine ops_ex rfl (guard_none rfl) rfl rfl (ex_assign rfl rfl) ?_
  refine ops_nil ?_
  refine at_then ?_
  refine run_seq ?_
  refine run_seq ?_
  obtain ⟨t952, h953, H⟩ := bind_some H
  refine run_region rfl ?_
  refine ops_ex rfl (guard_none rfl) rfl rfl (ex_move rfl rfl) ?_
  refine ops_ex rfl (guard_none rfl) rfl rfl (ex_nilCheck rfl rfl) ?_
  refine ops_ex rfl (guard_none rfl) rfl rfl (ex_fieldAddr (off' := f0) rfl rfl Try.underlying69 rfl tsz2 rfl) ?_
  refine ops_ex rfl (guard_none rfl) rfl rfl (ex_load1 rfl rfl Try.underlying2 rfl ((HM.at_ hc0) 0 _ rfl)) ?_
  refine ops_does rfl (guard_none rfl) rfl rfl (does_callk rfl callok58 rfl (spec_l1In.calls (x0 := x0.fValue) (x1 := 1) (x2 := 1000000) h953)) ?_
  rintro _ w954 ⟨rfl, hn⟩
  replace HM : Mem w [] w954 [] := HM.call hn
  refine ops_ex rfl (guard_none rfl) rfl rfl (ex_not rfl rfl) ?_
  refine ops_nil ?_
  refine at_then ?_
  refine run_cond (b := !t952) rfl (fun hb955 => ?_) (fun hb955 => ?_)
  · replace H := cond_t hb955 H
    refine run_seq ?_
    refine run_region rfl ?_
    refine ops_ex rfl (guard_none rfl) rfl rfl (ex_assign rfl rfl) ?_
    refine ops_nil ?_
    refine at_then ?_
    refine run_ret ?_
    refine at_then_ret ?_
    have hR := Option.some.inj H
    subst hR
    exact at_ret1 rfl rfl ⟨_, rfl, rfl, HM⟩
  · replace H := cond_f hb955 H
    refine run_skip ?_
    refine at_then ?_
    refine run_seq ?_
    obtain ⟨t956, h957, H⟩ := bind_some H
    refine run_region rfl ?_
    refine ops_ex rfl (guard_none rfl) rfl rfl (ex_move rfl rfl) ?_
    refine ops_ex rfl (guard_none rfl) rfl rfl (ex_nilCheck rfl rfl) ?_
    refine ops_ex rfl (guard_none rfl) rfl rfl (ex_fieldAddr (off' := f0 + 1) rfl rfl Try.underlying69 rfl tsz67 rfl) ?_
    refine ops_does rfl (guard_none rfl) rfl rfl (does_callk rfl callok132 rfl (spec_l2Fault.calls (x0 := x0.fRule) (CellsAt.sub (HM.at_ hc0) 1 3 rfl) (HM.rd hp0_0) h957)) ?_
    rintro _ w958 ⟨rfl, hn⟩
    replace HM : Mem w [] w958 [] := HM.call hn
    refine ops_ex rfl (guard_none rfl) rfl rfl (ex_assign rfl rfl) ?_
    refine ops_nil ?_
    refine at_then ?_
    refine run_ret ?_
    have hR := Option.some.inj H
    subst hR
    exact at_ret1 rfl rfl ⟨_, rfl, rfl, HM⟩

def spec_l4Ahead.f (k : Nat) (x0 : Ref) (x1 : Ref) : Option Bool := (bif (x0.fTx != x1.fTx) then some (decide (x0.fTx < x1.fTx)) else some (decide (x0.fAt < x1.fAt)))
theorem spec_l4Ahead.calls {k : Nat} {x0 : Ref} {x1 : Ref}  {w : World}  {r : Bool} (H : spec_l4Ahead.f k x0 x1 = some r) :
    Calls Try.prog 131 ([.agg #[(.int .i64 x0.fTx), (.int .i64 x0.fAt)], .agg #[(.int .i64 x1.fTx), (.int .i64 x1.fAt)]] : List Value).toArray w (fun e w_ => ∃ v, e = .returned v ∧ v = (.bool r) ∧ Mem w [] w_ []) := by
  have HM := Mem.start w
  refine calls_run (N := 20) Try.func131 rfl rfl rfl rfl ?_
  unfold spec_l4Ahead.f at H
  refine run_seq ?_
  refine run_region rfl ?_
  refine ops_does rfl (guard_none rfl) rfl rfl (does_box (cs := [.int .i64 x0.fTx, .int .i64 x0.fAt]) rfl rfl rfl HM) ?_
  rintro _ w991 ⟨b985, rfl, HM⟩
  refine ops_does rfl (guard_none rfl) rfl rfl (does_box (cs := [.int .i64 x1.fTx, .int .i64 x1.fAt]) rfl rfl rfl HM) ?_
  rintro _ w992 ⟨b988, rfl, HM⟩
  refine ops_ex rfl (guard_none rfl) rfl rfl (ex_assign rfl rfl) ?_
  refine ops_nil ?_
  refine at_then ?_
  refine run_seq ?_
  refine run_seq ?_
  refine run_region rfl ?_
  refine ops_ex rfl (guard_none rfl) rfl rfl (ex_fieldAddr (off' := 0) rfl rfl Try.underlying36 rfl tsz2 rfl) ?_
  refine ops_ex rfl (guard_none rfl) rfl rfl (ex_load1 rfl rfl Try.underlying2 rfl ((HM.box_at 1 rfl) 0 _ rfl)) ?_
  refine ops_ex rfl (guard_none rfl) rfl rfl (ex_fieldAddr (off' := 0) rfl rfl Try.underlying36 rfl tsz2 rfl) ?_
  refine ops_ex rfl (guard_none rfl) rfl rfl (ex_load1 rfl rfl Try.underlying2 rfl ((HM.box_at 0 rfl) 0 _ rfl)) ?_
  refine ops_ex rfl (guard_none rfl) rfl rfl (ex_neq rfl rfl rfl) ?_
  refine ops_nil ?_
  refine at_then ?_
  refine run_cond (b := (x0.fTx != x1.fTx)) rfl (fun hb994 => ?_) (fun hb994 => ?_)
  · replace H := cond_t hb994 H
    refine run_seq ?_
    refine run_region rfl ?_
    refine ops_ex rfl (guard_none rfl) rfl rfl (ex_fieldAddr (off' := 0) rfl rfl Try.underlying36 rfl tsz2 rfl) ?_
    refine ops_ex rfl (guard_none rfl) rfl rfl (ex_load1 rfl rfl Try.underlying2 rfl ((HM.box_at 1 rfl) 0 _ rfl)) ?_
    refine ops_ex rfl (guard_none rfl) rfl rfl (ex_fieldAddr (off' := 0) rfl rfl Try.underlying36 rfl tsz2 rfl) ?_
    refine ops_ex rfl (guard_none rfl) rfl rfl (ex_load1 rfl rfl Try.underlying2 rfl ((HM.box_at 0 rfl) 0 _ rfl)) ?_
    refine ops_ex rfl (guard_none rfl) rfl rfl (ex_lss rfl rfl rfl) ?_
    refine ops_ex rfl (guard_none rfl) rfl rfl (ex_assign rfl rfl) ?_
    refine ops_nil ?_
    refine at_then ?_
    refine run_ret ?_
    refine at_then_ret ?_
    replace HM := (HM.front 0 rfl rfl).drop
    replace HM := (HM.front 0 rfl rfl).drop
    have hR := Option.some.inj H
    subst hR
    exact at_ret1 rfl rfl ⟨_, rfl, rfl, HM⟩
  · replace H := cond_f hb994 H
    refine run_skip ?_
    refine at_then ?_
    refine run_seq ?_
    refine run_region rfl ?_
    refine ops_ex rfl (guard_none rfl) rfl rfl (ex_fieldAddr (off' := 1) rfl rfl Try.underlying36 rfl tsz2 rfl) ?_
    refine ops_ex rfl (guard_none rfl) rfl rfl (ex_load1 rfl rfl Try.underlying2 rfl ((HM.box_at 1 rfl) 1 _ rfl)) ?_
    refine ops_ex rfl (guard_none rfl) rfl rfl (ex_fieldAddr (off' := 1) rfl rfl Try.underlying36 rfl tsz2 rfl) ?_
    refine ops_ex rfl (guard_none rfl) rfl rfl (ex_load1 rfl rfl Try.underlying2 rfl ((HM.box_at 0 rfl) 1 _ rfl)) ?_
    refine ops_ex rfl (guard_none rfl) rfl rfl (ex_lss rfl rfl rfl) ?_
    refine ops_ex rfl (guard_none rfl) rfl rfl (ex_assign rfl rfl) ?_
    refine ops_nil ?_
    refine at_then ?_
    refine run_ret ?_
    replace HM := (HM.front 0 rfl rfl).drop
    replace HM := (HM.front 0 rfl rfl).drop
    have hR := Option.some.inj H
    subst hR
    exact at_ret1 rfl rfl ⟨_, rfl, rfl, HM⟩

def spec_l4Fault.l0 (x0 : List Coin) : Nat → Int → Option (Int ⊕ Unit)
  | 0, _ => none
  | k + 1, a1318 => (bif (decide (a1318 < (x0.length : Int))) then (chk (idxOk a1318 x0.length) ((spec_l3Ref.f k ((gt x0 a1318).fRef)).bind fun t1391 => (chk (!(!(!t1391)) || (idxOk a1318 x0.length)) ((bif (!(!t1391)) then spec_l2Height.f k ((gt x0 a1318).fHeight) else some default).bind fun t1397 => (bif ((!t1391) || (!t1397)) then some (.inl 3) else (chk (idxOk a1318 x0.length) ((spec_l4Out.f k ((gt x0 a1318).fOut)).bind fun t1416 => (bif (t1416 != 0) then some (.inl t1416) else (chk (!(decide (0 < a1318)) || (idxOk (wrap64 (a1318 - 1)) x0.length)) (chk (!(decide (0 < a1318)) || (idxOk a1318 x0.length)) ((bif (decide (0 < a1318)) then spec_l4Ahead.f k ((gt x0 (wrap64 (a1318 - 1))).fRef) ((gt x0 a1318).fRef) else some default).bind fun t1428 => (bif ((decide (0 < a1318)) && (!t1428)) then some (.inl 1) else spec_l4Fault.l0 x0 k (wrap64 (a1318 + 1)))))))))))))) else some (.inr ()))
theorem spec_l4Fault.l0_z (x0 : List Coin) (a1318 : Int) : spec_l4Fault.l0 x0 0 a1318 = none := rfl
theorem spec_l4Fault.l0_s (x0 : List Coin) (k : Nat) (a1318 : Int) : spec_l4Fault.l0 x0 (k + 1) a1318 = (bif (decide (a1318 < (x0.length : Int))) then (chk (idxOk a1318 x0.length) ((spec_l3Ref.f k ((gt x0 a1318).fRef)).bind fun t1391 => (chk (!(!(!t1391)) || (idxOk a1318 x0.length)) ((bif (!(!t1391)) then spec_l2Height.f k ((gt x0 a1318).fHeight) else some default).bind fun t1397 => (bif ((!t1391) || (!t1397)) then some (.inl 3) else (chk (idxOk a1318 x0.length) ((spec_l4Out.f k ((gt x0 a1318).fOut)).bind fun t1416 => (bif (t1416 != 0) then some (.inl t1416) else (chk (!(decide (0 < a1318)) || (idxOk (wrap64 (a1318 - 1)) x0.length)) (chk (!(decide (0 < a1318)) || (idxOk a1318 x0.length)) ((bif (decide (0 < a1318)) then spec_l4Ahead.f k ((gt x0 (wrap64 (a1318 - 1))).fRef) ((gt x0 a1318).fRef) else some default).bind fun t1428 => (bif ((decide (0 < a1318)) && (!t1428)) then some (.inl 1) else spec_l4Fault.l0 x0 k (wrap64 (a1318 + 1)))))))))))))) else some (.inr ())) := rfl
def spec_l4Fault.f (k : Nat) (x0 : List Coin) : Option Int := (bif (decide (40 < (x0.length : Int))) then some 2 else ((spec_l4Fault.l0 x0 k 0).bind fun o1264 => thn o1264 (fun r => some r) (fun _ => some 0)))
theorem spec_l4Fault.calls {k : Nat} {x0 : List Coin} {p0 : Value} {w : World} (hp0 : RdS kCoin w p0 x0) {r : Int} (H : spec_l4Fault.f k x0 = some r) :
    Calls Try.prog 78 ([p0] : List Value).toArray w (fun e w_ => ∃ v, e = .returned v ∧ v = (.int .i64 r) ∧ Mem w [] w_ []) := by
  have HM := Mem.start w
  refine calls_run (N := 55) Try.func78 rfl rfl rfl rfl ?_
  unfold spec_l4Fault.f at H
  refine run_seq ?_
  refine run_region rfl ?_
  refine ops_ex rfl (guard_none rfl) rfl rfl (ex_assign rfl rfl) ?_
  refine ops_nil ?_
  refine at_then ?_
  refine run_seq ?_
  refine run_seq ?_
  refine run_region rfl ?_
  refine ops_ex rfl (guard_none rfl) rfl rfl (ex_move rfl rfl) ?_
  refine ops_ex rfl (guard_none rfl) rfl rfl (ex_len (d := kCoin) (xs := x0) rfl rfl Try.underlying60 hp0) ?_
  refine ops_ex rfl (guard_none rfl) rfl rfl (ex_gtr rfl rfl rfl) ?_
  refine ops_nil ?_
  refine at_then ?_
  refine run_cond (b := (decide (40 < (x0.length : Int)))) rfl (fun hb1106 => ?_) (fun hb1106 => ?_)
  · replace H := cond_t hb1106 H
    refine run_seq ?_
    refine run_region rfl ?_
    refine ops_ex rfl (guard_none rfl) rfl rfl (ex_assign rfl rfl) ?_
    refine ops_nil ?_
    refine at_then ?_
    refine run_ret ?_
    refine at_then_ret ?_
    have hR := Option.some.inj H
    subst hR
    exact at_ret1 rfl rfl ⟨_, rfl, rfl, HM⟩
  · replace H := cond_f hb1106 H
    refine run_skip ?_
    refine at_then ?_
    obtain ⟨o1264, ho1265, H⟩ := bind_some H
    refine run_mid (fun ρ_ w_ => Sum.inr () = o1264 ∧ ρ_ = [] ∧ Mem w [] w_ []) ?_ ?_
    · skip
      refine run_seq ?_
      refine run_region rfl ?_
      refine ops_ex rfl (guard_none rfl) rfl rfl (ex_assign rfl rfl) ?_
      refine ops_nil ?_
      refine at_then ?_
      refine run_block ?_
      refine run_loop (fun k_ ρ_ w_ => ∃ a1318 : Int, spec_l4Fault.l0 x0 k_ a1318 = some o1264 ∧ ρ_ = [(0, p0), (3, .int .i64 a1318)] ∧ Mem w [] w_ []) k (ρ1 := [(0, p0), (3, .int .i64 0)]) ⟨_, ho1265, rfl, HM⟩ (Sub.cons rfl (Sub.cons rfl Sub.nil)) ?_
      clear HM ho1265
      rintro k1371 _ w1372 ⟨a1318, ho1265, rfl, HM⟩
      obtain _ | k1371 := k1371
      · exact nomatch ((spec_l4Fault.l0_z x0 a1318).symm.trans ho1265)
      replace ho1265 := (spec_l4Fault.l0_s x0 k1371 a1318).symm.trans ho1265
      refine run_seq ?_
      refine run_seq ?_
      refine run_region rfl ?_
      refine ops_ex rfl (guard_none rfl) rfl rfl (ex_move rfl rfl) ?_
      refine ops_ex rfl (guard_none rfl) rfl rfl (ex_move rfl rfl) ?_
      refine ops_ex rfl (guard_none rfl) rfl rfl (ex_len (d := kCoin) (xs := x0) rfl rfl Try.underlying60 hp0) ?_
      refine ops_ex rfl (guard_none rfl) rfl rfl (ex_lss rfl rfl rfl) ?_
      refine ops_nil ?_
      refine at_then ?_
      refine run_cond (b := (decide (a1318 < (x0.length : Int)))) rfl (fun hb1373 => ?_) (fun hb1373 => ?_)
      · replace ho1265 := cond_t hb1373 ho1265
        refine run_skip ?_
        refine at_then ?_
        refine run_seq ?_
        refine run_block ?_
        refine run_seq ?_
        refine run_seq ?_
        obtain ⟨e1387, ho1265⟩ := chk_some ho1265
        obtain ⟨t1391, h1392, ho1265⟩ := bind_some ho1265
        obtain ⟨e1393, ho1265⟩ := chk_some ho1265
        obtain ⟨t1397, h1398, ho1265⟩ := bind_some ho1265
        refine run_meet (fun ρ_ w_ => ρ_ = [(0, p0), (3, .int .i64 a1318), (29, .bool ((!t1391) || (!t1397)))] ∧ Mem w [] w_ []) ?_ ?_
        · skip
          refine run_region rfl ?_
          refine ops_ex rfl (guard_none rfl) rfl rfl (ex_move rfl rfl) ?_
          refine ops_ex rfl (guard_none rfl) rfl rfl (ex_move rfl rfl) ?_
          obtain ⟨kv1389, hc1388, hk1390⟩ : ∃ u, CellsAt _ (sb p0) (so p0 + (a1318).toNat * 8) [(.int .i64 ((gt x0 a1318).fRef.fTx)), (.int .i64 ((gt x0 a1318).fRef.fAt)), (.int .i64 ((gt x0 a1318).fOut.fValue)), u, (.int .i64 ((gt x0 a1318).fOut.fRule.fNeed)), (.int .i64 ((gt x0 a1318).fOut.fRule.fAfter)), (.int .i64 ((gt x0 a1318).fHeight)), (.bool ((gt x0 a1318).fMined))] ∧ RdS kInt _ u ((gt x0 a1318).fOut.fRule.fKeys) := rd_with1 hp0 e1387
          refine ops_ex rfl (guard_none rfl) rfl rfl (ex_indexAddr (d := kCoin) rfl rfl rfl Try.underlying60 tsz72 hp0 (idx_lo e1387) (idx_hi e1387)) ?_
          refine ops_ex rfl (guard_none rfl) rfl rfl (ex_fieldAddr (off' := so p0 + (a1318).toNat * 8) rfl rfl Try.underlying72 rfl tsz36 rfl) ?_
          refine ops_ex rfl (guard_none rfl) rfl rfl (ex_loadN (cs := [(.int .i64 ((gt x0 a1318).fRef.fTx)), (.int .i64 ((gt x0 a1318).fRef.fAt))]) rfl rfl Try.underlying36 rfl tsz36 rfl ((HM.at_ hc1388).sub 0 2 rfl)) ?_
          refine ops_does rfl (guard_none rfl) rfl rfl (does_callk rfl callok117 rfl (spec_l3Ref.calls (x0 := (gt x0 a1318).fRef) h1392)) ?_
          rintro _ w1399 ⟨rfl, hn⟩
          replace HM : Mem w [] w1399 [] := HM.call hn
          refine ops_ex rfl (guard_none rfl) rfl rfl (ex_not rfl rfl) ?_
          refine ops_ex rfl (guard_none rfl) rfl rfl (ex_move rfl rfl) ?_
          refine bool_cases (!t1391) (fun hg1400 => ?_) (fun hg1400 => ?_)
          · skip
            refine ops_off rfl (guard_off rfl rfl rfl hg1400) rfl rfl ?_
            refine ops_off rfl (guard_off rfl rfl rfl hg1400) rfl rfl ?_
            refine ops_off rfl (guard_off rfl rfl rfl hg1400) rfl rfl ?_
            refine ops_off rfl (guard_off rfl rfl rfl hg1400) rfl rfl ?_
            refine ops_off rfl (guard_off rfl rfl rfl hg1400) rfl rfl ?_
            refine ops_off rfl (guard_off rfl rfl rfl hg1400) rfl rfl ?_
            refine ops_off rfl (guard_off rfl rfl rfl hg1400) rfl rfl ?_
            have hg1401 : ((!t1391) || (!t1397)) = true := by simp only [hg1400, Bool.and_true, Bool.true_and, Bool.and_false, Bool.false_and, Bool.or_true, Bool.true_or, Bool.or_false, Bool.false_or, Bool.not_true, Bool.not_false, Bool.not_not]
            refine ops_ex (v := .bool ((!t1391) || (!t1397))) rfl (guard_none rfl) rfl rfl (ex_por_t rfl rfl hg1400) ?_
            refine ops_nil ?_
            exact at_meet [(0, p0), (3, .int .i64 a1318), (29, .bool ((!t1391) || (!t1397)))] ⟨rfl, HM⟩ (Sub.cons rfl (Sub.cons rfl (Sub.cons rfl Sub.nil)))
          · skip
            refine ops_ex rfl (guard_on rfl rfl rfl hg1400) rfl rfl (ex_move rfl rfl) ?_
            refine ops_ex rfl (guard_on rfl rfl rfl hg1400) rfl rfl (ex_move rfl rfl) ?_
            obtain ⟨kv1395, hc1394, hk1396⟩ : ∃ u, CellsAt _ (sb p0) (so p0 + (a1318).toNat * 8) [(.int .i64 ((gt x0 a1318).fRef.fTx)), (.int .i64 ((gt x0 a1318).fRef.fAt)), (.int .i64 ((gt x0 a1318).fOut.fValue)), u, (.int .i64 ((gt x0 a1318).fOut.fRule.fNeed)), (.int .i64 ((gt x0 a1318).fOut.fRule.fAfter)), (.int .i64 ((gt x0 a1318).fHeight)), (.bool ((gt x0 a1318).fMined))] ∧ RdS kInt _ u ((gt x0 a1318).fOut.fRule.fKeys) := rd_with1 hp0 (or_t e1393 (not_mk hg1400))
            refine ops_ex rfl (guard_on rfl rfl rfl hg1400) rfl rfl (ex_indexAddr (d := kCoin) rfl rfl rfl Try.underlying60 tsz72 hp0 (idx_lo (or_t e1393 (not_mk hg1400))) (idx_hi (or_t e1393 (not_mk hg1400)))) ?_
            refine ops_ex rfl (guard_on rfl rfl rfl hg1400) rfl rfl (ex_fieldAddr (off' := so p0 + (a1318).toNat * 8 + 6) rfl rfl Try.underlying72 rfl tsz2 rfl) ?_
            refine ops_ex rfl (guard_on rfl rfl rfl hg1400) rfl rfl (ex_load1 rfl rfl Try.underlying2 rfl ((HM.at_ hc1394) 6 _ rfl)) ?_
            refine ops_does rfl (guard_on rfl rfl rfl hg1400) rfl rfl (does_callk rfl callok79 rfl (spec_l2Height.calls (x0 := (gt x0 a1318).fHeight) (cond_t (not_mk hg1400) h1398))) ?_
            rintro _ w1402 ⟨rfl, hn⟩
            replace HM : Mem w [] w1402 [] := HM.call hn
            refine ops_ex rfl (guard_on rfl rfl rfl hg1400) rfl rfl (ex_not rfl rfl) ?_
            refine ops_ex (v := .bool ((!t1391) || (!t1397))) rfl (guard_none rfl) rfl rfl (ex_por_f rfl rfl hg1400 rfl) ?_
            refine ops_nil ?_
            exact at_meet [(0, p0), (3, .int .i64 a1318), (29, .bool ((!t1391) || (!t1397)))] ⟨rfl, HM⟩ (Sub.cons rfl (Sub.cons rfl (Sub.cons rfl Sub.nil)))
        · rintro _ w1403 ⟨rfl, HM⟩
          refine at_then ?_
          refine run_cond (b := ((!t1391) || (!t1397))) rfl (fun hb1404 => ?_) (fun hb1404 => ?_)
          · replace ho1265 := cond_t hb1404 ho1265
            refine run_seq ?_
            refine run_region rfl ?_
            refine ops_ex rfl (guard_none rfl) rfl rfl (ex_assign rfl rfl) ?_
            refine ops_nil ?_
            refine at_then ?_
            refine run_ret ?_
            refine at_then_ret ?_
            refine at_block_ret ?_
            refine at_then_ret ?_
            refine at_then_ret ?_
            refine at_block_ret ?_
            refine at_then_ret ?_
            have hR := Option.some.inj ho1265
            subst hR
            have hT := thn_inl H
            have hR := Option.some.inj hT
            subst hR
            exact at_ret1 rfl rfl ⟨_, rfl, rfl, HM⟩
          · replace ho1265 := cond_f hb1404 ho1265
            refine run_skip ?_
            refine at_then ?_
            refine run_seq ?_
            refine run_seq ?_
            obtain ⟨e1412, ho1265⟩ := chk_some ho1265
            obtain ⟨t1416, h1417, ho1265⟩ := bind_some ho1265
            refine run_region rfl ?_
            refine ops_ex rfl (guard_none rfl) rfl rfl (ex_move rfl rfl) ?_
            refine ops_ex rfl (guard_none rfl) rfl rfl (ex_move rfl rfl) ?_
            obtain ⟨kv1414, hc1413, hk1415⟩ : ∃ u, CellsAt _ (sb p0) (so p0 + (a1318).toNat * 8) [(.int .i64 ((gt x0 a1318).fRef.fTx)), (.int .i64 ((gt x0 a1318).fRef.fAt)), (.int .i64 ((gt x0 a1318).fOut.fValue)), u, (.int .i64 ((gt x0 a1318).fOut.fRule.fNeed)), (.int .i64 ((gt x0 a1318).fOut.fRule.fAfter)), (.int .i64 ((gt x0 a1318).fHeight)), (.bool ((gt x0 a1318).fMined))] ∧ RdS kInt _ u ((gt x0 a1318).fOut.fRule.fKeys) := rd_with1 hp0 e1412
            refine ops_ex rfl (guard_none rfl) rfl rfl (ex_indexAddr (d := kCoin) rfl rfl rfl Try.underlying60 tsz72 hp0 (idx_lo e1412) (idx_hi e1412)) ?_
            refine ops_ex rfl (guard_none rfl) rfl rfl (ex_fieldAddr (off' := so p0 + (a1318).toNat * 8 + 2) rfl rfl Try.underlying72 rfl tsz69 rfl) ?_
            refine ops_does rfl (guard_none rfl) rfl rfl (does_callk rfl callok80 rfl (spec_l4Out.calls (x0 := (gt x0 a1318).fOut) (CellsAt.sub (HM.at_ hc1413) 2 4 rfl) (HM.rd hk1415) h1417)) ?_
            rintro _ w1418 ⟨rfl, hn⟩
            replace HM : Mem w [] w1418 [] := HM.call hn
            refine ops_ex rfl (guard_none rfl) rfl rfl (ex_assign rfl rfl) ?_
            refine ops_nil ?_
            refine at_then ?_
            refine run_seq ?_
            refine run_region rfl ?_
            refine ops_ex rfl (guard_none rfl) rfl rfl (ex_move rfl rfl) ?_
            refine ops_ex rfl (guard_none rfl) rfl rfl (ex_neq rfl rfl rfl) ?_
            refine ops_nil ?_
            refine at_then ?_
            refine run_cond (b := (t1416 != 0)) rfl (fun hb1419 => ?_) (fun hb1419 => ?_)
            · replace ho1265 := cond_t hb1419 ho1265
              refine run_seq ?_
              refine run_region rfl ?_
              refine ops_ex rfl (guard_none rfl) rfl rfl (ex_move rfl rfl) ?_
              refine ops_ex rfl (guard_none rfl) rfl rfl (ex_assign rfl rfl) ?_
              refine ops_nil ?_
              refine at_then ?_
              refine run_ret ?_
              refine at_then_ret ?_
              refine at_block_ret ?_
              refine at_then_ret ?_
              refine at_then_ret ?_
              refine at_block_ret ?_
              refine at_then_ret ?_
              have hR := Option.some.inj ho1265
              subst hR
              have hT := thn_inl H
              have hR := Option.some.inj hT
              subst hR
              exact at_ret1 rfl rfl ⟨_, rfl, rfl, HM⟩
            · replace ho1265 := cond_f hb1419 ho1265
              refine run_skip ?_
              refine at_then ?_
              refine run_seq ?_
              obtain ⟨e1420, ho1265⟩ := chk_some ho1265
              obtain ⟨e1424, ho1265⟩ := chk_some ho1265
              obtain ⟨t1428, h1429, ho1265⟩ := bind_some ho1265
              refine run_meet (fun ρ_ w_ => ρ_ = [(0, p0), (3, .int .i64 a1318), (54, .bool ((decide (0 < a1318)) && (!t1428)))] ∧ Mem w [] w_ []) ?_ ?_
              · skip
                refine run_drawf (fun w_ => Mem w [] w_ []) [(0, true), (1, true), (2, true), (3, true), (4, true), (5, true), (6, true), (7, true), (8, true), (9, true), (10, true), (11, true), (12, true), (13, true), (14, false), (15, true), (16, true)] mixed rfl rfl (by kernel_rfl) ?_
                replace HM := HM.grow (fr_drew _)
                have hS := Mem.suf (M := []) HM
                refine drwp_take rfl (guard_none rfl) rfl rfl (fun w_ hS_ => (ex_move rfl rfl)) hS ?_
                refine drwp_take rfl (guard_none rfl) rfl rfl (fun w_ hS_ => (ex_gtr rfl rfl rfl)) hS ?_
                refine drwp_take rfl (guard_none rfl) rfl rfl (fun w_ hS_ => (ex_move rfl rfl)) hS ?_
                refine bool_cases (decide (0 < a1318)) (fun hg1430 => ?_) (fun hg1430 => ?_)
                · skip
                  refine drwp_take rfl (guard_on rfl rfl rfl hg1430) rfl rfl (fun w_ hS_ => (ex_move rfl rfl)) hS ?_
                  refine drwp_take rfl (guard_on rfl rfl rfl hg1430) rfl rfl (fun w_ hS_ => (ex_move rfl rfl)) hS ?_
                  refine drwp_take rfl (guard_on rfl rfl rfl hg1430) rfl rfl (fun w_ hS_ => (ex_sub rfl rfl rfl)) hS ?_
                  obtain ⟨kv1422, hc1421, hk1423⟩ : ∃ u, CellsAt _ (sb p0) (so p0 + (wrap64 (a1318 - 1)).toNat * 8) [(.int .i64 ((gt x0 (wrap64 (a1318 - 1))).fRef.fTx)), (.int .i64 ((gt x0 (wrap64 (a1318 - 1))).fRef.fAt)), (.int .i64 ((gt x0 (wrap64 (a1318 - 1))).fOut.fValue)), u, (.int .i64 ((gt x0 (wrap64 (a1318 - 1))).fOut.fRule.fNeed)), (.int .i64 ((gt x0 (wrap64 (a1318 - 1))).fOut.fRule.fAfter)), (.int .i64 ((gt x0 (wrap64 (a1318 - 1))).fHeight)), (.bool ((gt x0 (wrap64 (a1318 - 1))).fMined))] ∧ RdS kInt _ u ((gt x0 (wrap64 (a1318 - 1))).fOut.fRule.fKeys) := rd_with1 hp0 (or_t e1420 hg1430)
                  refine drwp_take rfl (guard_on rfl rfl rfl hg1430) rfl rfl (fun w_ hS_ => (ex_indexAddr (d := kCoin) rfl rfl rfl Try.underlying60 tsz72 hp0 (idx_lo (or_t e1420 hg1430)) (idx_hi (or_t e1420 hg1430)))) hS ?_
                  refine drwp_take rfl (guard_on rfl rfl rfl hg1430) rfl rfl (fun w_ hS_ => (ex_fieldAddr (off' := so p0 + (wrap64 (a1318 - 1)).toNat * 8) rfl rfl Try.underlying72 rfl tsz36 rfl)) hS ?_
                  refine drwp_take rfl (guard_on rfl rfl rfl hg1430) rfl rfl (fun w_ hS_ => (ex_loadN (cs := [(.int .i64 ((gt x0 (wrap64 (a1318 - 1))).fRef.fTx)), (.int .i64 ((gt x0 (wrap64 (a1318 - 1))).fRef.fAt))]) rfl rfl Try.underlying36 rfl tsz36 rfl ((hS_.at_ hc1421).sub 0 2 rfl))) hS ?_
                  refine drwp_take rfl (guard_on rfl rfl rfl hg1430) rfl rfl (fun w_ hS_ => (ex_move rfl rfl)) hS ?_
                  refine drwp_take rfl (guard_on rfl rfl rfl hg1430) rfl rfl (fun w_ hS_ => (ex_move rfl rfl)) hS ?_
                  obtain ⟨kv1426, hc1425, hk1427⟩ : ∃ u, CellsAt _ (sb p0) (so p0 + (a1318).toNat * 8) [(.int .i64 ((gt x0 a1318).fRef.fTx)), (.int .i64 ((gt x0 a1318).fRef.fAt)), (.int .i64 ((gt x0 a1318).fOut.fValue)), u, (.int .i64 ((gt x0 a1318).fOut.fRule.fNeed)), (.int .i64 ((gt x0 a1318).fOut.fRule.fAfter)), (.int .i64 ((gt x0 a1318).fHeight)), (.bool ((gt x0 a1318).fMined))] ∧ RdS kInt _ u ((gt x0 a1318).fOut.fRule.fKeys) := rd_with1 hp0 (or_t e1424 hg1430)
                  refine drwp_take rfl (guard_on rfl rfl rfl hg1430) rfl rfl (fun w_ hS_ => (ex_indexAddr (d := kCoin) rfl rfl rfl Try.underlying60 tsz72 hp0 (idx_lo (or_t e1424 hg1430)) (idx_hi (or_t e1424 hg1430)))) hS ?_
                  refine drwp_take rfl (guard_on rfl rfl rfl hg1430) rfl rfl (fun w_ hS_ => (ex_fieldAddr (off' := so p0 + (a1318).toNat * 8) rfl rfl Try.underlying72 rfl tsz36 rfl)) hS ?_
                  refine drwp_take rfl (guard_on rfl rfl rfl hg1430) rfl rfl (fun w_ hS_ => (ex_loadN (cs := [(.int .i64 ((gt x0 a1318).fRef.fTx)), (.int .i64 ((gt x0 a1318).fRef.fAt))]) rfl rfl Try.underlying36 rfl tsz36 rfl ((hS_.at_ hc1425).sub 0 2 rfl))) hS ?_
                  refine drwp_one rfl (guard_on rfl rfl rfl hg1430) rfl rfl (does_callk rfl callok131 rfl (spec_l4Ahead.calls (x0 := (gt x0 (wrap64 (a1318 - 1))).fRef) (x1 := (gt x0 a1318).fRef) (cond_t hg1430 h1429))) ?_
                  rintro _ w1431 ⟨rfl, hn⟩
                  replace HM : Mem w [] w1431 [] := HM.call hn
                  refine ⟨Mem.suf (M := []) HM, ?_⟩
                  have hS := Mem.suf (M := []) HM
                  refine drwp_take rfl (guard_on rfl rfl rfl hg1430) rfl rfl (fun w_ hS_ => (ex_not rfl rfl)) hS ?_
                  refine drwp_take (v := .bool ((decide (0 < a1318)) && (!t1428))) rfl (guard_none rfl) rfl rfl (fun w_ hS_ => (ex_pand_t rfl rfl hg1430 rfl)) hS ?_
                  refine drwp_done ?_
                  exact at_meet [(0, p0), (3, .int .i64 a1318), (54, .bool ((decide (0 < a1318)) && (!t1428)))] ⟨rfl, HM⟩ (Sub.cons rfl (Sub.cons rfl (Sub.cons rfl Sub.nil)))
                · skip
                  refine drwp_off rfl (guard_off rfl rfl rfl hg1430) rfl rfl hS ?_
                  refine drwp_off rfl (guard_off rfl rfl rfl hg1430) rfl rfl hS ?_
                  refine drwp_off rfl (guard_off rfl rfl rfl hg1430) rfl rfl hS ?_
                  refine drwp_off rfl (guard_off rfl rfl rfl hg1430) rfl rfl hS ?_
                  refine drwp_off rfl (guard_off rfl rfl rfl hg1430) rfl rfl hS ?_
                  refine drwp_off rfl (guard_off rfl rfl rfl hg1430) rfl rfl hS ?_
                  refine drwp_off rfl (guard_off rfl rfl rfl hg1430) rfl rfl hS ?_
                  refine drwp_off rfl (guard_off rfl rfl rfl hg1430) rfl rfl hS ?_
                  refine drwp_off rfl (guard_off rfl rfl rfl hg1430) rfl rfl hS ?_
                  refine drwp_off rfl (guard_off rfl rfl rfl hg1430) rfl rfl hS ?_
                  refine drwp_off rfl (guard_off rfl rfl rfl hg1430) rfl rfl hS ?_
                  refine drwp_off1 rfl (guard_off rfl rfl rfl hg1430) rfl rfl ⟨hS, ?_⟩
                  refine drwp_off rfl (guard_off rfl rfl rfl hg1430) rfl rfl hS ?_
                  have hg1432 : ((decide (0 < a1318)) && (!t1428)) = false := by simp only [hg1430, Bool.and_true, Bool.true_and, Bool.and_false, Bool.false_and, Bool.or_true, Bool.true_or, Bool.or_false, Bool.false_or, Bool.not_true, Bool.not_false, Bool.not_not]
                  refine drwp_take (v := .bool ((decide (0 < a1318)) && (!t1428))) rfl (guard_none rfl) rfl rfl (fun w_ hS_ => (ex_pand_f rfl rfl hg1430)) hS ?_
                  refine drwp_done ?_
                  exact at_meet [(0, p0), (3, .int .i64 a1318), (54, .bool ((decide (0 < a1318)) && (!t1428)))] ⟨rfl, HM⟩ (Sub.cons rfl (Sub.cons rfl (Sub.cons rfl Sub.nil)))
              · rintro _ w1433 ⟨rfl, HM⟩
                refine at_then ?_
                refine run_cond (b := ((decide (0 < a1318)) && (!t1428))) rfl (fun hb1434 => ?_) (fun hb1434 => ?_)
                · replace ho1265 := cond_t hb1434 ho1265
                  refine run_seq ?_
                  refine run_region rfl ?_
                  refine ops_ex rfl (guard_none rfl) rfl rfl (ex_assign rfl rfl) ?_
                  refine ops_nil ?_
                  refine at_then ?_
                  refine run_ret ?_
                  refine at_block_ret ?_
                  refine at_then_ret ?_
                  refine at_then_ret ?_
                  refine at_block_ret ?_
                  refine at_then_ret ?_
                  have hR := Option.some.inj ho1265
                  subst hR
                  have hT := thn_inl H
                  have hR := Option.some.inj hT
                  subst hR
                  exact at_ret1 rfl rfl ⟨_, rfl, rfl, HM⟩
                · replace ho1265 := cond_f hb1434 ho1265
                  refine run_skip ?_
                  refine at_block ?_
                  refine at_then ?_
                  refine run_region rfl ?_
                  refine ops_ex rfl (guard_none rfl) rfl rfl (ex_move rfl rfl) ?_
                  refine ops_ex rfl (guard_none rfl) rfl rfl (ex_add rfl rfl rfl) ?_
                  refine ops_ex rfl (guard_none rfl) rfl rfl (ex_assign rfl rfl) ?_
                  refine ops_nil ?_
                  exact at_again k1371 (ρ1 := [(0, p0), (3, .int .i64 (wrap64 (a1318 + 1)))]) (Nat.lt_succ_self _) ⟨_, ho1265, rfl, HM⟩ (Sub.cons rfl (Sub.cons rfl Sub.nil))
      · replace ho1265 := cond_f hb1373 ho1265
        refine run_exit ?_
        refine at_then_exit ?_
        refine at_then_exit ?_
        refine at_block_exit ?_
        exact at_mid (ρ' := []) ⟨(Option.some.inj ho1265), rfl, HM⟩ Sub.nil
    · rintro _ w1435 ⟨rfl, rfl, HM⟩
      replace H := (thn_inr H)
      refine run_seq ?_
      refine run_region rfl ?_
      refine ops_ex rfl (guard_none rfl) rfl rfl (ex_assign rfl rfl) ?_
      refine ops_nil ?_
      refine at_then ?_
      refine run_ret ?_
      have hR := Option.some.inj H
      subst hR
      exact at_ret1 rfl rfl ⟨_, rfl, rfl, HM⟩
end Go.Proofs.Ytbbcabpnkdilgaa.Zk
