/- What functions of the program compute, each as a plain function, and that they do. Conditions: as each theorem states them. -/
import Derived.Test.YtecgbhfgkkpmhaaFnCoinsZkF0
namespace Go.Proofs.Ytecgbhfgkkpmhaa.Zk
open Go Go.RowKit Go.IntWalk Go.Proofs
set_option linter.unusedVariables false
set_option linter.unusedSimpArgs false
set_option maxRecDepth 100000
set_option maxHeartbeats 4000000
def spec_l4DrawOuts.l0 (x0 : l1Src) : Nat → Int → (List Out) → Int → Option (Int × (List Out))
 | 0, _, _, _ => none
 | k + 1, a701, a703, a705 => (bif (decide (0 < a705)) then ((spec_l1Next.f k (⟨x0.fCode, a701⟩ : l1Src) 300).bind fun t734 => ((spec_l2Draw.f k (⟨x0.fCode, t734.2⟩ : l1Src)).bind fun t742 => (chk (leB ((a703.length + ([(⟨wrap64 (1 + t734.1), (⟨t742.1.fKeys, t742.1.fNeed, t742.1.fAfter⟩ : Rule)⟩ : Out)] : List Out).length) * 48) 140737488355328) (spec_l4DrawOuts.l0 x0 k t742.2 (a703 ++ ([(⟨wrap64 (1 + t734.1), (⟨t742.1.fKeys, t742.1.fNeed, t742.1.fAfter⟩ : Rule)⟩ : Out)] : List Out)) (wrap64 (a705 - 1)))))) else some (a701, a703))
theorem spec_l4DrawOuts.l0_z (x0 : l1Src) (a701 : Int) (a703 : List Out) (a705 : Int) : spec_l4DrawOuts.l0 x0 0 a701 a703 a705 = none := rfl
theorem spec_l4DrawOuts.l0_s (x0 : l1Src) (k : Nat) (a701 : Int) (a703 : List Out) (a705 : Int) : spec_l4DrawOuts.l0 x0 (k + 1) a701 a703 a705 = (bif (decide (0 < a705)) then ((spec_l1Next.f k (⟨x0.fCode, a701⟩ : l1Src) 300).bind fun t734 => ((spec_l2Draw.f k (⟨x0.fCode, t734.2⟩ : l1Src)).bind fun t742 => (chk (leB ((a703.length + ([(⟨wrap64 (1 + t734.1), (⟨t742.1.fKeys, t742.1.fNeed, t742.1.fAfter⟩ : Rule)⟩ : Out)] : List Out).length) * 48) 140737488355328) (spec_l4DrawOuts.l0 x0 k t742.2 (a703 ++ ([(⟨wrap64 (1 + t734.1), (⟨t742.1.fKeys, t742.1.fNeed, t742.1.fAfter⟩ : Rule)⟩ : Out)] : List Out)) (wrap64 (a705 - 1)))))) else some (a701, a703)) := rfl
def spec_l4DrawOuts.f (k : Nat) (x0 : l1Src) : Option ((List Out) × Int) := (((spec_l1Next.f k x0 4).bind fun t667 => spec_l4DrawOuts.l0 x0 k t667.2 ([] : List Out) t667.1).bind (cur2 (fun a661 a663 => some (a663, a661))))
theorem spec_l4DrawOuts.calls {k : Nat} {x0 : l1Src} {b0 : Nat} {p0_0 : Value} {w wo : World} {X : List Nat} (hwo : Olds wo w X) (hX : Hold w [box b0 76 [p0_0, .int .i64 x0.fAt]] X) (hXn : X.Nodup) (hXl : ∀ b ∈ X, b < w.heap.size) (hp0_0 : RdS kU8 wo p0_0 x0.fCode) {r : (List Out) × Int} (H : spec_l4DrawOuts.f k x0 = some r) :
  Calls Try.prog 17 ([.pointer (some ⟨b0, 0, none⟩)] : List Value).toArray w (fun e w_ => ∃ v, e = .returned v ∧ ∃ u0 : Value, v = u0 ∧ Mem w X w_ [own kOut 36 u0 r.1, box b0 76 [p0_0, .int .i64 r.2]]) := by
 have HM := Mem.startX hX hXn hXl
 refine calls_run (N := 22) Try.func17 rfl rfl rfl rfl ?_
 unfold spec_l4DrawOuts.f at H
 refine run_seq ?_
 refine run_region rfl ?_
 refine ox rfl rfl rfl rfl (ex_assign rfl rfl) ?_
 refine ops_nil (at_then (run_seq ?_))
 refine run_region rfl ?_
 refine od rfl rfl rfl rfl (does_lit (e := 36) (cs := []) (xs := ([] : List Out)) kOut rfl rfl (fun _ => by kernel_rfl) rfl rfl (fun _ _ h => by have h' : _ = [] := h; subst h'; exact .nil) HM.emp) ?_
 rintro v569 w572 HM
 refine ox rfl rfl rfl rfl (ex_assign rfl rfl) ?_
 refine ops_nil (at_then ?_)
 obtain ⟨o665, ho666, H⟩ := bind_some H
 refine run_mid (fun ρ_ w_ => ∃ a661 : Int, ∃ v662 : Value, ∃ a663 : List Out, (a661, a663) = o665 ∧ ρ_ = [(3, v662)] ∧ Mem w X w_ [box b0 76 [p0_0, .int .i64 a661], own kOut 36 v662 a663]) ?_ ?_
 ·clear H
  refine run_seq ?_
  obtain ⟨t667, h668, ho666⟩ := bind_some ho666
  refine run_region rfl ?_
  refine ox rfl rfl rfl rfl (ex_move rfl rfl) ?_
  replace HM := HM.front 1 rfl rfl
  obtain ⟨F669, hF670, hFn671, hFl672, HMh673, hcl674⟩ := HM.hide (Ms := [box b0 76 [p0_0, .int .i64 x0.fAt]])
  refine od rfl rfl rfl rfl (does_callk rfl callok18 rfl (spec_l1Next.calls (x0 := x0) (x1 := 4) (hide_olds _ _) hF670 hFn671 hFl672 (HMh673.rdo hwo hp0_0) h668)) ?_
  rintro _ w675 ⟨rfl, hn⟩
  replace HM : Mem w X w675 [box b0 76 [p0_0, .int .i64 t667.2], own kOut 36 v569 ([] : List Out)] := hcl674 _ _ hn
  refine ox rfl rfl rfl rfl (ex_assign rfl rfl) ?_
  refine ops_nil (at_then ?_)
  refine run_block ?_
  refine run_loop (fun k_ ρ_ w_ => ∃ a701 : Int, ∃ v702 : Value, ∃ a703 : List Out, ∃ a705 : Int, spec_l4DrawOuts.l0 x0 k_ a701 a703 a705 = some o665 ∧ ρ_ = [(0, .pointer (some ⟨b0, 0, none⟩)), (3, v702), (4, .int .i64 a705)] ∧ Mem w X w_ [box b0 76 [p0_0, .int .i64 a701], own kOut 36 v702 a703]) k (ρ1 := [(0, .pointer (some ⟨b0, 0, none⟩)), (3, v569), (4, .int .i64 t667.1)]) ⟨_, _, _, _, ho666, rfl, HM⟩ (Sub.cons rfl (Sub.cons rfl (Sub.cons rfl Sub.nil))) ?_
  clear HM ho666
  rintro k731 _ w732 ⟨a701, v702, a703, a705, ho666, rfl, HM⟩
  obtain _ | k731 := k731
  ·exact nomatch ((spec_l4DrawOuts.l0_z x0 a701 a703 a705).symm.trans ho666)
  replace ho666 := (spec_l4DrawOuts.l0_s x0 k731 a701 a703 a705).symm.trans ho666
  refine run_seq ?_
  refine run_seq ?_
  refine run_region rfl ?_
  refine ox rfl rfl rfl rfl (ex_move rfl rfl) ?_
  refine ox rfl rfl rfl rfl (ex_gtr rfl rfl rfl) ?_
  refine ops_nil (at_then ?_)
  refine run_cond (b := (decide (0 < a705))) rfl (fun hb733 => ?_) (fun hb733 => ?_)
  ·replace ho666 := cond_t hb733 ho666
   refine run_skip ?_
   refine at_then ?_
   refine run_seq ?_
   refine run_block ?_
   obtain ⟨t734, h735, ho666⟩ := bind_some ho666
   obtain ⟨t742, h743, ho666⟩ := bind_some ho666
   obtain ⟨e755, ho666⟩ := chk_some ho666
   refine run_region rfl ?_
   refine ox rfl rfl rfl rfl (ex_move rfl rfl) ?_
   refine ox rfl rfl rfl rfl (ex_move rfl rfl) ?_
   obtain ⟨F736, hF737, hFn738, hFl739, HMh740, hcl741⟩ := HM.hide (Ms := [box b0 76 [p0_0, .int .i64 a701]])
   refine od rfl rfl rfl rfl (does_callk rfl callok18 rfl (spec_l1Next.calls (x0 := (⟨x0.fCode, a701⟩ : l1Src)) (x1 := 300) (hide_olds _ _) hF737 hFn738 hFl739 (HMh740.rdo hwo hp0_0) h735)) ?_
   rintro _ w758 ⟨rfl, hn⟩
   replace HM : Mem w X w758 [box b0 76 [p0_0, .int .i64 t734.2], own kOut 36 v702 a703] := hcl741 _ _ hn
   refine ox rfl rfl rfl rfl (ex_add rfl rfl rfl) ?_
   refine ox rfl rfl rfl rfl (ex_move rfl rfl) ?_
   obtain ⟨F746, hF747, hFn748, hFl749, HMh750, hcl751⟩ := HM.hide (Ms := [box b0 76 [p0_0, .int .i64 t734.2]])
   refine od rfl rfl rfl rfl (does_callk rfl callok43 rfl (spec_l2Draw.calls (x0 := (⟨x0.fCode, t734.2⟩ : l1Src)) (hide_olds _ _) hF747 hFn748 hFl749 (HMh750.rdo hwo hp0_0) h743)) ?_
   rintro _ w759 ⟨u744, rfl, hn⟩
   replace HM : Mem w X w759 [own kInt 2 u744 t742.1.fKeys, box b0 76 [p0_0, .int .i64 t742.2], own kOut 36 v702 a703] := hcl751 _ _ hn
   refine ox rfl rfl rfl rfl (ex_build1 (fun u744 => [(0, .int .i64 (wrap64 (1 + t734.1))), (1, .agg #[u744, (.int .i64 t742.1.fNeed), (.int .i64 t742.1.fAfter)])]) (fun u744 => #[.int .i64 (wrap64 (1 + t734.1)), u744, .int .i64 t742.1.fNeed, .int .i64 t742.1.fAfter]) rfl rfl (fun _ _ _ => by kernel_rfl) (HM.own_rd 0 rfl).isSl) ?_
   refine od rfl rfl rfl rfl (does_lit (e := 36) (cs := [(.int .i64 (wrap64 (1 + t734.1))), u744, (.int .i64 t742.1.fNeed), (.int .i64 t742.1.fAfter)]) (xs := ([(⟨wrap64 (1 + t734.1), (⟨t742.1.fKeys, t742.1.fNeed, t742.1.fAfter⟩ : Rule)⟩ : Out)] : List Out)) kOut rfl rfl (fun _ => by kernel_rfl) rfl rfl (fun _ _ h => by have := Elems.cons (d := kOut) (x := (⟨wrap64 (1 + t734.1), (⟨t742.1.fKeys, t742.1.fNeed, t742.1.fAfter⟩ : Rule)⟩ : Out)) ⟨_, rfl, h⟩ .nil; rw [List.append_nil, List.append_nil] at this; exact this) HM) ?_
   rintro v752 w760 HM
   replace HM := HM.front 2 rfl rfl
   refine od rfl rfl rfl rfl (does_append kOut rfl rfl rfl Try.underlying25 tsz36 rfl tby36 tz36 rfl rfl (leB_le e755) HM) ?_
   rintro v756 w761 HM
   refine ox rfl rfl rfl rfl (ex_assign rfl rfl) ?_
   refine ops_nil ?_
   refine at_block ?_
   refine at_then ?_
   refine run_region rfl ?_
   refine ox rfl rfl rfl rfl (ex_move rfl rfl) ?_
   refine ox rfl rfl rfl rfl (ex_sub rfl rfl rfl) ?_
   refine ox rfl rfl rfl rfl (ex_assign rfl rfl) ?_
   refine ops_nil ?_
   replace HM := HM.front 1 rfl rfl
   exact at_again k731 (ρ1 := [(0, .pointer (some ⟨b0, 0, none⟩)), (3, v756), (4, .int .i64 (wrap64 (a705 - 1)))]) (Nat.lt_succ_self _) ⟨_, _, _, _, ho666, rfl, HM⟩ (Sub.cons rfl (Sub.cons rfl (Sub.cons rfl Sub.nil)))
  ·replace ho666 := cond_f hb733 ho666
   refine run_exit ?_
   refine at_then_exit ?_
   refine at_then_exit ?_
   refine at_block_exit ?_
   exact at_mid (ρ' := [(3, v702)]) ⟨_, _, _, (Option.some.inj ho666), rfl, HM⟩ (Sub.cons rfl Sub.nil)
 ·rintro _ w762 ⟨a661, v662, a663, rfl, rfl, HM⟩
  replace H := cur2_mk H
  refine run_seq ?_
  refine run_region rfl ?_
  refine ox rfl rfl rfl rfl (ex_move rfl rfl) ?_
  refine ox rfl rfl rfl rfl (ex_assign rfl rfl) ?_
  refine ops_nil (at_then ?_)
  refine run_ret ?_
  replace HM := HM.front 1 rfl rfl
  have hR := Option.some.inj H
  subst hR
  exact at_ret1 rfl rfl ⟨_, rfl, _, rfl, HM⟩

def spec_l1Chance.f (k : Nat) (x0 : l1Src) (x1 : Int) : Option (Bool × Int) := ((spec_l1Next.f k x0 x1).bind fun t790 => some ((t790.1 == 0), t790.2))
theorem spec_l1Chance.calls {k : Nat} {x0 : l1Src} {x1 : Int} {b0 : Nat} {p0_0 : Value} {w wo : World} {X : List Nat} (hwo : Olds wo w X) (hX : Hold w [box b0 76 [p0_0, .int .i64 x0.fAt]] X) (hXn : X.Nodup) (hXl : ∀ b ∈ X, b < w.heap.size) (hp0_0 : RdS kU8 wo p0_0 x0.fCode) {r : Bool × Int} (H : spec_l1Chance.f k x0 x1 = some r) :
  Calls Try.prog 21 ([.pointer (some ⟨b0, 0, none⟩), .int .i64 x1] : List Value).toArray w (fun e w_ => ∃ v, e = .returned v ∧ v = (.bool r.1) ∧ Mem w X w_ [box b0 76 [p0_0, .int .i64 r.2]]) := by
 have HM := Mem.startX hX hXn hXl
 refine calls_run (N := 9) Try.func21 rfl rfl rfl rfl ?_
 unfold spec_l1Chance.f at H
 refine run_seq ?_
 refine run_region rfl ?_
 refine ox rfl rfl rfl rfl (ex_assign rfl rfl) ?_
 refine ops_nil (at_then (run_seq ?_))
 obtain ⟨t790, h791, H⟩ := bind_some H
 refine run_region rfl ?_
 refine ox rfl rfl rfl rfl (ex_move rfl rfl) ?_
 refine ox rfl rfl rfl rfl (ex_move rfl rfl) ?_
 obtain ⟨F792, hF793, hFn794, hFl795, HMh796, hcl797⟩ := HM.hide (Ms := [box b0 76 [p0_0, .int .i64 x0.fAt]])
 refine od rfl rfl rfl rfl (does_callk rfl callok18 rfl (spec_l1Next.calls (x0 := x0) (x1 := x1) (hide_olds _ _) hF793 hFn794 hFl795 (HMh796.rdo hwo hp0_0) h791)) ?_
 rintro _ w798 ⟨rfl, hn⟩
 replace HM : Mem w X w798 [box b0 76 [p0_0, .int .i64 t790.2]] := hcl797 _ _ hn
 refine ox rfl rfl rfl rfl (ex_eql rfl rfl rfl) ?_
 refine ox rfl rfl rfl rfl (ex_assign rfl rfl) ?_
 refine ops_nil (at_then ?_)
 refine run_ret ?_
 have hR := Option.some.inj H
 subst hR
 exact at_ret1 rfl rfl ⟨_, rfl, rfl, HM⟩

def spec_l1In.f (k : Nat) (x0 : Int) (x1 : Int) (x2 : Int) : Option Bool := some ((decide (x1 ≤ x0)) && (decide (x0 ≤ x2)))
theorem spec_l1In.calls {k : Nat} {x0 : Int} {x1 : Int} {x2 : Int}  {w : World}  {r : Bool} (H : spec_l1In.f k x0 x1 x2 = some r) :
  Calls Try.prog 24 ([.int .i64 x0, .int .i64 x1, .int .i64 x2] : List Value).toArray w (fun e w_ => ∃ v, e = .returned v ∧ v = (.bool r) ∧ Mem w [] w_ []) := by
 have HM := Mem.start w
 refine calls_run (N := 15) Try.func24 rfl rfl rfl rfl ?_
 unfold spec_l1In.f at H
 refine run_seq ?_
 refine run_region rfl ?_
 refine ox rfl rfl rfl rfl (ex_assign rfl rfl) ?_
 refine ops_nil (at_then (run_seq ?_))
 refine run_meet (fun ρ_ w_ => ρ_ = [(6, .bool ((decide (x1 ≤ x0)) && (decide (x0 ≤ x2))))] ∧ Mem w [] w_ []) ?_ ?_
 ·skip
  refine run_region rfl ?_
  refine ox rfl rfl rfl rfl (ex_move rfl rfl) ?_
  refine ox rfl rfl rfl rfl (ex_move rfl rfl) ?_
  refine ox rfl rfl rfl rfl (ex_geq rfl rfl rfl) ?_
  refine ox rfl rfl rfl rfl (ex_move rfl rfl) ?_
  refine bool_cases (decide (x1 ≤ x0)) (fun hg820 => ?_) (fun hg820 => ?_)
  ·skip
   refine ops_ex rfl (guard_on rfl rfl rfl hg820) rfl rfl (ex_move rfl rfl) ?_
   refine ops_ex rfl (guard_on rfl rfl rfl hg820) rfl rfl (ex_move rfl rfl) ?_
   refine ops_ex rfl (guard_on rfl rfl rfl hg820) rfl rfl (ex_leq rfl rfl rfl) ?_
   refine ops_ex (v := .bool ((decide (x1 ≤ x0)) && (decide (x0 ≤ x2)))) rfl (guard_none rfl) rfl rfl (ex_pand_t rfl rfl hg820 rfl) ?_
   refine ox rfl rfl rfl rfl (ex_assign rfl rfl) ?_
   refine ops_nil ?_
   exact at_meet [(6, .bool ((decide (x1 ≤ x0)) && (decide (x0 ≤ x2))))] ⟨rfl, HM⟩ (Sub.cons rfl Sub.nil)
  ·skip
   refine ops_off rfl (guard_off rfl rfl rfl hg820) rfl rfl ?_
   refine ops_off rfl (guard_off rfl rfl rfl hg820) rfl rfl ?_
   refine ops_off rfl (guard_off rfl rfl rfl hg820) rfl rfl ?_
   have hg821 : ((decide (x1 ≤ x0)) && (decide (x0 ≤ x2))) = false := by simp only [hg820, Bool.and_true, Bool.true_and, Bool.and_false, Bool.false_and, Bool.or_true, Bool.true_or, Bool.or_false, Bool.false_or, Bool.not_true, Bool.not_false, Bool.not_not]
   refine ops_ex (v := .bool ((decide (x1 ≤ x0)) && (decide (x0 ≤ x2)))) rfl (guard_none rfl) rfl rfl (ex_pand_f rfl rfl hg820) ?_
   refine ox rfl rfl rfl rfl (ex_assign rfl rfl) ?_
   refine ops_nil ?_
   exact at_meet [(6, .bool ((decide (x1 ≤ x0)) && (decide (x0 ≤ x2))))] ⟨rfl, HM⟩ (Sub.cons rfl Sub.nil)
 ·rintro _ w822 ⟨rfl, HM⟩
  refine at_then ?_
  refine run_ret ?_
  have hR := Option.some.inj H
  subst hR
  exact at_ret1 rfl rfl ⟨_, rfl, rfl, HM⟩

def spec_l3Ref.f (k : Nat) (x0 : Ref) : Option Bool := ((spec_l1In.f k x0.fTx 1 60).bind fun t831 => ((bif t831 then spec_l1In.f k x0.fAt 0 3 else some default).bind fun t833 => some (t831 && t833)))
theorem spec_l3Ref.calls {k : Nat} {x0 : Ref}  {w : World}  {r : Bool} (H : spec_l3Ref.f k x0 = some r) :
  Calls Try.prog 49 ([.agg #[(.int .i64 x0.fTx), (.int .i64 x0.fAt)]] : List Value).toArray w (fun e w_ => ∃ v, e = .returned v ∧ v = (.bool r) ∧ Mem w [] w_ []) := by
 have HM := Mem.start w
 refine calls_run (N := 11) Try.func49 rfl rfl rfl rfl ?_
 unfold spec_l3Ref.f at H
 refine run_seq ?_
 refine run_region rfl ?_
 refine od rfl rfl rfl rfl (does_box (cs := [.int .i64 x0.fTx, .int .i64 x0.fAt]) rfl rfl rfl HM) ?_
 rintro _ w830 ⟨b827, rfl, HM⟩
 refine ox rfl rfl rfl rfl (ex_assign rfl rfl) ?_
 refine ops_nil (at_then (run_seq ?_))
 obtain ⟨t831, h832, H⟩ := bind_some H
 obtain ⟨t833, h834, H⟩ := bind_some H
 refine run_meet (fun ρ_ w_ => ρ_ = [(2, .bool (t831 && t833))] ∧ Mem w [] w_ []) ?_ ?_
 ·skip
  refine run_region rfl ?_
  refine ox rfl rfl rfl rfl (ex_fieldAddr (off' := 0) rfl rfl Try.underlying38 rfl tsz2 rfl) ?_
  refine ox rfl rfl rfl rfl (ex_load1 rfl rfl Try.underlying2 rfl ((HM.box_at 0 rfl) 0 _ rfl)) ?_
  refine od rfl rfl rfl rfl (does_callk rfl callok24 rfl (spec_l1In.calls (x0 := x0.fTx) (x1 := 1) (x2 := 60) h832)) ?_
  rintro _ w835 ⟨rfl, hn⟩
  replace HM : Mem w [] w835 [box b827 38 [.int .i64 x0.fTx, .int .i64 x0.fAt]] := HM.call hn
  refine ox rfl rfl rfl rfl (ex_move rfl rfl) ?_
  refine bool_cases t831 (fun hg836 => ?_) (fun hg836 => ?_)
  ·skip
   refine ops_ex rfl (guard_on rfl rfl rfl hg836) rfl rfl (ex_fieldAddr (off' := 1) rfl rfl Try.underlying38 rfl tsz2 rfl) ?_
   refine ops_ex rfl (guard_on rfl rfl rfl hg836) rfl rfl (ex_load1 rfl rfl Try.underlying2 rfl ((HM.box_at 0 rfl) 1 _ rfl)) ?_
   refine ops_does rfl (guard_on rfl rfl rfl hg836) rfl rfl (does_callk rfl callok24 rfl (spec_l1In.calls (x0 := x0.fAt) (x1 := 0) (x2 := 3) (cond_t hg836 h834))) ?_
   rintro _ w837 ⟨rfl, hn⟩
   replace HM : Mem w [] w837 [box b827 38 [.int .i64 x0.fTx, .int .i64 x0.fAt]] := HM.call hn
   refine ops_ex (v := .bool (t831 && t833)) rfl (guard_none rfl) rfl rfl (ex_pand_t rfl rfl hg836 rfl) ?_
   refine ox rfl rfl rfl rfl (ex_assign rfl rfl) ?_
   refine ops_nil ?_
   replace HM := (HM.front 0 rfl rfl).drop
   exact at_meet [(2, .bool (t831 && t833))] ⟨rfl, HM⟩ (Sub.cons rfl Sub.nil)
  ·skip
   refine ops_off rfl (guard_off rfl rfl rfl hg836) rfl rfl ?_
   refine ops_off rfl (guard_off rfl rfl rfl hg836) rfl rfl ?_
   refine ops_off rfl (guard_off rfl rfl rfl hg836) rfl rfl ?_
   have hg838 : (t831 && t833) = false := by simp only [hg836, Bool.and_true, Bool.true_and, Bool.and_false, Bool.false_and, Bool.or_true, Bool.true_or, Bool.or_false, Bool.false_or, Bool.not_true, Bool.not_false, Bool.not_not]
   refine ops_ex (v := .bool (t831 && t833)) rfl (guard_none rfl) rfl rfl (ex_pand_f rfl rfl hg836) ?_
   refine ox rfl rfl rfl rfl (ex_assign rfl rfl) ?_
   refine ops_nil ?_
   replace HM := (HM.front 0 rfl rfl).drop
   exact at_meet [(2, .bool (t831 && t833))] ⟨rfl, HM⟩ (Sub.cons rfl Sub.nil)
 ·rintro _ w839 ⟨rfl, HM⟩
  refine at_then ?_
  refine run_ret ?_
  have hR := Option.some.inj H
  subst hR
  exact at_ret1 rfl rfl ⟨_, rfl, rfl, HM⟩

def spec_l2Height.f (k : Nat) (x0 : Int) : Option Bool := ((spec_l1In.f k x0 0 999).bind fun t848 => some t848)
theorem spec_l2Height.calls {k : Nat} {x0 : Int}  {w : World}  {r : Bool} (H : spec_l2Height.f k x0 = some r) :
  Calls Try.prog 25 ([.int .i64 x0] : List Value).toArray w (fun e w_ => ∃ v, e = .returned v ∧ v = (.bool r) ∧ Mem w [] w_ []) := by
 have HM := Mem.start w
 refine calls_run (N := 5) Try.func25 rfl rfl rfl rfl ?_
 unfold spec_l2Height.f at H
 refine run_seq ?_
 refine run_region rfl ?_
 refine ox rfl rfl rfl rfl (ex_assign rfl rfl) ?_
 refine ops_nil (at_then (run_seq ?_))
 obtain ⟨t848, h849, H⟩ := bind_some H
 refine run_region rfl ?_
 refine ox rfl rfl rfl rfl (ex_move rfl rfl) ?_
 refine od rfl rfl rfl rfl (does_callk rfl callok24 rfl (spec_l1In.calls (x0 := x0) (x1 := 0) (x2 := 999) h849)) ?_
 rintro _ w850 ⟨rfl, hn⟩
 replace HM : Mem w [] w850 [] := HM.call hn
 refine ox rfl rfl rfl rfl (ex_assign rfl rfl) ?_
 refine ops_nil (at_then ?_)
 refine run_ret ?_
 have hR := Option.some.inj H
 subst hR
 exact at_ret1 rfl rfl ⟨_, rfl, rfl, HM⟩

def spec_l1Key.f (k : Nat) (x0 : Int) : Option Bool := ((spec_l1In.f k x0 1 999).bind fun t888 => some t888)
theorem spec_l1Key.calls {k : Nat} {x0 : Int}  {w : World}  {r : Bool} (H : spec_l1Key.f k x0 = some r) :
  Calls Try.prog 69 ([.int .i64 x0] : List Value).toArray w (fun e w_ => ∃ v, e = .returned v ∧ v = (.bool r) ∧ Mem w [] w_ []) := by
 have HM := Mem.start w
 refine calls_run (N := 5) Try.func69 rfl rfl rfl rfl ?_
 unfold spec_l1Key.f at H
 refine run_seq ?_
 refine run_region rfl ?_
 refine ox rfl rfl rfl rfl (ex_assign rfl rfl) ?_
 refine ops_nil (at_then (run_seq ?_))
 obtain ⟨t888, h889, H⟩ := bind_some H
 refine run_region rfl ?_
 refine ox rfl rfl rfl rfl (ex_move rfl rfl) ?_
 refine od rfl rfl rfl rfl (does_callk rfl callok24 rfl (spec_l1In.calls (x0 := x0) (x1 := 1) (x2 := 999) h889)) ?_
 rintro _ w890 ⟨rfl, hn⟩
 replace HM : Mem w [] w890 [] := HM.call hn
 refine ox rfl rfl rfl rfl (ex_assign rfl rfl) ?_
 refine ops_nil (at_then ?_)
 refine run_ret ?_
 have hR := Option.some.inj H
 subst hR
 exact at_ret1 rfl rfl ⟨_, rfl, rfl, HM⟩

def spec_l2Fault.l0 (x0 : Rule) : Nat → Int → Option (Int ⊕ Unit)
 | 0, _ => none
 | k + 1, a974 => (bif (decide (a974 < (x0.fKeys.length : Int))) then (chk (idxOk a974 x0.fKeys.length) ((spec_l1Key.f k (gt x0.fKeys a974)).bind fun t986 => (bif !t986 then some (.inl 3) else spec_l2Fault.l0 x0 k (wrap64 (a974 + 1))))) else some (.inr ()))
theorem spec_l2Fault.l0_z (x0 : Rule) (a974 : Int) : spec_l2Fault.l0 x0 0 a974 = none := rfl
theorem spec_l2Fault.l0_s (x0 : Rule) (k : Nat) (a974 : Int) : spec_l2Fault.l0 x0 (k + 1) a974 = (bif (decide (a974 < (x0.fKeys.length : Int))) then (chk (idxOk a974 x0.fKeys.length) ((spec_l1Key.f k (gt x0.fKeys a974)).bind fun t986 => (bif !t986 then some (.inl 3) else spec_l2Fault.l0 x0 k (wrap64 (a974 + 1))))) else some (.inr ())) := rfl
def spec_l2Fault.l1 (x0 : Rule) : Nat → Int → Option (Int ⊕ Unit)
 | 0, _ => none
 | k + 1, a1033 => (bif (decide (a1033 < (x0.fKeys.length : Int))) then (chk (idxOk a1033 x0.fKeys.length) (chk (idxOk (wrap64 (a1033 - 1)) x0.fKeys.length) (bif (decide ((gt x0.fKeys a1033) ≤ (gt x0.fKeys (wrap64 (a1033 - 1))))) then some (.inl 1) else spec_l2Fault.l1 x0 k (wrap64 (a1033 + 1))))) else some (.inr ()))
theorem spec_l2Fault.l1_z (x0 : Rule) (a1033 : Int) : spec_l2Fault.l1 x0 0 a1033 = none := rfl
theorem spec_l2Fault.l1_s (x0 : Rule) (k : Nat) (a1033 : Int) : spec_l2Fault.l1 x0 (k + 1) a1033 = (bif (decide (a1033 < (x0.fKeys.length : Int))) then (chk (idxOk a1033 x0.fKeys.length) (chk (idxOk (wrap64 (a1033 - 1)) x0.fKeys.length) (bif (decide ((gt x0.fKeys a1033) ≤ (gt x0.fKeys (wrap64 (a1033 - 1))))) then some (.inl 1) else spec_l2Fault.l1 x0 k (wrap64 (a1033 + 1))))) else some (.inr ())) := rfl
def spec_l2Fault.f (k : Nat) (x0 : Rule) : Option Int := ((spec_l1In.f k (x0.fKeys.length : Int) 1 3).bind fun t943 => (bif !t943 then some 2 else ((spec_l2Fault.l0 x0 k 0).bind fun o966 => thn o966 (fun r => some r) (fun _ => ((spec_l1In.f k x0.fNeed 1 (x0.fKeys.length : Int)).bind fun t996 => ((bif (!(!t996)) then spec_l2Height.f k x0.fAfter else some default).bind fun t998 => (bif ((!t996) || (!t998)) then some 3 else ((spec_l2Fault.l1 x0 k 1).bind fun o1025 => thn o1025 (fun r => some r) (fun _ => some 0)))))))))
theorem spec_l2Fault.calls {k : Nat} {x0 : Rule} {b0 f0 : Nat} {p0_0 : Value} {w : World} (hc0 : CellsAt w b0 f0 [p0_0, .int .i64 x0.fNeed, .int .i64 x0.fAfter]) (hp0_0 : RdS kInt w p0_0 x0.fKeys) {r : Int} (H : spec_l2Fault.f k x0 = some r) :
  Calls Try.prog 51 ([.pointer (some ⟨b0, f0, none⟩)] : List Value).toArray w (fun e w_ => ∃ v, e = .returned v ∧ v = (.int .i64 r) ∧ Mem w [] w_ []) := by
 have HM := Mem.start w
 refine calls_run (N := 72) Try.func51 rfl rfl rfl rfl ?_
 unfold spec_l2Fault.f at H
 refine run_seq ?_
 refine run_region rfl ?_
 refine ox rfl rfl rfl rfl (ex_assign rfl rfl) ?_
 refine ops_nil (at_then (run_seq ?_))
 refine run_region rfl ?_
 refine ox rfl rfl rfl rfl (ex_move rfl rfl) ?_
 refine ox rfl rfl rfl rfl (ex_nilCheck rfl rfl) ?_
 refine ox rfl rfl rfl rfl (ex_fieldAddr (off' := f0) rfl rfl Try.underlying34 rfl tsz32 rfl) ?_
 refine ox rfl rfl rfl rfl (ex_load1 rfl rfl Try.underlying32 rfl ((HM.at_ hc0) 0 _ rfl)) ?_
 refine ox rfl rfl rfl rfl (ex_len (d := kInt) (xs := x0.fKeys) rfl rfl Try.underlying32 hp0_0) ?_
 refine ox rfl rfl rfl rfl (ex_assign rfl rfl) ?_
 refine ops_nil (at_then (run_seq ?_))
 refine run_seq ?_
 obtain ⟨t943, h944, H⟩ := bind_some H
 refine run_region rfl ?_
 refine ox rfl rfl rfl rfl (ex_move rfl rfl) ?_
 refine od rfl rfl rfl rfl (does_callk rfl callok24 rfl (spec_l1In.calls (x0 := (x0.fKeys.length : Int)) (x1 := 1) (x2 := 3) h944)) ?_
 rintro _ w945 ⟨rfl, hn⟩
 replace HM : Mem w [] w945 [] := HM.call hn
 refine ox rfl rfl rfl rfl (ex_not rfl rfl) ?_
 refine ops_nil (at_then ?_)
 refine run_cond (b := !t943) rfl (fun hb946 => ?_) (fun hb946 => ?_)
 ·replace H := cond_t hb946 H
  refine run_seq ?_
  refine run_region rfl ?_
  refine ox rfl rfl rfl rfl (ex_assign rfl rfl) ?_
  refine ops_nil (at_then ?_)
  refine run_ret ?_
  refine at_then_ret ?_
  have hR := Option.some.inj H
  subst hR
  exact at_ret1 rfl rfl ⟨_, rfl, rfl, HM⟩
 ·replace H := cond_f hb946 H
  refine run_skip ?_
  refine at_then ?_
  obtain ⟨o966, ho967, H⟩ := bind_some H
  refine run_mid (fun ρ_ w_ => Sum.inr () = o966 ∧ ρ_ = [(0, .pointer (some ⟨b0, f0, none⟩)), (3, .int .i64 (x0.fKeys.length : Int))] ∧ Mem w [] w_ []) ?_ ?_
  ·skip
   refine run_seq ?_
   refine run_region rfl ?_
   refine ox rfl rfl rfl rfl (ex_assign rfl rfl) ?_
   refine ops_nil (at_then ?_)
   refine run_block ?_
   refine run_loop (fun k_ ρ_ w_ => ∃ a974 : Int, spec_l2Fault.l0 x0 k_ a974 = some o966 ∧ ρ_ = [(0, .pointer (some ⟨b0, f0, none⟩)), (3, .int .i64 (x0.fKeys.length : Int)), (4, .int .i64 a974)] ∧ Mem w [] w_ []) k (ρ1 := [(0, .pointer (some ⟨b0, f0, none⟩)), (3, .int .i64 (x0.fKeys.length : Int)), (4, .int .i64 0)]) ⟨_, ho967, rfl, HM⟩ (Sub.cons rfl (Sub.cons rfl (Sub.cons rfl Sub.nil))) ?_
   clear HM ho967
   rintro k981 _ w982 ⟨a974, ho967, rfl, HM⟩
   obtain _ | k981 := k981
   ·exact nomatch ((spec_l2Fault.l0_z x0 a974).symm.trans ho967)
   replace ho967 := (spec_l2Fault.l0_s x0 k981 a974).symm.trans ho967
   refine run_seq ?_
   refine run_seq ?_
   refine run_region rfl ?_
   refine ox rfl rfl rfl rfl (ex_move rfl rfl) ?_
   refine ox rfl rfl rfl rfl (ex_move rfl rfl) ?_
   refine ox rfl rfl rfl rfl (ex_nilCheck rfl rfl) ?_
   refine ox rfl rfl rfl rfl (ex_fieldAddr (off' := f0) rfl rfl Try.underlying34 rfl tsz32 rfl) ?_
   refine ox rfl rfl rfl rfl (ex_load1 rfl rfl Try.underlying32 rfl ((HM.at_ hc0) 0 _ rfl)) ?_
   refine ox rfl rfl rfl rfl (ex_len (d := kInt) (xs := x0.fKeys) rfl rfl Try.underlying32 hp0_0) ?_
   refine ox rfl rfl rfl rfl (ex_lss rfl rfl rfl) ?_
   refine ops_nil (at_then ?_)
   refine run_cond (b := (decide (a974 < (x0.fKeys.length : Int)))) rfl (fun hb983 => ?_) (fun hb983 => ?_)
   ·replace ho967 := cond_t hb983 ho967
    refine run_skip ?_
    refine at_then ?_
    refine run_seq ?_
    refine run_block ?_
    refine run_seq ?_
    obtain ⟨e984, ho967⟩ := chk_some ho967
    obtain ⟨t986, h987, ho967⟩ := bind_some ho967
    refine run_region rfl ?_
    refine ox rfl rfl rfl rfl (ex_move rfl rfl) ?_
    refine ox rfl rfl rfl rfl (ex_nilCheck rfl rfl) ?_
    refine ox rfl rfl rfl rfl (ex_fieldAddr (off' := f0) rfl rfl Try.underlying34 rfl tsz32 rfl) ?_
    refine ox rfl rfl rfl rfl (ex_load1 rfl rfl Try.underlying32 rfl ((HM.at_ hc0) 0 _ rfl)) ?_
    refine ox rfl rfl rfl rfl (ex_move rfl rfl) ?_
    have hc985 : CellsAt _ (sb p0_0) (so p0_0 + (a974).toNat * 1) [(.int .i64 (gt x0.fKeys a974))] := rd_plain hp0_0 e984
    refine ox rfl rfl rfl rfl (ex_indexAddr (d := kInt) rfl rfl rfl Try.underlying32 tsz2 hp0_0 (idx_lo e984) (idx_hi e984)) ?_
    refine ox rfl rfl rfl rfl (ex_load1 rfl rfl Try.underlying2 rfl ((HM.at_ hc985) 0 _ rfl)) ?_
    refine od rfl rfl rfl rfl (does_callk rfl callok69 rfl (spec_l1Key.calls (x0 := (gt x0.fKeys a974)) h987)) ?_
    rintro _ w988 ⟨rfl, hn⟩
    replace HM : Mem w [] w988 [] := HM.call hn
    refine ox rfl rfl rfl rfl (ex_not rfl rfl) ?_
    refine ops_nil (at_then ?_)
    refine run_cond (b := !t986) rfl (fun hb989 => ?_) (fun hb989 => ?_)
    ·replace ho967 := cond_t hb989 ho967
     refine run_seq ?_
     refine run_region rfl ?_
     refine ox rfl rfl rfl rfl (ex_assign rfl rfl) ?_
     refine ops_nil (at_then ?_)
     refine run_ret ?_
     refine at_block_ret ?_
     refine at_then_ret ?_
     refine at_then_ret ?_
     refine at_block_ret ?_
     refine at_then_ret ?_
     have hR := Option.some.inj ho967
     subst hR
     have hT := thn_inl H
     have hR := Option.some.inj hT
     subst hR
     exact at_ret1 rfl rfl ⟨_, rfl, rfl, HM⟩
    ·replace ho967 := cond_f hb989 ho967
     refine run_skip ?_
     refine at_block ?_
     refine at_then ?_
     refine run_region rfl ?_
     refine ox rfl rfl rfl rfl (ex_move rfl rfl) ?_
     refine ox rfl rfl rfl rfl (ex_add rfl rfl rfl) ?_
     refine ox rfl rfl rfl rfl (ex_assign rfl rfl) ?_
     refine ops_nil ?_
     exact at_again k981 (ρ1 := [(0, .pointer (some ⟨b0, f0, none⟩)), (3, .int .i64 (x0.fKeys.length : Int)), (4, .int .i64 (wrap64 (a974 + 1)))]) (Nat.lt_succ_self _) ⟨_, ho967, rfl, HM⟩ (Sub.cons rfl (Sub.cons rfl (Sub.cons rfl Sub.nil)))
   ·replace ho967 := cond_f hb983 ho967
    refine run_exit ?_
    refine at_then_exit ?_
    refine at_then_exit ?_
    refine at_block_exit ?_
    exact at_mid (ρ' := [(0, .pointer (some ⟨b0, f0, none⟩)), (3, .int .i64 (x0.fKeys.length : Int))]) ⟨(Option.some.inj ho967), rfl, HM⟩ (Sub.cons rfl (Sub.cons rfl Sub.nil))
  ·rintro _ w990 ⟨rfl, rfl, HM⟩
   replace H := (thn_inr H)
   refine run_seq ?_
   refine run_seq ?_
   obtain ⟨t996, h997, H⟩ := bind_some H
   obtain ⟨t998, h999, H⟩ := bind_some H
   refine run_meet (fun ρ_ w_ => ρ_ = [(0, .pointer (some ⟨b0, f0, none⟩)), (46, .bool ((!t996) || (!t998)))] ∧ Mem w [] w_ []) ?_ ?_
   ·skip
    refine run_region rfl ?_
    refine ox rfl rfl rfl rfl (ex_move rfl rfl) ?_
    refine ox rfl rfl rfl rfl (ex_nilCheck rfl rfl) ?_
    refine ox rfl rfl rfl rfl (ex_fieldAddr (off' := f0 + 1) rfl rfl Try.underlying34 rfl tsz2 rfl) ?_
    refine ox rfl rfl rfl rfl (ex_load1 rfl rfl Try.underlying2 rfl ((HM.at_ hc0) 1 _ rfl)) ?_
    refine ox rfl rfl rfl rfl (ex_move rfl rfl) ?_
    refine od rfl rfl rfl rfl (does_callk rfl callok24 rfl (spec_l1In.calls (x0 := x0.fNeed) (x1 := 1) (x2 := (x0.fKeys.length : Int)) h997)) ?_
    rintro _ w1000 ⟨rfl, hn⟩
    replace HM : Mem w [] w1000 [] := HM.call hn
    refine ox rfl rfl rfl rfl (ex_not rfl rfl) ?_
    refine ox rfl rfl rfl rfl (ex_move rfl rfl) ?_
    refine bool_cases (!t996) (fun hg1001 => ?_) (fun hg1001 => ?_)
    ·skip
     refine ops_off rfl (guard_off rfl rfl rfl hg1001) rfl rfl ?_
     refine ops_off rfl (guard_off rfl rfl rfl hg1001) rfl rfl ?_
     refine ops_off rfl (guard_off rfl rfl rfl hg1001) rfl rfl ?_
     refine ops_off rfl (guard_off rfl rfl rfl hg1001) rfl rfl ?_
     refine ops_off rfl (guard_off rfl rfl rfl hg1001) rfl rfl ?_
     refine ops_off rfl (guard_off rfl rfl rfl hg1001) rfl rfl ?_
     have hg1002 : ((!t996) || (!t998)) = true := by simp only [hg1001, Bool.and_true, Bool.true_and, Bool.and_false, Bool.false_and, Bool.or_true, Bool.true_or, Bool.or_false, Bool.false_or, Bool.not_true, Bool.not_false, Bool.not_not]
     refine ops_ex (v := .bool ((!t996) || (!t998))) rfl (guard_none rfl) rfl rfl (ex_por_t rfl rfl hg1001) ?_
     refine ops_nil ?_
     exact at_meet [(0, .pointer (some ⟨b0, f0, none⟩)), (46, .bool ((!t996) || (!t998)))] ⟨rfl, HM⟩ (Sub.cons rfl (Sub.cons rfl Sub.nil))
    ·skip
     refine ops_ex rfl (guard_on rfl rfl rfl hg1001) rfl rfl (ex_move rfl rfl) ?_
     refine ops_ex rfl (guard_on rfl rfl rfl hg1001) rfl rfl (ex_nilCheck rfl rfl) ?_
     refine ops_ex rfl (guard_on rfl rfl rfl hg1001) rfl rfl (ex_fieldAddr (off' := f0 + 2) rfl rfl Try.underlying34 rfl tsz2 rfl) ?_
     refine ops_ex rfl (guard_on rfl rfl rfl hg1001) rfl rfl (ex_load1 rfl rfl Try.underlying2 rfl ((HM.at_ hc0) 2 _ rfl)) ?_
     refine ops_does rfl (guard_on rfl rfl rfl hg1001) rfl rfl (does_callk rfl callok25 rfl (spec_l2Height.calls (x0 := x0.fAfter) (cond_t (not_mk hg1001) h999))) ?_
     rintro _ w1003 ⟨rfl, hn⟩
     replace HM : Mem w [] w1003 [] := HM.call hn
     refine ops_ex rfl (guard_on rfl rfl rfl hg1001) rfl rfl (ex_not rfl rfl) ?_
     refine ops_ex (v := .bool ((!t996) || (!t998))) rfl (guard_none rfl) rfl rfl (ex_por_f rfl rfl hg1001 rfl) ?_
     refine ops_nil ?_
     exact at_meet [(0, .pointer (some ⟨b0, f0, none⟩)), (46, .bool ((!t996) || (!t998)))] ⟨rfl, HM⟩ (Sub.cons rfl (Sub.cons rfl Sub.nil))
   ·rintro _ w1004 ⟨rfl, HM⟩
    refine at_then ?_
    refine run_cond (b := ((!t996) || (!t998))) rfl (fun hb1005 => ?_) (fun hb1005 => ?_)
    ·replace H := cond_t hb1005 H
     refine run_seq ?_
     refine run_region rfl ?_
     refine ox rfl rfl rfl rfl (ex_assign rfl rfl) ?_
     refine ops_nil (at_then ?_)
     refine run_ret ?_
     refine at_then_ret ?_
     have hR := Option.some.inj H
     subst hR
     exact at_ret1 rfl rfl ⟨_, rfl, rfl, HM⟩
    ·replace H := cond_f hb1005 H
     refine run_skip ?_
     refine at_then ?_
     obtain ⟨o1025, ho1026, H⟩ := bind_some H
     refine run_mid (fun ρ_ w_ => Sum.inr () = o1025 ∧ ρ_ = [] ∧ Mem w [] w_ []) ?_ ?_
     ·skip
      refine run_seq ?_
      refine run_region rfl ?_
      refine ox rfl rfl rfl rfl (ex_assign rfl rfl) ?_
      refine ops_nil (at_then ?_)
      refine run_block ?_
      refine run_loop (fun k_ ρ_ w_ => ∃ a1033 : Int, spec_l2Fault.l1 x0 k_ a1033 = some o1025 ∧ ρ_ = [(0, .pointer (some ⟨b0, f0, none⟩)), (5, .int .i64 a1033)] ∧ Mem w [] w_ []) k (ρ1 := [(0, .pointer (some ⟨b0, f0, none⟩)), (5, .int .i64 1)]) ⟨_, ho1026, rfl, HM⟩ (Sub.cons rfl (Sub.cons rfl Sub.nil)) ?_
      clear HM ho1026
      rintro k1040 _ w1041 ⟨a1033, ho1026, rfl, HM⟩
      obtain _ | k1040 := k1040
      ·exact nomatch ((spec_l2Fault.l1_z x0 a1033).symm.trans ho1026)
      replace ho1026 := (spec_l2Fault.l1_s x0 k1040 a1033).symm.trans ho1026
      refine run_seq ?_
      refine run_seq ?_
      refine run_region rfl ?_
      refine ox rfl rfl rfl rfl (ex_move rfl rfl) ?_
      refine ox rfl rfl rfl rfl (ex_move rfl rfl) ?_
      refine ox rfl rfl rfl rfl (ex_nilCheck rfl rfl) ?_
      refine ox rfl rfl rfl rfl (ex_fieldAddr (off' := f0) rfl rfl Try.underlying34 rfl tsz32 rfl) ?_
      refine ox rfl rfl rfl rfl (ex_load1 rfl rfl Try.underlying32 rfl ((HM.at_ hc0) 0 _ rfl)) ?_
      refine ox rfl rfl rfl rfl (ex_len (d := kInt) (xs := x0.fKeys) rfl rfl Try.underlying32 hp0_0) ?_
      refine ox rfl rfl rfl rfl (ex_lss rfl rfl rfl) ?_
      refine ops_nil (at_then ?_)
      refine run_cond (b := (decide (a1033 < (x0.fKeys.length : Int)))) rfl (fun hb1042 => ?_) (fun hb1042 => ?_)
      ·replace ho1026 := cond_t hb1042 ho1026
       refine run_skip ?_
       refine at_then ?_
       refine run_seq ?_
       refine run_block ?_
       refine run_seq ?_
       obtain ⟨e1043, ho1026⟩ := chk_some ho1026
       obtain ⟨e1045, ho1026⟩ := chk_some ho1026
       refine run_drawf (fun w_ => Mem w [] w_ []) [(0, true), (1, true), (2, true), (3, true), (4, true), (5, true), (6, true), (7, true), (8, true), (9, true), (10, true), (11, true), (12, true), (13, true), (14, true), (15, true)] mixed rfl rfl (by kernel_rfl) ?_
       replace HM := HM.grow (fr_drew _)
       have hS := Mem.suf (M := []) HM
       refine dp rfl rfl rfl rfl (ex_move rfl rfl) hS ?_
       refine dp rfl rfl rfl rfl (ex_nilCheck rfl rfl) hS ?_
       refine dp rfl rfl rfl rfl (ex_fieldAddr (off' := f0) rfl rfl Try.underlying34 rfl tsz32 rfl) hS ?_
       refine drwp_take rfl (guard_none rfl) rfl rfl (fun w_ hS_ => (ex_load1 rfl rfl Try.underlying32 rfl ((hS_.at_ hc0) 0 _ rfl))) hS ?_
       refine dp rfl rfl rfl rfl (ex_move rfl rfl) hS ?_
       have hc1044 : CellsAt _ (sb p0_0) (so p0_0 + (a1033).toNat * 1) [(.int .i64 (gt x0.fKeys a1033))] := rd_plain hp0_0 e1043
       refine dp rfl rfl rfl rfl (ex_indexAddr (d := kInt) rfl rfl rfl Try.underlying32 tsz2 hp0_0 (idx_lo e1043) (idx_hi e1043)) hS ?_
       refine drwp_take rfl (guard_none rfl) rfl rfl (fun w_ hS_ => (ex_load1 rfl rfl Try.underlying2 rfl ((hS_.at_ hc1044) 0 _ rfl))) hS ?_
       refine dp rfl rfl rfl rfl (ex_move rfl rfl) hS ?_
       refine dp rfl rfl rfl rfl (ex_nilCheck rfl rfl) hS ?_
       refine dp rfl rfl rfl rfl (ex_fieldAddr (off' := f0) rfl rfl Try.underlying34 rfl tsz32 rfl) hS ?_
       refine drwp_take rfl (guard_none rfl) rfl rfl (fun w_ hS_ => (ex_load1 rfl rfl Try.underlying32 rfl ((hS_.at_ hc0) 0 _ rfl))) hS ?_
       refine dp rfl rfl rfl rfl (ex_move rfl rfl) hS ?_
       refine dp rfl rfl rfl rfl (ex_sub rfl rfl rfl) hS ?_
       have hc1046 : CellsAt _ (sb p0_0) (so p0_0 + (wrap64 (a1033 - 1)).toNat * 1) [(.int .i64 (gt x0.fKeys (wrap64 (a1033 - 1))))] := rd_plain hp0_0 e1045
       refine dp rfl rfl rfl rfl (ex_indexAddr (d := kInt) rfl rfl rfl Try.underlying32 tsz2 hp0_0 (idx_lo e1045) (idx_hi e1045)) hS ?_
       refine drwp_take rfl (guard_none rfl) rfl rfl (fun w_ hS_ => (ex_load1 rfl rfl Try.underlying2 rfl ((hS_.at_ hc1046) 0 _ rfl))) hS ?_
       refine dp rfl rfl rfl rfl (ex_leq rfl rfl rfl) hS ?_
       refine drwp_done ?_
       refine at_then ?_
       refine run_cond (b := (decide ((gt x0.fKeys a1033) ≤ (gt x0.fKeys (wrap64 (a1033 - 1)))))) rfl (fun hb1047 => ?_) (fun hb1047 => ?_)
       ·replace ho1026 := cond_t hb1047 ho1026
        refine run_seq ?_
        refine run_region rfl ?_
        refine ox rfl rfl rfl rfl (ex_assign rfl rfl) ?_
        refine ops_nil (at_then ?_)
        refine run_ret ?_
        refine at_block_ret ?_
        refine at_then_ret ?_
        refine at_then_ret ?_
        refine at_block_ret ?_
        refine at_then_ret ?_
        have hR := Option.some.inj ho1026
        subst hR
        have hT := thn_inl H
        have hR := Option.some.inj hT
        subst hR
        exact at_ret1 rfl rfl ⟨_, rfl, rfl, HM⟩
       ·replace ho1026 := cond_f hb1047 ho1026
        refine run_skip ?_
        refine at_block ?_
        refine at_then ?_
        refine run_region rfl ?_
        refine ox rfl rfl rfl rfl (ex_move rfl rfl) ?_
        refine ox rfl rfl rfl rfl (ex_add rfl rfl rfl) ?_
        refine ox rfl rfl rfl rfl (ex_assign rfl rfl) ?_
        refine ops_nil ?_
        exact at_again k1040 (ρ1 := [(0, .pointer (some ⟨b0, f0, none⟩)), (5, .int .i64 (wrap64 (a1033 + 1)))]) (Nat.lt_succ_self _) ⟨_, ho1026, rfl, HM⟩ (Sub.cons rfl (Sub.cons rfl Sub.nil))
      ·replace ho1026 := cond_f hb1042 ho1026
       refine run_exit ?_
       refine at_then_exit ?_
       refine at_then_exit ?_
       refine at_block_exit ?_
       exact at_mid (ρ' := []) ⟨(Option.some.inj ho1026), rfl, HM⟩ Sub.nil
     ·rintro _ w1048 ⟨rfl, rfl, HM⟩
      replace H := (thn_inr H)
      refine run_seq ?_
      refine run_region rfl ?_
      refine ox rfl rfl rfl rfl (ex_assign rfl rfl) ?_
      refine ops_nil (at_then ?_)
      refine run_ret ?_
      have hR := Option.some.inj H
      subst hR
      exact at_ret1 rfl rfl ⟨_, rfl, rfl, HM⟩

def spec_l4Out.f (k : Nat) (x0 : Out) : Option Int := ((spec_l1In.f k x0.fValue 1 1000000).bind fun t1054 => (bif !t1054 then some 3 else ((spec_l2Fault.f k x0.fRule).bind fun t1058 => some t1058)))
theorem spec_l4Out.calls {k : Nat} {x0 : Out} {b0 f0 : Nat} {p0_0 : Value} {w : World} (hc0 : CellsAt w b0 f0 [.int .i64 x0.fValue, p0_0, .int .i64 x0.fRule.fNeed, .int .i64 x0.fRule.fAfter]) (hp0_0 : RdS kInt w p0_0 x0.fRule.fKeys) {r : Int} (H : spec_l4Out.f k x0 = some r) :
  Calls Try.prog 26 ([.pointer (some ⟨b0, f0, none⟩)] : List Value).toArray w (fun e w_ => ∃ v, e = .returned v ∧ v = (.int .i64 r) ∧ Mem w [] w_ []) := by
 have HM := Mem.start w
 refine calls_run (N := 13) Try.func26 rfl rfl rfl rfl ?_
 unfold spec_l4Out.f at H
 refine run_seq ?_
 refine run_region rfl ?_
 refine ox rfl rfl rfl rfl (ex_assign rfl rfl) ?_
 refine ops_nil (at_then (run_seq ?_))
 refine run_seq ?_
 obtain ⟨t1054, h1055, H⟩ := bind_some H
 refine run_region rfl ?_
 refine ox rfl rfl rfl rfl (ex_move rfl rfl) ?_
 refine ox rfl rfl rfl rfl (ex_nilCheck rfl rfl) ?_
 refine ox rfl rfl rfl rfl (ex_fieldAddr (off' := f0) rfl rfl Try.underlying36 rfl tsz2 rfl) ?_
 refine ox rfl rfl rfl rfl (ex_load1 rfl rfl Try.underlying2 rfl ((HM.at_ hc0) 0 _ rfl)) ?_
 refine od rfl rfl rfl rfl (does_callk rfl callok24 rfl (spec_l1In.calls (x0 := x0.fValue) (x1 := 1) (x2 := 1000000) h1055)) ?_
 rintro _ w1056 ⟨rfl, hn⟩
 replace HM : Mem w [] w1056 [] := HM.call hn
 refine ox rfl rfl rfl rfl (ex_not rfl rfl) ?_
 refine ops_nil (at_then ?_)
 refine run_cond (b := !t1054) rfl (fun hb1057 => ?_) (fun hb1057 => ?_)
 ·replace H := cond_t hb1057 H
  refine run_seq ?_
  refine run_region rfl ?_
  refine ox rfl rfl rfl rfl (ex_assign rfl rfl) ?_
  refine ops_nil (at_then ?_)
  refine run_ret ?_
  refine at_then_ret ?_
  have hR := Option.some.inj H
  subst hR
  exact at_ret1 rfl rfl ⟨_, rfl, rfl, HM⟩
 ·replace H := cond_f hb1057 H
  refine run_skip ?_
  refine at_then ?_
  refine run_seq ?_
  obtain ⟨t1058, h1059, H⟩ := bind_some H
  refine run_region rfl ?_
  refine ox rfl rfl rfl rfl (ex_move rfl rfl) ?_
  refine ox rfl rfl rfl rfl (ex_nilCheck rfl rfl) ?_
  refine ox rfl rfl rfl rfl (ex_fieldAddr (off' := f0 + 1) rfl rfl Try.underlying36 rfl tsz34 rfl) ?_
  refine od rfl rfl rfl rfl (does_callk rfl callok51 rfl (spec_l2Fault.calls (x0 := x0.fRule) (CellsAt.sub (HM.at_ hc0) 1 3 rfl) (HM.rd hp0_0) h1059)) ?_
  rintro _ w1060 ⟨rfl, hn⟩
  replace HM : Mem w [] w1060 [] := HM.call hn
  refine ox rfl rfl rfl rfl (ex_assign rfl rfl) ?_
  refine ops_nil (at_then ?_)
  refine run_ret ?_
  have hR := Option.some.inj H
  subst hR
  exact at_ret1 rfl rfl ⟨_, rfl, rfl, HM⟩

def spec_l4Ahead.f (k : Nat) (x0 : Ref) (x1 : Ref) : Option Bool := (bif (x0.fTx != x1.fTx) then some (decide (x0.fTx < x1.fTx)) else some (decide (x0.fAt < x1.fAt)))
theorem spec_l4Ahead.calls {k : Nat} {x0 : Ref} {x1 : Ref}  {w : World}  {r : Bool} (H : spec_l4Ahead.f k x0 x1 = some r) :
  Calls Try.prog 50 ([.agg #[(.int .i64 x0.fTx), (.int .i64 x0.fAt)], .agg #[(.int .i64 x1.fTx), (.int .i64 x1.fAt)]] : List Value).toArray w (fun e w_ => ∃ v, e = .returned v ∧ v = (.bool r) ∧ Mem w [] w_ []) := by
 have HM := Mem.start w
 refine calls_run (N := 20) Try.func50 rfl rfl rfl rfl ?_
 unfold spec_l4Ahead.f at H
 refine run_seq ?_
 refine run_region rfl ?_
 refine od rfl rfl rfl rfl (does_box (cs := [.int .i64 x0.fTx, .int .i64 x0.fAt]) rfl rfl rfl HM) ?_
 rintro _ w1093 ⟨b1087, rfl, HM⟩
 refine od rfl rfl rfl rfl (does_box (cs := [.int .i64 x1.fTx, .int .i64 x1.fAt]) rfl rfl rfl HM) ?_
 rintro _ w1094 ⟨b1090, rfl, HM⟩
 refine ox rfl rfl rfl rfl (ex_assign rfl rfl) ?_
 refine ops_nil (at_then (run_seq ?_))
 refine run_seq ?_
 refine run_region rfl ?_
 refine ox rfl rfl rfl rfl (ex_fieldAddr (off' := 0) rfl rfl Try.underlying38 rfl tsz2 rfl) ?_
 refine ox rfl rfl rfl rfl (ex_load1 rfl rfl Try.underlying2 rfl ((HM.box_at 1 rfl) 0 _ rfl)) ?_
 refine ox rfl rfl rfl rfl (ex_fieldAddr (off' := 0) rfl rfl Try.underlying38 rfl tsz2 rfl) ?_
 refine ox rfl rfl rfl rfl (ex_load1 rfl rfl Try.underlying2 rfl ((HM.box_at 0 rfl) 0 _ rfl)) ?_
 refine ox rfl rfl rfl rfl (ex_neq rfl rfl rfl) ?_
 refine ops_nil (at_then ?_)
 refine run_cond (b := (x0.fTx != x1.fTx)) rfl (fun hb1096 => ?_) (fun hb1096 => ?_)
 ·replace H := cond_t hb1096 H
  refine run_seq ?_
  refine run_region rfl ?_
  refine ox rfl rfl rfl rfl (ex_fieldAddr (off' := 0) rfl rfl Try.underlying38 rfl tsz2 rfl) ?_
  refine ox rfl rfl rfl rfl (ex_load1 rfl rfl Try.underlying2 rfl ((HM.box_at 1 rfl) 0 _ rfl)) ?_
  refine ox rfl rfl rfl rfl (ex_fieldAddr (off' := 0) rfl rfl Try.underlying38 rfl tsz2 rfl) ?_
  refine ox rfl rfl rfl rfl (ex_load1 rfl rfl Try.underlying2 rfl ((HM.box_at 0 rfl) 0 _ rfl)) ?_
  refine ox rfl rfl rfl rfl (ex_lss rfl rfl rfl) ?_
  refine ox rfl rfl rfl rfl (ex_assign rfl rfl) ?_
  refine ops_nil (at_then ?_)
  refine run_ret ?_
  refine at_then_ret ?_
  replace HM := (HM.front 0 rfl rfl).drop
  replace HM := (HM.front 0 rfl rfl).drop
  have hR := Option.some.inj H
  subst hR
  exact at_ret1 rfl rfl ⟨_, rfl, rfl, HM⟩
 ·replace H := cond_f hb1096 H
  refine run_skip ?_
  refine at_then ?_
  refine run_seq ?_
  refine run_region rfl ?_
  refine ox rfl rfl rfl rfl (ex_fieldAddr (off' := 1) rfl rfl Try.underlying38 rfl tsz2 rfl) ?_
  refine ox rfl rfl rfl rfl (ex_load1 rfl rfl Try.underlying2 rfl ((HM.box_at 1 rfl) 1 _ rfl)) ?_
  refine ox rfl rfl rfl rfl (ex_fieldAddr (off' := 1) rfl rfl Try.underlying38 rfl tsz2 rfl) ?_
  refine ox rfl rfl rfl rfl (ex_load1 rfl rfl Try.underlying2 rfl ((HM.box_at 0 rfl) 1 _ rfl)) ?_
  refine ox rfl rfl rfl rfl (ex_lss rfl rfl rfl) ?_
  refine ox rfl rfl rfl rfl (ex_assign rfl rfl) ?_
  refine ops_nil (at_then ?_)
  refine run_ret ?_
  replace HM := (HM.front 0 rfl rfl).drop
  replace HM := (HM.front 0 rfl rfl).drop
  have hR := Option.some.inj H
  subst hR
  exact at_ret1 rfl rfl ⟨_, rfl, rfl, HM⟩

def spec_l4Fault.l0 (x0 : List Coin) : Nat → Int → Option (Int ⊕ Unit)
 | 0, _ => none
 | k + 1, a1420 => (bif (decide (a1420 < (x0.length : Int))) then (chk (idxOk a1420 x0.length) ((spec_l3Ref.f k ((gt x0 a1420).fRef)).bind fun t1493 => (chk (!(!(!t1493)) || (idxOk a1420 x0.length)) ((bif (!(!t1493)) then spec_l2Height.f k ((gt x0 a1420).fHeight) else some default).bind fun t1499 => (bif ((!t1493) || (!t1499)) then some (.inl 3) else (chk (idxOk a1420 x0.length) ((spec_l4Out.f k ((gt x0 a1420).fOut)).bind fun t1518 => (bif (t1518 != 0) then some (.inl t1518) else (chk (!(decide (0 < a1420)) || (idxOk (wrap64 (a1420 - 1)) x0.length)) (chk (!(decide (0 < a1420)) || (idxOk a1420 x0.length)) ((bif (decide (0 < a1420)) then spec_l4Ahead.f k ((gt x0 (wrap64 (a1420 - 1))).fRef) ((gt x0 a1420).fRef) else some default).bind fun t1530 => (bif ((decide (0 < a1420)) && (!t1530)) then some (.inl 1) else spec_l4Fault.l0 x0 k (wrap64 (a1420 + 1)))))))))))))) else some (.inr ()))
theorem spec_l4Fault.l0_z (x0 : List Coin) (a1420 : Int) : spec_l4Fault.l0 x0 0 a1420 = none := rfl
theorem spec_l4Fault.l0_s (x0 : List Coin) (k : Nat) (a1420 : Int) : spec_l4Fault.l0 x0 (k + 1) a1420 = (bif (decide (a1420 < (x0.length : Int))) then (chk (idxOk a1420 x0.length) ((spec_l3Ref.f k ((gt x0 a1420).fRef)).bind fun t1493 => (chk (!(!(!t1493)) || (idxOk a1420 x0.length)) ((bif (!(!t1493)) then spec_l2Height.f k ((gt x0 a1420).fHeight) else some default).bind fun t1499 => (bif ((!t1493) || (!t1499)) then some (.inl 3) else (chk (idxOk a1420 x0.length) ((spec_l4Out.f k ((gt x0 a1420).fOut)).bind fun t1518 => (bif (t1518 != 0) then some (.inl t1518) else (chk (!(decide (0 < a1420)) || (idxOk (wrap64 (a1420 - 1)) x0.length)) (chk (!(decide (0 < a1420)) || (idxOk a1420 x0.length)) ((bif (decide (0 < a1420)) then spec_l4Ahead.f k ((gt x0 (wrap64 (a1420 - 1))).fRef) ((gt x0 a1420).fRef) else some default).bind fun t1530 => (bif ((decide (0 < a1420)) && (!t1530)) then some (.inl 1) else spec_l4Fault.l0 x0 k (wrap64 (a1420 + 1)))))))))))))) else some (.inr ())) := rfl
def spec_l4Fault.f (k : Nat) (x0 : List Coin) : Option Int := (bif (decide (40 < (x0.length : Int))) then some 2 else ((spec_l4Fault.l0 x0 k 0).bind fun o1366 => thn o1366 (fun r => some r) (fun _ => some 0)))
theorem spec_l4Fault.calls {k : Nat} {x0 : List Coin} {p0 : Value} {w : World} (hp0 : RdS kCoin w p0 x0) {r : Int} (H : spec_l4Fault.f k x0 = some r) :
  Calls Try.prog 23 ([p0] : List Value).toArray w (fun e w_ => ∃ v, e = .returned v ∧ v = (.int .i64 r) ∧ Mem w [] w_ []) := by
 have HM := Mem.start w
 refine calls_run (N := 55) Try.func23 rfl rfl rfl rfl ?_
 unfold spec_l4Fault.f at H
 refine run_seq ?_
 refine run_region rfl ?_
 refine ox rfl rfl rfl rfl (ex_assign rfl rfl) ?_
 refine ops_nil (at_then (run_seq ?_))
 refine run_seq ?_
 refine run_region rfl ?_
 refine ox rfl rfl rfl rfl (ex_move rfl rfl) ?_
 refine ox rfl rfl rfl rfl (ex_len (d := kCoin) (xs := x0) rfl rfl Try.underlying24 hp0) ?_
 refine ox rfl rfl rfl rfl (ex_gtr rfl rfl rfl) ?_
 refine ops_nil (at_then ?_)
 refine run_cond (b := (decide (40 < (x0.length : Int)))) rfl (fun hb1208 => ?_) (fun hb1208 => ?_)
 ·replace H := cond_t hb1208 H
  refine run_seq ?_
  refine run_region rfl ?_
  refine ox rfl rfl rfl rfl (ex_assign rfl rfl) ?_
  refine ops_nil (at_then ?_)
  refine run_ret ?_
  refine at_then_ret ?_
  have hR := Option.some.inj H
  subst hR
  exact at_ret1 rfl rfl ⟨_, rfl, rfl, HM⟩
 ·replace H := cond_f hb1208 H
  refine run_skip ?_
  refine at_then ?_
  obtain ⟨o1366, ho1367, H⟩ := bind_some H
  refine run_mid (fun ρ_ w_ => Sum.inr () = o1366 ∧ ρ_ = [] ∧ Mem w [] w_ []) ?_ ?_
  ·skip
   refine run_seq ?_
   refine run_region rfl ?_
   refine ox rfl rfl rfl rfl (ex_assign rfl rfl) ?_
   refine ops_nil (at_then ?_)
   refine run_block ?_
   refine run_loop (fun k_ ρ_ w_ => ∃ a1420 : Int, spec_l4Fault.l0 x0 k_ a1420 = some o1366 ∧ ρ_ = [(0, p0), (3, .int .i64 a1420)] ∧ Mem w [] w_ []) k (ρ1 := [(0, p0), (3, .int .i64 0)]) ⟨_, ho1367, rfl, HM⟩ (Sub.cons rfl (Sub.cons rfl Sub.nil)) ?_
   clear HM ho1367
   rintro k1473 _ w1474 ⟨a1420, ho1367, rfl, HM⟩
   obtain _ | k1473 := k1473
   ·exact nomatch ((spec_l4Fault.l0_z x0 a1420).symm.trans ho1367)
   replace ho1367 := (spec_l4Fault.l0_s x0 k1473 a1420).symm.trans ho1367
   refine run_seq ?_
   refine run_seq ?_
   refine run_region rfl ?_
   refine ox rfl rfl rfl rfl (ex_move rfl rfl) ?_
   refine ox rfl rfl rfl rfl (ex_move rfl rfl) ?_
   refine ox rfl rfl rfl rfl (ex_len (d := kCoin) (xs := x0) rfl rfl Try.underlying24 hp0) ?_
   refine ox rfl rfl rfl rfl (ex_lss rfl rfl rfl) ?_
   refine ops_nil (at_then ?_)
   refine run_cond (b := (decide (a1420 < (x0.length : Int)))) rfl (fun hb1475 => ?_) (fun hb1475 => ?_)
   ·replace ho1367 := cond_t hb1475 ho1367
    refine run_skip ?_
    refine at_then ?_
    refine run_seq ?_
    refine run_block ?_
    refine run_seq ?_
    refine run_seq ?_
    obtain ⟨e1489, ho1367⟩ := chk_some ho1367
    obtain ⟨t1493, h1494, ho1367⟩ := bind_some ho1367
    obtain ⟨e1495, ho1367⟩ := chk_some ho1367
    obtain ⟨t1499, h1500, ho1367⟩ := bind_some ho1367
    refine run_meet (fun ρ_ w_ => ρ_ = [(0, p0), (3, .int .i64 a1420), (29, .bool ((!t1493) || (!t1499)))] ∧ Mem w [] w_ []) ?_ ?_
    ·skip
     refine run_region rfl ?_
     refine ox rfl rfl rfl rfl (ex_move rfl rfl) ?_
     refine ox rfl rfl rfl rfl (ex_move rfl rfl) ?_
     obtain ⟨kv1491, hc1490, hk1492⟩ : ∃ u, CellsAt _ (sb p0) (so p0 + (a1420).toNat * 8) [(.int .i64 ((gt x0 a1420).fRef.fTx)), (.int .i64 ((gt x0 a1420).fRef.fAt)), (.int .i64 ((gt x0 a1420).fOut.fValue)), u, (.int .i64 ((gt x0 a1420).fOut.fRule.fNeed)), (.int .i64 ((gt x0 a1420).fOut.fRule.fAfter)), (.int .i64 ((gt x0 a1420).fHeight)), (.bool ((gt x0 a1420).fMined))] ∧ RdS kInt _ u ((gt x0 a1420).fOut.fRule.fKeys) := rd_with1 hp0 e1489
     refine ox rfl rfl rfl rfl (ex_indexAddr (d := kCoin) rfl rfl rfl Try.underlying24 tsz41 hp0 (idx_lo e1489) (idx_hi e1489)) ?_
     refine ox rfl rfl rfl rfl (ex_fieldAddr (off' := so p0 + (a1420).toNat * 8) rfl rfl Try.underlying41 rfl tsz38 rfl) ?_
     refine ox rfl rfl rfl rfl (ex_loadN (cs := [(.int .i64 ((gt x0 a1420).fRef.fTx)), (.int .i64 ((gt x0 a1420).fRef.fAt))]) rfl rfl Try.underlying38 rfl tsz38 rfl ((HM.at_ hc1490).sub 0 2 rfl)) ?_
     refine od rfl rfl rfl rfl (does_callk rfl callok49 rfl (spec_l3Ref.calls (x0 := (gt x0 a1420).fRef) h1494)) ?_
     rintro _ w1501 ⟨rfl, hn⟩
     replace HM : Mem w [] w1501 [] := HM.call hn
     refine ox rfl rfl rfl rfl (ex_not rfl rfl) ?_
     refine ox rfl rfl rfl rfl (ex_move rfl rfl) ?_
     refine bool_cases (!t1493) (fun hg1502 => ?_) (fun hg1502 => ?_)
     ·skip
      refine ops_off rfl (guard_off rfl rfl rfl hg1502) rfl rfl ?_
      refine ops_off rfl (guard_off rfl rfl rfl hg1502) rfl rfl ?_
      refine ops_off rfl (guard_off rfl rfl rfl hg1502) rfl rfl ?_
      refine ops_off rfl (guard_off rfl rfl rfl hg1502) rfl rfl ?_
      refine ops_off rfl (guard_off rfl rfl rfl hg1502) rfl rfl ?_
      refine ops_off rfl (guard_off rfl rfl rfl hg1502) rfl rfl ?_
      refine ops_off rfl (guard_off rfl rfl rfl hg1502) rfl rfl ?_
      have hg1503 : ((!t1493) || (!t1499)) = true := by simp only [hg1502, Bool.and_true, Bool.true_and, Bool.and_false, Bool.false_and, Bool.or_true, Bool.true_or, Bool.or_false, Bool.false_or, Bool.not_true, Bool.not_false, Bool.not_not]
      refine ops_ex (v := .bool ((!t1493) || (!t1499))) rfl (guard_none rfl) rfl rfl (ex_por_t rfl rfl hg1502) ?_
      refine ops_nil ?_
      exact at_meet [(0, p0), (3, .int .i64 a1420), (29, .bool ((!t1493) || (!t1499)))] ⟨rfl, HM⟩ (Sub.cons rfl (Sub.cons rfl (Sub.cons rfl Sub.nil)))
     ·skip
      refine ops_ex rfl (guard_on rfl rfl rfl hg1502) rfl rfl (ex_move rfl rfl) ?_
      refine ops_ex rfl (guard_on rfl rfl rfl hg1502) rfl rfl (ex_move rfl rfl) ?_
      obtain ⟨kv1497, hc1496, hk1498⟩ : ∃ u, CellsAt _ (sb p0) (so p0 + (a1420).toNat * 8) [(.int .i64 ((gt x0 a1420).fRef.fTx)), (.int .i64 ((gt x0 a1420).fRef.fAt)), (.int .i64 ((gt x0 a1420).fOut.fValue)), u, (.int .i64 ((gt x0 a1420).fOut.fRule.fNeed)), (.int .i64 ((gt x0 a1420).fOut.fRule.fAfter)), (.int .i64 ((gt x0 a1420).fHeight)), (.bool ((gt x0 a1420).fMined))] ∧ RdS kInt _ u ((gt x0 a1420).fOut.fRule.fKeys) := rd_with1 hp0 (or_t e1495 (not_mk hg1502))
      refine ops_ex rfl (guard_on rfl rfl rfl hg1502) rfl rfl (ex_indexAddr (d := kCoin) rfl rfl rfl Try.underlying24 tsz41 hp0 (idx_lo (or_t e1495 (not_mk hg1502))) (idx_hi (or_t e1495 (not_mk hg1502)))) ?_
      refine ops_ex rfl (guard_on rfl rfl rfl hg1502) rfl rfl (ex_fieldAddr (off' := so p0 + (a1420).toNat * 8 + 6) rfl rfl Try.underlying41 rfl tsz2 rfl) ?_
      refine ops_ex rfl (guard_on rfl rfl rfl hg1502) rfl rfl (ex_load1 rfl rfl Try.underlying2 rfl ((HM.at_ hc1496) 6 _ rfl)) ?_
      refine ops_does rfl (guard_on rfl rfl rfl hg1502) rfl rfl (does_callk rfl callok25 rfl (spec_l2Height.calls (x0 := (gt x0 a1420).fHeight) (cond_t (not_mk hg1502) h1500))) ?_
      rintro _ w1504 ⟨rfl, hn⟩
      replace HM : Mem w [] w1504 [] := HM.call hn
      refine ops_ex rfl (guard_on rfl rfl rfl hg1502) rfl rfl (ex_not rfl rfl) ?_
      refine ops_ex (v := .bool ((!t1493) || (!t1499))) rfl (guard_none rfl) rfl rfl (ex_por_f rfl rfl hg1502 rfl) ?_
      refine ops_nil ?_
      exact at_meet [(0, p0), (3, .int .i64 a1420), (29, .bool ((!t1493) || (!t1499)))] ⟨rfl, HM⟩ (Sub.cons rfl (Sub.cons rfl (Sub.cons rfl Sub.nil)))
    ·rintro _ w1505 ⟨rfl, HM⟩
     refine at_then ?_
     refine run_cond (b := ((!t1493) || (!t1499))) rfl (fun hb1506 => ?_) (fun hb1506 => ?_)
     ·replace ho1367 := cond_t hb1506 ho1367
      refine run_seq ?_
      refine run_region rfl ?_
      refine ox rfl rfl rfl rfl (ex_assign rfl rfl) ?_
      refine ops_nil (at_then ?_)
      refine run_ret ?_
      refine at_then_ret ?_
      refine at_block_ret ?_
      refine at_then_ret ?_
      refine at_then_ret ?_
      refine at_block_ret ?_
      refine at_then_ret ?_
      have hR := Option.some.inj ho1367
      subst hR
      have hT := thn_inl H
      have hR := Option.some.inj hT
      subst hR
      exact at_ret1 rfl rfl ⟨_, rfl, rfl, HM⟩
     ·replace ho1367 := cond_f hb1506 ho1367
      refine run_skip ?_
      refine at_then ?_
      refine run_seq ?_
      refine run_seq ?_
      obtain ⟨e1514, ho1367⟩ := chk_some ho1367
      obtain ⟨t1518, h1519, ho1367⟩ := bind_some ho1367
      refine run_region rfl ?_
      refine ox rfl rfl rfl rfl (ex_move rfl rfl) ?_
      refine ox rfl rfl rfl rfl (ex_move rfl rfl) ?_
      obtain ⟨kv1516, hc1515, hk1517⟩ : ∃ u, CellsAt _ (sb p0) (so p0 + (a1420).toNat * 8) [(.int .i64 ((gt x0 a1420).fRef.fTx)), (.int .i64 ((gt x0 a1420).fRef.fAt)), (.int .i64 ((gt x0 a1420).fOut.fValue)), u, (.int .i64 ((gt x0 a1420).fOut.fRule.fNeed)), (.int .i64 ((gt x0 a1420).fOut.fRule.fAfter)), (.int .i64 ((gt x0 a1420).fHeight)), (.bool ((gt x0 a1420).fMined))] ∧ RdS kInt _ u ((gt x0 a1420).fOut.fRule.fKeys) := rd_with1 hp0 e1514
      refine ox rfl rfl rfl rfl (ex_indexAddr (d := kCoin) rfl rfl rfl Try.underlying24 tsz41 hp0 (idx_lo e1514) (idx_hi e1514)) ?_
      refine ox rfl rfl rfl rfl (ex_fieldAddr (off' := so p0 + (a1420).toNat * 8 + 2) rfl rfl Try.underlying41 rfl tsz36 rfl) ?_
      refine od rfl rfl rfl rfl (does_callk rfl callok26 rfl (spec_l4Out.calls (x0 := (gt x0 a1420).fOut) (CellsAt.sub (HM.at_ hc1515) 2 4 rfl) (HM.rd hk1517) h1519)) ?_
      rintro _ w1520 ⟨rfl, hn⟩
      replace HM : Mem w [] w1520 [] := HM.call hn
      refine ox rfl rfl rfl rfl (ex_assign rfl rfl) ?_
      refine ops_nil (at_then (run_seq ?_))
      refine run_region rfl ?_
      refine ox rfl rfl rfl rfl (ex_move rfl rfl) ?_
      refine ox rfl rfl rfl rfl (ex_neq rfl rfl rfl) ?_
      refine ops_nil (at_then ?_)
      refine run_cond (b := (t1518 != 0)) rfl (fun hb1521 => ?_) (fun hb1521 => ?_)
      ·replace ho1367 := cond_t hb1521 ho1367
       refine run_seq ?_
       refine run_region rfl ?_
       refine ox rfl rfl rfl rfl (ex_move rfl rfl) ?_
       refine ox rfl rfl rfl rfl (ex_assign rfl rfl) ?_
       refine ops_nil (at_then ?_)
       refine run_ret ?_
       refine at_then_ret ?_
       refine at_block_ret ?_
       refine at_then_ret ?_
       refine at_then_ret ?_
       refine at_block_ret ?_
       refine at_then_ret ?_
       have hR := Option.some.inj ho1367
       subst hR
       have hT := thn_inl H
       have hR := Option.some.inj hT
       subst hR
       exact at_ret1 rfl rfl ⟨_, rfl, rfl, HM⟩
      ·replace ho1367 := cond_f hb1521 ho1367
       refine run_skip ?_
       refine at_then ?_
       refine run_seq ?_
       obtain ⟨e1522, ho1367⟩ := chk_some ho1367
       obtain ⟨e1526, ho1367⟩ := chk_some ho1367
       obtain ⟨t1530, h1531, ho1367⟩ := bind_some ho1367
       refine run_meet (fun ρ_ w_ => ρ_ = [(0, p0), (3, .int .i64 a1420), (54, .bool ((decide (0 < a1420)) && (!t1530)))] ∧ Mem w [] w_ []) ?_ ?_
       ·skip
        refine run_drawf (fun w_ => Mem w [] w_ []) [(0, true), (1, true), (2, true), (3, true), (4, true), (5, true), (6, true), (7, true), (8, true), (9, true), (10, true), (11, true), (12, true), (13, true), (14, false), (15, true), (16, true)] mixed rfl rfl (by kernel_rfl) ?_
        replace HM := HM.grow (fr_drew _)
        have hS := Mem.suf (M := []) HM
        refine dp rfl rfl rfl rfl (ex_move rfl rfl) hS ?_
        refine dp rfl rfl rfl rfl (ex_gtr rfl rfl rfl) hS ?_
        refine dp rfl rfl rfl rfl (ex_move rfl rfl) hS ?_
        refine bool_cases (decide (0 < a1420)) (fun hg1532 => ?_) (fun hg1532 => ?_)
        ·skip
         refine drwp_take rfl (guard_on rfl rfl rfl hg1532) rfl rfl (fun w_ hS_ => (ex_move rfl rfl)) hS ?_
         refine drwp_take rfl (guard_on rfl rfl rfl hg1532) rfl rfl (fun w_ hS_ => (ex_move rfl rfl)) hS ?_
         refine drwp_take rfl (guard_on rfl rfl rfl hg1532) rfl rfl (fun w_ hS_ => (ex_sub rfl rfl rfl)) hS ?_
         obtain ⟨kv1524, hc1523, hk1525⟩ : ∃ u, CellsAt _ (sb p0) (so p0 + (wrap64 (a1420 - 1)).toNat * 8) [(.int .i64 ((gt x0 (wrap64 (a1420 - 1))).fRef.fTx)), (.int .i64 ((gt x0 (wrap64 (a1420 - 1))).fRef.fAt)), (.int .i64 ((gt x0 (wrap64 (a1420 - 1))).fOut.fValue)), u, (.int .i64 ((gt x0 (wrap64 (a1420 - 1))).fOut.fRule.fNeed)), (.int .i64 ((gt x0 (wrap64 (a1420 - 1))).fOut.fRule.fAfter)), (.int .i64 ((gt x0 (wrap64 (a1420 - 1))).fHeight)), (.bool ((gt x0 (wrap64 (a1420 - 1))).fMined))] ∧ RdS kInt _ u ((gt x0 (wrap64 (a1420 - 1))).fOut.fRule.fKeys) := rd_with1 hp0 (or_t e1522 hg1532)
         refine drwp_take rfl (guard_on rfl rfl rfl hg1532) rfl rfl (fun w_ hS_ => (ex_indexAddr (d := kCoin) rfl rfl rfl Try.underlying24 tsz41 hp0 (idx_lo (or_t e1522 hg1532)) (idx_hi (or_t e1522 hg1532)))) hS ?_
         refine drwp_take rfl (guard_on rfl rfl rfl hg1532) rfl rfl (fun w_ hS_ => (ex_fieldAddr (off' := so p0 + (wrap64 (a1420 - 1)).toNat * 8) rfl rfl Try.underlying41 rfl tsz38 rfl)) hS ?_
         refine drwp_take rfl (guard_on rfl rfl rfl hg1532) rfl rfl (fun w_ hS_ => (ex_loadN (cs := [(.int .i64 ((gt x0 (wrap64 (a1420 - 1))).fRef.fTx)), (.int .i64 ((gt x0 (wrap64 (a1420 - 1))).fRef.fAt))]) rfl rfl Try.underlying38 rfl tsz38 rfl ((hS_.at_ hc1523).sub 0 2 rfl))) hS ?_
         refine drwp_take rfl (guard_on rfl rfl rfl hg1532) rfl rfl (fun w_ hS_ => (ex_move rfl rfl)) hS ?_
         refine drwp_take rfl (guard_on rfl rfl rfl hg1532) rfl rfl (fun w_ hS_ => (ex_move rfl rfl)) hS ?_
         obtain ⟨kv1528, hc1527, hk1529⟩ : ∃ u, CellsAt _ (sb p0) (so p0 + (a1420).toNat * 8) [(.int .i64 ((gt x0 a1420).fRef.fTx)), (.int .i64 ((gt x0 a1420).fRef.fAt)), (.int .i64 ((gt x0 a1420).fOut.fValue)), u, (.int .i64 ((gt x0 a1420).fOut.fRule.fNeed)), (.int .i64 ((gt x0 a1420).fOut.fRule.fAfter)), (.int .i64 ((gt x0 a1420).fHeight)), (.bool ((gt x0 a1420).fMined))] ∧ RdS kInt _ u ((gt x0 a1420).fOut.fRule.fKeys) := rd_with1 hp0 (or_t e1526 hg1532)
         refine drwp_take rfl (guard_on rfl rfl rfl hg1532) rfl rfl (fun w_ hS_ => (ex_indexAddr (d := kCoin) rfl rfl rfl Try.underlying24 tsz41 hp0 (idx_lo (or_t e1526 hg1532)) (idx_hi (or_t e1526 hg1532)))) hS ?_
         refine drwp_take rfl (guard_on rfl rfl rfl hg1532) rfl rfl (fun w_ hS_ => (ex_fieldAddr (off' := so p0 + (a1420).toNat * 8) rfl rfl Try.underlying41 rfl tsz38 rfl)) hS ?_
         refine drwp_take rfl (guard_on rfl rfl rfl hg1532) rfl rfl (fun w_ hS_ => (ex_loadN (cs := [(.int .i64 ((gt x0 a1420).fRef.fTx)), (.int .i64 ((gt x0 a1420).fRef.fAt))]) rfl rfl Try.underlying38 rfl tsz38 rfl ((hS_.at_ hc1527).sub 0 2 rfl))) hS ?_
         refine drwp_one rfl (guard_on rfl rfl rfl hg1532) rfl rfl (does_callk rfl callok50 rfl (spec_l4Ahead.calls (x0 := (gt x0 (wrap64 (a1420 - 1))).fRef) (x1 := (gt x0 a1420).fRef) (cond_t hg1532 h1531))) ?_
         rintro _ w1533 ⟨rfl, hn⟩
         replace HM : Mem w [] w1533 [] := HM.call hn
         have hS := Mem.suf (M := []) HM
         refine ⟨hS, ?_⟩
         refine drwp_take rfl (guard_on rfl rfl rfl hg1532) rfl rfl (fun w_ hS_ => (ex_not rfl rfl)) hS ?_
         refine drwp_take (v := .bool ((decide (0 < a1420)) && (!t1530))) rfl (guard_none rfl) rfl rfl (fun w_ hS_ => (ex_pand_t rfl rfl hg1532 rfl)) hS ?_
         refine drwp_done ?_
         exact at_meet [(0, p0), (3, .int .i64 a1420), (54, .bool ((decide (0 < a1420)) && (!t1530)))] ⟨rfl, HM⟩ (Sub.cons rfl (Sub.cons rfl (Sub.cons rfl Sub.nil)))
        ·skip
         refine drwp_off rfl (guard_off rfl rfl rfl hg1532) rfl rfl hS ?_
         refine drwp_off rfl (guard_off rfl rfl rfl hg1532) rfl rfl hS ?_
         refine drwp_off rfl (guard_off rfl rfl rfl hg1532) rfl rfl hS ?_
         refine drwp_off rfl (guard_off rfl rfl rfl hg1532) rfl rfl hS ?_
         refine drwp_off rfl (guard_off rfl rfl rfl hg1532) rfl rfl hS ?_
         refine drwp_off rfl (guard_off rfl rfl rfl hg1532) rfl rfl hS ?_
         refine drwp_off rfl (guard_off rfl rfl rfl hg1532) rfl rfl hS ?_
         refine drwp_off rfl (guard_off rfl rfl rfl hg1532) rfl rfl hS ?_
         refine drwp_off rfl (guard_off rfl rfl rfl hg1532) rfl rfl hS ?_
         refine drwp_off rfl (guard_off rfl rfl rfl hg1532) rfl rfl hS ?_
         refine drwp_off rfl (guard_off rfl rfl rfl hg1532) rfl rfl hS ?_
         refine drwp_off1 rfl (guard_off rfl rfl rfl hg1532) rfl rfl ⟨hS, ?_⟩
         refine drwp_off rfl (guard_off rfl rfl rfl hg1532) rfl rfl hS ?_
         have hg1534 : ((decide (0 < a1420)) && (!t1530)) = false := by simp only [hg1532, Bool.and_true, Bool.true_and, Bool.and_false, Bool.false_and, Bool.or_true, Bool.true_or, Bool.or_false, Bool.false_or, Bool.not_true, Bool.not_false, Bool.not_not]
         refine drwp_take (v := .bool ((decide (0 < a1420)) && (!t1530))) rfl (guard_none rfl) rfl rfl (fun w_ hS_ => (ex_pand_f rfl rfl hg1532)) hS ?_
         refine drwp_done ?_
         exact at_meet [(0, p0), (3, .int .i64 a1420), (54, .bool ((decide (0 < a1420)) && (!t1530)))] ⟨rfl, HM⟩ (Sub.cons rfl (Sub.cons rfl (Sub.cons rfl Sub.nil)))
       ·rintro _ w1535 ⟨rfl, HM⟩
        refine at_then ?_
        refine run_cond (b := ((decide (0 < a1420)) && (!t1530))) rfl (fun hb1536 => ?_) (fun hb1536 => ?_)
        ·replace ho1367 := cond_t hb1536 ho1367
         refine run_seq ?_
         refine run_region rfl ?_
         refine ox rfl rfl rfl rfl (ex_assign rfl rfl) ?_
         refine ops_nil (at_then ?_)
         refine run_ret ?_
         refine at_block_ret ?_
         refine at_then_ret ?_
         refine at_then_ret ?_
         refine at_block_ret ?_
         refine at_then_ret ?_
         have hR := Option.some.inj ho1367
         subst hR
         have hT := thn_inl H
         have hR := Option.some.inj hT
         subst hR
         exact at_ret1 rfl rfl ⟨_, rfl, rfl, HM⟩
        ·replace ho1367 := cond_f hb1536 ho1367
         refine run_skip ?_
         refine at_block ?_
         refine at_then ?_
         refine run_region rfl ?_
         refine ox rfl rfl rfl rfl (ex_move rfl rfl) ?_
         refine ox rfl rfl rfl rfl (ex_add rfl rfl rfl) ?_
         refine ox rfl rfl rfl rfl (ex_assign rfl rfl) ?_
         refine ops_nil ?_
         exact at_again k1473 (ρ1 := [(0, p0), (3, .int .i64 (wrap64 (a1420 + 1)))]) (Nat.lt_succ_self _) ⟨_, ho1367, rfl, HM⟩ (Sub.cons rfl (Sub.cons rfl Sub.nil))
   ·replace ho1367 := cond_f hb1475 ho1367
    refine run_exit ?_
    refine at_then_exit ?_
    refine at_then_exit ?_
    refine at_block_exit ?_
    exact at_mid (ρ' := []) ⟨(Option.some.inj ho1367), rfl, HM⟩ Sub.nil
  ·rintro _ w1537 ⟨rfl, rfl, HM⟩
   replace H := (thn_inr H)
   refine run_seq ?_
   refine run_region rfl ?_
   refine ox rfl rfl rfl rfl (ex_assign rfl rfl) ?_
   refine ops_nil (at_then ?_)
   refine run_ret ?_
   have hR := Option.some.inj H
   subst hR
   exact at_ret1 rfl rfl ⟨_, rfl, rfl, HM⟩
end Go.Proofs.Ytecgbhfgkkpmhaa.Zk
