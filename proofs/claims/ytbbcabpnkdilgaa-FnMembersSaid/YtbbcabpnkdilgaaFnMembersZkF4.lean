/- What functions of the program compute, each as a plain function, and that they do. Conditions: as each theorem states them. -/
import Derived.Test.YtbbcabpnkdilgaaFnMembersZkF3
namespace Go.Proofs.Ytbbcabpnkdilgaa.Zk
open Go Go.RowKit Go.IntWalk Go.Proofs
set_option linter.unusedVariables false
set_option linter.unusedSimpArgs false
set_option maxRecDepth 100000
set_option maxHeartbeats 4000000
def spec_DrawTakeMembers.f (k : Nat) (x0 : List Int) : Option ((List Member) × Tx × Int) := ((spec_l1Source.f k x0).bind fun t2691 => ((spec_l6Bent.f k (⟨x0, t2691⟩ : l1Src)).bind fun t2696 => ((spec_l3Draw.f k (⟨x0, t2696.2⟩ : l1Src)).bind fun t2707 => (((spec_l1Chance.f k (⟨x0, t2707.2⟩ : l1Src) 8).bind fun t2778 => (bif t2778.1 then ((spec_l3Bent.f k (⟨x0, t2778.2⟩ : l1Src)).bind fun t2788 => some (t2788.2, t2788.1.fKind, t2788.1.fMember, t2788.1.fIns, t2788.1.fOuts)) else some (t2778.2, t2707.1.fKind, t2707.1.fMember, t2707.1.fIns, t2707.1.fOuts))).bind (cur5 (fun a2767 a2768 a2769 a2771 a2774 => (((spec_l1Chance.f k (⟨x0, a2767⟩ : l1Src) 2).bind fun t2843 => (bif ((t2843.1 && (a2768 != 0)) && (decide (0 < (t2696.1.length : Int)))) then ((spec_l1Next.f k (⟨x0, t2843.2⟩ : l1Src) (t2696.1.length : Int)).bind fun t2859 => (chk (idxOk t2859.1 t2696.1.length) (some (t2859.2, (gt t2696.1 t2859.1).fKey)))) else some (t2843.2, a2769))).bind (cur2 (fun a2839 a2840 => (((bif ((decide (0 < (t2696.1.length : Int))) && (decide (0 < (a2771.length : Int)))) then spec_l1Chance.f k (⟨x0, a2839⟩ : l1Src) 3 else some (default, a2839)).bind fun t2919 => (bif (((decide (0 < (t2696.1.length : Int))) && (decide (0 < (a2771.length : Int)))) && t2919.1) then ((spec_l1Next.f k (⟨x0, t2919.2⟩ : l1Src) (t2696.1.length : Int)).bind fun t2937 => (chk (idxOk t2937.1 t2696.1.length) (some (t2937.2, ([(gt t2696.1 t2937.1).fRef] : List Ref))))) else some (t2919.2, a2771))).bind (cur2 (fun a2913 a2915 => ((spec_l1Next.f k (⟨x0, a2913⟩ : l1Src) 9).bind fun t2953 => ((spec_l1Next.f k (⟨x0, t2953.2⟩ : l1Src) 9).bind fun t2961 => ((spec_l1Pick.f k (⟨x0, t2961.2⟩ : l1Src) ([wrap64 (10 + t2953.1), wrap64 (10 + t2961.1), 2, 61, 0] : List Int)).bind fun t2972 => some (t2696.1, (⟨a2768, a2840, a2915, a2774⟩ : Tx), t2972.1))))))))))))))))
theorem spec_DrawTakeMembers.calls {k : Nat} {x0 : List Int} {p0 : Value} {w : World} (hp0 : RdS kU8 w p0 x0) {r : (List Member) × Tx × Int} (H : spec_DrawTakeMembers.f k x0 = some r) :
    Calls Try.prog 8 ([p0] : List Value).toArray w (fun e w_ => ∃ v, e = .returned v ∧ ∃ u0 : Value, ∃ u1 : Value, ∃ u2 : Value, v = (.tuple #[u0, .agg #[.int .i64 r.2.1.fKind, .int .i64 r.2.1.fMember, u1, u2], .int .i64 r.2.2]) ∧ Mem w [] w_ [own kMember 38 u0 r.1, own kRef 36 u1 r.2.1.fIns, own kOut 69 u2 r.2.1.fOuts]) := by
  have HM := Mem.start w
  refine calls_run (N := 73) Try.func8 rfl rfl rfl rfl ?_
  unfold spec_DrawTakeMembers.f at H
  refine run_seq ?_
  refine run_region rfl ?_
  refine ox rfl rfl rfl rfl (ex_assign rfl rfl) ?_
  refine od rfl rfl rfl rfl (does_alloc (cs := [.int .i64 0, .int .i64 0, .slice none 0 0, .slice none 0 0]) rfl tz28 rfl HM) ?_
  rintro _ w2690 ⟨b2687, rfl, HM⟩
  refine ox rfl rfl rfl rfl (ex_assign rfl rfl) ?_
  refine ops_nil (at_then (run_seq ?_))
  obtain ⟨t2691, h2692, H⟩ := bind_some H
  refine run_region rfl ?_
  refine ox rfl rfl rfl rfl (ex_move rfl rfl) ?_
  refine od rfl rfl rfl rfl (does_callk rfl callok47 rfl (spec_l1Source.calls (x0 := x0) (HM.rd hp0) h2692)) ?_
  rintro _ w2695 ⟨b2693, rfl, hn⟩
  replace HM : Mem w [] w2695 [box b2693 150 [p0, .int .i64 t2691], box b2687 28 [.int .i64 0, .int .i64 0, .slice none 0 0, .slice none 0 0]] := HM.call hn
  refine ox rfl rfl rfl rfl (ex_assign rfl rfl) ?_
  refine ops_nil (at_then (run_seq ?_))
  obtain ⟨t2696, h2697, H⟩ := bind_some H
  refine run_region rfl ?_
  refine ox rfl rfl rfl rfl (ex_move rfl rfl) ?_
  obtain ⟨F2700, hF2701, hFn2702, hFl2703, HMh2704, hcl2705⟩ := HM.hide (Ms := [box b2693 150 [p0, .int .i64 t2691]])
  refine od rfl rfl rfl rfl (does_callk rfl callok48 rfl (spec_l6Bent.calls (x0 := (⟨x0, t2691⟩ : l1Src)) (hide_olds _ _) hF2701 hFn2702 hFl2703 (HMh2704.rd hp0) h2697)) ?_
  rintro u2698 w2706 ⟨_, rfl, hn⟩
  replace HM : Mem w [] w2706 [own kMember 38 u2698 t2696.1, box b2693 150 [p0, .int .i64 t2696.2], box b2687 28 [.int .i64 0, .int .i64 0, .slice none 0 0, .slice none 0 0]] := hcl2705 _ _ hn
  refine ox rfl rfl rfl rfl (ex_assign rfl rfl) ?_
  refine ops_nil (at_then (run_seq ?_))
  obtain ⟨t2707, h2708, H⟩ := bind_some H
  refine run_region rfl ?_
  refine ox rfl rfl rfl rfl (ex_move rfl rfl) ?_
  replace HM := HM.front 1 rfl rfl
  obtain ⟨F2713, hF2714, hFn2715, hFl2716, HMh2717, hcl2718⟩ := HM.hide (Ms := [box b2693 150 [p0, .int .i64 t2696.2]])
  refine od rfl rfl rfl rfl (does_callk rfl callok49 rfl (spec_l3Draw.calls (x0 := (⟨x0, t2696.2⟩ : l1Src)) (hide_olds _ _) hF2714 hFn2715 hFl2716 (HMh2717.rd hp0) h2708)) ?_
  rintro _ w2722 ⟨u2709, u2711, rfl, hn⟩
  replace HM : Mem w [] w2722 [own kRef 36 u2709 t2707.1.fIns, own kOut 69 u2711 t2707.1.fOuts, box b2693 150 [p0, .int .i64 t2707.2], own kMember 38 u2698 t2696.1, box b2687 28 [.int .i64 0, .int .i64 0, .slice none 0 0, .slice none 0 0]] := hcl2718 _ _ hn
  refine od rfl rfl rfl rfl (does_alloc (cs := [.int .i64 0, .int .i64 0, .slice none 0 0, .slice none 0 0]) rfl tz28 rfl HM) ?_
  rintro _ w2723 ⟨b2719, rfl, HM⟩
  refine odS rfl rfl rfl (does_store (vs := [.int .i64 t2707.1.fKind, .int .i64 t2707.1.fMember, u2709, u2711]) (cs' := [.int .i64 t2707.1.fKind, .int .i64 t2707.1.fMember, u2709, u2711]) rfl rfl rfl rfl tsz28 (Ones.int (Ones.int (Ones.rd (HM.own_rd 1 rfl) (Ones.rd (HM.own_rd 2 rfl) Ones.nil)))) rfl rfl HM) ?_
  rintro w2724 HM
  refine ops_nil (at_then ?_)
  obtain ⟨o2776, ho2777, H⟩ := bind_some H
  refine run_mid (fun ρ_ w_ => ∃ a2767 : Int, ∃ a2768 : Int, ∃ a2769 : Int, ∃ v2770 : Value, ∃ a2771 : List Ref, ∃ v2773 : Value, ∃ a2774 : List Out, (a2767, a2768, a2769, a2771, a2774) = o2776 ∧ ρ_ = [(3, .pointer (some ⟨b2687, 0, none⟩)), (5, .pointer (some ⟨b2693, 0, none⟩)), (6, u2698), (7, .pointer (some ⟨b2719, 0, none⟩))] ∧ Mem w [] w_ [box b2687 28 [.int .i64 0, .int .i64 0, .slice none 0 0, .slice none 0 0], box b2693 150 [p0, .int .i64 a2767], own kMember 38 u2698 t2696.1, box b2719 28 [.int .i64 a2768, .int .i64 a2769, v2770, v2773], own kRef 36 v2770 a2771, own kOut 69 v2773 a2774]) ?_ ?_
  · clear H
    refine run_seq ?_
    obtain ⟨t2778, h2779, ho2777⟩ := bind_some ho2777
    refine run_region rfl ?_
    refine ox rfl rfl rfl rfl (ex_move rfl rfl) ?_
    replace HM := HM.front 3 rfl rfl
    obtain ⟨F2780, hF2781, hFn2782, hFl2783, HMh2784, hcl2785⟩ := HM.hide (Ms := [box b2693 150 [p0, .int .i64 t2707.2]])
    refine od rfl rfl rfl rfl (does_callk rfl callok50 rfl (spec_l1Chance.calls (x0 := (⟨x0, t2707.2⟩ : l1Src)) (x1 := 8) (hide_olds _ _) hF2781 hFn2782 hFl2783 (HMh2784.rd hp0) h2779)) ?_
    rintro _ w2786 ⟨rfl, hn⟩
    replace HM : Mem w [] w2786 [box b2693 150 [p0, .int .i64 t2778.2], box b2719 28 [.int .i64 t2707.1.fKind, .int .i64 t2707.1.fMember, u2709, u2711], own kRef 36 u2709 t2707.1.fIns, own kOut 69 u2711 t2707.1.fOuts, own kMember 38 u2698 t2696.1, box b2687 28 [.int .i64 0, .int .i64 0, .slice none 0 0, .slice none 0 0]] := hcl2785 _ _ hn
    refine ops_nil (at_then ?_)
    refine run_cond (b := t2778.1) rfl (fun hb2787 => ?_) (fun hb2787 => ?_)
    · replace ho2777 := cond_t hb2787 ho2777
      obtain ⟨t2788, h2789, ho2777⟩ := bind_some ho2777
      refine run_region rfl ?_
      refine ox rfl rfl rfl rfl (ex_move rfl rfl) ?_
      obtain ⟨F2794, hF2795, hFn2796, hFl2797, HMh2798, hcl2799⟩ := HM.hide (Ms := [box b2693 150 [p0, .int .i64 t2778.2]])
      refine od rfl rfl rfl rfl (does_callk rfl callok51 rfl (spec_l3Bent.calls (x0 := (⟨x0, t2778.2⟩ : l1Src)) (hide_olds _ _) hF2795 hFn2796 hFl2797 (HMh2798.rd hp0) h2789)) ?_
      rintro _ w2800 ⟨u2790, u2792, rfl, hn⟩
      replace HM : Mem w [] w2800 [own kRef 36 u2790 t2788.1.fIns, own kOut 69 u2792 t2788.1.fOuts, box b2693 150 [p0, .int .i64 t2788.2], box b2719 28 [.int .i64 t2707.1.fKind, .int .i64 t2707.1.fMember, u2709, u2711], own kRef 36 u2709 t2707.1.fIns, own kOut 69 u2711 t2707.1.fOuts, own kMember 38 u2698 t2696.1, box b2687 28 [.int .i64 0, .int .i64 0, .slice none 0 0, .slice none 0 0]] := hcl2799 _ _ hn
      replace HM := HM.front 3 rfl rfl
      refine odS rfl rfl rfl (does_store (vs := [.int .i64 t2788.1.fKind, .int .i64 t2788.1.fMember, u2790, u2792]) (cs' := [.int .i64 t2788.1.fKind, .int .i64 t2788.1.fMember, u2790, u2792]) rfl rfl rfl rfl tsz28 (Ones.int (Ones.int (Ones.rd (HM.own_rd 1 rfl) (Ones.rd (HM.own_rd 2 rfl) Ones.nil)))) rfl rfl HM) ?_
      rintro w2801 HM
      refine ops_nil ?_
      replace HM := (HM.front 4 rfl rfl).drop
      replace HM := (HM.front 4 rfl rfl).drop
      replace HM := HM.front 2 rfl rfl
      replace HM := HM.front 2 rfl rfl
      replace HM := HM.front 2 rfl rfl
      replace HM := HM.front 4 rfl rfl
      replace HM := HM.front 4 rfl rfl
      replace HM := HM.front 5 rfl rfl
      exact at_mid (ρ' := [(3, .pointer (some ⟨b2687, 0, none⟩)), (5, .pointer (some ⟨b2693, 0, none⟩)), (6, u2698), (7, .pointer (some ⟨b2719, 0, none⟩))]) ⟨_, _, _, _, _, _, _, (Option.some.inj ho2777), rfl, HM⟩ (Sub.cons rfl (Sub.cons rfl (Sub.cons rfl (Sub.cons rfl Sub.nil))))
    · replace ho2777 := cond_f hb2787 ho2777
      refine run_skip ?_
      replace HM := HM.front 3 rfl rfl
      replace HM := HM.front 3 rfl rfl
      replace HM := HM.front 3 rfl rfl
      replace HM := HM.front 4 rfl rfl
      replace HM := HM.front 4 rfl rfl
      replace HM := HM.front 5 rfl rfl
      exact at_mid (ρ' := [(3, .pointer (some ⟨b2687, 0, none⟩)), (5, .pointer (some ⟨b2693, 0, none⟩)), (6, u2698), (7, .pointer (some ⟨b2719, 0, none⟩))]) ⟨_, _, _, _, _, _, _, (Option.some.inj ho2777), rfl, HM⟩ (Sub.cons rfl (Sub.cons rfl (Sub.cons rfl (Sub.cons rfl Sub.nil))))
  · rintro _ w2802 ⟨a2767, a2768, a2769, v2770, a2771, v2773, a2774, rfl, rfl, HM⟩
    replace H := cur5_mk H
    obtain ⟨o2841, ho2842, H⟩ := bind_some H
    refine run_mid (fun ρ_ w_ => ∃ a2839 : Int, ∃ a2840 : Int, (a2839, a2840) = o2841 ∧ ρ_ = [(3, .pointer (some ⟨b2687, 0, none⟩)), (5, .pointer (some ⟨b2693, 0, none⟩)), (6, u2698), (7, .pointer (some ⟨b2719, 0, none⟩))] ∧ Mem w [] w_ [box b2687 28 [.int .i64 0, .int .i64 0, .slice none 0 0, .slice none 0 0], box b2693 150 [p0, .int .i64 a2839], own kMember 38 u2698 t2696.1, box b2719 28 [.int .i64 a2768, .int .i64 a2840, v2770, v2773], own kRef 36 v2770 a2771, own kOut 69 v2773 a2774]) ?_ ?_
    · clear H
      refine run_seq ?_
      obtain ⟨t2843, h2844, ho2842⟩ := bind_some ho2842
      refine run_meet (fun ρ_ w_ => ρ_ = [(3, .pointer (some ⟨b2687, 0, none⟩)), (5, .pointer (some ⟨b2693, 0, none⟩)), (6, u2698), (7, .pointer (some ⟨b2719, 0, none⟩)), (29, .bool ((t2843.1 && (a2768 != 0)) && (decide (0 < (t2696.1.length : Int)))))] ∧ Mem w [] w_ [box b2687 28 [.int .i64 0, .int .i64 0, .slice none 0 0, .slice none 0 0], box b2693 150 [p0, .int .i64 t2843.2], own kMember 38 u2698 t2696.1, box b2719 28 [.int .i64 a2768, .int .i64 a2769, v2770, v2773], own kRef 36 v2770 a2771, own kOut 69 v2773 a2774]) ?_ ?_
      · skip
        refine run_region rfl ?_
        refine ox rfl rfl rfl rfl (ex_move rfl rfl) ?_
        replace HM := HM.front 1 rfl rfl
        obtain ⟨F2845, hF2846, hFn2847, hFl2848, HMh2849, hcl2850⟩ := HM.hide (Ms := [box b2693 150 [p0, .int .i64 a2767]])
        refine od rfl rfl rfl rfl (does_callk rfl callok50 rfl (spec_l1Chance.calls (x0 := (⟨x0, a2767⟩ : l1Src)) (x1 := 2) (hide_olds _ _) hF2846 hFn2847 hFl2848 (HMh2849.rd hp0) h2844)) ?_
        rintro _ w2851 ⟨rfl, hn⟩
        replace HM : Mem w [] w2851 [box b2693 150 [p0, .int .i64 t2843.2], box b2687 28 [.int .i64 0, .int .i64 0, .slice none 0 0, .slice none 0 0], own kMember 38 u2698 t2696.1, box b2719 28 [.int .i64 a2768, .int .i64 a2769, v2770, v2773], own kRef 36 v2770 a2771, own kOut 69 v2773 a2774] := hcl2850 _ _ hn
        refine ox rfl rfl rfl rfl (ex_move rfl rfl) ?_
        refine bool_cases t2843.1 (fun hg2852 => ?_) (fun hg2852 => ?_)
        · skip
          refine ops_ex rfl (guard_on rfl rfl rfl hg2852) rfl rfl (ex_fieldAddr (off' := 0) rfl rfl Try.underlying28 rfl tsz2 rfl) ?_
          refine ops_ex rfl (guard_on rfl rfl rfl hg2852) rfl rfl (ex_load1 rfl rfl Try.underlying2 rfl ((HM.box_at 3 rfl) 0 _ rfl)) ?_
          refine ops_ex rfl (guard_on rfl rfl rfl hg2852) rfl rfl (ex_neq rfl rfl rfl) ?_
          refine ops_ex (v := .bool (t2843.1 && (a2768 != 0))) rfl (guard_none rfl) rfl rfl (ex_pand_t rfl rfl hg2852 rfl) ?_
          refine ox rfl rfl rfl rfl (ex_move rfl rfl) ?_
          refine bool_cases (t2843.1 && (a2768 != 0)) (fun hg2853 => ?_) (fun hg2853 => ?_)
          · skip
            refine ops_ex rfl (guard_on rfl rfl rfl hg2853) rfl rfl (ex_move rfl rfl) ?_
            refine ops_ex rfl (guard_on rfl rfl rfl hg2853) rfl rfl (ex_len (d := kMember) (xs := t2696.1) rfl rfl Try.underlying24 (HM.own_rd 2 rfl)) ?_
            refine ops_ex rfl (guard_on rfl rfl rfl hg2853) rfl rfl (ex_gtr rfl rfl rfl) ?_
            refine ops_ex (v := .bool ((t2843.1 && (a2768 != 0)) && (decide (0 < (t2696.1.length : Int))))) rfl (guard_none rfl) rfl rfl (ex_pand_t rfl rfl hg2853 rfl) ?_
            refine ops_nil ?_
            replace HM := HM.front 5 rfl rfl
            replace HM := HM.front 5 rfl rfl
            replace HM := HM.front 5 rfl rfl
            replace HM := HM.front 5 rfl rfl
            replace HM := HM.front 4 rfl rfl
            replace HM := HM.front 5 rfl rfl
            exact at_meet [(3, .pointer (some ⟨b2687, 0, none⟩)), (5, .pointer (some ⟨b2693, 0, none⟩)), (6, u2698), (7, .pointer (some ⟨b2719, 0, none⟩)), (29, .bool ((t2843.1 && (a2768 != 0)) && (decide (0 < (t2696.1.length : Int)))))] ⟨rfl, HM⟩ (Sub.cons rfl (Sub.cons rfl (Sub.cons rfl (Sub.cons rfl (Sub.cons rfl Sub.nil)))))
          · skip
            refine ops_off rfl (guard_off rfl rfl rfl hg2853) rfl rfl ?_
            refine ops_off rfl (guard_off rfl rfl rfl hg2853) rfl rfl ?_
            refine ops_off rfl (guard_off rfl rfl rfl hg2853) rfl rfl ?_
            have hg2854 : ((t2843.1 && (a2768 != 0)) && (decide (0 < (t2696.1.length : Int)))) = false := by simp only [hg2853, Bool.and_true, Bool.true_and, Bool.and_false, Bool.false_and, Bool.or_true, Bool.true_or, Bool.or_false, Bool.false_or, Bool.not_true, Bool.not_false, Bool.not_not]
            refine ops_ex (v := .bool ((t2843.1 && (a2768 != 0)) && (decide (0 < (t2696.1.length : Int))))) rfl (guard_none rfl) rfl rfl (ex_pand_f rfl rfl hg2853) ?_
            refine ops_nil ?_
            replace HM := HM.front 5 rfl rfl
            replace HM := HM.front 5 rfl rfl
            replace HM := HM.front 5 rfl rfl
            replace HM := HM.front 5 rfl rfl
            replace HM := HM.front 4 rfl rfl
            replace HM := HM.front 5 rfl rfl
            exact at_meet [(3, .pointer (some ⟨b2687, 0, none⟩)), (5, .pointer (some ⟨b2693, 0, none⟩)), (6, u2698), (7, .pointer (some ⟨b2719, 0, none⟩)), (29, .bool ((t2843.1 && (a2768 != 0)) && (decide (0 < (t2696.1.length : Int)))))] ⟨rfl, HM⟩ (Sub.cons rfl (Sub.cons rfl (Sub.cons rfl (Sub.cons rfl (Sub.cons rfl Sub.nil)))))
        · skip
          refine ops_off rfl (guard_off rfl rfl rfl hg2852) rfl rfl ?_
          refine ops_off rfl (guard_off rfl rfl rfl hg2852) rfl rfl ?_
          refine ops_off rfl (guard_off rfl rfl rfl hg2852) rfl rfl ?_
          have hg2855 : (t2843.1 && (a2768 != 0)) = false := by simp only [hg2852, Bool.and_true, Bool.true_and, Bool.and_false, Bool.false_and, Bool.or_true, Bool.true_or, Bool.or_false, Bool.false_or, Bool.not_true, Bool.not_false, Bool.not_not]
          refine ops_ex (v := .bool (t2843.1 && (a2768 != 0))) rfl (guard_none rfl) rfl rfl (ex_pand_f rfl rfl hg2852) ?_
          refine ox rfl rfl rfl rfl (ex_move rfl rfl) ?_
          refine ops_off rfl (guard_off rfl rfl rfl hg2855) rfl rfl ?_
          refine ops_off rfl (guard_off rfl rfl rfl hg2855) rfl rfl ?_
          refine ops_off rfl (guard_off rfl rfl rfl hg2855) rfl rfl ?_
          have hg2856 : ((t2843.1 && (a2768 != 0)) && (decide (0 < (t2696.1.length : Int)))) = false := by simp only [hg2855, Bool.and_true, Bool.true_and, Bool.and_false, Bool.false_and, Bool.or_true, Bool.true_or, Bool.or_false, Bool.false_or, Bool.not_true, Bool.not_false, Bool.not_not]
          refine ops_ex (v := .bool ((t2843.1 && (a2768 != 0)) && (decide (0 < (t2696.1.length : Int))))) rfl (guard_none rfl) rfl rfl (ex_pand_f rfl rfl hg2855) ?_
          refine ops_nil ?_
          replace HM := HM.front 5 rfl rfl
          replace HM := HM.front 5 rfl rfl
          replace HM := HM.front 5 rfl rfl
          replace HM := HM.front 5 rfl rfl
          replace HM := HM.front 4 rfl rfl
          replace HM := HM.front 5 rfl rfl
          exact at_meet [(3, .pointer (some ⟨b2687, 0, none⟩)), (5, .pointer (some ⟨b2693, 0, none⟩)), (6, u2698), (7, .pointer (some ⟨b2719, 0, none⟩)), (29, .bool ((t2843.1 && (a2768 != 0)) && (decide (0 < (t2696.1.length : Int)))))] ⟨rfl, HM⟩ (Sub.cons rfl (Sub.cons rfl (Sub.cons rfl (Sub.cons rfl (Sub.cons rfl Sub.nil)))))
      · rintro _ w2857 ⟨rfl, HM⟩
        refine at_then ?_
        refine run_cond (b := ((t2843.1 && (a2768 != 0)) && (decide (0 < (t2696.1.length : Int))))) rfl (fun hb2858 => ?_) (fun hb2858 => ?_)
        · replace ho2842 := cond_t hb2858 ho2842
          obtain ⟨t2859, h2860, ho2842⟩ := bind_some ho2842
          obtain ⟨e2867, ho2842⟩ := chk_some ho2842
          refine run_region rfl ?_
          refine ox rfl rfl rfl rfl (ex_move rfl rfl) ?_
          refine ox rfl rfl rfl rfl (ex_move rfl rfl) ?_
          refine ox rfl rfl rfl rfl (ex_move rfl rfl) ?_
          refine ox rfl rfl rfl rfl (ex_len (d := kMember) (xs := t2696.1) rfl rfl Try.underlying24 (HM.own_rd 2 rfl)) ?_
          replace HM := HM.front 1 rfl rfl
          obtain ⟨F2861, hF2862, hFn2863, hFl2864, HMh2865, hcl2866⟩ := HM.hide (Ms := [box b2693 150 [p0, .int .i64 t2843.2]])
          refine od rfl rfl rfl rfl (does_callk rfl callok52 rfl (spec_l1Next.calls (x0 := (⟨x0, t2843.2⟩ : l1Src)) (x1 := (t2696.1.length : Int)) (hide_olds _ _) hF2862 hFn2863 hFl2864 (HMh2865.rd hp0) h2860)) ?_
          rintro _ w2868 ⟨rfl, hn⟩
          replace HM : Mem w [] w2868 [box b2693 150 [p0, .int .i64 t2859.2], box b2687 28 [.int .i64 0, .int .i64 0, .slice none 0 0, .slice none 0 0], own kMember 38 u2698 t2696.1, box b2719 28 [.int .i64 a2768, .int .i64 a2769, v2770, v2773], own kRef 36 v2770 a2771, own kOut 69 v2773 a2774] := hcl2866 _ _ hn
          refine ox rfl rfl rfl rfl (ex_indexAddr (d := kMember) rfl rfl rfl Try.underlying24 tsz38 (HM.own_rd 2 rfl) (idx_lo e2867) (idx_hi e2867)) ?_
          refine ox rfl rfl rfl rfl (ex_fieldAddr (off' := so u2698 + (t2859.1).toNat * 3) rfl rfl Try.underlying38 rfl tsz2 rfl) ?_
          refine ox rfl rfl rfl rfl (ex_load1 rfl rfl Try.underlying2 rfl ((rd_plain (HM.own_rd 2 rfl) e2867) 0 _ rfl)) ?_
          refine ox rfl rfl rfl rfl (ex_fieldAddr (off' := 1) rfl rfl Try.underlying28 rfl tsz2 rfl) ?_
          replace HM := HM.front 3 rfl rfl
          refine odS rfl rfl rfl (does_store (vs := [.int .i64 ((gt t2696.1 t2859.1).fKey)]) (cs' := [.int .i64 a2768, .int .i64 ((gt t2696.1 t2859.1).fKey), v2770, v2773]) rfl rfl rfl rfl tsz2 (Ones.int Ones.nil) rfl rfl HM) ?_
          rintro w2869 HM
          refine ops_nil ?_
          replace HM := HM.front 5 rfl rfl
          replace HM := HM.front 5 rfl rfl
          replace HM := HM.front 2 rfl rfl
          replace HM := HM.front 5 rfl rfl
          replace HM := HM.front 4 rfl rfl
          replace HM := HM.front 5 rfl rfl
          exact at_mid (ρ' := [(3, .pointer (some ⟨b2687, 0, none⟩)), (5, .pointer (some ⟨b2693, 0, none⟩)), (6, u2698), (7, .pointer (some ⟨b2719, 0, none⟩))]) ⟨_, _, (Option.some.inj ho2842), rfl, HM⟩ (Sub.cons rfl (Sub.cons rfl (Sub.cons rfl (Sub.cons rfl Sub.nil))))
        · replace ho2842 := cond_f hb2858 ho2842
          refine run_skip ?_
          exact at_mid (ρ' := [(3, .pointer (some ⟨b2687, 0, none⟩)), (5, .pointer (some ⟨b2693, 0, none⟩)), (6, u2698), (7, .pointer (some ⟨b2719, 0, none⟩))]) ⟨_, _, (Option.some.inj ho2842), rfl, HM⟩ (Sub.cons rfl (Sub.cons rfl (Sub.cons rfl (Sub.cons rfl Sub.nil))))
    · rintro _ w2870 ⟨a2839, a2840, rfl, rfl, HM⟩
      replace H := cur2_mk H
      obtain ⟨o2917, ho2918, H⟩ := bind_some H
      refine run_mid (fun ρ_ w_ => ∃ a2913 : Int, ∃ v2914 : Value, ∃ a2915 : List Ref, (a2913, a2915) = o2917 ∧ ρ_ = [(3, .pointer (some ⟨b2687, 0, none⟩)), (5, .pointer (some ⟨b2693, 0, none⟩)), (6, u2698), (7, .pointer (some ⟨b2719, 0, none⟩))] ∧ Mem w [] w_ [box b2687 28 [.int .i64 0, .int .i64 0, .slice none 0 0, .slice none 0 0], box b2693 150 [p0, .int .i64 a2913], own kMember 38 u2698 t2696.1, box b2719 28 [.int .i64 a2768, .int .i64 a2840, v2914, v2773], own kRef 36 v2914 a2915, own kOut 69 v2773 a2774]) ?_ ?_
      · clear H
        refine run_seq ?_
        obtain ⟨t2919, h2920, ho2918⟩ := bind_some ho2918
        refine run_meet (fun ρ_ w_ => ρ_ = [(3, .pointer (some ⟨b2687, 0, none⟩)), (5, .pointer (some ⟨b2693, 0, none⟩)), (6, u2698), (7, .pointer (some ⟨b2719, 0, none⟩)), (51, .bool (((decide (0 < (t2696.1.length : Int))) && (decide (0 < (a2771.length : Int)))) && t2919.1))] ∧ Mem w [] w_ [box b2687 28 [.int .i64 0, .int .i64 0, .slice none 0 0, .slice none 0 0], box b2693 150 [p0, .int .i64 t2919.2], own kMember 38 u2698 t2696.1, box b2719 28 [.int .i64 a2768, .int .i64 a2840, v2770, v2773], own kRef 36 v2770 a2771, own kOut 69 v2773 a2774]) ?_ ?_
        · skip
          refine run_region rfl ?_
          refine ox rfl rfl rfl rfl (ex_move rfl rfl) ?_
          refine ox rfl rfl rfl rfl (ex_len (d := kMember) (xs := t2696.1) rfl rfl Try.underlying24 (HM.own_rd 2 rfl)) ?_
          refine ox rfl rfl rfl rfl (ex_gtr rfl rfl rfl) ?_
          refine ox rfl rfl rfl rfl (ex_move rfl rfl) ?_
          refine bool_cases (decide (0 < (t2696.1.length : Int))) (fun hg2927 => ?_) (fun hg2927 => ?_)
          · skip
            refine ops_ex rfl (guard_on rfl rfl rfl hg2927) rfl rfl (ex_fieldAddr (off' := 2) rfl rfl Try.underlying28 rfl tsz25 rfl) ?_
            refine ops_ex rfl (guard_on rfl rfl rfl hg2927) rfl rfl (ex_load1 rfl rfl Try.underlying25 rfl ((HM.box_at 3 rfl) 2 _ rfl)) ?_
            refine ops_ex rfl (guard_on rfl rfl rfl hg2927) rfl rfl (ex_len (d := kRef) (xs := a2771) rfl rfl Try.underlying25 (HM.own_rd 4 rfl)) ?_
            refine ops_ex rfl (guard_on rfl rfl rfl hg2927) rfl rfl (ex_gtr rfl rfl rfl) ?_
            refine ops_ex (v := .bool ((decide (0 < (t2696.1.length : Int))) && (decide (0 < (a2771.length : Int))))) rfl (guard_none rfl) rfl rfl (ex_pand_t rfl rfl hg2927 rfl) ?_
            refine ox rfl rfl rfl rfl (ex_move rfl rfl) ?_
            refine bool_cases ((decide (0 < (t2696.1.length : Int))) && (decide (0 < (a2771.length : Int)))) (fun hg2928 => ?_) (fun hg2928 => ?_)
            · skip
              refine ops_ex rfl (guard_on rfl rfl rfl hg2928) rfl rfl (ex_move rfl rfl) ?_
              replace HM := HM.front 1 rfl rfl
              obtain ⟨F2921, hF2922, hFn2923, hFl2924, HMh2925, hcl2926⟩ := HM.hide (Ms := [box b2693 150 [p0, .int .i64 a2839]])
              refine ops_does rfl (guard_on rfl rfl rfl hg2928) rfl rfl (does_callk rfl callok50 rfl (spec_l1Chance.calls (x0 := (⟨x0, a2839⟩ : l1Src)) (x1 := 3) (hide_olds _ _) hF2922 hFn2923 hFl2924 (HMh2925.rd hp0) (cond_t hg2928 h2920))) ?_
              rintro _ w2929 ⟨rfl, hn⟩
              replace HM : Mem w [] w2929 [box b2693 150 [p0, .int .i64 t2919.2], box b2687 28 [.int .i64 0, .int .i64 0, .slice none 0 0, .slice none 0 0], own kMember 38 u2698 t2696.1, box b2719 28 [.int .i64 a2768, .int .i64 a2840, v2770, v2773], own kRef 36 v2770 a2771, own kOut 69 v2773 a2774] := hcl2926 _ _ hn
              refine ops_ex (v := .bool (((decide (0 < (t2696.1.length : Int))) && (decide (0 < (a2771.length : Int)))) && t2919.1)) rfl (guard_none rfl) rfl rfl (ex_pand_t rfl rfl hg2928 rfl) ?_
              refine ops_nil ?_
              replace HM := HM.front 5 rfl rfl
              replace HM := HM.front 5 rfl rfl
              replace HM := HM.front 5 rfl rfl
              replace HM := HM.front 5 rfl rfl
              replace HM := HM.front 4 rfl rfl
              replace HM := HM.front 5 rfl rfl
              exact at_meet [(3, .pointer (some ⟨b2687, 0, none⟩)), (5, .pointer (some ⟨b2693, 0, none⟩)), (6, u2698), (7, .pointer (some ⟨b2719, 0, none⟩)), (51, .bool (((decide (0 < (t2696.1.length : Int))) && (decide (0 < (a2771.length : Int)))) && t2919.1))] ⟨rfl, HM⟩ (Sub.cons rfl (Sub.cons rfl (Sub.cons rfl (Sub.cons rfl (Sub.cons rfl Sub.nil)))))
            · skip
              refine ops_off rfl (guard_off rfl rfl rfl hg2928) rfl rfl ?_
              refine ops_off rfl (guard_off rfl rfl rfl hg2928) rfl rfl ?_
              have hq2930 : t2919 = (default, a2839) := (Option.some.inj (cond_f hg2928 h2920)).symm
              replace HM := HM.as (M' := [box b2687 28 [.int .i64 0, .int .i64 0, .slice none 0 0, .slice none 0 0], box b2693 150 [p0, .int .i64 t2919.2], own kMember 38 u2698 t2696.1, box b2719 28 [.int .i64 a2768, .int .i64 a2840, v2770, v2773], own kRef 36 v2770 a2771, own kOut 69 v2773 a2774]) (by simp only [hq2930])
              have hg2931 : (((decide (0 < (t2696.1.length : Int))) && (decide (0 < (a2771.length : Int)))) && t2919.1) = false := by simp only [hg2928, Bool.and_true, Bool.true_and, Bool.and_false, Bool.false_and, Bool.or_true, Bool.true_or, Bool.or_false, Bool.false_or, Bool.not_true, Bool.not_false, Bool.not_not]
              refine ops_ex (v := .bool (((decide (0 < (t2696.1.length : Int))) && (decide (0 < (a2771.length : Int)))) && t2919.1)) rfl (guard_none rfl) rfl rfl (ex_pand_f rfl rfl hg2928) ?_
              refine ops_nil ?_
              exact at_meet [(3, .pointer (some ⟨b2687, 0, none⟩)), (5, .pointer (some ⟨b2693, 0, none⟩)), (6, u2698), (7, .pointer (some ⟨b2719, 0, none⟩)), (51, .bool (((decide (0 < (t2696.1.length : Int))) && (decide (0 < (a2771.length : Int)))) && t2919.1))] ⟨rfl, HM⟩ (Sub.cons rfl (Sub.cons rfl (Sub.cons rfl (Sub.cons rfl (Sub.cons rfl Sub.nil)))))
          · skip
            refine ops_off rfl (guard_off rfl rfl rfl hg2927) rfl rfl ?_
            refine ops_off rfl (guard_off rfl rfl rfl hg2927) rfl rfl ?_
            refine ops_off rfl (guard_off rfl rfl rfl hg2927) rfl rfl ?_
            refine ops_off rfl (guard_off rfl rfl rfl hg2927) rfl rfl ?_
            have hg2932 : ((decide (0 < (t2696.1.length : Int))) && (decide (0 < (a2771.length : Int)))) = false := by simp only [hg2927, Bool.and_true, Bool.true_and, Bool.and_false, Bool.false_and, Bool.or_true, Bool.true_or, Bool.or_false, Bool.false_or, Bool.not_true, Bool.not_false, Bool.not_not]
            refine ops_ex (v := .bool ((decide (0 < (t2696.1.length : Int))) && (decide (0 < (a2771.length : Int))))) rfl (guard_none rfl) rfl rfl (ex_pand_f rfl rfl hg2927) ?_
            refine ox rfl rfl rfl rfl (ex_move rfl rfl) ?_
            refine ops_off rfl (guard_off rfl rfl rfl hg2932) rfl rfl ?_
            refine ops_off rfl (guard_off rfl rfl rfl hg2932) rfl rfl ?_
            have hq2933 : t2919 = (default, a2839) := (Option.some.inj (cond_f hg2932 h2920)).symm
            replace HM := HM.as (M' := [box b2687 28 [.int .i64 0, .int .i64 0, .slice none 0 0, .slice none 0 0], box b2693 150 [p0, .int .i64 t2919.2], own kMember 38 u2698 t2696.1, box b2719 28 [.int .i64 a2768, .int .i64 a2840, v2770, v2773], own kRef 36 v2770 a2771, own kOut 69 v2773 a2774]) (by simp only [hq2933])
            have hg2934 : (((decide (0 < (t2696.1.length : Int))) && (decide (0 < (a2771.length : Int)))) && t2919.1) = false := by simp only [hg2932, Bool.and_true, Bool.true_and, Bool.and_false, Bool.false_and, Bool.or_true, Bool.true_or, Bool.or_false, Bool.false_or, Bool.not_true, Bool.not_false, Bool.not_not]
            refine ops_ex (v := .bool (((decide (0 < (t2696.1.length : Int))) && (decide (0 < (a2771.length : Int)))) && t2919.1)) rfl (guard_none rfl) rfl rfl (ex_pand_f rfl rfl hg2932) ?_
            refine ops_nil ?_
            exact at_meet [(3, .pointer (some ⟨b2687, 0, none⟩)), (5, .pointer (some ⟨b2693, 0, none⟩)), (6, u2698), (7, .pointer (some ⟨b2719, 0, none⟩)), (51, .bool (((decide (0 < (t2696.1.length : Int))) && (decide (0 < (a2771.length : Int)))) && t2919.1))] ⟨rfl, HM⟩ (Sub.cons rfl (Sub.cons rfl (Sub.cons rfl (Sub.cons rfl (Sub.cons rfl Sub.nil)))))
        · rintro _ w2935 ⟨rfl, HM⟩
          refine at_then ?_
          refine run_cond (b := (((decide (0 < (t2696.1.length : Int))) && (decide (0 < (a2771.length : Int)))) && t2919.1)) rfl (fun hb2936 => ?_) (fun hb2936 => ?_)
          · replace ho2918 := cond_t hb2936 ho2918
            obtain ⟨t2937, h2938, ho2918⟩ := bind_some ho2918
            obtain ⟨e2945, ho2918⟩ := chk_some ho2918
            refine run_region rfl ?_
            refine ox rfl rfl rfl rfl (ex_move rfl rfl) ?_
            refine ox rfl rfl rfl rfl (ex_move rfl rfl) ?_
            refine ox rfl rfl rfl rfl (ex_move rfl rfl) ?_
            refine ox rfl rfl rfl rfl (ex_len (d := kMember) (xs := t2696.1) rfl rfl Try.underlying24 (HM.own_rd 2 rfl)) ?_
            replace HM := HM.front 1 rfl rfl
            obtain ⟨F2939, hF2940, hFn2941, hFl2942, HMh2943, hcl2944⟩ := HM.hide (Ms := [box b2693 150 [p0, .int .i64 t2919.2]])
            refine od rfl rfl rfl rfl (does_callk rfl callok52 rfl (spec_l1Next.calls (x0 := (⟨x0, t2919.2⟩ : l1Src)) (x1 := (t2696.1.length : Int)) (hide_olds _ _) hF2940 hFn2941 hFl2942 (HMh2943.rd hp0) h2938)) ?_
            rintro _ w2949 ⟨rfl, hn⟩
            replace HM : Mem w [] w2949 [box b2693 150 [p0, .int .i64 t2937.2], box b2687 28 [.int .i64 0, .int .i64 0, .slice none 0 0, .slice none 0 0], own kMember 38 u2698 t2696.1, box b2719 28 [.int .i64 a2768, .int .i64 a2840, v2770, v2773], own kRef 36 v2770 a2771, own kOut 69 v2773 a2774] := hcl2944 _ _ hn
            refine ox rfl rfl rfl rfl (ex_indexAddr (d := kMember) rfl rfl rfl Try.underlying24 tsz38 (HM.own_rd 2 rfl) (idx_lo e2945) (idx_hi e2945)) ?_
            refine ox rfl rfl rfl rfl (ex_fieldAddr (off' := so u2698 + (t2937.1).toNat * 3 + 1) rfl rfl Try.underlying38 rfl tsz36 rfl) ?_
            refine ox rfl rfl rfl rfl (ex_loadN (cs := [(.int .i64 ((gt t2696.1 t2937.1).fRef.fTx)), (.int .i64 ((gt t2696.1 t2937.1).fRef.fAt))]) rfl rfl Try.underlying36 rfl tsz36 rfl ((rd_plain (HM.own_rd 2 rfl) e2945).sub 1 2 rfl)) ?_
            refine od rfl rfl rfl rfl (does_lit (e := 36) (cs := [.int .i64 ((gt t2696.1 t2937.1).fRef.fTx), .int .i64 ((gt t2696.1 t2937.1).fRef.fAt)]) (xs := ([(gt t2696.1 t2937.1).fRef] : List Ref)) kRef rfl rfl (fun _ => by kernel_rfl) rfl rfl (fun _ _ h => by have h' : _ = [] := h; subst h'; exact (Elems.cons (d := kRef) (x := (gt t2696.1 t2937.1).fRef) (f := []) ⟨rfl, rfl⟩ .nil)) HM.emp) ?_
            rintro v2946 w2950 HM
            refine ox rfl rfl rfl rfl (ex_fieldAddr (off' := 2) rfl rfl Try.underlying28 rfl tsz25 rfl) ?_
            replace HM := HM.front 4 rfl rfl
            refine odS rfl rfl rfl (does_store (vs := [v2946]) (cs' := [.int .i64 a2768, .int .i64 a2840, v2946, v2773]) rfl rfl rfl (rd_cells (HM.own_rd 1 rfl)) tsz25 (Ones.rd (HM.own_rd 1 rfl) Ones.nil) rfl rfl HM) ?_
            rintro w2951 HM
            refine ops_nil ?_
            replace HM := (HM.front 5 rfl rfl).drop
            replace HM := HM.front 5 rfl rfl
            replace HM := HM.front 2 rfl rfl
            replace HM := HM.front 2 rfl rfl
            replace HM := HM.front 5 rfl rfl
            replace HM := HM.front 4 rfl rfl
            replace HM := HM.front 5 rfl rfl
            exact at_mid (ρ' := [(3, .pointer (some ⟨b2687, 0, none⟩)), (5, .pointer (some ⟨b2693, 0, none⟩)), (6, u2698), (7, .pointer (some ⟨b2719, 0, none⟩))]) ⟨_, _, _, (Option.some.inj ho2918), rfl, HM⟩ (Sub.cons rfl (Sub.cons rfl (Sub.cons rfl (Sub.cons rfl Sub.nil))))
          · replace ho2918 := cond_f hb2936 ho2918
            refine run_skip ?_
            exact at_mid (ρ' := [(3, .pointer (some ⟨b2687, 0, none⟩)), (5, .pointer (some ⟨b2693, 0, none⟩)), (6, u2698), (7, .pointer (some ⟨b2719, 0, none⟩))]) ⟨_, _, _, (Option.some.inj ho2918), rfl, HM⟩ (Sub.cons rfl (Sub.cons rfl (Sub.cons rfl (Sub.cons rfl Sub.nil))))
      · rintro _ w2952 ⟨a2913, v2914, a2915, rfl, rfl, HM⟩
        replace H := cur2_mk H
        refine run_seq ?_
        obtain ⟨t2953, h2954, H⟩ := bind_some H
        obtain ⟨t2961, h2962, H⟩ := bind_some H
        obtain ⟨t2972, h2973, H⟩ := bind_some H
        replace HM := HM.front 1 rfl rfl
        replace HM := HM.front 1 rfl rfl
        refine run_drawf (fun w_ => Mem w [] w_ [own kMember 38 u2698 t2696.1, box b2719 28 [.int .i64 a2768, .int .i64 a2840, v2914, v2773], own kRef 36 v2914 a2915, own kOut 69 v2773 a2774]) [(0, true), (1, true), (2, true), (3, true), (6, true), (4, false), (5, true), (7, false), (8, true), (9, false), (10, false), (11, true), (12, false), (13, true)] mixed rfl rfl (by kernel_rfl) ?_
        replace HM := HM.grow (fr_drew _)
        have hS := Mem.suf (M := [box b2687 28 [.int .i64 0, .int .i64 0, .slice none 0 0, .slice none 0 0], box b2693 150 [p0, .int .i64 a2913]]) HM
        refine dp rfl rfl rfl rfl (ex_move rfl rfl) hS ?_
        refine drwp_take rfl (guard_none rfl) rfl rfl (fun w_ hS_ => (ex_loadN (cs := [(.int .i64 a2768), (.int .i64 a2840), v2914, v2773]) rfl rfl Try.underlying28 rfl tsz28 rfl ((hS_.box_at 1 rfl).sub 0 4 rfl))) hS ?_
        refine dp rfl rfl rfl rfl (ex_move rfl rfl) hS ?_
        refine dp rfl rfl rfl rfl (ex_move rfl rfl) hS ?_
        refine dp rfl rfl rfl rfl (ex_move rfl rfl) hS ?_
        replace HM := HM.front 1 rfl rfl
        obtain ⟨F2955, hF2956, hFn2957, hFl2958, HMh2959, hcl2960⟩ := HM.hide (Ms := [box b2693 150 [p0, .int .i64 a2913]])
        refine drwp_one rfl (guard_none rfl) rfl rfl (does_callk rfl callok52 rfl (spec_l1Next.calls (x0 := (⟨x0, a2913⟩ : l1Src)) (x1 := 9) (hide_olds _ _) hF2956 hFn2957 hFl2958 (HMh2959.rd hp0) h2954)) ?_
        rintro _ w2980 ⟨rfl, hn⟩
        replace HM : Mem w [] w2980 [box b2693 150 [p0, .int .i64 t2953.2], box b2687 28 [.int .i64 0, .int .i64 0, .slice none 0 0, .slice none 0 0], own kMember 38 u2698 t2696.1, box b2719 28 [.int .i64 a2768, .int .i64 a2840, v2914, v2773], own kRef 36 v2914 a2915, own kOut 69 v2773 a2774] := hcl2960 _ _ hn
        have hS := Mem.suf (M := [box b2693 150 [p0, .int .i64 t2953.2], box b2687 28 [.int .i64 0, .int .i64 0, .slice none 0 0, .slice none 0 0]]) HM
        refine ⟨hS, ?_⟩
        refine dp rfl rfl rfl rfl (ex_add rfl rfl rfl) hS ?_
        obtain ⟨F2963, hF2964, hFn2965, hFl2966, HMh2967, hcl2968⟩ := HM.hide (Ms := [box b2693 150 [p0, .int .i64 t2953.2]])
        refine drwp_one rfl (guard_none rfl) rfl rfl (does_callk rfl callok52 rfl (spec_l1Next.calls (x0 := (⟨x0, t2953.2⟩ : l1Src)) (x1 := 9) (hide_olds _ _) hF2964 hFn2965 hFl2966 (HMh2967.rd hp0) h2962)) ?_
        rintro _ w2981 ⟨rfl, hn⟩
        replace HM : Mem w [] w2981 [box b2693 150 [p0, .int .i64 t2961.2], box b2687 28 [.int .i64 0, .int .i64 0, .slice none 0 0, .slice none 0 0], own kMember 38 u2698 t2696.1, box b2719 28 [.int .i64 a2768, .int .i64 a2840, v2914, v2773], own kRef 36 v2914 a2915, own kOut 69 v2773 a2774] := hcl2968 _ _ hn
        have hS := Mem.suf (M := [box b2693 150 [p0, .int .i64 t2961.2], box b2687 28 [.int .i64 0, .int .i64 0, .slice none 0 0, .slice none 0 0]]) HM
        refine ⟨hS, ?_⟩
        refine dp rfl rfl rfl rfl (ex_add rfl rfl rfl) hS ?_
        refine drwp_one rfl (guard_none rfl) rfl rfl (does_lit (e := 2) (cs := [.int .i64 (wrap64 (10 + t2953.1)), .int .i64 (wrap64 (10 + t2961.1)), .int .i64 2, .int .i64 61, .int .i64 0]) (xs := ([wrap64 (10 + t2953.1), wrap64 (10 + t2961.1), 2, 61, 0] : List Int)) kInt rfl rfl (fun _ => by kernel_rfl) rfl rfl (fun _ _ h => by have h' : _ = [] := h; subst h'; exact (Elems.cons (d := kInt) (x := wrap64 (10 + t2953.1)) (f := []) ⟨rfl, rfl⟩ (Elems.cons (d := kInt) (x := wrap64 (10 + t2961.1)) (f := []) ⟨rfl, rfl⟩ (Elems.cons (d := kInt) (x := 2) (f := []) ⟨rfl, rfl⟩ (Elems.cons (d := kInt) (x := 61) (f := []) ⟨rfl, rfl⟩ (Elems.cons (d := kInt) (x := 0) (f := []) ⟨rfl, rfl⟩ .nil)))))) HM.emp) ?_
        rintro v2969 w2982 HM
        have hS := Mem.suf (M := [own kInt 2 v2969 ([wrap64 (10 + t2953.1), wrap64 (10 + t2961.1), 2, 61, 0] : List Int), box b2693 150 [p0, .int .i64 t2961.2], box b2687 28 [.int .i64 0, .int .i64 0, .slice none 0 0, .slice none 0 0]]) HM
        refine ⟨hS, ?_⟩
        replace HM := HM.front 1 rfl rfl
        obtain ⟨F2974, hF2975, hFn2976, hFl2977, HMh2978, hcl2979⟩ := HM.hide (Ms := [box b2693 150 [p0, .int .i64 t2961.2]])
        refine drwp_one rfl (guard_none rfl) rfl rfl (does_callk rfl callok53 rfl (spec_l1Pick.calls (x0 := (⟨x0, t2961.2⟩ : l1Src)) (x1 := ([wrap64 (10 + t2953.1), wrap64 (10 + t2961.1), 2, 61, 0] : List Int)) (hide_olds _ _) hF2975 hFn2976 hFl2977 (HMh2978.rd hp0) (HMh2978.own_rd 0 rfl) h2973)) ?_
        rintro _ w2983 ⟨rfl, hn⟩
        replace HM : Mem w [] w2983 [box b2693 150 [p0, .int .i64 t2972.2], own kInt 2 v2969 ([wrap64 (10 + t2953.1), wrap64 (10 + t2961.1), 2, 61, 0] : List Int), box b2687 28 [.int .i64 0, .int .i64 0, .slice none 0 0, .slice none 0 0], own kMember 38 u2698 t2696.1, box b2719 28 [.int .i64 a2768, .int .i64 a2840, v2914, v2773], own kRef 36 v2914 a2915, own kOut 69 v2773 a2774] := hcl2979 _ _ hn
        have hS := Mem.suf (M := [box b2693 150 [p0, .int .i64 t2972.2], own kInt 2 v2969 ([wrap64 (10 + t2953.1), wrap64 (10 + t2961.1), 2, 61, 0] : List Int), box b2687 28 [.int .i64 0, .int .i64 0, .slice none 0 0, .slice none 0 0]]) HM
        refine ⟨hS, ?_⟩
        refine dp rfl rfl rfl rfl (ex_assign rfl rfl) hS ?_
        replace HM := HM.front 2 rfl rfl
        refine drwp_oneS rfl (guard_none rfl) rfl (does_store (vs := [.int .i64 a2768, .int .i64 a2840, v2914, v2773]) (cs' := [.int .i64 a2768, .int .i64 a2840, v2914, v2773]) rfl rfl rfl rfl tsz28 (Ones.int (Ones.int (Ones.rd (HM.own_rd 5 rfl) (Ones.rd (HM.own_rd 6 rfl) Ones.nil)))) rfl rfl HM) ?_
        rintro w2984 HM
        have hS := Mem.suf (M := [box b2687 28 [.int .i64 a2768, .int .i64 a2840, v2914, v2773], box b2693 150 [p0, .int .i64 t2972.2], own kInt 2 v2969 ([wrap64 (10 + t2953.1), wrap64 (10 + t2961.1), 2, 61, 0] : List Int)]) HM
        refine ⟨hS, ?_⟩
        refine dp rfl rfl rfl rfl (ex_assign rfl rfl) hS ?_
        refine drwp_done ?_
        refine at_then ?_
        refine run_ret ?_
        replace HM := (HM.front 1 rfl rfl).drop
        replace HM := (HM.front 1 rfl rfl).drop
        replace HM := (HM.front 2 rfl rfl).drop
        have hcb0 := HM.box_at 0 rfl
        replace HM := (HM.front 0 rfl rfl).drop
        have hR := Option.some.inj H
        subst hR
        exact at_rets rfl (Rs.tmp rfl (Rs.cell rfl Try.underlying28 rfl tsz28 rfl hcb0 (Rs.tmp rfl Rs.nil))) rfl ⟨_, rfl, _, _, _, rfl, HM⟩

def impl_within.f (k : Nat) (x0 : Int) (x1 : Int) (x2 : Int) : Option Bool := some ((decide (x1 ≤ x0)) && (decide (x0 ≤ x2)))
theorem impl_within.calls {k : Nat} {x0 : Int} {x1 : Int} {x2 : Int}  {w : World}  {r : Bool} (H : impl_within.f k x0 x1 x2 = some r) :
    Calls Try.prog 89 ([.int .i64 x0, .int .i64 x1, .int .i64 x2] : List Value).toArray w (fun e w_ => ∃ v, e = .returned v ∧ v = (.bool r) ∧ Mem w [] w_ []) := by
  have HM := Mem.start w
  refine calls_run (N := 15) Try.func89 rfl rfl rfl rfl ?_
  unfold impl_within.f at H
  refine run_seq ?_
  refine run_region rfl ?_
  refine ox rfl rfl rfl rfl (ex_assign rfl rfl) ?_
  refine ops_nil (at_then (run_seq ?_))
  refine run_meet (fun ρ_ w_ => ρ_ = [(6, .bool ((decide (x1 ≤ x0)) && (decide (x0 ≤ x2))))] ∧ Mem w [] w_ []) ?_ ?_
  · skip
    refine run_region rfl ?_
    refine ox rfl rfl rfl rfl (ex_move rfl rfl) ?_
    refine ox rfl rfl rfl rfl (ex_move rfl rfl) ?_
    refine ox rfl rfl rfl rfl (ex_geq rfl rfl rfl) ?_
    refine ox rfl rfl rfl rfl (ex_move rfl rfl) ?_
    refine bool_cases (decide (x1 ≤ x0)) (fun hg3010 => ?_) (fun hg3010 => ?_)
    · skip
      refine ops_ex rfl (guard_on rfl rfl rfl hg3010) rfl rfl (ex_move rfl rfl) ?_
      refine ops_ex rfl (guard_on rfl rfl rfl hg3010) rfl rfl (ex_move rfl rfl) ?_
      refine ops_ex rfl (guard_on rfl rfl rfl hg3010) rfl rfl (ex_leq rfl rfl rfl) ?_
      refine ops_ex (v := .bool ((decide (x1 ≤ x0)) && (decide (x0 ≤ x2)))) rfl (guard_none rfl) rfl rfl (ex_pand_t rfl rfl hg3010 rfl) ?_
      refine ox rfl rfl rfl rfl (ex_assign rfl rfl) ?_
      refine ops_nil ?_
      exact at_meet [(6, .bool ((decide (x1 ≤ x0)) && (decide (x0 ≤ x2))))] ⟨rfl, HM⟩ (Sub.cons rfl Sub.nil)
    · skip
      refine ops_off rfl (guard_off rfl rfl rfl hg3010) rfl rfl ?_
      refine ops_off rfl (guard_off rfl rfl rfl hg3010) rfl rfl ?_
      refine ops_off rfl (guard_off rfl rfl rfl hg3010) rfl rfl ?_
      have hg3011 : ((decide (x1 ≤ x0)) && (decide (x0 ≤ x2))) = false := by simp only [hg3010, Bool.and_true, Bool.true_and, Bool.and_false, Bool.false_and, Bool.or_true, Bool.true_or, Bool.or_false, Bool.false_or, Bool.not_true, Bool.not_false, Bool.not_not]
      refine ops_ex (v := .bool ((decide (x1 ≤ x0)) && (decide (x0 ≤ x2)))) rfl (guard_none rfl) rfl rfl (ex_pand_f rfl rfl hg3010) ?_
      refine ox rfl rfl rfl rfl (ex_assign rfl rfl) ?_
      refine ops_nil ?_
      exact at_meet [(6, .bool ((decide (x1 ≤ x0)) && (decide (x0 ≤ x2))))] ⟨rfl, HM⟩ (Sub.cons rfl Sub.nil)
  · rintro _ w3012 ⟨rfl, HM⟩
    refine at_then ?_
    refine run_ret ?_
    have hR := Option.some.inj H
    subst hR
    exact at_ret1 rfl rfl ⟨_, rfl, rfl, HM⟩

def impl_isKey.f (k : Nat) (x0 : Int) : Option Bool := ((impl_within.f k x0 1 999).bind fun t3015 => some t3015)
theorem impl_isKey.calls {k : Nat} {x0 : Int}  {w : World}  {r : Bool} (H : impl_isKey.f k x0 = some r) :
    Calls Try.prog 62 ([.int .i64 x0] : List Value).toArray w (fun e w_ => ∃ v, e = .returned v ∧ v = (.bool r) ∧ Mem w [] w_ []) := by
  have HM := Mem.start w
  refine calls_run (N := 5) Try.func62 rfl rfl rfl rfl ?_
  unfold impl_isKey.f at H
  refine run_seq ?_
  refine run_region rfl ?_
  refine ox rfl rfl rfl rfl (ex_assign rfl rfl) ?_
  refine ops_nil (at_then (run_seq ?_))
  obtain ⟨t3015, h3016, H⟩ := bind_some H
  refine run_region rfl ?_
  refine ox rfl rfl rfl rfl (ex_move rfl rfl) ?_
  refine od rfl rfl rfl rfl (does_callk rfl callok89 rfl (impl_within.calls (x0 := x0) (x1 := 1) (x2 := 999) h3016)) ?_
  rintro _ w3017 ⟨rfl, hn⟩
  replace HM : Mem w [] w3017 [] := HM.call hn
  refine ox rfl rfl rfl rfl (ex_assign rfl rfl) ?_
  refine ops_nil (at_then ?_)
  refine run_ret ?_
  have hR := Option.some.inj H
  subst hR
  exact at_ret1 rfl rfl ⟨_, rfl, rfl, HM⟩

def impl_isId.f (k : Nat) (x0 : Int) : Option Bool := ((impl_within.f k x0 1 60).bind fun t3025 => some t3025)
theorem impl_isId.calls {k : Nat} {x0 : Int}  {w : World}  {r : Bool} (H : impl_isId.f k x0 = some r) :
    Calls Try.prog 109 ([.int .i64 x0] : List Value).toArray w (fun e w_ => ∃ v, e = .returned v ∧ v = (.bool r) ∧ Mem w [] w_ []) := by
  have HM := Mem.start w
  refine calls_run (N := 5) Try.func109 rfl rfl rfl rfl ?_
  unfold impl_isId.f at H
  refine run_seq ?_
  refine run_region rfl ?_
  refine ox rfl rfl rfl rfl (ex_assign rfl rfl) ?_
  refine ops_nil (at_then (run_seq ?_))
  obtain ⟨t3025, h3026, H⟩ := bind_some H
  refine run_region rfl ?_
  refine ox rfl rfl rfl rfl (ex_move rfl rfl) ?_
  refine od rfl rfl rfl rfl (does_callk rfl callok89 rfl (impl_within.calls (x0 := x0) (x1 := 1) (x2 := 60) h3026)) ?_
  rintro _ w3027 ⟨rfl, hn⟩
  replace HM : Mem w [] w3027 [] := HM.call hn
  refine ox rfl rfl rfl rfl (ex_assign rfl rfl) ?_
  refine ops_nil (at_then ?_)
  refine run_ret ?_
  have hR := Option.some.inj H
  subst hR
  exact at_ret1 rfl rfl ⟨_, rfl, rfl, HM⟩

def impl_isRef.f (k : Nat) (x0 : Ref) : Option Bool := ((impl_isId.f k x0.fTx).bind fun t3036 => ((bif t3036 then impl_within.f k x0.fAt 0 3 else some default).bind fun t3038 => some (t3036 && t3038)))
theorem impl_isRef.calls {k : Nat} {x0 : Ref}  {w : World}  {r : Bool} (H : impl_isRef.f k x0 = some r) :
    Calls Try.prog 63 ([.agg #[(.int .i64 x0.fTx), (.int .i64 x0.fAt)]] : List Value).toArray w (fun e w_ => ∃ v, e = .returned v ∧ v = (.bool r) ∧ Mem w [] w_ []) := by
  have HM := Mem.start w
  refine calls_run (N := 11) Try.func63 rfl rfl rfl rfl ?_
  unfold impl_isRef.f at H
  refine run_seq ?_
  refine run_region rfl ?_
  refine od rfl rfl rfl rfl (does_box (cs := [.int .i64 x0.fTx, .int .i64 x0.fAt]) rfl rfl rfl HM) ?_
  rintro _ w3035 ⟨b3032, rfl, HM⟩
  refine ox rfl rfl rfl rfl (ex_assign rfl rfl) ?_
  refine ops_nil (at_then (run_seq ?_))
  obtain ⟨t3036, h3037, H⟩ := bind_some H
  obtain ⟨t3038, h3039, H⟩ := bind_some H
  refine run_meet (fun ρ_ w_ => ρ_ = [(2, .bool (t3036 && t3038))] ∧ Mem w [] w_ []) ?_ ?_
  · skip
    refine run_region rfl ?_
    refine ox rfl rfl rfl rfl (ex_fieldAddr (off' := 0) rfl rfl Try.underlying36 rfl tsz2 rfl) ?_
    refine ox rfl rfl rfl rfl (ex_load1 rfl rfl Try.underlying2 rfl ((HM.box_at 0 rfl) 0 _ rfl)) ?_
    refine od rfl rfl rfl rfl (does_callk rfl callok109 rfl (impl_isId.calls (x0 := x0.fTx) h3037)) ?_
    rintro _ w3040 ⟨rfl, hn⟩
    replace HM : Mem w [] w3040 [box b3032 36 [.int .i64 x0.fTx, .int .i64 x0.fAt]] := HM.call hn
    refine ox rfl rfl rfl rfl (ex_move rfl rfl) ?_
    refine bool_cases t3036 (fun hg3041 => ?_) (fun hg3041 => ?_)
    · skip
      refine ops_ex rfl (guard_on rfl rfl rfl hg3041) rfl rfl (ex_fieldAddr (off' := 1) rfl rfl Try.underlying36 rfl tsz2 rfl) ?_
      refine ops_ex rfl (guard_on rfl rfl rfl hg3041) rfl rfl (ex_load1 rfl rfl Try.underlying2 rfl ((HM.box_at 0 rfl) 1 _ rfl)) ?_
      refine ops_does rfl (guard_on rfl rfl rfl hg3041) rfl rfl (does_callk rfl callok89 rfl (impl_within.calls (x0 := x0.fAt) (x1 := 0) (x2 := 3) (cond_t hg3041 h3039))) ?_
      rintro _ w3042 ⟨rfl, hn⟩
      replace HM : Mem w [] w3042 [box b3032 36 [.int .i64 x0.fTx, .int .i64 x0.fAt]] := HM.call hn
      refine ops_ex (v := .bool (t3036 && t3038)) rfl (guard_none rfl) rfl rfl (ex_pand_t rfl rfl hg3041 rfl) ?_
      refine ox rfl rfl rfl rfl (ex_assign rfl rfl) ?_
      refine ops_nil ?_
      replace HM := (HM.front 0 rfl rfl).drop
      exact at_meet [(2, .bool (t3036 && t3038))] ⟨rfl, HM⟩ (Sub.cons rfl Sub.nil)
    · skip
      refine ops_off rfl (guard_off rfl rfl rfl hg3041) rfl rfl ?_
      refine ops_off rfl (guard_off rfl rfl rfl hg3041) rfl rfl ?_
      refine ops_off rfl (guard_off rfl rfl rfl hg3041) rfl rfl ?_
      have hg3043 : (t3036 && t3038) = false := by simp only [hg3041, Bool.and_true, Bool.true_and, Bool.and_false, Bool.false_and, Bool.or_true, Bool.true_or, Bool.or_false, Bool.false_or, Bool.not_true, Bool.not_false, Bool.not_not]
      refine ops_ex (v := .bool (t3036 && t3038)) rfl (guard_none rfl) rfl rfl (ex_pand_f rfl rfl hg3041) ?_
      refine ox rfl rfl rfl rfl (ex_assign rfl rfl) ?_
      refine ops_nil ?_
      replace HM := (HM.front 0 rfl rfl).drop
      exact at_meet [(2, .bool (t3036 && t3038))] ⟨rfl, HM⟩ (Sub.cons rfl Sub.nil)
  · rintro _ w3044 ⟨rfl, HM⟩
    refine at_then ?_
    refine run_ret ?_
    have hR := Option.some.inj H
    subst hR
    exact at_ret1 rfl rfl ⟨_, rfl, rfl, HM⟩

def impl_MembersFault_1.f (k : Nat) (x0 : Member) (x1 : Member) : Option Bool := some ((x0.fRef.fTx == x1.fRef.fTx) && (x0.fRef.fAt == x1.fRef.fAt))
theorem impl_MembersFault_1.calls {k : Nat} {x0 : Member} {x1 : Member} {b1 f1 : Nat} {w : World} (hc1 : CellsAt w b1 f1 [.int .i64 x1.fKey, .int .i64 x1.fRef.fTx, .int .i64 x1.fRef.fAt]) {r : Bool} (H : impl_MembersFault_1.f k x0 x1 = some r) :
    Calls Try.prog 65 ([.agg #[(.int .i64 x0.fKey), (.int .i64 x0.fRef.fTx), (.int .i64 x0.fRef.fAt)], .pointer (some ⟨b1, f1, none⟩)] : List Value).toArray w (fun e w_ => ∃ v, e = .returned v ∧ v = (.bool r) ∧ Mem w [] w_ []) := by
  have HM := Mem.start w
  refine calls_run (N := 9) Try.func65 rfl rfl rfl rfl ?_
  unfold impl_MembersFault_1.f at H
  refine run_seq ?_
  refine run_region rfl ?_
  refine od rfl rfl rfl rfl (does_box (cs := [.int .i64 x0.fKey, .int .i64 x0.fRef.fTx, .int .i64 x0.fRef.fAt]) rfl rfl rfl HM) ?_
  rintro _ w3116 ⟨b3113, rfl, HM⟩
  refine ox rfl rfl rfl rfl (ex_assign rfl rfl) ?_
  refine ops_nil (at_then (run_seq ?_))
  refine run_region rfl ?_
  refine ox rfl rfl rfl rfl (ex_fieldAddr (off' := 1) rfl rfl Try.underlying38 rfl tsz36 rfl) ?_
  refine ox rfl rfl rfl rfl (ex_loadN (cs := [(.int .i64 x0.fRef.fTx), (.int .i64 x0.fRef.fAt)]) rfl rfl Try.underlying36 rfl tsz36 rfl ((HM.box_at 0 rfl).sub 1 2 rfl)) ?_
  refine ox rfl rfl rfl rfl (ex_fieldAddr (off' := f1 + 1) rfl rfl Try.underlying38 rfl tsz36 rfl) ?_
  refine ox rfl rfl rfl rfl (ex_loadN (cs := [(.int .i64 x1.fRef.fTx), (.int .i64 x1.fRef.fAt)]) rfl rfl Try.underlying36 rfl tsz36 rfl ((HM.at_ hc1).sub 1 2 rfl)) ?_
  refine ox rfl rfl rfl rfl (ex_aeql rfl rfl rfl (by kernel_rfl) (eqs36 _ _ _ _ _)) ?_
  refine ox rfl rfl rfl rfl (ex_assign rfl rfl) ?_
  refine ops_nil (at_then ?_)
  refine run_ret ?_
  replace HM := (HM.front 0 rfl rfl).drop
  have hR := Option.some.inj H
  subst hR
  exact at_ret1 rfl rfl ⟨_, rfl, rfl, HM⟩

def slices_IndexFunc_impl_Member.l0 (x0 : List Member) (x1_0 : Member) : Nat → Int → Option (Int ⊕ Unit)
  | 0, _ => none
  | k + 1, a3162 => (bif (decide (a3162 < (x0.length : Int))) then (chk (idxOk a3162 x0.length) ((impl_MembersFault_1.f k (gt x0 a3162) x1_0).bind fun t3174 => (bif t3174 then some (.inl a3162) else slices_IndexFunc_impl_Member.l0 x0 x1_0 k (wrap64 (a3162 + 1))))) else some (.inr ()))
theorem slices_IndexFunc_impl_Member.l0_z (x0 : List Member) (x1_0 : Member) (a3162 : Int) : slices_IndexFunc_impl_Member.l0 x0 x1_0 0 a3162 = none := rfl
theorem slices_IndexFunc_impl_Member.l0_s (x0 : List Member) (x1_0 : Member) (k : Nat) (a3162 : Int) : slices_IndexFunc_impl_Member.l0 x0 x1_0 (k + 1) a3162 = (bif (decide (a3162 < (x0.length : Int))) then (chk (idxOk a3162 x0.length) ((impl_MembersFault_1.f k (gt x0 a3162) x1_0).bind fun t3174 => (bif t3174 then some (.inl a3162) else slices_IndexFunc_impl_Member.l0 x0 x1_0 k (wrap64 (a3162 + 1))))) else some (.inr ())) := rfl
def slices_IndexFunc_impl_Member.f (k : Nat) (x0 : List Member) (x1_0 : Member) : Option Int := ((slices_IndexFunc_impl_Member.l0 x0 x1_0 k 0).bind fun o3154 => thn o3154 (fun r => some r) (fun _ => some (-1)))
theorem slices_IndexFunc_impl_Member.calls {k : Nat} {x0 : List Member} {x1_0 : Member} {p0 : Value} {b1_0 f1_0 : Nat} {w : World} (hp0 : RdS kMember w p0 x0) (hc1_0 : CellsAt w b1_0 f1_0 [.int .i64 x1_0.fKey, .int .i64 x1_0.fRef.fTx, .int .i64 x1_0.fRef.fAt]) {r : Int} (H : slices_IndexFunc_impl_Member.f k x0 x1_0 = some r) :
    Calls Try.prog 124 ([p0, .func (.func 65) #[] #[(.pointer (some ⟨b1_0, f1_0, none⟩))]] : List Value).toArray w (fun e w_ => ∃ v, e = .returned v ∧ v = (.int .i64 r) ∧ Mem w [] w_ []) := by
  have HM := Mem.start w
  refine calls_run (N := 19) Try.func124 rfl rfl rfl rfl ?_
  unfold slices_IndexFunc_impl_Member.f at H
  refine run_seq ?_
  refine run_region rfl ?_
  refine ox rfl rfl rfl rfl (ex_assign rfl rfl) ?_
  refine ops_nil (at_then ?_)
  obtain ⟨o3154, ho3155, H⟩ := bind_some H
  refine run_mid (fun ρ_ w_ => Sum.inr () = o3154 ∧ ρ_ = [] ∧ Mem w [] w_ []) ?_ ?_
  · skip
    refine run_seq ?_
    refine run_region rfl ?_
    refine ox rfl rfl rfl rfl (ex_move rfl rfl) ?_
    refine ox rfl rfl rfl rfl (ex_len (d := kMember) (xs := x0) rfl rfl Try.underlying24 hp0) ?_
    refine ox rfl rfl rfl rfl (ex_move rfl rfl) ?_
    refine ops_nil (at_then ?_)
    refine run_block ?_
    refine run_loop (fun k_ ρ_ w_ => ∃ a3162 : Int, slices_IndexFunc_impl_Member.l0 x0 x1_0 k_ a3162 = some o3154 ∧ ρ_ = [(0, p0), (1, .func (.func 65) #[] #[(.pointer (some ⟨b1_0, f1_0, none⟩))]), (7, .int .i64 (x0.length : Int)), (8, .int .i64 a3162)] ∧ Mem w [] w_ []) k (ρ1 := [(0, p0), (1, .func (.func 65) #[] #[(.pointer (some ⟨b1_0, f1_0, none⟩))]), (7, .int .i64 (x0.length : Int)), (8, .int .i64 0)]) ⟨_, ho3155, rfl, HM⟩ (Sub.cons rfl (Sub.cons rfl (Sub.cons rfl (Sub.cons rfl Sub.nil)))) ?_
    clear HM ho3155
    rintro k3169 _ w3170 ⟨a3162, ho3155, rfl, HM⟩
    obtain _ | k3169 := k3169
    · exact nomatch ((slices_IndexFunc_impl_Member.l0_z x0 x1_0 a3162).symm.trans ho3155)
    replace ho3155 := (slices_IndexFunc_impl_Member.l0_s x0 x1_0 k3169 a3162).symm.trans ho3155
    refine run_seq ?_
    refine run_region rfl ?_
    refine ox rfl rfl rfl rfl (ex_lss rfl rfl rfl) ?_
    refine ops_nil (at_then (run_seq ?_))
    refine run_cond (b := (decide (a3162 < (x0.length : Int)))) rfl (fun hb3171 => ?_) (fun hb3171 => ?_)
    · replace ho3155 := cond_t hb3171 ho3155
      refine run_skip ?_
      refine at_then ?_
      refine run_seq ?_
      refine run_block ?_
      refine run_seq ?_
      refine run_region rfl ?_
      refine ox rfl rfl rfl rfl (ex_move rfl rfl) ?_
      refine ox rfl rfl rfl rfl (ex_assign rfl rfl) ?_
      refine ops_nil (at_then (run_seq ?_))
      obtain ⟨e3172, ho3155⟩ := chk_some ho3155
      obtain ⟨t3174, h3175, ho3155⟩ := bind_some ho3155
      refine run_region rfl ?_
      refine ox rfl rfl rfl rfl (ex_move rfl rfl) ?_
      refine ox rfl rfl rfl rfl (ex_move rfl rfl) ?_
      refine ox rfl rfl rfl rfl (ex_move rfl rfl) ?_
      have hc3173 : CellsAt _ (sb p0) (so p0 + (a3162).toNat * 3) [(.int .i64 ((gt x0 a3162).fKey)), (.int .i64 ((gt x0 a3162).fRef.fTx)), (.int .i64 ((gt x0 a3162).fRef.fAt))] := rd_plain hp0 e3172
      refine ox rfl rfl rfl rfl (ex_indexAddr (d := kMember) rfl rfl rfl Try.underlying24 tsz38 hp0 (idx_lo e3172) (idx_hi e3172)) ?_
      refine ox rfl rfl rfl rfl (ex_loadN (cs := [(.int .i64 ((gt x0 a3162).fKey)), (.int .i64 ((gt x0 a3162).fRef.fTx)), (.int .i64 ((gt x0 a3162).fRef.fAt))]) rfl rfl Try.underlying38 rfl tsz38 rfl ((HM.at_ hc3173).sub 0 3 rfl)) ?_
      refine od rfl rfl rfl rfl (does_callvk rfl callok65 rfl rfl rfl (impl_MembersFault_1.calls (x0 := (gt x0 a3162)) (x1 := x1_0) (HM.at_ hc1_0) h3175)) ?_
      rintro _ w3176 ⟨rfl, hn⟩
      replace HM : Mem w [] w3176 [] := HM.call hn
      refine ops_nil (at_then ?_)
      refine run_cond (b := t3174) rfl (fun hb3177 => ?_) (fun hb3177 => ?_)
      · replace ho3155 := cond_t hb3177 ho3155
        refine run_seq ?_
        refine run_region rfl ?_
        refine ox rfl rfl rfl rfl (ex_move rfl rfl) ?_
        refine ox rfl rfl rfl rfl (ex_assign rfl rfl) ?_
        refine ops_nil (at_then ?_)
        refine run_ret ?_
        refine at_block_ret ?_
        refine at_then_ret ?_
        refine at_then_ret ?_
        refine at_block_ret ?_
        refine at_then_ret ?_
        have hR := Option.some.inj ho3155
        subst hR
        have hT := thn_inl H
        have hR := Option.some.inj hT
        subst hR
        exact at_ret1 rfl rfl ⟨_, rfl, rfl, HM⟩
      · replace ho3155 := cond_f hb3177 ho3155
        refine run_skip ?_
        refine at_block ?_
        refine at_then ?_
        refine run_region rfl ?_
        refine ox rfl rfl rfl rfl (ex_add rfl rfl rfl) ?_
        refine ox rfl rfl rfl rfl (ex_move rfl rfl) ?_
        refine ops_nil ?_
        exact at_again k3169 (ρ1 := [(0, p0), (1, .func (.func 65) #[] #[(.pointer (some ⟨b1_0, f1_0, none⟩))]), (7, .int .i64 (x0.length : Int)), (8, .int .i64 (wrap64 (a3162 + 1)))]) (Nat.lt_succ_self _) ⟨_, ho3155, rfl, HM⟩ (Sub.cons rfl (Sub.cons rfl (Sub.cons rfl (Sub.cons rfl Sub.nil))))
    · replace ho3155 := cond_f hb3171 ho3155
      refine run_exit ?_
      refine at_then_exit ?_
      refine at_then_exit ?_
      refine at_block_exit ?_
      exact at_mid (ρ' := []) ⟨(Option.some.inj ho3155), rfl, HM⟩ Sub.nil
  · rintro _ w3178 ⟨rfl, rfl, HM⟩
    replace H := (thn_inr H)
    refine run_seq ?_
    refine run_region rfl ?_
    refine ox rfl rfl rfl rfl (ex_assign rfl rfl) ?_
    refine ops_nil (at_then ?_)
    refine run_ret ?_
    have hR := Option.some.inj H
    subst hR
    exact at_ret1 rfl rfl ⟨_, rfl, rfl, HM⟩

def slices_ContainsFunc_impl_Member.f (k : Nat) (x0 : List Member) (x1_0 : Member) : Option Bool := ((slices_IndexFunc_impl_Member.f k x0 x1_0).bind fun t3181 => some (decide (0 ≤ t3181)))
theorem slices_ContainsFunc_impl_Member.calls {k : Nat} {x0 : List Member} {x1_0 : Member} {p0 : Value} {b1_0 f1_0 : Nat} {w : World} (hp0 : RdS kMember w p0 x0) (hc1_0 : CellsAt w b1_0 f1_0 [.int .i64 x1_0.fKey, .int .i64 x1_0.fRef.fTx, .int .i64 x1_0.fRef.fAt]) {r : Bool} (H : slices_ContainsFunc_impl_Member.f k x0 x1_0 = some r) :
    Calls Try.prog 64 ([p0, .func (.func 65) #[] #[(.pointer (some ⟨b1_0, f1_0, none⟩))]] : List Value).toArray w (fun e w_ => ∃ v, e = .returned v ∧ v = (.bool r) ∧ Mem w [] w_ []) := by
  have HM := Mem.start w
  refine calls_run (N := 9) Try.func64 rfl rfl rfl rfl ?_
  unfold slices_ContainsFunc_impl_Member.f at H
  refine run_seq ?_
  refine run_region rfl ?_
  refine ox rfl rfl rfl rfl (ex_assign rfl rfl) ?_
  refine ops_nil (at_then (run_seq ?_))
  obtain ⟨t3181, h3182, H⟩ := bind_some H
  refine run_region rfl ?_
  refine ox rfl rfl rfl rfl (ex_move rfl rfl) ?_
  refine ox rfl rfl rfl rfl (ex_move rfl rfl) ?_
  refine od rfl rfl rfl rfl (does_callk rfl callok124 rfl (slices_IndexFunc_impl_Member.calls (x0 := x0) (x1_0 := x1_0) (HM.rd hp0) (HM.at_ hc1_0) h3182)) ?_
  rintro _ w3183 ⟨rfl, hn⟩
  replace HM : Mem w [] w3183 [] := HM.call hn
  refine ox rfl rfl rfl rfl (ex_geq rfl rfl rfl) ?_
  refine ox rfl rfl rfl rfl (ex_assign rfl rfl) ?_
  refine ops_nil (at_then ?_)
  refine run_ret ?_
  have hR := Option.some.inj H
  subst hR
  exact at_ret1 rfl rfl ⟨_, rfl, rfl, HM⟩

def impl_MembersFault.l0 (x0 : List Member) : Nat → Int → Option (Int ⊕ Unit)
  | 0, _ => none
  | k + 1, a3297 => (bif (decide (a3297 < (x0.length : Int))) then (chk (idxOk a3297 x0.length) ((impl_isKey.f k ((gt x0 a3297).fKey)).bind fun t3332 => ((bif (!(!t3332)) then impl_isRef.f k ((gt x0 a3297).fRef) else some default).bind fun t3334 => (bif ((!t3332) || (!t3334)) then some (.inl 3) else (chk (!(decide (0 < a3297)) || (idxOk (wrap64 (a3297 - 1)) x0.length)) (bif ((decide (0 < a3297)) && (decide (((gt x0 a3297).fKey) ≤ ((gt x0 (wrap64 (a3297 - 1))).fKey)))) then some (.inl 1) else impl_MembersFault.l0 x0 k (wrap64 (a3297 + 1)))))))) else some (.inr ()))
theorem impl_MembersFault.l0_z (x0 : List Member) (a3297 : Int) : impl_MembersFault.l0 x0 0 a3297 = none := rfl
theorem impl_MembersFault.l0_s (x0 : List Member) (k : Nat) (a3297 : Int) : impl_MembersFault.l0 x0 (k + 1) a3297 = (bif (decide (a3297 < (x0.length : Int))) then (chk (idxOk a3297 x0.length) ((impl_isKey.f k ((gt x0 a3297).fKey)).bind fun t3332 => ((bif (!(!t3332)) then impl_isRef.f k ((gt x0 a3297).fRef) else some default).bind fun t3334 => (bif ((!t3332) || (!t3334)) then some (.inl 3) else (chk (!(decide (0 < a3297)) || (idxOk (wrap64 (a3297 - 1)) x0.length)) (bif ((decide (0 < a3297)) && (decide (((gt x0 a3297).fKey) ≤ ((gt x0 (wrap64 (a3297 - 1))).fKey)))) then some (.inl 1) else impl_MembersFault.l0 x0 k (wrap64 (a3297 + 1)))))))) else some (.inr ())) := rfl
def impl_MembersFault.l1 (x0 : List Member) : Nat → Int → Option (Int ⊕ Unit)
  | 0, _ => none
  | k + 1, a3404 => (bif (decide (a3404 < (x0.length : Int))) then (chk (idxOk a3404 x0.length) (chk (cutOk a3404 x0.length) ((slices_ContainsFunc_impl_Member.f k (x0.take (a3404).toNat) (gt x0 a3404)).bind fun t3432 => (bif t3432 then some (.inl 7) else impl_MembersFault.l1 x0 k (wrap64 (a3404 + 1)))))) else some (.inr ()))
theorem impl_MembersFault.l1_z (x0 : List Member) (a3404 : Int) : impl_MembersFault.l1 x0 0 a3404 = none := rfl
theorem impl_MembersFault.l1_s (x0 : List Member) (k : Nat) (a3404 : Int) : impl_MembersFault.l1 x0 (k + 1) a3404 = (bif (decide (a3404 < (x0.length : Int))) then (chk (idxOk a3404 x0.length) (chk (cutOk a3404 x0.length) ((slices_ContainsFunc_impl_Member.f k (x0.take (a3404).toNat) (gt x0 a3404)).bind fun t3432 => (bif t3432 then some (.inl 7) else impl_MembersFault.l1 x0 k (wrap64 (a3404 + 1)))))) else some (.inr ())) := rfl
def impl_MembersFault.f (k : Nat) (x0 : List Member) : Option Int := (bif (decide (8 < (x0.length : Int))) then some 2 else ((impl_MembersFault.l0 x0 k 0).bind fun o3276 => thn o3276 (fun r => some r) (fun _ => ((impl_MembersFault.l1 x0 k 0).bind fun o3389 => thn o3389 (fun r => some r) (fun _ => some 0)))))
theorem impl_MembersFault.calls {k : Nat} {x0 : List Member} {p0 : Value} {w : World} (hp0 : RdS kMember w p0 x0) {r : Int} (H : impl_MembersFault.f k x0 = some r) :
    Calls Try.prog 13 ([p0] : List Value).toArray w (fun e w_ => ∃ v, e = .returned v ∧ v = (.int .i64 r) ∧ Mem w [] w_ []) := by
  have HM := Mem.start w
  refine calls_run (N := 54) Try.func13 rfl rfl rfl rfl ?_
  unfold impl_MembersFault.f at H
  refine run_seq ?_
  refine run_region rfl ?_
  refine ox rfl rfl rfl rfl (ex_assign rfl rfl) ?_
  refine ops_nil (at_then (run_seq ?_))
  refine run_seq ?_
  refine run_region rfl ?_
  refine ox rfl rfl rfl rfl (ex_move rfl rfl) ?_
  refine ox rfl rfl rfl rfl (ex_len (d := kMember) (xs := x0) rfl rfl Try.underlying24 hp0) ?_
  refine ox rfl rfl rfl rfl (ex_gtr rfl rfl rfl) ?_
  refine ops_nil (at_then ?_)
  refine run_cond (b := (decide (8 < (x0.length : Int)))) rfl (fun hb3217 => ?_) (fun hb3217 => ?_)
  · replace H := cond_t hb3217 H
    refine run_seq ?_
    refine run_region rfl ?_
    refine ox rfl rfl rfl rfl (ex_assign rfl rfl) ?_
    refine ops_nil (at_then ?_)
    refine run_ret ?_
    refine at_then_ret ?_
    have hR := Option.some.inj H
    subst hR
    exact at_ret1 rfl rfl ⟨_, rfl, rfl, HM⟩
  · replace H := cond_f hb3217 H
    refine run_skip ?_
    refine at_then ?_
    obtain ⟨o3276, ho3277, H⟩ := bind_some H
    refine run_mid (fun ρ_ w_ => Sum.inr () = o3276 ∧ ρ_ = [(0, p0)] ∧ Mem w [] w_ []) ?_ ?_
    · skip
      refine run_seq ?_
      refine run_region rfl ?_
      refine ox rfl rfl rfl rfl (ex_move rfl rfl) ?_
      refine ox rfl rfl rfl rfl (ex_len (d := kMember) (xs := x0) rfl rfl Try.underlying24 hp0) ?_
      refine ox rfl rfl rfl rfl (ex_move rfl rfl) ?_
      refine ops_nil (at_then ?_)
      refine run_block ?_
      refine run_loop (fun k_ ρ_ w_ => ∃ a3297 : Int, impl_MembersFault.l0 x0 k_ a3297 = some o3276 ∧ ρ_ = [(0, p0), (10, p0), (11, .int .i64 (x0.length : Int)), (12, .int .i64 a3297)] ∧ Mem w [] w_ []) k (ρ1 := [(0, p0), (10, p0), (11, .int .i64 (x0.length : Int)), (12, .int .i64 0)]) ⟨_, ho3277, rfl, HM⟩ (Sub.cons rfl (Sub.cons rfl (Sub.cons rfl (Sub.cons rfl Sub.nil)))) ?_
      clear HM ho3277
      rintro k3317 _ w3318 ⟨a3297, ho3277, rfl, HM⟩
      obtain _ | k3317 := k3317
      · exact nomatch ((impl_MembersFault.l0_z x0 a3297).symm.trans ho3277)
      replace ho3277 := (impl_MembersFault.l0_s x0 k3317 a3297).symm.trans ho3277
      refine run_seq ?_
      refine run_region rfl ?_
      refine ox rfl rfl rfl rfl (ex_lss rfl rfl rfl) ?_
      refine ops_nil (at_then (run_seq ?_))
      refine run_cond (b := (decide (a3297 < (x0.length : Int)))) rfl (fun hb3319 => ?_) (fun hb3319 => ?_)
      · replace ho3277 := cond_t hb3319 ho3277
        refine run_skip ?_
        refine at_then ?_
        refine run_seq ?_
        refine run_block ?_
        refine run_seq ?_
        obtain ⟨e3320, ho3277⟩ := chk_some ho3277
        refine run_region rfl ?_
        refine ox rfl rfl rfl rfl (ex_move rfl rfl) ?_
        have hc3321 : CellsAt _ (sb p0) (so p0 + (a3297).toNat * 3) [(.int .i64 ((gt x0 a3297).fKey)), (.int .i64 ((gt x0 a3297).fRef.fTx)), (.int .i64 ((gt x0 a3297).fRef.fAt))] := rd_plain hp0 e3320
        refine ox rfl rfl rfl rfl (ex_indexAddr (d := kMember) rfl rfl rfl Try.underlying24 tsz38 hp0 (idx_lo e3320) (idx_hi e3320)) ?_
        refine ox rfl rfl rfl rfl (ex_loadN (cs := [(.int .i64 ((gt x0 a3297).fKey)), (.int .i64 ((gt x0 a3297).fRef.fTx)), (.int .i64 ((gt x0 a3297).fRef.fAt))]) rfl rfl Try.underlying38 rfl tsz38 rfl ((HM.at_ hc3321).sub 0 3 rfl)) ?_
        refine od rfl rfl rfl rfl (does_alloc (cs := [.int .i64 0, .int .i64 0, .int .i64 0]) rfl tz38 rfl HM) ?_
        rintro _ w3325 ⟨b3322, rfl, HM⟩
        refine ox rfl rfl rfl rfl (ex_assign rfl rfl) ?_
        refine odS rfl rfl rfl (does_store (vs := [.int .i64 ((gt x0 a3297).fKey), .int .i64 ((gt x0 a3297).fRef.fTx), .int .i64 ((gt x0 a3297).fRef.fAt)]) (cs' := [.int .i64 ((gt x0 a3297).fKey), .int .i64 ((gt x0 a3297).fRef.fTx), .int .i64 ((gt x0 a3297).fRef.fAt)]) rfl rfl rfl rfl tsz38 (Ones.int (Ones.int (Ones.int Ones.nil))) rfl rfl HM) ?_
        rintro w3326 HM
        refine ops_nil (at_then (run_seq ?_))
        refine run_seq ?_
        obtain ⟨t3332, h3333, ho3277⟩ := bind_some ho3277
        obtain ⟨t3334, h3335, ho3277⟩ := bind_some ho3277
        refine run_meet (fun ρ_ w_ => ρ_ = [(0, p0), (10, p0), (11, .int .i64 (x0.length : Int)), (12, .int .i64 a3297), (4, .pointer (some ⟨b3322, 0, none⟩)), (3, .int .i64 a3297), (26, .bool ((!t3332) || (!t3334)))] ∧ Mem w [] w_ [box b3322 38 [.int .i64 ((gt x0 a3297).fKey), .int .i64 ((gt x0 a3297).fRef.fTx), .int .i64 ((gt x0 a3297).fRef.fAt)]]) ?_ ?_
        · skip
          refine run_region rfl ?_
          refine ox rfl rfl rfl rfl (ex_fieldAddr (off' := 0) rfl rfl Try.underlying38 rfl tsz2 rfl) ?_
          refine ox rfl rfl rfl rfl (ex_load1 rfl rfl Try.underlying2 rfl ((HM.box_at 0 rfl) 0 _ rfl)) ?_
          refine od rfl rfl rfl rfl (does_callk rfl callok62 rfl (impl_isKey.calls (x0 := (gt x0 a3297).fKey) h3333)) ?_
          rintro _ w3336 ⟨rfl, hn⟩
          replace HM : Mem w [] w3336 [box b3322 38 [.int .i64 ((gt x0 a3297).fKey), .int .i64 ((gt x0 a3297).fRef.fTx), .int .i64 ((gt x0 a3297).fRef.fAt)]] := HM.call hn
          refine ox rfl rfl rfl rfl (ex_not rfl rfl) ?_
          refine ox rfl rfl rfl rfl (ex_move rfl rfl) ?_
          refine bool_cases (!t3332) (fun hg3337 => ?_) (fun hg3337 => ?_)
          · skip
            refine ops_off rfl (guard_off rfl rfl rfl hg3337) rfl rfl ?_
            refine ops_off rfl (guard_off rfl rfl rfl hg3337) rfl rfl ?_
            refine ops_off rfl (guard_off rfl rfl rfl hg3337) rfl rfl ?_
            refine ops_off rfl (guard_off rfl rfl rfl hg3337) rfl rfl ?_
            have hg3338 : ((!t3332) || (!t3334)) = true := by simp only [hg3337, Bool.and_true, Bool.true_and, Bool.and_false, Bool.false_and, Bool.or_true, Bool.true_or, Bool.or_false, Bool.false_or, Bool.not_true, Bool.not_false, Bool.not_not]
            refine ops_ex (v := .bool ((!t3332) || (!t3334))) rfl (guard_none rfl) rfl rfl (ex_por_t rfl rfl hg3337) ?_
            refine ops_nil ?_
            exact at_meet [(0, p0), (10, p0), (11, .int .i64 (x0.length : Int)), (12, .int .i64 a3297), (4, .pointer (some ⟨b3322, 0, none⟩)), (3, .int .i64 a3297), (26, .bool ((!t3332) || (!t3334)))] ⟨rfl, HM⟩ (Sub.cons rfl (Sub.cons rfl (Sub.cons rfl (Sub.cons rfl (Sub.cons rfl (Sub.cons rfl (Sub.cons rfl Sub.nil)))))))
          · skip
            refine ops_ex rfl (guard_on rfl rfl rfl hg3337) rfl rfl (ex_fieldAddr (off' := 1) rfl rfl Try.underlying38 rfl tsz36 rfl) ?_
            refine ops_ex rfl (guard_on rfl rfl rfl hg3337) rfl rfl (ex_loadN (cs := [(.int .i64 ((gt x0 a3297).fRef.fTx)), (.int .i64 ((gt x0 a3297).fRef.fAt))]) rfl rfl Try.underlying36 rfl tsz36 rfl ((HM.box_at 0 rfl).sub 1 2 rfl)) ?_
            refine ops_does rfl (guard_on rfl rfl rfl hg3337) rfl rfl (does_callk rfl callok63 rfl (impl_isRef.calls (x0 := (gt x0 a3297).fRef) (cond_t (not_mk hg3337) h3335))) ?_
            rintro _ w3339 ⟨rfl, hn⟩
            replace HM : Mem w [] w3339 [box b3322 38 [.int .i64 ((gt x0 a3297).fKey), .int .i64 ((gt x0 a3297).fRef.fTx), .int .i64 ((gt x0 a3297).fRef.fAt)]] := HM.call hn
            refine ops_ex rfl (guard_on rfl rfl rfl hg3337) rfl rfl (ex_not rfl rfl) ?_
            refine ops_ex (v := .bool ((!t3332) || (!t3334))) rfl (guard_none rfl) rfl rfl (ex_por_f rfl rfl hg3337 rfl) ?_
            refine ops_nil ?_
            exact at_meet [(0, p0), (10, p0), (11, .int .i64 (x0.length : Int)), (12, .int .i64 a3297), (4, .pointer (some ⟨b3322, 0, none⟩)), (3, .int .i64 a3297), (26, .bool ((!t3332) || (!t3334)))] ⟨rfl, HM⟩ (Sub.cons rfl (Sub.cons rfl (Sub.cons rfl (Sub.cons rfl (Sub.cons rfl (Sub.cons rfl (Sub.cons rfl Sub.nil)))))))
        · rintro _ w3340 ⟨rfl, HM⟩
          refine at_then ?_
          refine run_cond (b := ((!t3332) || (!t3334))) rfl (fun hb3341 => ?_) (fun hb3341 => ?_)
          · replace ho3277 := cond_t hb3341 ho3277
            refine run_seq ?_
            refine run_region rfl ?_
            refine ox rfl rfl rfl rfl (ex_assign rfl rfl) ?_
            refine ops_nil (at_then ?_)
            refine run_ret ?_
            refine at_then_ret ?_
            refine at_block_ret ?_
            refine at_then_ret ?_
            refine at_then_ret ?_
            refine at_block_ret ?_
            refine at_then_ret ?_
            replace HM := (HM.front 0 rfl rfl).drop
            have hR := Option.some.inj ho3277
            subst hR
            have hT := thn_inl H
            have hR := Option.some.inj hT
            subst hR
            exact at_ret1 rfl rfl ⟨_, rfl, rfl, HM⟩
          · replace ho3277 := cond_f hb3341 ho3277
            refine run_skip ?_
            refine at_then ?_
            refine run_seq ?_
            obtain ⟨e3342, ho3277⟩ := chk_some ho3277
            refine run_meet (fun ρ_ w_ => ρ_ = [(0, p0), (10, p0), (11, .int .i64 (x0.length : Int)), (12, .int .i64 a3297), (39, .bool ((decide (0 < a3297)) && (decide (((gt x0 a3297).fKey) ≤ ((gt x0 (wrap64 (a3297 - 1))).fKey)))))] ∧ Mem w [] w_ []) ?_ ?_
            · skip
              refine run_drawf (fun w_ => Mem w [] w_ [box b3322 38 [.int .i64 ((gt x0 a3297).fKey), .int .i64 ((gt x0 a3297).fRef.fTx), .int .i64 ((gt x0 a3297).fRef.fAt)]]) [(0, true), (1, true), (2, true), (3, true), (4, true), (5, true), (6, true), (7, true), (8, true), (9, true), (10, true), (11, true), (12, true)] mixed rfl rfl (by kernel_rfl) ?_
              replace HM := HM.grow (fr_drew _)
              have hS := Mem.suf (M := []) HM
              refine dp rfl rfl rfl rfl (ex_move rfl rfl) hS ?_
              refine dp rfl rfl rfl rfl (ex_gtr rfl rfl rfl) hS ?_
              refine dp rfl rfl rfl rfl (ex_move rfl rfl) hS ?_
              refine bool_cases (decide (0 < a3297)) (fun hg3344 => ?_) (fun hg3344 => ?_)
              · skip
                refine drwp_take rfl (guard_on rfl rfl rfl hg3344) rfl rfl (fun w_ hS_ => (ex_fieldAddr (off' := 0) rfl rfl Try.underlying38 rfl tsz2 rfl)) hS ?_
                refine drwp_take rfl (guard_on rfl rfl rfl hg3344) rfl rfl (fun w_ hS_ => (ex_load1 rfl rfl Try.underlying2 rfl ((hS_.box_at 0 rfl) 0 _ rfl))) hS ?_
                refine drwp_take rfl (guard_on rfl rfl rfl hg3344) rfl rfl (fun w_ hS_ => (ex_move rfl rfl)) hS ?_
                refine drwp_take rfl (guard_on rfl rfl rfl hg3344) rfl rfl (fun w_ hS_ => (ex_move rfl rfl)) hS ?_
                refine drwp_take rfl (guard_on rfl rfl rfl hg3344) rfl rfl (fun w_ hS_ => (ex_sub rfl rfl rfl)) hS ?_
                have hc3343 : CellsAt _ (sb p0) (so p0 + (wrap64 (a3297 - 1)).toNat * 3) [(.int .i64 ((gt x0 (wrap64 (a3297 - 1))).fKey)), (.int .i64 ((gt x0 (wrap64 (a3297 - 1))).fRef.fTx)), (.int .i64 ((gt x0 (wrap64 (a3297 - 1))).fRef.fAt))] := rd_plain hp0 (or_t e3342 hg3344)
                refine drwp_take rfl (guard_on rfl rfl rfl hg3344) rfl rfl (fun w_ hS_ => (ex_indexAddr (d := kMember) rfl rfl rfl Try.underlying24 tsz38 hp0 (idx_lo (or_t e3342 hg3344)) (idx_hi (or_t e3342 hg3344)))) hS ?_
                refine drwp_take rfl (guard_on rfl rfl rfl hg3344) rfl rfl (fun w_ hS_ => (ex_fieldAddr (off' := so p0 + (wrap64 (a3297 - 1)).toNat * 3) rfl rfl Try.underlying38 rfl tsz2 rfl)) hS ?_
                refine drwp_take rfl (guard_on rfl rfl rfl hg3344) rfl rfl (fun w_ hS_ => (ex_load1 rfl rfl Try.underlying2 rfl ((hS_.at_ hc3343) 0 _ rfl))) hS ?_
                refine drwp_take rfl (guard_on rfl rfl rfl hg3344) rfl rfl (fun w_ hS_ => (ex_leq rfl rfl rfl)) hS ?_
                refine drwp_take (v := .bool ((decide (0 < a3297)) && (decide (((gt x0 a3297).fKey) ≤ ((gt x0 (wrap64 (a3297 - 1))).fKey))))) rfl (guard_none rfl) rfl rfl (fun w_ hS_ => (ex_pand_t rfl rfl hg3344 rfl)) hS ?_
                refine drwp_done ?_
                replace HM := (HM.front 0 rfl rfl).drop
                exact at_meet [(0, p0), (10, p0), (11, .int .i64 (x0.length : Int)), (12, .int .i64 a3297), (39, .bool ((decide (0 < a3297)) && (decide (((gt x0 a3297).fKey) ≤ ((gt x0 (wrap64 (a3297 - 1))).fKey)))))] ⟨rfl, HM⟩ (Sub.cons rfl (Sub.cons rfl (Sub.cons rfl (Sub.cons rfl (Sub.cons rfl Sub.nil)))))
              · skip
                refine drwp_off rfl (guard_off rfl rfl rfl hg3344) rfl rfl hS ?_
                refine drwp_off rfl (guard_off rfl rfl rfl hg3344) rfl rfl hS ?_
                refine drwp_off rfl (guard_off rfl rfl rfl hg3344) rfl rfl hS ?_
                refine drwp_off rfl (guard_off rfl rfl rfl hg3344) rfl rfl hS ?_
                refine drwp_off rfl (guard_off rfl rfl rfl hg3344) rfl rfl hS ?_
                refine drwp_off rfl (guard_off rfl rfl rfl hg3344) rfl rfl hS ?_
                refine drwp_off rfl (guard_off rfl rfl rfl hg3344) rfl rfl hS ?_
                refine drwp_off rfl (guard_off rfl rfl rfl hg3344) rfl rfl hS ?_
                refine drwp_off rfl (guard_off rfl rfl rfl hg3344) rfl rfl hS ?_
                have hg3345 : ((decide (0 < a3297)) && (decide (((gt x0 a3297).fKey) ≤ ((gt x0 (wrap64 (a3297 - 1))).fKey)))) = false := by simp only [hg3344, Bool.and_true, Bool.true_and, Bool.and_false, Bool.false_and, Bool.or_true, Bool.true_or, Bool.or_false, Bool.false_or, Bool.not_true, Bool.not_false, Bool.not_not]
                refine drwp_take (v := .bool ((decide (0 < a3297)) && (decide (((gt x0 a3297).fKey) ≤ ((gt x0 (wrap64 (a3297 - 1))).fKey))))) rfl (guard_none rfl) rfl rfl (fun w_ hS_ => (ex_pand_f rfl rfl hg3344)) hS ?_
                refine drwp_done ?_
                replace HM := (HM.front 0 rfl rfl).drop
                exact at_meet [(0, p0), (10, p0), (11, .int .i64 (x0.length : Int)), (12, .int .i64 a3297), (39, .bool ((decide (0 < a3297)) && (decide (((gt x0 a3297).fKey) ≤ ((gt x0 (wrap64 (a3297 - 1))).fKey)))))] ⟨rfl, HM⟩ (Sub.cons rfl (Sub.cons rfl (Sub.cons rfl (Sub.cons rfl (Sub.cons rfl Sub.nil)))))
            · rintro _ w3346 ⟨rfl, HM⟩
              refine at_then ?_
              refine run_cond (b := ((decide (0 < a3297)) && (decide (((gt x0 a3297).fKey) ≤ ((gt x0 (wrap64 (a3297 - 1))).fKey))))) rfl (fun hb3347 => ?_) (fun hb3347 => ?_)
              · replace ho3277 := cond_t hb3347 ho3277
                refine run_seq ?_
                refine run_region rfl ?_
                refine ox rfl rfl rfl rfl (ex_assign rfl rfl) ?_
                refine ops_nil (at_then ?_)
                refine run_ret ?_
                refine at_block_ret ?_
                refine at_then_ret ?_
                refine at_then_ret ?_
                refine at_block_ret ?_
                refine at_then_ret ?_
                have hR := Option.some.inj ho3277
                subst hR
                have hT := thn_inl H
                have hR := Option.some.inj hT
                subst hR
                exact at_ret1 rfl rfl ⟨_, rfl, rfl, HM⟩
              · replace ho3277 := cond_f hb3347 ho3277
                refine run_skip ?_
                refine at_block ?_
                refine at_then ?_
                refine run_region rfl ?_
                refine ox rfl rfl rfl rfl (ex_add rfl rfl rfl) ?_
                refine ox rfl rfl rfl rfl (ex_move rfl rfl) ?_
                refine ops_nil ?_
                exact at_again k3317 (ρ1 := [(0, p0), (10, p0), (11, .int .i64 (x0.length : Int)), (12, .int .i64 (wrap64 (a3297 + 1)))]) (Nat.lt_succ_self _) ⟨_, ho3277, rfl, HM⟩ (Sub.cons rfl (Sub.cons rfl (Sub.cons rfl (Sub.cons rfl Sub.nil))))
      · replace ho3277 := cond_f hb3319 ho3277
        refine run_exit ?_
        refine at_then_exit ?_
        refine at_then_exit ?_
        refine at_block_exit ?_
        exact at_mid (ρ' := [(0, p0)]) ⟨(Option.some.inj ho3277), rfl, HM⟩ (Sub.cons rfl Sub.nil)
    · rintro _ w3348 ⟨rfl, rfl, HM⟩
      replace H := (thn_inr H)
      obtain ⟨o3389, ho3390, H⟩ := bind_some H
      refine run_mid (fun ρ_ w_ => Sum.inr () = o3389 ∧ ρ_ = [] ∧ Mem w [] w_ []) ?_ ?_
      · skip
        refine run_seq ?_
        refine run_region rfl ?_
        refine ox rfl rfl rfl rfl (ex_move rfl rfl) ?_
        refine ox rfl rfl rfl rfl (ex_len (d := kMember) (xs := x0) rfl rfl Try.underlying24 hp0) ?_
        refine ox rfl rfl rfl rfl (ex_move rfl rfl) ?_
        refine ops_nil (at_then ?_)
        refine run_block ?_
        refine run_loop (fun k_ ρ_ w_ => ∃ a3404 : Int, impl_MembersFault.l1 x0 k_ a3404 = some o3389 ∧ ρ_ = [(0, p0), (41, p0), (42, .int .i64 (x0.length : Int)), (43, .int .i64 a3404)] ∧ Mem w [] w_ []) k (ρ1 := [(0, p0), (41, p0), (42, .int .i64 (x0.length : Int)), (43, .int .i64 0)]) ⟨_, ho3390, rfl, HM⟩ (Sub.cons rfl (Sub.cons rfl (Sub.cons rfl (Sub.cons rfl Sub.nil)))) ?_
        clear HM ho3390
        rintro k3418 _ w3419 ⟨a3404, ho3390, rfl, HM⟩
        obtain _ | k3418 := k3418
        · exact nomatch ((impl_MembersFault.l1_z x0 a3404).symm.trans ho3390)
        replace ho3390 := (impl_MembersFault.l1_s x0 k3418 a3404).symm.trans ho3390
        refine run_seq ?_
        refine run_region rfl ?_
        refine ox rfl rfl rfl rfl (ex_lss rfl rfl rfl) ?_
        refine ops_nil (at_then (run_seq ?_))
        refine run_cond (b := (decide (a3404 < (x0.length : Int)))) rfl (fun hb3420 => ?_) (fun hb3420 => ?_)
        · replace ho3390 := cond_t hb3420 ho3390
          refine run_skip ?_
          refine at_then ?_
          refine run_seq ?_
          refine run_block ?_
          refine run_seq ?_
          obtain ⟨e3421, ho3390⟩ := chk_some ho3390
          refine run_region rfl ?_
          refine ox rfl rfl rfl rfl (ex_move rfl rfl) ?_
          have hc3422 : CellsAt _ (sb p0) (so p0 + (a3404).toNat * 3) [(.int .i64 ((gt x0 a3404).fKey)), (.int .i64 ((gt x0 a3404).fRef.fTx)), (.int .i64 ((gt x0 a3404).fRef.fAt))] := rd_plain hp0 e3421
          refine ox rfl rfl rfl rfl (ex_indexAddr (d := kMember) rfl rfl rfl Try.underlying24 tsz38 hp0 (idx_lo e3421) (idx_hi e3421)) ?_
          refine ox rfl rfl rfl rfl (ex_loadN (cs := [(.int .i64 ((gt x0 a3404).fKey)), (.int .i64 ((gt x0 a3404).fRef.fTx)), (.int .i64 ((gt x0 a3404).fRef.fAt))]) rfl rfl Try.underlying38 rfl tsz38 rfl ((HM.at_ hc3422).sub 0 3 rfl)) ?_
          refine od rfl rfl rfl rfl (does_alloc (cs := [.int .i64 0, .int .i64 0, .int .i64 0]) rfl tz38 rfl HM) ?_
          rintro _ w3426 ⟨b3423, rfl, HM⟩
          refine ox rfl rfl rfl rfl (ex_assign rfl rfl) ?_
          refine odS rfl rfl rfl (does_store (vs := [.int .i64 ((gt x0 a3404).fKey), .int .i64 ((gt x0 a3404).fRef.fTx), .int .i64 ((gt x0 a3404).fRef.fAt)]) (cs' := [.int .i64 ((gt x0 a3404).fKey), .int .i64 ((gt x0 a3404).fRef.fTx), .int .i64 ((gt x0 a3404).fRef.fAt)]) rfl rfl rfl rfl tsz38 (Ones.int (Ones.int (Ones.int Ones.nil))) rfl rfl HM) ?_
          rintro w3427 HM
          refine ops_nil (at_then (run_seq ?_))
          obtain ⟨e3428, ho3390⟩ := chk_some ho3390
          obtain ⟨t3432, h3433, ho3390⟩ := bind_some ho3390
          refine run_region rfl ?_
          refine ox rfl rfl rfl rfl (ex_move rfl rfl) ?_
          refine ox rfl rfl rfl rfl (ex_move rfl rfl) ?_
          refine ops_exE rfl (guard_none rfl) rfl rfl (ex_cutH kMember rfl rfl rfl Try.underlying24 tsz38 hp0 e3428) ?_
          rintro u3429 hr3431
          refine ox rfl rfl rfl rfl (ex_func rfl rfl) ?_
          refine od rfl rfl rfl rfl (does_callk rfl callok64 rfl (slices_ContainsFunc_impl_Member.calls (x0 := x0.take (a3404).toNat) (x1_0 := (gt x0 a3404)) (HM.rd hr3431) (HM.box_at 0 rfl) h3433)) ?_
          rintro _ w3434 ⟨rfl, hn⟩
          replace HM : Mem w [] w3434 [box b3423 38 [.int .i64 ((gt x0 a3404).fKey), .int .i64 ((gt x0 a3404).fRef.fTx), .int .i64 ((gt x0 a3404).fRef.fAt)]] := HM.call hn
          refine ops_nil (at_then ?_)
          refine run_cond (b := t3432) rfl (fun hb3435 => ?_) (fun hb3435 => ?_)
          · replace ho3390 := cond_t hb3435 ho3390
            refine run_seq ?_
            refine run_region rfl ?_
            refine ox rfl rfl rfl rfl (ex_assign rfl rfl) ?_
            refine ops_nil (at_then ?_)
            refine run_ret ?_
            refine at_block_ret ?_
            refine at_then_ret ?_
            refine at_then_ret ?_
            refine at_block_ret ?_
            refine at_then_ret ?_
            replace HM := (HM.front 0 rfl rfl).drop
            have hR := Option.some.inj ho3390
            subst hR
            have hT := thn_inl H
            have hR := Option.some.inj hT
            subst hR
            exact at_ret1 rfl rfl ⟨_, rfl, rfl, HM⟩
          · replace ho3390 := cond_f hb3435 ho3390
            refine run_skip ?_
            refine at_block ?_
            refine at_then ?_
            refine run_region rfl ?_
            refine ox rfl rfl rfl rfl (ex_add rfl rfl rfl) ?_
            refine ox rfl rfl rfl rfl (ex_move rfl rfl) ?_
            refine ops_nil ?_
            replace HM := (HM.front 0 rfl rfl).drop
            exact at_again k3418 (ρ1 := [(0, p0), (41, p0), (42, .int .i64 (x0.length : Int)), (43, .int .i64 (wrap64 (a3404 + 1)))]) (Nat.lt_succ_self _) ⟨_, ho3390, rfl, HM⟩ (Sub.cons rfl (Sub.cons rfl (Sub.cons rfl (Sub.cons rfl Sub.nil))))
        · replace ho3390 := cond_f hb3420 ho3390
          refine run_exit ?_
          refine at_then_exit ?_
          refine at_then_exit ?_
          refine at_block_exit ?_
          exact at_mid (ρ' := []) ⟨(Option.some.inj ho3390), rfl, HM⟩ Sub.nil
      · rintro _ w3436 ⟨rfl, rfl, HM⟩
        replace H := (thn_inr H)
        refine run_seq ?_
        refine run_region rfl ?_
        refine ox rfl rfl rfl rfl (ex_assign rfl rfl) ?_
        refine ops_nil (at_then ?_)
        refine run_ret ?_
        have hR := Option.some.inj H
        subst hR
        exact at_ret1 rfl rfl ⟨_, rfl, rfl, HM⟩
end Go.Proofs.Ytbbcabpnkdilgaa.Zk
