/- What functions of the program compute, each as a plain function, and that they do. Conditions: as each theorem states them. -/
import Derived.Test.YtecgbhfgkkpmhaaFnCoinsZkF2
namespace Go.Proofs.Ytecgbhfgkkpmhaa.Zk
open Go Go.RowKit Go.IntWalk Go.Proofs
set_option linter.unusedVariables false
set_option linter.unusedSimpArgs false
set_option maxRecDepth 100000
set_option maxHeartbeats 4000000
def spec_l4Right.l0 (x0 : l1Src) : Nat → Int → (List Coin) → Int → Option (Int × (List Coin))
 | 0, _, _, _ => none
 | k + 1, a2757, a2759, a2761 => (bif (decide (0 < a2761)) then ((spec_l1Next.f k (⟨x0.fCode, a2757⟩ : l1Src) 6).bind fun t2808 => ((spec_l4DrawOuts.f k (⟨x0.fCode, t2808.2⟩ : l1Src)).bind fun t2816 => ((spec_l1Next.f k (⟨x0.fCode, t2816.2⟩ : l1Src) 6).bind fun t2826 => ((spec_l1Chance.f k (⟨x0.fCode, t2826.2⟩ : l1Src) 3).bind fun t2834 => ((spec_PutCoins.f k a2759 (wrap64 (1 + t2808.1)) t2816.1 t2826.1 t2834.1).bind fun t2842 => (bif (t2842.fCode == 0) then spec_l4Right.l0 x0 k t2834.2 t2842.fCoins (wrap64 (a2761 - 1)) else spec_l4Right.l0 x0 k t2834.2 a2759 (wrap64 (a2761 - 1)))))))) else some (a2757, a2759))
theorem spec_l4Right.l0_z (x0 : l1Src) (a2757 : Int) (a2759 : List Coin) (a2761 : Int) : spec_l4Right.l0 x0 0 a2757 a2759 a2761 = none := rfl
theorem spec_l4Right.l0_s (x0 : l1Src) (k : Nat) (a2757 : Int) (a2759 : List Coin) (a2761 : Int) : spec_l4Right.l0 x0 (k + 1) a2757 a2759 a2761 = (bif (decide (0 < a2761)) then ((spec_l1Next.f k (⟨x0.fCode, a2757⟩ : l1Src) 6).bind fun t2808 => ((spec_l4DrawOuts.f k (⟨x0.fCode, t2808.2⟩ : l1Src)).bind fun t2816 => ((spec_l1Next.f k (⟨x0.fCode, t2816.2⟩ : l1Src) 6).bind fun t2826 => ((spec_l1Chance.f k (⟨x0.fCode, t2826.2⟩ : l1Src) 3).bind fun t2834 => ((spec_PutCoins.f k a2759 (wrap64 (1 + t2808.1)) t2816.1 t2826.1 t2834.1).bind fun t2842 => (bif (t2842.fCode == 0) then spec_l4Right.l0 x0 k t2834.2 t2842.fCoins (wrap64 (a2761 - 1)) else spec_l4Right.l0 x0 k t2834.2 a2759 (wrap64 (a2761 - 1)))))))) else some (a2757, a2759)) := rfl
def spec_l4Right.f (k : Nat) (x0 : l1Src) : Option ((List Coin) × Int) := (((spec_l1Next.f k x0 6).bind fun t2705 => spec_l4Right.l0 x0 k t2705.2 ([] : List Coin) t2705.1).bind (cur2 (fun a2699 a2701 => some (a2701, a2699))))
theorem spec_l4Right.calls {k : Nat} {x0 : l1Src} {b0 : Nat} {p0_0 : Value} {w wo : World} {X : List Nat} (hwo : Olds wo w X) (hX : Hold w [box b0 76 [p0_0, .int .i64 x0.fAt]] X) (hXn : X.Nodup) (hXl : ∀ b ∈ X, b < w.heap.size) (hp0_0 : RdS kU8 wo p0_0 x0.fCode) {r : (List Coin) × Int} (H : spec_l4Right.f k x0 = some r) :
  Calls Try.prog 42 ([.pointer (some ⟨b0, 0, none⟩)] : List Value).toArray w (fun e w_ => ∃ v, e = .returned v ∧ ∃ u0 : Value, v = u0 ∧ Mem w X w_ [own kCoin 41 u0 r.1, box b0 76 [p0_0, .int .i64 r.2]]) := by
 have HM := Mem.startX hX hXn hXl
 refine calls_run (N := 30) Try.func42 rfl rfl rfl rfl ?_
 unfold spec_l4Right.f at H
 refine run_seq ?_
 refine run_region rfl ?_
 refine ox rfl rfl rfl rfl (ex_assign rfl rfl) ?_
 refine ops_nil (at_then (run_seq ?_))
 refine run_region rfl ?_
 refine od rfl rfl rfl rfl (does_lit (e := 41) (cs := []) (xs := ([] : List Coin)) kCoin rfl rfl (fun _ => by kernel_rfl) rfl rfl (fun _ _ h => by have h' : _ = [] := h; subst h'; exact .nil) HM.emp) ?_
 rintro v2553 w2556 HM
 refine ox rfl rfl rfl rfl (ex_assign rfl rfl) ?_
 refine ops_nil (at_then ?_)
 obtain ⟨o2703, ho2704, H⟩ := bind_some H
 refine run_mid (fun ρ_ w_ => ∃ a2699 : Int, ∃ v2700 : Value, ∃ a2701 : List Coin, (a2699, a2701) = o2703 ∧ ρ_ = [(3, v2700)] ∧ Mem w X w_ [box b0 76 [p0_0, .int .i64 a2699], own kCoin 41 v2700 a2701]) ?_ ?_
 ·clear H
  refine run_seq ?_
  obtain ⟨t2705, h2706, ho2704⟩ := bind_some ho2704
  refine run_region rfl ?_
  refine ox rfl rfl rfl rfl (ex_move rfl rfl) ?_
  replace HM := HM.front 1 rfl rfl
  obtain ⟨F2707, hF2708, hFn2709, hFl2710, HMh2711, hcl2712⟩ := HM.hide (Ms := [box b0 76 [p0_0, .int .i64 x0.fAt]])
  refine od rfl rfl rfl rfl (does_callk rfl callok18 rfl (spec_l1Next.calls (x0 := x0) (x1 := 6) (hide_olds _ _) hF2708 hFn2709 hFl2710 (HMh2711.rdo hwo hp0_0) h2706)) ?_
  rintro _ w2713 ⟨rfl, hn⟩
  replace HM : Mem w X w2713 [box b0 76 [p0_0, .int .i64 t2705.2], own kCoin 41 v2553 ([] : List Coin)] := hcl2712 _ _ hn
  refine ox rfl rfl rfl rfl (ex_assign rfl rfl) ?_
  refine ops_nil (at_then ?_)
  refine run_block ?_
  refine run_loop (fun k_ ρ_ w_ => ∃ a2757 : Int, ∃ v2758 : Value, ∃ a2759 : List Coin, ∃ a2761 : Int, spec_l4Right.l0 x0 k_ a2757 a2759 a2761 = some o2703 ∧ ρ_ = [(0, .pointer (some ⟨b0, 0, none⟩)), (3, v2758), (4, .int .i64 a2761)] ∧ Mem w X w_ [box b0 76 [p0_0, .int .i64 a2757], own kCoin 41 v2758 a2759]) k (ρ1 := [(0, .pointer (some ⟨b0, 0, none⟩)), (3, v2553), (4, .int .i64 t2705.1)]) ⟨_, _, _, _, ho2704, rfl, HM⟩ (Sub.cons rfl (Sub.cons rfl (Sub.cons rfl Sub.nil))) ?_
  clear HM ho2704
  rintro k2805 _ w2806 ⟨a2757, v2758, a2759, a2761, ho2704, rfl, HM⟩
  obtain _ | k2805 := k2805
  ·exact nomatch ((spec_l4Right.l0_z x0 a2757 a2759 a2761).symm.trans ho2704)
  replace ho2704 := (spec_l4Right.l0_s x0 k2805 a2757 a2759 a2761).symm.trans ho2704
  refine run_seq ?_
  refine run_seq ?_
  refine run_region rfl ?_
  refine ox rfl rfl rfl rfl (ex_move rfl rfl) ?_
  refine ox rfl rfl rfl rfl (ex_gtr rfl rfl rfl) ?_
  refine ops_nil (at_then ?_)
  refine run_cond (b := (decide (0 < a2761))) rfl (fun hb2807 => ?_) (fun hb2807 => ?_)
  ·replace ho2704 := cond_t hb2807 ho2704
   refine run_skip ?_
   refine at_then ?_
   refine run_seq ?_
   refine run_block ?_
   refine run_seq ?_
   obtain ⟨t2808, h2809, ho2704⟩ := bind_some ho2704
   obtain ⟨t2816, h2817, ho2704⟩ := bind_some ho2704
   obtain ⟨t2826, h2827, ho2704⟩ := bind_some ho2704
   obtain ⟨t2834, h2835, ho2704⟩ := bind_some ho2704
   obtain ⟨t2842, h2843, ho2704⟩ := bind_some ho2704
   refine run_region rfl ?_
   refine ox rfl rfl rfl rfl (ex_move rfl rfl) ?_
   refine ox rfl rfl rfl rfl (ex_move rfl rfl) ?_
   obtain ⟨F2810, hF2811, hFn2812, hFl2813, HMh2814, hcl2815⟩ := HM.hide (Ms := [box b0 76 [p0_0, .int .i64 a2757]])
   refine od rfl rfl rfl rfl (does_callk rfl callok18 rfl (spec_l1Next.calls (x0 := (⟨x0.fCode, a2757⟩ : l1Src)) (x1 := 6) (hide_olds _ _) hF2811 hFn2812 hFl2813 (HMh2814.rdo hwo hp0_0) h2809)) ?_
   rintro _ w2849 ⟨rfl, hn⟩
   replace HM : Mem w X w2849 [box b0 76 [p0_0, .int .i64 t2808.2], own kCoin 41 v2758 a2759] := hcl2815 _ _ hn
   refine ox rfl rfl rfl rfl (ex_add rfl rfl rfl) ?_
   refine ox rfl rfl rfl rfl (ex_move rfl rfl) ?_
   obtain ⟨F2820, hF2821, hFn2822, hFl2823, HMh2824, hcl2825⟩ := HM.hide (Ms := [box b0 76 [p0_0, .int .i64 t2808.2]])
   refine od rfl rfl rfl rfl (does_callk rfl callok17 rfl (spec_l4DrawOuts.calls (x0 := (⟨x0.fCode, t2808.2⟩ : l1Src)) (hide_olds _ _) hF2821 hFn2822 hFl2823 (HMh2824.rdo hwo hp0_0) h2817)) ?_
   rintro u2818 w2850 ⟨_, rfl, hn⟩
   replace HM : Mem w X w2850 [own kOut 36 u2818 t2816.1, box b0 76 [p0_0, .int .i64 t2816.2], own kCoin 41 v2758 a2759] := hcl2825 _ _ hn
   refine ox rfl rfl rfl rfl (ex_move rfl rfl) ?_
   replace HM := HM.front 1 rfl rfl
   obtain ⟨F2828, hF2829, hFn2830, hFl2831, HMh2832, hcl2833⟩ := HM.hide (Ms := [box b0 76 [p0_0, .int .i64 t2816.2]])
   refine od rfl rfl rfl rfl (does_callk rfl callok18 rfl (spec_l1Next.calls (x0 := (⟨x0.fCode, t2816.2⟩ : l1Src)) (x1 := 6) (hide_olds _ _) hF2829 hFn2830 hFl2831 (HMh2832.rdo hwo hp0_0) h2827)) ?_
   rintro _ w2851 ⟨rfl, hn⟩
   replace HM : Mem w X w2851 [box b0 76 [p0_0, .int .i64 t2826.2], own kOut 36 u2818 t2816.1, own kCoin 41 v2758 a2759] := hcl2833 _ _ hn
   refine ox rfl rfl rfl rfl (ex_move rfl rfl) ?_
   obtain ⟨F2836, hF2837, hFn2838, hFl2839, HMh2840, hcl2841⟩ := HM.hide (Ms := [box b0 76 [p0_0, .int .i64 t2826.2]])
   refine od rfl rfl rfl rfl (does_callk rfl callok21 rfl (spec_l1Chance.calls (x0 := (⟨x0.fCode, t2826.2⟩ : l1Src)) (x1 := 3) (hide_olds _ _) hF2837 hFn2838 hFl2839 (HMh2840.rdo hwo hp0_0) h2835)) ?_
   rintro _ w2852 ⟨rfl, hn⟩
   replace HM : Mem w X w2852 [box b0 76 [p0_0, .int .i64 t2834.2], own kOut 36 u2818 t2816.1, own kCoin 41 v2758 a2759] := hcl2841 _ _ hn
   refine od rfl rfl rfl rfl (does_callk rfl callok7 rfl (spec_PutCoins.calls (x0 := a2759) (x1 := wrap64 (1 + t2808.1)) (x2 := t2816.1) (x3 := t2826.1) (x4 := t2834.1) (HM.own_rd 2 rfl) (HM.own_rd 1 rfl) h2843)) ?_
   rintro _ w2853 ⟨u2844, rfl, hn⟩
   replace HM : Mem w X w2853 [own kCoin 41 u2844 t2842.fCoins, box b0 76 [p0_0, .int .i64 t2834.2], own kOut 36 u2818 t2816.1, own kCoin 41 v2758 a2759] := HM.call hn
   refine od rfl rfl rfl rfl (does_alloc (cs := [.int .i64 0, .slice none 0 0]) rfl tz29 rfl HM) ?_
   rintro _ w2854 ⟨b2846, rfl, HM⟩
   refine odS rfl rfl rfl (does_store (vs := [.int .i64 t2842.fCode, u2844]) (cs' := [.int .i64 t2842.fCode, u2844]) rfl rfl rfl rfl tsz29 (Ones.int (Ones.rd (HM.own_rd 1 rfl) Ones.nil)) rfl rfl HM) ?_
   rintro w2855 HM
   refine ops_nil (at_then (run_seq ?_))
   refine run_region rfl ?_
   refine ox rfl rfl rfl rfl (ex_fieldAddr (off' := 0) rfl rfl Try.underlying29 rfl tsz2 rfl) ?_
   refine ox rfl rfl rfl rfl (ex_load1 rfl rfl Try.underlying2 rfl ((HM.box_at 0 rfl) 0 _ rfl)) ?_
   refine ox rfl rfl rfl rfl (ex_eql rfl rfl rfl) ?_
   refine ops_nil (at_then ?_)
   refine run_cond (b := (t2842.fCode == 0)) rfl (fun hb2856 => ?_) (fun hb2856 => ?_)
   ·replace ho2704 := cond_t hb2856 ho2704
    refine run_region rfl ?_
    refine ox rfl rfl rfl rfl (ex_fieldAddr (off' := 1) rfl rfl Try.underlying29 rfl tsz24 rfl) ?_
    refine ox rfl rfl rfl rfl (ex_load1 rfl rfl Try.underlying24 rfl ((HM.box_at 0 rfl) 1 _ rfl)) ?_
    refine ox rfl rfl rfl rfl (ex_assign rfl rfl) ?_
    refine ops_nil ?_
    refine at_block ?_
    refine at_then ?_
    refine run_region rfl ?_
    refine ox rfl rfl rfl rfl (ex_move rfl rfl) ?_
    refine ox rfl rfl rfl rfl (ex_sub rfl rfl rfl) ?_
    refine ox rfl rfl rfl rfl (ex_assign rfl rfl) ?_
    refine ops_nil ?_
    replace HM := (HM.front 0 rfl rfl).drop
    replace HM := (HM.front 2 rfl rfl).drop
    replace HM := (HM.front 2 rfl rfl).drop
    replace HM := HM.front 1 rfl rfl
    exact at_again k2805 (ρ1 := [(0, .pointer (some ⟨b0, 0, none⟩)), (3, u2844), (4, .int .i64 (wrap64 (a2761 - 1)))]) (Nat.lt_succ_self _) ⟨_, _, _, _, ho2704, rfl, HM⟩ (Sub.cons rfl (Sub.cons rfl (Sub.cons rfl Sub.nil)))
   ·replace ho2704 := cond_f hb2856 ho2704
    refine run_skip ?_
    refine at_block ?_
    refine at_then ?_
    refine run_region rfl ?_
    refine ox rfl rfl rfl rfl (ex_move rfl rfl) ?_
    refine ox rfl rfl rfl rfl (ex_sub rfl rfl rfl) ?_
    refine ox rfl rfl rfl rfl (ex_assign rfl rfl) ?_
    refine ops_nil ?_
    replace HM := (HM.front 0 rfl rfl).drop
    replace HM := (HM.front 0 rfl rfl).drop
    replace HM := (HM.front 1 rfl rfl).drop
    exact at_again k2805 (ρ1 := [(0, .pointer (some ⟨b0, 0, none⟩)), (3, v2758), (4, .int .i64 (wrap64 (a2761 - 1)))]) (Nat.lt_succ_self _) ⟨_, _, _, _, ho2704, rfl, HM⟩ (Sub.cons rfl (Sub.cons rfl (Sub.cons rfl Sub.nil)))
  ·replace ho2704 := cond_f hb2807 ho2704
   refine run_exit ?_
   refine at_then_exit ?_
   refine at_then_exit ?_
   refine at_block_exit ?_
   exact at_mid (ρ' := [(3, v2758)]) ⟨_, _, _, (Option.some.inj ho2704), rfl, HM⟩ (Sub.cons rfl Sub.nil)
 ·rintro _ w2857 ⟨a2699, v2700, a2701, rfl, rfl, HM⟩
  replace H := cur2_mk H
  refine run_seq ?_
  refine run_region rfl ?_
  refine ox rfl rfl rfl rfl (ex_move rfl rfl) ?_
  refine ox rfl rfl rfl rfl (ex_assign rfl rfl) ?_
  refine ops_nil (at_then ?_)
  refine run_ret ?_
  replace HM := HM.front 1 rfl rfl
  have hR := Option.some.inj H
  subst hR
  exact at_ret1 rfl rfl ⟨_, rfl, _, rfl, HM⟩

def spec_l4Bent.f (k : Nat) (x0 : l1Src) : Option ((List Coin) × Int) := ((spec_l4Right.f k x0).bind fun t3077 => ((bif (decide (0 < (t3077.1.length : Int))) then ((spec_l1Next.f k (⟨x0.fCode, t3077.2⟩ : l1Src) 14).bind fun t3197 => (bif (t3197.1 == 0) then ((spec_l1Pick.f k (⟨x0.fCode, t3197.2⟩ : l1Src) ([0, 61, 3] : List Int)).bind fun t3210 => (chk (idxOk (0 : Int) t3077.1.length) (some (t3210.2, t3077.1.set ((0 : Int)).toNat (⟨(⟨t3210.1, (gt t3077.1 (0 : Int)).fRef.fAt⟩ : Ref), (gt t3077.1 (0 : Int)).fOut, (gt t3077.1 (0 : Int)).fHeight, (gt t3077.1 (0 : Int)).fMined⟩ : Coin))))) else (bif (t3197.1 == 1) then ((spec_l1Pick.f k (⟨x0.fCode, t3197.2⟩ : l1Src) ([(-1), 1000] : List Int)).bind fun t3226 => (chk (idxOk (0 : Int) t3077.1.length) (some (t3226.2, t3077.1.set ((0 : Int)).toNat (⟨(gt t3077.1 (0 : Int)).fRef, (gt t3077.1 (0 : Int)).fOut, t3226.1, (gt t3077.1 (0 : Int)).fMined⟩ : Coin))))) else (bif (t3197.1 == 2) then (chk (idxOk (0 : Int) t3077.1.length) (some (t3197.2, t3077.1.set ((0 : Int)).toNat (⟨(gt t3077.1 (0 : Int)).fRef, (⟨0, (gt t3077.1 (0 : Int)).fOut.fRule⟩ : Out), (gt t3077.1 (0 : Int)).fHeight, (gt t3077.1 (0 : Int)).fMined⟩ : Coin)))) else (bif (t3197.1 == 3) then (chk (idxOk (0 : Int) t3077.1.length) (chk (leB ((t3077.1.length + 1) * 80) 140737488355328) (some (t3197.2, t3077.1 ++ ([(gt t3077.1 (0 : Int))] : List Coin))))) else some (t3197.2, t3077.1)))))) else some (t3077.2, t3077.1)).bind (cur2 (fun a3190 a3192 => ((spec_l1Chance.f k (⟨x0.fCode, a3190⟩ : l1Src) 40).bind fun t3258 => (bif t3258.1 then (chk (decide (0 ≤ (41 : Int))) (chk (leB (((41 : Int)).toNat * 80) 281474976710656) (some (List.replicate ((41 : Int)).toNat (⟨(⟨0, 0⟩ : Ref), (⟨0, (⟨[], 0, 0⟩ : Rule)⟩ : Out), 0, false⟩ : Coin), t3258.2)))) else some (a3192, t3258.2)))))))
theorem spec_l4Bent.calls {k : Nat} {x0 : l1Src} {b0 : Nat} {p0_0 : Value} {w wo : World} {X : List Nat} (hwo : Olds wo w X) (hX : Hold w [box b0 76 [p0_0, .int .i64 x0.fAt]] X) (hXn : X.Nodup) (hXl : ∀ b ∈ X, b < w.heap.size) (hp0_0 : RdS kU8 wo p0_0 x0.fCode) {r : (List Coin) × Int} (H : spec_l4Bent.f k x0 = some r) :
  Calls Try.prog 16 ([.pointer (some ⟨b0, 0, none⟩)] : List Value).toArray w (fun e w_ => ∃ v, e = .returned v ∧ ∃ u0 : Value, v = u0 ∧ Mem w X w_ [fro kCoin u0 r.1, box b0 76 [p0_0, .int .i64 r.2]]) := by
 have HM := Mem.startX hX hXn hXl
 refine calls_run (N := 46) Try.func16 rfl rfl rfl rfl ?_
 unfold spec_l4Bent.f at H
 refine run_seq ?_
 refine run_region rfl ?_
 refine ox rfl rfl rfl rfl (ex_assign rfl rfl) ?_
 refine ops_nil (at_then (run_seq ?_))
 obtain ⟨t3077, h3078, H⟩ := bind_some H
 refine run_region rfl ?_
 refine ox rfl rfl rfl rfl (ex_move rfl rfl) ?_
 obtain ⟨F3081, hF3082, hFn3083, hFl3084, HMh3085, hcl3086⟩ := HM.hide (Ms := [box b0 76 [p0_0, .int .i64 x0.fAt]])
 refine od rfl rfl rfl rfl (does_callk rfl callok42 rfl (spec_l4Right.calls (x0 := x0) (hide_olds _ _) hF3082 hFn3083 hFl3084 (HMh3085.rdo hwo hp0_0) h3078)) ?_
 rintro u3079 w3087 ⟨_, rfl, hn⟩
 replace HM : Mem w X w3087 [own kCoin 41 u3079 t3077.1, box b0 76 [p0_0, .int .i64 t3077.2]] := hcl3086 _ _ hn
 refine ox rfl rfl rfl rfl (ex_assign rfl rfl) ?_
 refine ops_nil (at_then ?_)
 obtain ⟨o3194, ho3195, H⟩ := bind_some H
 refine run_mid (fun ρ_ w_ => ∃ a3190 : Int, ∃ v3191 : Value, ∃ a3192 : List Coin, (a3190, a3192) = o3194 ∧ ρ_ = [(0, .pointer (some ⟨b0, 0, none⟩)), (3, v3191)] ∧ Mem w X w_ [box b0 76 [p0_0, .int .i64 a3190], fro kCoin v3191 a3192]) ?_ ?_
 ·clear H
  refine run_seq ?_
  refine run_region rfl ?_
  refine ox rfl rfl rfl rfl (ex_move rfl rfl) ?_
  refine ox rfl rfl rfl rfl (ex_len (d := kCoin) (xs := t3077.1) rfl rfl Try.underlying24 (HM.own_rd 0 rfl)) ?_
  refine ox rfl rfl rfl rfl (ex_gtr rfl rfl rfl) ?_
  refine ops_nil (at_then ?_)
  refine run_cond (b := (decide (0 < (t3077.1.length : Int)))) rfl (fun hb3196 => ?_) (fun hb3196 => ?_)
  ·replace ho3195 := cond_t hb3196 ho3195
   refine run_seq ?_
   obtain ⟨t3197, h3198, ho3195⟩ := bind_some ho3195
   refine run_region rfl ?_
   refine ox rfl rfl rfl rfl (ex_move rfl rfl) ?_
   replace HM := HM.front 1 rfl rfl
   obtain ⟨F3199, hF3200, hFn3201, hFl3202, HMh3203, hcl3204⟩ := HM.hide (Ms := [box b0 76 [p0_0, .int .i64 t3077.2]])
   refine od rfl rfl rfl rfl (does_callk rfl callok18 rfl (spec_l1Next.calls (x0 := (⟨x0.fCode, t3077.2⟩ : l1Src)) (x1 := 14) (hide_olds _ _) hF3200 hFn3201 hFl3202 (HMh3203.rdo hwo hp0_0) h3198)) ?_
   rintro _ w3205 ⟨rfl, hn⟩
   replace HM : Mem w X w3205 [box b0 76 [p0_0, .int .i64 t3197.2], own kCoin 41 u3079 t3077.1] := hcl3204 _ _ hn
   refine ops_nil (at_then ?_)
   refine run_block ?_
   refine run_seq ?_
   refine run_region rfl ?_
   refine ox rfl rfl rfl rfl (ex_eql rfl rfl rfl) ?_
   refine ox rfl rfl rfl rfl (ex_assign rfl rfl) ?_
   refine ops_nil (at_then ?_)
   refine run_cond (b := (t3197.1 == 0)) rfl (fun hb3206 => ?_) (fun hb3206 => ?_)
   ·replace ho3195 := cond_t hb3206 ho3195
    obtain ⟨t3210, h3211, ho3195⟩ := bind_some ho3195
    obtain ⟨e3218, ho3195⟩ := chk_some ho3195
    refine run_region rfl ?_
    refine ox rfl rfl rfl rfl (ex_move rfl rfl) ?_
    refine ox rfl rfl rfl rfl (ex_move rfl rfl) ?_
    refine od rfl rfl rfl rfl (does_lit (e := 2) (cs := [.int .i64 0, .int .i64 61, .int .i64 3]) (xs := ([0, 61, 3] : List Int)) kInt rfl rfl (fun _ => by kernel_rfl) rfl rfl (fun _ _ h => by have h' : _ = [] := h; subst h'; exact (Elems.cons (d := kInt) (x := 0) (f := []) ⟨rfl, rfl⟩ (Elems.cons (d := kInt) (x := 61) (f := []) ⟨rfl, rfl⟩ (Elems.cons (d := kInt) (x := 3) (f := []) ⟨rfl, rfl⟩ .nil)))) HM.emp) ?_
    rintro v3207 w3219 HM
    replace HM := HM.front 1 rfl rfl
    obtain ⟨F3212, hF3213, hFn3214, hFl3215, HMh3216, hcl3217⟩ := HM.hide (Ms := [box b0 76 [p0_0, .int .i64 t3197.2]])
    refine od rfl rfl rfl rfl (does_callk rfl callok19 rfl (spec_l1Pick.calls (x0 := (⟨x0.fCode, t3197.2⟩ : l1Src)) (x1 := ([0, 61, 3] : List Int)) (hide_olds _ _) hF3213 hFn3214 hFl3215 (HMh3216.rdo hwo hp0_0) (HMh3216.own_rd 0 rfl) h3211)) ?_
    rintro _ w3220 ⟨rfl, hn⟩
    replace HM : Mem w X w3220 [box b0 76 [p0_0, .int .i64 t3210.2], own kInt 2 v3207 ([0, 61, 3] : List Int), own kCoin 41 u3079 t3077.1] := hcl3217 _ _ hn
    refine ox rfl rfl rfl rfl (ex_indexAddr (d := kCoin) rfl rfl rfl Try.underlying24 tsz41 (HM.own_rd 2 rfl) (idx_lo e3218) (idx_hi e3218)) ?_
    refine ox rfl rfl rfl rfl (ex_fieldAddr (off' := so u3079 + ((0 : Int)).toNat * 8) rfl rfl Try.underlying41 rfl tsz38 rfl) ?_
    refine ox rfl rfl rfl rfl (ex_fieldAddr (off' := so u3079 + ((0 : Int)).toNat * 8) rfl rfl Try.underlying38 rfl tsz2 rfl) ?_
    replace HM := HM.front 2 rfl rfl
    refine odS rfl rfl rfl (does_setField (fo := 0) (vs := [(.int .i64 t3210.1)]) (y := (⟨(⟨t3210.1, (gt t3077.1 (0 : Int)).fRef.fAt⟩ : Ref), (gt t3077.1 (0 : Int)).fOut, (gt t3077.1 (0 : Int)).fHeight, (gt t3077.1 (0 : Int)).fMined⟩ : Coin)) kCoin rfl rfl rfl rfl rfl tsz2 (Ones.int Ones.nil) rfl rfl (idx_nat e3218) (fun _ _ _ h => by rw [← gt_eq (idx_nat e3218)] at h; obtain ⟨_, rfl, h2⟩ := h; exact ⟨_, rfl, h2⟩) HM) ?_
    rintro w3221 HM
    refine ops_nil ?_
    refine at_block ?_
    replace HM := HM.fro
    replace HM := (HM.front 2 rfl rfl).drop
    replace HM := HM.front 1 rfl rfl
    exact at_mid (ρ' := [(0, .pointer (some ⟨b0, 0, none⟩)), (3, u3079)]) ⟨_, _, _, (Option.some.inj ho3195), rfl, HM⟩ (Sub.cons rfl (Sub.cons rfl Sub.nil))
   ·replace ho3195 := cond_f hb3206 ho3195
    refine run_seq ?_
    refine run_region rfl ?_
    refine ox rfl rfl rfl rfl (ex_eql rfl rfl rfl) ?_
    refine ox rfl rfl rfl rfl (ex_assign rfl rfl) ?_
    refine ops_nil (at_then ?_)
    refine run_cond (b := (t3197.1 == 1)) rfl (fun hb3222 => ?_) (fun hb3222 => ?_)
    ·replace ho3195 := cond_t hb3222 ho3195
     obtain ⟨t3226, h3227, ho3195⟩ := bind_some ho3195
     obtain ⟨e3234, ho3195⟩ := chk_some ho3195
     refine run_region rfl ?_
     refine ox rfl rfl rfl rfl (ex_move rfl rfl) ?_
     refine ox rfl rfl rfl rfl (ex_move rfl rfl) ?_
     refine od rfl rfl rfl rfl (does_lit (e := 2) (cs := [.int .i64 (-1), .int .i64 1000]) (xs := ([(-1), 1000] : List Int)) kInt rfl rfl (fun _ => by kernel_rfl) rfl rfl (fun _ _ h => by have h' : _ = [] := h; subst h'; exact (Elems.cons (d := kInt) (x := (-1)) (f := []) ⟨rfl, rfl⟩ (Elems.cons (d := kInt) (x := 1000) (f := []) ⟨rfl, rfl⟩ .nil))) HM.emp) ?_
     rintro v3223 w3235 HM
     replace HM := HM.front 1 rfl rfl
     obtain ⟨F3228, hF3229, hFn3230, hFl3231, HMh3232, hcl3233⟩ := HM.hide (Ms := [box b0 76 [p0_0, .int .i64 t3197.2]])
     refine od rfl rfl rfl rfl (does_callk rfl callok19 rfl (spec_l1Pick.calls (x0 := (⟨x0.fCode, t3197.2⟩ : l1Src)) (x1 := ([(-1), 1000] : List Int)) (hide_olds _ _) hF3229 hFn3230 hFl3231 (HMh3232.rdo hwo hp0_0) (HMh3232.own_rd 0 rfl) h3227)) ?_
     rintro _ w3236 ⟨rfl, hn⟩
     replace HM : Mem w X w3236 [box b0 76 [p0_0, .int .i64 t3226.2], own kInt 2 v3223 ([(-1), 1000] : List Int), own kCoin 41 u3079 t3077.1] := hcl3233 _ _ hn
     refine ox rfl rfl rfl rfl (ex_indexAddr (d := kCoin) rfl rfl rfl Try.underlying24 tsz41 (HM.own_rd 2 rfl) (idx_lo e3234) (idx_hi e3234)) ?_
     refine ox rfl rfl rfl rfl (ex_fieldAddr (off' := so u3079 + ((0 : Int)).toNat * 8 + 6) rfl rfl Try.underlying41 rfl tsz2 rfl) ?_
     replace HM := HM.front 2 rfl rfl
     refine odS rfl rfl rfl (does_setField (fo := 6) (vs := [(.int .i64 t3226.1)]) (y := (⟨(gt t3077.1 (0 : Int)).fRef, (gt t3077.1 (0 : Int)).fOut, t3226.1, (gt t3077.1 (0 : Int)).fMined⟩ : Coin)) kCoin rfl rfl rfl rfl rfl tsz2 (Ones.int Ones.nil) rfl rfl (idx_nat e3234) (fun _ _ _ h => by rw [← gt_eq (idx_nat e3234)] at h; obtain ⟨_, rfl, h2⟩ := h; exact ⟨_, rfl, h2⟩) HM) ?_
     rintro w3237 HM
     refine ops_nil ?_
     refine at_block ?_
     replace HM := HM.fro
     replace HM := (HM.front 2 rfl rfl).drop
     replace HM := HM.front 1 rfl rfl
     exact at_mid (ρ' := [(0, .pointer (some ⟨b0, 0, none⟩)), (3, u3079)]) ⟨_, _, _, (Option.some.inj ho3195), rfl, HM⟩ (Sub.cons rfl (Sub.cons rfl Sub.nil))
    ·replace ho3195 := cond_f hb3222 ho3195
     refine run_seq ?_
     refine run_region rfl ?_
     refine ox rfl rfl rfl rfl (ex_eql rfl rfl rfl) ?_
     refine ox rfl rfl rfl rfl (ex_assign rfl rfl) ?_
     refine ops_nil (at_then ?_)
     refine run_cond (b := (t3197.1 == 2)) rfl (fun hb3238 => ?_) (fun hb3238 => ?_)
     ·replace ho3195 := cond_t hb3238 ho3195
      obtain ⟨e3239, ho3195⟩ := chk_some ho3195
      refine run_region rfl ?_
      refine ox rfl rfl rfl rfl (ex_move rfl rfl) ?_
      refine ox rfl rfl rfl rfl (ex_indexAddr (d := kCoin) rfl rfl rfl Try.underlying24 tsz41 (HM.own_rd 1 rfl) (idx_lo e3239) (idx_hi e3239)) ?_
      refine ox rfl rfl rfl rfl (ex_fieldAddr (off' := so u3079 + ((0 : Int)).toNat * 8 + 2) rfl rfl Try.underlying41 rfl tsz36 rfl) ?_
      refine ox rfl rfl rfl rfl (ex_fieldAddr (off' := so u3079 + ((0 : Int)).toNat * 8 + 2) rfl rfl Try.underlying36 rfl tsz2 rfl) ?_
      replace HM := HM.front 1 rfl rfl
      refine odS rfl rfl rfl (does_setField (fo := 2) (vs := [(.int .i64 0)]) (y := (⟨(gt t3077.1 (0 : Int)).fRef, (⟨0, (gt t3077.1 (0 : Int)).fOut.fRule⟩ : Out), (gt t3077.1 (0 : Int)).fHeight, (gt t3077.1 (0 : Int)).fMined⟩ : Coin)) kCoin rfl rfl rfl rfl rfl tsz2 (Ones.int Ones.nil) rfl rfl (idx_nat e3239) (fun _ _ _ h => by rw [← gt_eq (idx_nat e3239)] at h; obtain ⟨_, rfl, h2⟩ := h; exact ⟨_, rfl, h2⟩) HM) ?_
      rintro w3240 HM
      refine ops_nil ?_
      refine at_block ?_
      replace HM := HM.fro
      replace HM := HM.front 1 rfl rfl
      exact at_mid (ρ' := [(0, .pointer (some ⟨b0, 0, none⟩)), (3, u3079)]) ⟨_, _, _, (Option.some.inj ho3195), rfl, HM⟩ (Sub.cons rfl (Sub.cons rfl Sub.nil))
     ·replace ho3195 := cond_f hb3238 ho3195
      refine run_seq ?_
      refine run_region rfl ?_
      refine ox rfl rfl rfl rfl (ex_eql rfl rfl rfl) ?_
      refine ox rfl rfl rfl rfl (ex_assign rfl rfl) ?_
      refine ops_nil (at_then ?_)
      refine run_cond (b := (t3197.1 == 3)) rfl (fun hb3241 => ?_) (fun hb3241 => ?_)
      ·replace ho3195 := cond_t hb3241 ho3195
       obtain ⟨e3242, ho3195⟩ := chk_some ho3195
       obtain ⟨e3254, ho3195⟩ := chk_some ho3195
       refine run_region rfl ?_
       refine ox rfl rfl rfl rfl (ex_move rfl rfl) ?_
       refine ox rfl rfl rfl rfl (ex_move rfl rfl) ?_
       refine ox rfl rfl rfl rfl (ex_indexAddr (d := kCoin) rfl rfl rfl Try.underlying24 tsz41 (HM.own_rd 1 rfl) (idx_lo e3242) (idx_hi e3242)) ?_
       replace HM := HM.front 1 rfl rfl
       obtain ⟨u3243, hc3244, HM⟩ := HM.open1 e3242 rfl
       refine ox rfl rfl rfl rfl (ex_loadN (cs := [.int .i64 ((gt t3077.1 (0 : Int)).fRef.fTx), .int .i64 ((gt t3077.1 (0 : Int)).fRef.fAt), .int .i64 ((gt t3077.1 (0 : Int)).fOut.fValue), u3243, .int .i64 ((gt t3077.1 (0 : Int)).fOut.fRule.fNeed), .int .i64 ((gt t3077.1 (0 : Int)).fOut.fRule.fAfter), .int .i64 ((gt t3077.1 (0 : Int)).fHeight), .bool ((gt t3077.1 (0 : Int)).fMined)]) rfl rfl Try.underlying41 rfl tsz41 rfl (hc3244.sub 0 8 rfl)) ?_
       refine od rfl rfl rfl rfl (does_litRaw (e := 41) (cs := [.int .i64 ((gt t3077.1 (0 : Int)).fRef.fTx), .int .i64 ((gt t3077.1 (0 : Int)).fRef.fAt), .int .i64 ((gt t3077.1 (0 : Int)).fOut.fValue), u3243, .int .i64 ((gt t3077.1 (0 : Int)).fOut.fRule.fNeed), .int .i64 ((gt t3077.1 (0 : Int)).fOut.fRule.fAfter), .int .i64 ((gt t3077.1 (0 : Int)).fHeight), .bool ((gt t3077.1 (0 : Int)).fMined)]) rfl rfl (fun _ => by kernel_rfl) HM) ?_
       rintro _ w3255 ⟨b3250, rfl, HM⟩
       replace HM := HM.front 2 rfl rfl
       replace HM := HM.front 2 rfl rfl
       replace HM := HM.front 2 rfl rfl
       refine od rfl rfl rfl rfl (does_appSelf (sz := 8) (enc := fun (x : Coin) (v : Value) => [.int .i64 x.fRef.fTx, .int .i64 x.fRef.fAt, .int .i64 x.fOut.fValue, v, .int .i64 x.fOut.fRule.fNeed, .int .i64 x.fOut.fRule.fAfter, .int .i64 x.fHeight, .bool x.fMined]) (inner := fun x => x.fOut.fRule.fKeys) (d := kInt) (i := (0 : Int)) (a := gt t3077.1 (0 : Int)) rfl rfl rfl Try.underlying24 tsz41 tby41 tz41 rfl rfl (leB_le e3254) e3242 rfl HM) ?_
       rintro v3252 w3256 HM
       refine ox rfl rfl rfl rfl (ex_assign rfl rfl) ?_
       refine ops_nil ?_
       refine at_block ?_
       replace HM := HM.front 1 rfl rfl
       exact at_mid (ρ' := [(0, .pointer (some ⟨b0, 0, none⟩)), (3, v3252)]) ⟨_, _, _, (Option.some.inj ho3195), rfl, HM⟩ (Sub.cons rfl (Sub.cons rfl Sub.nil))
      ·replace ho3195 := cond_f hb3241 ho3195
       refine run_skip ?_
       refine at_block ?_
       replace HM := HM.front 1 rfl rfl
       replace HM := HM.fro
       replace HM := HM.front 1 rfl rfl
       exact at_mid (ρ' := [(0, .pointer (some ⟨b0, 0, none⟩)), (3, u3079)]) ⟨_, _, _, (Option.some.inj ho3195), rfl, HM⟩ (Sub.cons rfl (Sub.cons rfl Sub.nil))
  ·replace ho3195 := cond_f hb3196 ho3195
   refine run_skip ?_
   replace HM := HM.fro
   replace HM := HM.front 1 rfl rfl
   exact at_mid (ρ' := [(0, .pointer (some ⟨b0, 0, none⟩)), (3, u3079)]) ⟨_, _, _, (Option.some.inj ho3195), rfl, HM⟩ (Sub.cons rfl (Sub.cons rfl Sub.nil))
 ·rintro _ w3257 ⟨a3190, v3191, a3192, rfl, rfl, HM⟩
  replace H := cur2_mk H
  refine run_seq ?_
  refine run_seq ?_
  obtain ⟨t3258, h3259, H⟩ := bind_some H
  refine run_region rfl ?_
  refine ox rfl rfl rfl rfl (ex_move rfl rfl) ?_
  obtain ⟨F3260, hF3261, hFn3262, hFl3263, HMh3264, hcl3265⟩ := HM.hide (Ms := [box b0 76 [p0_0, .int .i64 a3190]])
  refine od rfl rfl rfl rfl (does_callk rfl callok21 rfl (spec_l1Chance.calls (x0 := (⟨x0.fCode, a3190⟩ : l1Src)) (x1 := 40) (hide_olds _ _) hF3261 hFn3262 hFl3263 (HMh3264.rdo hwo hp0_0) h3259)) ?_
  rintro _ w3266 ⟨rfl, hn⟩
  replace HM : Mem w X w3266 [box b0 76 [p0_0, .int .i64 t3258.2], fro kCoin v3191 a3192] := hcl3265 _ _ hn
  refine ops_nil (at_then ?_)
  refine run_cond (b := t3258.1) rfl (fun hb3267 => ?_) (fun hb3267 => ?_)
  ·replace H := cond_t hb3267 H
   obtain ⟨e3271, H⟩ := chk_some H
   obtain ⟨e3272, H⟩ := chk_some H
   refine run_region rfl ?_
   refine od rfl rfl rfl rfl (does_make (x := (⟨(⟨0, 0⟩ : Ref), (⟨0, (⟨[], 0, 0⟩ : Rule)⟩ : Out), 0, false⟩ : Coin)) kCoin rfl rfl rfl Try.underlying24 tsz41 tby41 tz41 rfl rfl (fun _ => ⟨.slice none 0 0, rfl, OwS.nil _ _ _ _⟩) (of_decide_eq_true e3271) rfl (leB_le e3272) rfl HM) ?_
   rintro v3268 w3273 HM
   refine ox rfl rfl rfl rfl (ex_assign rfl rfl) ?_
   refine ops_nil (at_then (run_seq ?_))
   refine run_region rfl ?_
   refine ox rfl rfl rfl rfl (ex_move rfl rfl) ?_
   refine ox rfl rfl rfl rfl (ex_assign rfl rfl) ?_
   refine ops_nil (at_then ?_)
   refine run_ret ?_
   replace HM := HM.fro
   replace HM := (HM.front 2 rfl rfl).drop
   have hR := Option.some.inj H
   subst hR
   exact at_ret1 rfl rfl ⟨_, rfl, _, rfl, HM⟩
  ·replace H := cond_f hb3267 H
   refine run_skip ?_
   refine at_then ?_
   refine run_seq ?_
   refine run_region rfl ?_
   refine ox rfl rfl rfl rfl (ex_move rfl rfl) ?_
   refine ox rfl rfl rfl rfl (ex_assign rfl rfl) ?_
   refine ops_nil (at_then ?_)
   refine run_ret ?_
   replace HM := HM.front 1 rfl rfl
   have hR := Option.some.inj H
   subst hR
   exact at_ret1 rfl rfl ⟨_, rfl, _, rfl, HM⟩

def spec_l2Bent.f (k : Nat) (x0 : l1Src) : Option (Rule × Int) := ((spec_l2Draw.f k x0).bind fun t3395 => ((spec_l1Next.f k (⟨x0.fCode, t3395.2⟩ : l1Src) 10).bind fun t3411 => (bif (t3411.1 == 0) then ((spec_l1Pick.f k (⟨x0.fCode, t3411.2⟩ : l1Src) ([0, 1, 1000] : List Int)).bind fun t3424 => (chk (leB ((t3395.1.fKeys.length + ([t3424.1] : List Int).length) * 8) 140737488355328) (some ((⟨t3395.1.fKeys ++ ([t3424.1] : List Int), t3395.1.fNeed, t3395.1.fAfter⟩ : Rule), t3424.2)))) else (bif (t3411.1 == 1) then ((spec_l1Pick.f k (⟨x0.fCode, t3411.2⟩ : l1Src) ([0, 4, 2] : List Int)).bind fun t3466 => some ((⟨t3395.1.fKeys, t3466.1, t3395.1.fAfter⟩ : Rule), t3466.2)) else (bif (t3411.1 == 2) then ((spec_l1Pick.f k (⟨x0.fCode, t3411.2⟩ : l1Src) ([(-1), 999, 1000] : List Int)).bind fun t3482 => some ((⟨t3395.1.fKeys, t3395.1.fNeed, t3482.1⟩ : Rule), t3482.2)) else (bif (t3411.1 == 3) then some ((⟨([] : List Int), t3395.1.fNeed, t3395.1.fAfter⟩ : Rule), t3411.2) else some ((⟨t3395.1.fKeys, t3395.1.fNeed, t3395.1.fAfter⟩ : Rule), t3411.2)))))))
theorem spec_l2Bent.calls {k : Nat} {x0 : l1Src} {b0 : Nat} {p0_0 : Value} {w wo : World} {X : List Nat} (hwo : Olds wo w X) (hX : Hold w [box b0 76 [p0_0, .int .i64 x0.fAt]] X) (hXn : X.Nodup) (hXl : ∀ b ∈ X, b < w.heap.size) (hp0_0 : RdS kU8 wo p0_0 x0.fCode) {r : Rule × Int} (H : spec_l2Bent.f k x0 = some r) :
  Calls Try.prog 20 ([.pointer (some ⟨b0, 0, none⟩)] : List Value).toArray w (fun e w_ => ∃ v, e = .returned v ∧ ∃ u0 : Value, v = (.agg #[u0, .int .i64 r.1.fNeed, .int .i64 r.1.fAfter]) ∧ Mem w X w_ [own kInt 2 u0 r.1.fKeys, box b0 76 [p0_0, .int .i64 r.2]]) := by
 have HM := Mem.startX hX hXn hXl
 refine calls_run (N := 34) Try.func20 rfl rfl rfl rfl ?_
 unfold spec_l2Bent.f at H
 refine run_seq ?_
 refine run_region rfl ?_
 refine od rfl rfl rfl rfl (does_alloc (cs := [.slice none 0 0, .int .i64 0, .int .i64 0]) rfl tz34 rfl HM) ?_
 rintro _ w3394 ⟨b3391, rfl, HM⟩
 refine ops_nil (at_then (run_seq ?_))
 obtain ⟨t3395, h3396, H⟩ := bind_some H
 refine run_region rfl ?_
 refine ox rfl rfl rfl rfl (ex_move rfl rfl) ?_
 replace HM := HM.front 1 rfl rfl
 obtain ⟨F3399, hF3400, hFn3401, hFl3402, HMh3403, hcl3404⟩ := HM.hide (Ms := [box b0 76 [p0_0, .int .i64 x0.fAt]])
 refine od rfl rfl rfl rfl (does_callk rfl callok43 rfl (spec_l2Draw.calls (x0 := x0) (hide_olds _ _) hF3400 hFn3401 hFl3402 (HMh3403.rdo hwo hp0_0) h3396)) ?_
 rintro _ w3408 ⟨u3397, rfl, hn⟩
 replace HM : Mem w X w3408 [own kInt 2 u3397 t3395.1.fKeys, box b0 76 [p0_0, .int .i64 t3395.2], box b3391 34 [.slice none 0 0, .int .i64 0, .int .i64 0]] := hcl3404 _ _ hn
 refine od rfl rfl rfl rfl (does_alloc (cs := [.slice none 0 0, .int .i64 0, .int .i64 0]) rfl tz34 rfl HM) ?_
 rintro _ w3409 ⟨b3405, rfl, HM⟩
 refine odS rfl rfl rfl (does_store (vs := [u3397, .int .i64 t3395.1.fNeed, .int .i64 t3395.1.fAfter]) (cs' := [u3397, .int .i64 t3395.1.fNeed, .int .i64 t3395.1.fAfter]) rfl rfl rfl rfl tsz34 (Ones.rd (HM.own_rd 1 rfl) (Ones.int (Ones.int Ones.nil))) rfl rfl HM) ?_
 rintro w3410 HM
 refine ops_nil (at_then (run_seq ?_))
 refine run_seq ?_
 obtain ⟨t3411, h3412, H⟩ := bind_some H
 refine run_region rfl ?_
 refine ox rfl rfl rfl rfl (ex_move rfl rfl) ?_
 replace HM := HM.front 2 rfl rfl
 obtain ⟨F3413, hF3414, hFn3415, hFl3416, HMh3417, hcl3418⟩ := HM.hide (Ms := [box b0 76 [p0_0, .int .i64 t3395.2]])
 refine od rfl rfl rfl rfl (does_callk rfl callok18 rfl (spec_l1Next.calls (x0 := (⟨x0.fCode, t3395.2⟩ : l1Src)) (x1 := 10) (hide_olds _ _) hF3414 hFn3415 hFl3416 (HMh3417.rdo hwo hp0_0) h3412)) ?_
 rintro _ w3419 ⟨rfl, hn⟩
 replace HM : Mem w X w3419 [box b0 76 [p0_0, .int .i64 t3411.2], box b3405 34 [u3397, .int .i64 t3395.1.fNeed, .int .i64 t3395.1.fAfter], own kInt 2 u3397 t3395.1.fKeys, box b3391 34 [.slice none 0 0, .int .i64 0, .int .i64 0]] := hcl3418 _ _ hn
 refine ops_nil (at_then ?_)
 refine run_block ?_
 refine run_seq ?_
 refine run_region rfl ?_
 refine ox rfl rfl rfl rfl (ex_eql rfl rfl rfl) ?_
 refine ox rfl rfl rfl rfl (ex_assign rfl rfl) ?_
 refine ops_nil (at_then ?_)
 refine run_cond (b := (t3411.1 == 0)) rfl (fun hb3420 => ?_) (fun hb3420 => ?_)
 ·replace H := cond_t hb3420 H
  obtain ⟨t3424, h3425, H⟩ := bind_some H
  obtain ⟨e3435, H⟩ := chk_some H
  refine run_meet (fun ρ_ w_ => ∃ v3436 : Value, ρ_ = [(2, .pointer (some ⟨b3391, 0, none⟩)), (3, .pointer (some ⟨b3405, 0, none⟩))] ∧ Mem w X w_ [box b0 76 [p0_0, .int .i64 t3424.2], box b3391 34 [.slice none 0 0, .int .i64 0, .int .i64 0], box b3405 34 [v3436, .int .i64 t3395.1.fNeed, .int .i64 t3395.1.fAfter], own kInt 2 v3436 (t3395.1.fKeys ++ ([t3424.1] : List Int))]) ?_ ?_
  ·skip
   replace HM := HM.front 2 rfl rfl
   replace HM := HM.front 2 rfl rfl
   replace HM := HM.front 2 rfl rfl
   refine run_draw (fun w_ => Mem w X w_ [box b3391 34 [.slice none 0 0, .int .i64 0, .int .i64 0]]) mixed rfl (l := #[false, false, false, false, false, false, false, false, false]) rfl ?_
   replace HM := HM.grow (fr_drew _)
   have hS := Mem.suf (M := [box b0 76 [p0_0, .int .i64 t3411.2], box b3405 34 [u3397, .int .i64 t3395.1.fNeed, .int .i64 t3395.1.fAfter], own kInt 2 u3397 t3395.1.fKeys]) HM
   refine drw_cut2 (l' := #[true, true, true, true, true, true, false, false, false]) (f' := 3) (fun (v3421 : Value) => fun (v3432 : Value) => [(2, .pointer (some ⟨b3391, 0, none⟩)), (3, .pointer (some ⟨b3405, 0, none⟩)), (11, u3397), (15, v3432)]) (fun (v3421 : Value) => fun (v3432 : Value) => fun w_ => Mem w X w_ [own kInt 2 v3432 ([t3424.1] : List Int), box b0 76 [p0_0, .int .i64 t3424.2], own kInt 2 v3421 ([0, 1, 1000] : List Int), box b3405 34 [u3397, .int .i64 t3395.1.fNeed, .int .i64 t3395.1.fAfter], own kInt 2 u3397 t3395.1.fKeys, box b3391 34 [.slice none 0 0, .int .i64 0, .int .i64 0]]) ?_ (fun K3446 => ?_)
   ·rintro v3421 v3432 w3447 HM
    replace HM : Mem w X w3447 [own kInt 2 v3432 ([t3424.1] : List Int), box b0 76 [p0_0, .int .i64 t3424.2], own kInt 2 v3421 ([0, 1, 1000] : List Int), box b3405 34 [u3397, .int .i64 t3395.1.fNeed, .int .i64 t3395.1.fAfter], own kInt 2 u3397 t3395.1.fKeys, box b3391 34 [.slice none 0 0, .int .i64 0, .int .i64 0]] := HM
    have hS := Mem.suf (M := [own kInt 2 v3432 ([t3424.1] : List Int), box b0 76 [p0_0, .int .i64 t3424.2], own kInt 2 v3421 ([0, 1, 1000] : List Int), box b3405 34 [u3397, .int .i64 t3395.1.fNeed, .int .i64 t3395.1.fAfter], own kInt 2 u3397 t3395.1.fKeys]) HM
    replace HM := HM.front 4 rfl rfl
    refine drw_any [6] (by kernel_rfl) rfl (.cons ?_ .nil)
    refine br_does (l' := #[true, true, true, true, true, true, true, false, false]) rfl (guard_none rfl) rfl rfl (by kernel_rfl) (does_appendR kInt flat_plain rfl rfl rfl Try.underlying32 tsz2 rfl tby2 tz2 rfl rfl (leB_le e3435) (HM.own_rd 1 rfl) HM) ?_
    rintro v3436 w3448 HM
    have hS := Mem.suf (M := [own kInt 2 v3436 (t3395.1.fKeys ++ ([t3424.1] : List Int)), own kInt 2 v3432 ([t3424.1] : List Int), box b0 76 [p0_0, .int .i64 t3424.2], own kInt 2 v3421 ([0, 1, 1000] : List Int), box b3405 34 [u3397, .int .i64 t3395.1.fNeed, .int .i64 t3395.1.fAfter]]) HM
    refine ⟨hS, ?_⟩
    refine dt 7 #[true, true, true, true, true, true, true, true, false] rfl rfl rfl rfl (by kernel_rfl) (ex_fieldAddr (off' := 0) rfl rfl Try.underlying34 rfl tsz32 rfl) hS ?_
    replace HM := HM.front 4 rfl rfl
    refine drw_any [8] (by kernel_rfl) rfl (.cons ?_ .nil)
    refine br_doesS (l' := #[true, true, true, true, true, true, true, true, true]) rfl (guard_none rfl) rfl (by kernel_rfl) (does_store (vs := [v3436]) (cs' := [v3436, .int .i64 t3395.1.fNeed, .int .i64 t3395.1.fAfter]) rfl rfl rfl (rd_cells (HM.own_rd 1 rfl)) tsz32 (Ones.rd (HM.own_rd 1 rfl) Ones.nil) rfl rfl HM) ?_
    rintro w3449 HM
    have hS := Mem.suf (M := [box b3405 34 [v3436, .int .i64 t3395.1.fNeed, .int .i64 t3395.1.fAfter], own kInt 2 v3436 (t3395.1.fKeys ++ ([t3424.1] : List Int)), own kInt 2 v3432 ([t3424.1] : List Int), box b0 76 [p0_0, .int .i64 t3424.2], own kInt 2 v3421 ([0, 1, 1000] : List Int)]) HM
    refine ⟨hS, ?_⟩
    refine drw_done (by kernel_rfl) ?_
    replace HM := (HM.front 2 rfl rfl).drop
    replace HM := (HM.front 3 rfl rfl).drop
    replace HM := HM.front 1 rfl rfl
    replace HM := HM.front 1 rfl rfl
    replace HM := HM.front 3 rfl rfl
    replace HM := HM.front 3 rfl rfl
    exact at_meet [(2, .pointer (some ⟨b3391, 0, none⟩)), (3, .pointer (some ⟨b3405, 0, none⟩))] ⟨_, rfl, HM⟩ (Sub.cons rfl (Sub.cons rfl Sub.nil))
   refine drw_cut1 (l' := #[true, true, true, true, true, false, false, false, false]) (f' := 4) (fun (v3421 : Value) => [(2, .pointer (some ⟨b3391, 0, none⟩)), (3, .pointer (some ⟨b3405, 0, none⟩)), (11, u3397), (14, .int .i64 t3424.1)]) (fun (v3421 : Value) => fun w_ => Mem w X w_ [box b0 76 [p0_0, .int .i64 t3424.2], own kInt 2 v3421 ([0, 1, 1000] : List Int), box b3405 34 [u3397, .int .i64 t3395.1.fNeed, .int .i64 t3395.1.fAfter], own kInt 2 u3397 t3395.1.fKeys, box b3391 34 [.slice none 0 0, .int .i64 0, .int .i64 0]]) ?_ (fun K3450 => ?_)
   ·rintro v3421 w3451 HM
    replace HM : Mem w X w3451 [box b0 76 [p0_0, .int .i64 t3424.2], own kInt 2 v3421 ([0, 1, 1000] : List Int), box b3405 34 [u3397, .int .i64 t3395.1.fNeed, .int .i64 t3395.1.fAfter], own kInt 2 u3397 t3395.1.fKeys, box b3391 34 [.slice none 0 0, .int .i64 0, .int .i64 0]] := HM
    have hS := Mem.suf (M := [box b0 76 [p0_0, .int .i64 t3424.2], own kInt 2 v3421 ([0, 1, 1000] : List Int), box b3405 34 [u3397, .int .i64 t3395.1.fNeed, .int .i64 t3395.1.fAfter], own kInt 2 u3397 t3395.1.fKeys]) HM
    refine drw_any [5] (by kernel_rfl) rfl (.cons ?_ .nil)
    refine br_does (l' := #[true, true, true, true, true, true, false, false, false]) rfl (guard_none rfl) rfl rfl (by kernel_rfl) (does_lit (e := 2) (cs := [.int .i64 t3424.1]) (xs := ([t3424.1] : List Int)) kInt rfl rfl (fun _ => by kernel_rfl) rfl rfl (fun _ _ h => by have h' : _ = [] := h; subst h'; exact (Elems.cons (d := kInt) (x := t3424.1) (f := []) ⟨rfl, rfl⟩ .nil)) HM.emp) ?_
    rintro v3432 w3452 HM
    have hS := Mem.suf (M := [own kInt 2 v3432 ([t3424.1] : List Int), box b0 76 [p0_0, .int .i64 t3424.2], own kInt 2 v3421 ([0, 1, 1000] : List Int), box b3405 34 [u3397, .int .i64 t3395.1.fNeed, .int .i64 t3395.1.fAfter], own kInt 2 u3397 t3395.1.fKeys]) HM
    refine ⟨hS, ?_⟩
    exact drw_sub (K3446 v3421 v3432 _ HM) (Sub.cons rfl (Sub.cons rfl (Sub.cons rfl (Sub.cons rfl Sub.nil))))
   refine drw_cut1 (l' := #[true, true, true, true, false, false, false, false, false]) (f' := 5) (fun (v3421 : Value) => [(2, .pointer (some ⟨b3391, 0, none⟩)), (3, .pointer (some ⟨b3405, 0, none⟩)), (12, .pointer (some ⟨b0, 0, none⟩)), (11, u3397), (13, v3421)]) (fun (v3421 : Value) => fun w_ => Mem w X w_ [own kInt 2 v3421 ([0, 1, 1000] : List Int), box b0 76 [p0_0, .int .i64 t3411.2], box b3405 34 [u3397, .int .i64 t3395.1.fNeed, .int .i64 t3395.1.fAfter], own kInt 2 u3397 t3395.1.fKeys, box b3391 34 [.slice none 0 0, .int .i64 0, .int .i64 0]]) ?_ (fun K3453 => ?_)
   ·rintro v3421 w3454 HM
    replace HM : Mem w X w3454 [own kInt 2 v3421 ([0, 1, 1000] : List Int), box b0 76 [p0_0, .int .i64 t3411.2], box b3405 34 [u3397, .int .i64 t3395.1.fNeed, .int .i64 t3395.1.fAfter], own kInt 2 u3397 t3395.1.fKeys, box b3391 34 [.slice none 0 0, .int .i64 0, .int .i64 0]] := HM
    have hS := Mem.suf (M := [own kInt 2 v3421 ([0, 1, 1000] : List Int), box b0 76 [p0_0, .int .i64 t3411.2], box b3405 34 [u3397, .int .i64 t3395.1.fNeed, .int .i64 t3395.1.fAfter], own kInt 2 u3397 t3395.1.fKeys]) HM
    replace HM := HM.front 1 rfl rfl
    obtain ⟨F3426, hF3427, hFn3428, hFl3429, HMh3430, hcl3431⟩ := HM.hide (Ms := [box b0 76 [p0_0, .int .i64 t3411.2]])
    refine drw_any [4] (by kernel_rfl) rfl (.cons ?_ .nil)
    refine br_does (l' := #[true, true, true, true, true, false, false, false, false]) rfl (guard_none rfl) rfl rfl (by kernel_rfl) (does_callk rfl callok19 rfl (spec_l1Pick.calls (x0 := (⟨x0.fCode, t3411.2⟩ : l1Src)) (x1 := ([0, 1, 1000] : List Int)) (hide_olds _ _) hF3427 hFn3428 hFl3429 (HMh3430.rdo hwo hp0_0) (HMh3430.own_rd 0 rfl) h3425)) ?_
    rintro _ w3455 ⟨rfl, hn⟩
    replace HM : Mem w X w3455 [box b0 76 [p0_0, .int .i64 t3424.2], own kInt 2 v3421 ([0, 1, 1000] : List Int), box b3405 34 [u3397, .int .i64 t3395.1.fNeed, .int .i64 t3395.1.fAfter], own kInt 2 u3397 t3395.1.fKeys, box b3391 34 [.slice none 0 0, .int .i64 0, .int .i64 0]] := hcl3431 _ _ hn
    have hS := Mem.suf (M := [box b0 76 [p0_0, .int .i64 t3424.2], own kInt 2 v3421 ([0, 1, 1000] : List Int), box b3405 34 [u3397, .int .i64 t3395.1.fNeed, .int .i64 t3395.1.fAfter], own kInt 2 u3397 t3395.1.fKeys]) HM
    refine ⟨hS, ?_⟩
    exact drw_sub (K3450 v3421 _ HM) (Sub.cons rfl (Sub.cons rfl (Sub.cons rfl (Sub.cons rfl Sub.nil))))
   refine dt 0 #[true, false, false, false, false, false, false, false, false] rfl rfl rfl rfl (by kernel_rfl) (ex_fieldAddr (off' := 0) rfl rfl Try.underlying34 rfl tsz32 rfl) hS ?_
   refine dt 2 #[true, false, true, false, false, false, false, false, false] rfl rfl rfl rfl (by kernel_rfl) (ex_move rfl rfl) hS ?_
   refine drw_any [1, 3] (by kernel_rfl) rfl (.cons ?_ (.cons ?_ .nil))
   ·skip
    refine br_does (l' := #[true, true, true, false, false, false, false, false, false]) rfl (guard_none rfl) rfl rfl (by kernel_rfl) (does_ex' (ex_load1 rfl rfl Try.underlying32 rfl ((HM.box_at 1 rfl) 0 _ rfl))) ?_
    rintro _ _ ⟨rfl, rfl⟩
    refine ⟨hS, ?_⟩
    refine drw_any [3] (by kernel_rfl) rfl (.cons ?_ .nil)
    refine br_does (l' := #[true, true, true, true, false, false, false, false, false]) rfl (guard_none rfl) rfl rfl (by kernel_rfl) (does_lit (e := 2) (cs := [.int .i64 0, .int .i64 1, .int .i64 1000]) (xs := ([0, 1, 1000] : List Int)) kInt rfl rfl (fun _ => by kernel_rfl) rfl rfl (fun _ _ h => by have h' : _ = [] := h; subst h'; exact (Elems.cons (d := kInt) (x := 0) (f := []) ⟨rfl, rfl⟩ (Elems.cons (d := kInt) (x := 1) (f := []) ⟨rfl, rfl⟩ (Elems.cons (d := kInt) (x := 1000) (f := []) ⟨rfl, rfl⟩ .nil)))) HM.emp) ?_
    rintro v3421 w3456 HM
    have hS := Mem.suf (M := [own kInt 2 v3421 ([0, 1, 1000] : List Int), box b0 76 [p0_0, .int .i64 t3411.2], box b3405 34 [u3397, .int .i64 t3395.1.fNeed, .int .i64 t3395.1.fAfter], own kInt 2 u3397 t3395.1.fKeys]) HM
    refine ⟨hS, ?_⟩
    exact drw_sub (K3453 v3421 _ HM) (Sub.cons rfl (Sub.cons rfl (Sub.cons rfl (Sub.cons rfl (Sub.cons rfl Sub.nil)))))
   ·skip
    refine br_does (l' := #[true, false, true, true, false, false, false, false, false]) rfl (guard_none rfl) rfl rfl (by kernel_rfl) (does_lit (e := 2) (cs := [.int .i64 0, .int .i64 1, .int .i64 1000]) (xs := ([0, 1, 1000] : List Int)) kInt rfl rfl (fun _ => by kernel_rfl) rfl rfl (fun _ _ h => by have h' : _ = [] := h; subst h'; exact (Elems.cons (d := kInt) (x := 0) (f := []) ⟨rfl, rfl⟩ (Elems.cons (d := kInt) (x := 1) (f := []) ⟨rfl, rfl⟩ (Elems.cons (d := kInt) (x := 1000) (f := []) ⟨rfl, rfl⟩ .nil)))) HM.emp) ?_
    rintro v3421 w3457 HM
    have hS := Mem.suf (M := [own kInt 2 v3421 ([0, 1, 1000] : List Int), box b0 76 [p0_0, .int .i64 t3411.2], box b3405 34 [u3397, .int .i64 t3395.1.fNeed, .int .i64 t3395.1.fAfter], own kInt 2 u3397 t3395.1.fKeys]) HM
    refine ⟨hS, ?_⟩
    refine drw_any [1, 4] (by kernel_rfl) rfl (.cons ?_ (.cons ?_ .nil))
    ·skip
     refine br_does (l' := #[true, true, true, true, false, false, false, false, false]) rfl (guard_none rfl) rfl rfl (by kernel_rfl) (does_ex' (ex_load1 rfl rfl Try.underlying32 rfl ((HM.box_at 2 rfl) 0 _ rfl))) ?_
     rintro _ _ ⟨rfl, rfl⟩
     refine ⟨hS, ?_⟩
     exact drw_sub (K3453 v3421 _ HM) (Sub.cons rfl (Sub.cons rfl (Sub.cons rfl (Sub.cons rfl (Sub.cons rfl Sub.nil)))))
    ·skip
     replace HM := HM.front 1 rfl rfl
     obtain ⟨F3426, hF3427, hFn3428, hFl3429, HMh3430, hcl3431⟩ := HM.hide (Ms := [box b0 76 [p0_0, .int .i64 t3411.2]])
     refine br_does (l' := #[true, false, true, true, true, false, false, false, false]) rfl (guard_none rfl) rfl rfl (by kernel_rfl) (does_callk rfl callok19 rfl (spec_l1Pick.calls (x0 := (⟨x0.fCode, t3411.2⟩ : l1Src)) (x1 := ([0, 1, 1000] : List Int)) (hide_olds _ _) hF3427 hFn3428 hFl3429 (HMh3430.rdo hwo hp0_0) (HMh3430.own_rd 0 rfl) h3425)) ?_
     rintro _ w3458 ⟨rfl, hn⟩
     replace HM : Mem w X w3458 [box b0 76 [p0_0, .int .i64 t3424.2], own kInt 2 v3421 ([0, 1, 1000] : List Int), box b3405 34 [u3397, .int .i64 t3395.1.fNeed, .int .i64 t3395.1.fAfter], own kInt 2 u3397 t3395.1.fKeys, box b3391 34 [.slice none 0 0, .int .i64 0, .int .i64 0]] := hcl3431 _ _ hn
     have hS := Mem.suf (M := [box b0 76 [p0_0, .int .i64 t3424.2], own kInt 2 v3421 ([0, 1, 1000] : List Int), box b3405 34 [u3397, .int .i64 t3395.1.fNeed, .int .i64 t3395.1.fAfter], own kInt 2 u3397 t3395.1.fKeys]) HM
     refine ⟨hS, ?_⟩
     refine drw_any [1, 5] (by kernel_rfl) rfl (.cons ?_ (.cons ?_ .nil))
     ·skip
      refine br_does (l' := #[true, true, true, true, true, false, false, false, false]) rfl (guard_none rfl) rfl rfl (by kernel_rfl) (does_ex' (ex_load1 rfl rfl Try.underlying32 rfl ((HM.box_at 2 rfl) 0 _ rfl))) ?_
      rintro _ _ ⟨rfl, rfl⟩
      refine ⟨hS, ?_⟩
      exact drw_sub (K3450 v3421 _ HM) (Sub.cons rfl (Sub.cons rfl (Sub.cons rfl (Sub.cons rfl Sub.nil))))
     ·skip
      refine br_does (l' := #[true, false, true, true, true, true, false, false, false]) rfl (guard_none rfl) rfl rfl (by kernel_rfl) (does_lit (e := 2) (cs := [.int .i64 t3424.1]) (xs := ([t3424.1] : List Int)) kInt rfl rfl (fun _ => by kernel_rfl) rfl rfl (fun _ _ h => by have h' : _ = [] := h; subst h'; exact (Elems.cons (d := kInt) (x := t3424.1) (f := []) ⟨rfl, rfl⟩ .nil)) HM.emp) ?_
      rintro v3432 w3459 HM
      have hS := Mem.suf (M := [own kInt 2 v3432 ([t3424.1] : List Int), box b0 76 [p0_0, .int .i64 t3424.2], own kInt 2 v3421 ([0, 1, 1000] : List Int), box b3405 34 [u3397, .int .i64 t3395.1.fNeed, .int .i64 t3395.1.fAfter], own kInt 2 u3397 t3395.1.fKeys]) HM
      refine ⟨hS, ?_⟩
      refine drw_any [1] (by kernel_rfl) rfl (.cons ?_ .nil)
      refine br_does (l' := #[true, true, true, true, true, true, false, false, false]) rfl (guard_none rfl) rfl rfl (by kernel_rfl) (does_ex' (ex_load1 rfl rfl Try.underlying32 rfl ((HM.box_at 3 rfl) 0 _ rfl))) ?_
      rintro _ _ ⟨rfl, rfl⟩
      refine ⟨hS, ?_⟩
      exact drw_sub (K3446 v3421 v3432 _ HM) (Sub.cons rfl (Sub.cons rfl (Sub.cons rfl (Sub.cons rfl Sub.nil))))
  ·rintro _ w3460 ⟨v3436, rfl, HM⟩
   refine at_block ?_
   refine at_then ?_
   refine run_seq ?_
   refine run_region rfl ?_
   refine ox rfl rfl rfl rfl (ex_loadN (cs := [v3436, (.int .i64 t3395.1.fNeed), (.int .i64 t3395.1.fAfter)]) rfl rfl Try.underlying34 rfl tsz34 rfl ((HM.box_at 2 rfl).sub 0 3 rfl)) ?_
   replace HM := HM.front 1 rfl rfl
   refine odS rfl rfl rfl (does_store (vs := [v3436, .int .i64 t3395.1.fNeed, .int .i64 t3395.1.fAfter]) (cs' := [v3436, .int .i64 t3395.1.fNeed, .int .i64 t3395.1.fAfter]) rfl rfl rfl rfl tsz34 (Ones.rd (HM.own_rd 3 rfl) (Ones.int (Ones.int Ones.nil))) rfl rfl HM) ?_
   rintro w3461 HM
   refine ops_nil (at_then ?_)
   refine run_ret ?_
   replace HM := (HM.front 2 rfl rfl).drop
   replace HM := HM.front 1 rfl rfl
   replace HM := HM.front 2 rfl rfl
   replace HM := HM.front 2 rfl rfl
   have hcb0 := HM.box_at 0 rfl
   replace HM := (HM.front 0 rfl rfl).drop
   have hR := Option.some.inj H
   subst hR
   exact at_retN rfl rfl Try.underlying34 rfl tsz34 rfl hcb0 ⟨_, rfl, _, rfl, HM⟩
 ·replace H := cond_f hb3420 H
  refine run_seq ?_
  refine run_region rfl ?_
  refine ox rfl rfl rfl rfl (ex_eql rfl rfl rfl) ?_
  refine ox rfl rfl rfl rfl (ex_assign rfl rfl) ?_
  refine ops_nil (at_then ?_)
  refine run_cond (b := (t3411.1 == 1)) rfl (fun hb3462 => ?_) (fun hb3462 => ?_)
  ·replace H := cond_t hb3462 H
   obtain ⟨t3466, h3467, H⟩ := bind_some H
   refine run_region rfl ?_
   refine ox rfl rfl rfl rfl (ex_move rfl rfl) ?_
   refine od rfl rfl rfl rfl (does_lit (e := 2) (cs := [.int .i64 0, .int .i64 4, .int .i64 2]) (xs := ([0, 4, 2] : List Int)) kInt rfl rfl (fun _ => by kernel_rfl) rfl rfl (fun _ _ h => by have h' : _ = [] := h; subst h'; exact (Elems.cons (d := kInt) (x := 0) (f := []) ⟨rfl, rfl⟩ (Elems.cons (d := kInt) (x := 4) (f := []) ⟨rfl, rfl⟩ (Elems.cons (d := kInt) (x := 2) (f := []) ⟨rfl, rfl⟩ .nil)))) HM.emp) ?_
   rintro v3463 w3474 HM
   replace HM := HM.front 1 rfl rfl
   obtain ⟨F3468, hF3469, hFn3470, hFl3471, HMh3472, hcl3473⟩ := HM.hide (Ms := [box b0 76 [p0_0, .int .i64 t3411.2]])
   refine od rfl rfl rfl rfl (does_callk rfl callok19 rfl (spec_l1Pick.calls (x0 := (⟨x0.fCode, t3411.2⟩ : l1Src)) (x1 := ([0, 4, 2] : List Int)) (hide_olds _ _) hF3469 hFn3470 hFl3471 (HMh3472.rdo hwo hp0_0) (HMh3472.own_rd 0 rfl) h3467)) ?_
   rintro _ w3475 ⟨rfl, hn⟩
   replace HM : Mem w X w3475 [box b0 76 [p0_0, .int .i64 t3466.2], own kInt 2 v3463 ([0, 4, 2] : List Int), box b3405 34 [u3397, .int .i64 t3395.1.fNeed, .int .i64 t3395.1.fAfter], own kInt 2 u3397 t3395.1.fKeys, box b3391 34 [.slice none 0 0, .int .i64 0, .int .i64 0]] := hcl3473 _ _ hn
   refine ox rfl rfl rfl rfl (ex_fieldAddr (off' := 1) rfl rfl Try.underlying34 rfl tsz2 rfl) ?_
   replace HM := HM.front 2 rfl rfl
   refine odS rfl rfl rfl (does_store (vs := [.int .i64 t3466.1]) (cs' := [u3397, .int .i64 t3466.1, .int .i64 t3395.1.fAfter]) rfl rfl rfl rfl tsz2 (Ones.int Ones.nil) rfl rfl HM) ?_
   rintro w3476 HM
   refine ops_nil ?_
   refine at_block ?_
   refine at_then ?_
   refine run_seq ?_
   refine run_region rfl ?_
   refine ox rfl rfl rfl rfl (ex_loadN (cs := [u3397, (.int .i64 t3466.1), (.int .i64 t3395.1.fAfter)]) rfl rfl Try.underlying34 rfl tsz34 rfl ((HM.box_at 0 rfl).sub 0 3 rfl)) ?_
   replace HM := HM.front 4 rfl rfl
   refine odS rfl rfl rfl (does_store (vs := [u3397, .int .i64 t3466.1, .int .i64 t3395.1.fAfter]) (cs' := [u3397, .int .i64 t3466.1, .int .i64 t3395.1.fAfter]) rfl rfl rfl rfl tsz34 (Ones.rd (HM.own_rd 4 rfl) (Ones.int (Ones.int Ones.nil))) rfl rfl HM) ?_
   rintro w3477 HM
   refine ops_nil (at_then ?_)
   refine run_ret ?_
   replace HM := (HM.front 1 rfl rfl).drop
   replace HM := (HM.front 2 rfl rfl).drop
   replace HM := HM.front 1 rfl rfl
   replace HM := HM.front 2 rfl rfl
   replace HM := HM.front 2 rfl rfl
   have hcb0 := HM.box_at 0 rfl
   replace HM := (HM.front 0 rfl rfl).drop
   have hR := Option.some.inj H
   subst hR
   exact at_retN rfl rfl Try.underlying34 rfl tsz34 rfl hcb0 ⟨_, rfl, _, rfl, HM⟩
  ·replace H := cond_f hb3462 H
   refine run_seq ?_
   refine run_region rfl ?_
   refine ox rfl rfl rfl rfl (ex_eql rfl rfl rfl) ?_
   refine ox rfl rfl rfl rfl (ex_assign rfl rfl) ?_
   refine ops_nil (at_then ?_)
   refine run_cond (b := (t3411.1 == 2)) rfl (fun hb3478 => ?_) (fun hb3478 => ?_)
   ·replace H := cond_t hb3478 H
    obtain ⟨t3482, h3483, H⟩ := bind_some H
    refine run_region rfl ?_
    refine ox rfl rfl rfl rfl (ex_move rfl rfl) ?_
    refine od rfl rfl rfl rfl (does_lit (e := 2) (cs := [.int .i64 (-1), .int .i64 999, .int .i64 1000]) (xs := ([(-1), 999, 1000] : List Int)) kInt rfl rfl (fun _ => by kernel_rfl) rfl rfl (fun _ _ h => by have h' : _ = [] := h; subst h'; exact (Elems.cons (d := kInt) (x := (-1)) (f := []) ⟨rfl, rfl⟩ (Elems.cons (d := kInt) (x := 999) (f := []) ⟨rfl, rfl⟩ (Elems.cons (d := kInt) (x := 1000) (f := []) ⟨rfl, rfl⟩ .nil)))) HM.emp) ?_
    rintro v3479 w3490 HM
    replace HM := HM.front 1 rfl rfl
    obtain ⟨F3484, hF3485, hFn3486, hFl3487, HMh3488, hcl3489⟩ := HM.hide (Ms := [box b0 76 [p0_0, .int .i64 t3411.2]])
    refine od rfl rfl rfl rfl (does_callk rfl callok19 rfl (spec_l1Pick.calls (x0 := (⟨x0.fCode, t3411.2⟩ : l1Src)) (x1 := ([(-1), 999, 1000] : List Int)) (hide_olds _ _) hF3485 hFn3486 hFl3487 (HMh3488.rdo hwo hp0_0) (HMh3488.own_rd 0 rfl) h3483)) ?_
    rintro _ w3491 ⟨rfl, hn⟩
    replace HM : Mem w X w3491 [box b0 76 [p0_0, .int .i64 t3482.2], own kInt 2 v3479 ([(-1), 999, 1000] : List Int), box b3405 34 [u3397, .int .i64 t3395.1.fNeed, .int .i64 t3395.1.fAfter], own kInt 2 u3397 t3395.1.fKeys, box b3391 34 [.slice none 0 0, .int .i64 0, .int .i64 0]] := hcl3489 _ _ hn
    refine ox rfl rfl rfl rfl (ex_fieldAddr (off' := 2) rfl rfl Try.underlying34 rfl tsz2 rfl) ?_
    replace HM := HM.front 2 rfl rfl
    refine odS rfl rfl rfl (does_store (vs := [.int .i64 t3482.1]) (cs' := [u3397, .int .i64 t3395.1.fNeed, .int .i64 t3482.1]) rfl rfl rfl rfl tsz2 (Ones.int Ones.nil) rfl rfl HM) ?_
    rintro w3492 HM
    refine ops_nil ?_
    refine at_block ?_
    refine at_then ?_
    refine run_seq ?_
    refine run_region rfl ?_
    refine ox rfl rfl rfl rfl (ex_loadN (cs := [u3397, (.int .i64 t3395.1.fNeed), (.int .i64 t3482.1)]) rfl rfl Try.underlying34 rfl tsz34 rfl ((HM.box_at 0 rfl).sub 0 3 rfl)) ?_
    replace HM := HM.front 4 rfl rfl
    refine odS rfl rfl rfl (does_store (vs := [u3397, .int .i64 t3395.1.fNeed, .int .i64 t3482.1]) (cs' := [u3397, .int .i64 t3395.1.fNeed, .int .i64 t3482.1]) rfl rfl rfl rfl tsz34 (Ones.rd (HM.own_rd 4 rfl) (Ones.int (Ones.int Ones.nil))) rfl rfl HM) ?_
    rintro w3493 HM
    refine ops_nil (at_then ?_)
    refine run_ret ?_
    replace HM := (HM.front 1 rfl rfl).drop
    replace HM := (HM.front 2 rfl rfl).drop
    replace HM := HM.front 1 rfl rfl
    replace HM := HM.front 2 rfl rfl
    replace HM := HM.front 2 rfl rfl
    have hcb0 := HM.box_at 0 rfl
    replace HM := (HM.front 0 rfl rfl).drop
    have hR := Option.some.inj H
    subst hR
    exact at_retN rfl rfl Try.underlying34 rfl tsz34 rfl hcb0 ⟨_, rfl, _, rfl, HM⟩
   ·replace H := cond_f hb3478 H
    refine run_seq ?_
    refine run_region rfl ?_
    refine ox rfl rfl rfl rfl (ex_eql rfl rfl rfl) ?_
    refine ox rfl rfl rfl rfl (ex_assign rfl rfl) ?_
    refine ops_nil (at_then ?_)
    refine run_cond (b := (t3411.1 == 3)) rfl (fun hb3494 => ?_) (fun hb3494 => ?_)
    ·replace H := cond_t hb3494 H
     refine run_region rfl ?_
     refine ox rfl rfl rfl rfl (ex_fieldAddr (off' := 0) rfl rfl Try.underlying34 rfl tsz32 rfl) ?_
     replace HM := HM.front 1 rfl rfl
     refine odS rfl rfl rfl (does_store (vs := [.slice none 0 0]) (cs' := [.slice none 0 0, .int .i64 t3395.1.fNeed, .int .i64 t3395.1.fAfter]) rfl rfl rfl rfl tsz32 (Ones.sl Ones.nil) rfl rfl HM) ?_
     rintro w3495 HM
     refine ops_nil ?_
     refine at_block ?_
     refine at_then ?_
     refine run_seq ?_
     refine run_region rfl ?_
     refine ox rfl rfl rfl rfl (ex_loadN (cs := [(.slice none 0 0), (.int .i64 t3395.1.fNeed), (.int .i64 t3395.1.fAfter)]) rfl rfl Try.underlying34 rfl tsz34 rfl ((HM.box_at 0 rfl).sub 0 3 rfl)) ?_
     replace HM := HM.front 3 rfl rfl
     refine odS rfl rfl rfl (does_store (vs := [.slice none 0 0, .int .i64 t3395.1.fNeed, .int .i64 t3395.1.fAfter]) (cs' := [.slice none 0 0, .int .i64 t3395.1.fNeed, .int .i64 t3395.1.fAfter]) rfl rfl rfl rfl tsz34 (Ones.sl (Ones.int (Ones.int Ones.nil))) rfl rfl HM) ?_
     rintro w3496 HM
     refine ops_nil (at_then ?_)
     refine run_ret ?_
     replace HM := HM.empty kInt 2 none
     replace HM := (HM.front 2 rfl rfl).drop
     replace HM := (HM.front 3 rfl rfl).drop
     replace HM := HM.front 2 rfl rfl
     replace HM := HM.front 1 rfl rfl
     replace HM := HM.front 2 rfl rfl
     have hcb0 := HM.box_at 0 rfl
     replace HM := (HM.front 0 rfl rfl).drop
     have hR := Option.some.inj H
     subst hR
     exact at_retN rfl rfl Try.underlying34 rfl tsz34 rfl hcb0 ⟨_, rfl, _, rfl, HM⟩
    ·replace H := cond_f hb3494 H
     refine run_skip ?_
     refine at_block ?_
     refine at_then ?_
     refine run_seq ?_
     refine run_region rfl ?_
     refine ox rfl rfl rfl rfl (ex_loadN (cs := [u3397, (.int .i64 t3395.1.fNeed), (.int .i64 t3395.1.fAfter)]) rfl rfl Try.underlying34 rfl tsz34 rfl ((HM.box_at 1 rfl).sub 0 3 rfl)) ?_
     replace HM := HM.front 3 rfl rfl
     refine odS rfl rfl rfl (does_store (vs := [u3397, .int .i64 t3395.1.fNeed, .int .i64 t3395.1.fAfter]) (cs' := [u3397, .int .i64 t3395.1.fNeed, .int .i64 t3395.1.fAfter]) rfl rfl rfl rfl tsz34 (Ones.rd (HM.own_rd 3 rfl) (Ones.int (Ones.int Ones.nil))) rfl rfl HM) ?_
     rintro w3498 HM
     refine ops_nil (at_then ?_)
     refine run_ret ?_
     replace HM := (HM.front 2 rfl rfl).drop
     replace HM := HM.front 1 rfl rfl
     replace HM := HM.front 2 rfl rfl
     replace HM := HM.front 2 rfl rfl
     have hcb0 := HM.box_at 0 rfl
     replace HM := (HM.front 0 rfl rfl).drop
     have hR := Option.some.inj H
     subst hR
     exact at_retN rfl rfl Try.underlying34 rfl tsz34 rfl hcb0 ⟨_, rfl, _, rfl, HM⟩

def spec_DrawPutCoins.f (k : Nat) (x0 : List Int) : Option ((List Coin) × Int × (List Out) × Int × Bool) := ((spec_l1Source.f k x0).bind fun t3625 => ((spec_l4Bent.f k (⟨x0, t3625⟩ : l1Src)).bind fun t3630 => ((spec_l4DrawOuts.f k (⟨x0, t3630.2⟩ : l1Src)).bind fun t3641 => (((spec_l1Next.f k (⟨x0, t3641.2⟩ : l1Src) 14).bind fun t3742 => (bif (t3742.1 == 0) then (chk (decide (0 ≤ (5 : Int))) (chk (leB (((5 : Int)).toNat * 48) 281474976710656) (some (t3742.2, List.replicate ((5 : Int)).toNat (⟨0, (⟨[], 0, 0⟩ : Rule)⟩ : Out))))) else (bif (t3742.1 == 1) then ((spec_l1Pick.f k (⟨x0, t3742.2⟩ : l1Src) ([0, 5] : List Int)).bind fun t3762 => ((spec_l2Bent.f k (⟨x0, t3762.2⟩ : l1Src)).bind fun t3770 => (chk (leB ((t3641.1.length + ([(⟨t3762.1, (⟨t3770.1.fKeys, t3770.1.fNeed, t3770.1.fAfter⟩ : Rule)⟩ : Out)] : List Out).length) * 48) 140737488355328) (some (t3770.2, t3641.1 ++ ([(⟨t3762.1, (⟨t3770.1.fKeys, t3770.1.fNeed, t3770.1.fAfter⟩ : Rule)⟩ : Out)] : List Out)))))) else some (t3742.2, t3641.1)))).bind (cur2 (fun a3736 a3738 => ((spec_l1Next.f k (⟨x0, a3736⟩ : l1Src) 9).bind fun t3792 => ((spec_l1Next.f k (⟨x0, t3792.2⟩ : l1Src) 9).bind fun t3800 => ((spec_l1Pick.f k (⟨x0, t3800.2⟩ : l1Src) ([wrap64 (7 + t3792.1), wrap64 (7 + t3800.1), 1, 60, 61, 0] : List Int)).bind fun t3811 => ((spec_l1Next.f k (⟨x0, t3811.2⟩ : l1Src) 9).bind fun t3819 => ((spec_l1Next.f k (⟨x0, t3819.2⟩ : l1Src) 9).bind fun t3827 => ((spec_l1Pick.f k (⟨x0, t3827.2⟩ : l1Src) ([t3819.1, t3827.1, 999, 1000] : List Int)).bind fun t3838 => ((spec_l1Chance.f k (⟨x0, t3838.2⟩ : l1Src) 2).bind fun t3846 => some (t3630.1, t3811.1, a3738, t3838.1, t3846.1))))))))))))))
theorem spec_DrawPutCoins.calls {k : Nat} {x0 : List Int} {p0 : Value} {w : World} (hp0 : RdS kU8 w p0 x0) {r : (List Coin) × Int × (List Out) × Int × Bool} (H : spec_DrawPutCoins.f k x0 = some r) :
  Calls Try.prog 5 ([p0] : List Value).toArray w (fun e w_ => ∃ v, e = .returned v ∧ ∃ u0 : Value, ∃ u1 : Value, v = (.tuple #[u0, .int .i64 r.2.1, u1, .int .i64 r.2.2.2.1, .bool r.2.2.2.2]) ∧ Mem w [] w_ [fro kCoin u0 r.1, own kOut 36 u1 r.2.2.1]) := by
 have HM := Mem.start w
 refine calls_run (N := 52) Try.func5 rfl rfl rfl rfl ?_
 unfold spec_DrawPutCoins.f at H
 refine run_seq ?_
 refine run_region rfl ?_
 refine ox rfl rfl rfl rfl (ex_assign rfl rfl) ?_
 refine ox rfl rfl rfl rfl (ex_assign rfl rfl) ?_
 refine ox rfl rfl rfl rfl (ex_assign rfl rfl) ?_
 refine ox rfl rfl rfl rfl (ex_assign rfl rfl) ?_
 refine ox rfl rfl rfl rfl (ex_assign rfl rfl) ?_
 refine ops_nil (at_then (run_seq ?_))
 obtain ⟨t3625, h3626, H⟩ := bind_some H
 refine run_region rfl ?_
 refine ox rfl rfl rfl rfl (ex_move rfl rfl) ?_
 refine od rfl rfl rfl rfl (does_callk rfl callok15 rfl (spec_l1Source.calls (x0 := x0) (HM.rd hp0) h3626)) ?_
 rintro _ w3629 ⟨b3627, rfl, hn⟩
 replace HM : Mem w [] w3629 [box b3627 76 [p0, .int .i64 t3625]] := HM.call hn
 refine ox rfl rfl rfl rfl (ex_assign rfl rfl) ?_
 refine ops_nil (at_then (run_seq ?_))
 obtain ⟨t3630, h3631, H⟩ := bind_some H
 refine run_region rfl ?_
 refine ox rfl rfl rfl rfl (ex_move rfl rfl) ?_
 obtain ⟨F3634, hF3635, hFn3636, hFl3637, HMh3638, hcl3639⟩ := HM.hide (Ms := [box b3627 76 [p0, .int .i64 t3625]])
 refine od rfl rfl rfl rfl (does_callk rfl callok16 rfl (spec_l4Bent.calls (x0 := (⟨x0, t3625⟩ : l1Src)) (hide_olds _ _) hF3635 hFn3636 hFl3637 (HMh3638.rd hp0) h3631)) ?_
 rintro u3632 w3640 ⟨_, rfl, hn⟩
 replace HM : Mem w [] w3640 [fro kCoin u3632 t3630.1, box b3627 76 [p0, .int .i64 t3630.2]] := hcl3639 _ _ hn
 refine ox rfl rfl rfl rfl (ex_assign rfl rfl) ?_
 refine ops_nil (at_then (run_seq ?_))
 obtain ⟨t3641, h3642, H⟩ := bind_some H
 refine run_region rfl ?_
 refine ox rfl rfl rfl rfl (ex_move rfl rfl) ?_
 replace HM := HM.front 1 rfl rfl
 obtain ⟨F3645, hF3646, hFn3647, hFl3648, HMh3649, hcl3650⟩ := HM.hide (Ms := [box b3627 76 [p0, .int .i64 t3630.2]])
 refine od rfl rfl rfl rfl (does_callk rfl callok17 rfl (spec_l4DrawOuts.calls (x0 := (⟨x0, t3630.2⟩ : l1Src)) (hide_olds _ _) hF3646 hFn3647 hFl3648 (HMh3649.rd hp0) h3642)) ?_
 rintro u3643 w3651 ⟨_, rfl, hn⟩
 replace HM : Mem w [] w3651 [own kOut 36 u3643 t3641.1, box b3627 76 [p0, .int .i64 t3641.2], fro kCoin u3632 t3630.1] := hcl3650 _ _ hn
 refine ox rfl rfl rfl rfl (ex_assign rfl rfl) ?_
 refine ops_nil (at_then ?_)
 obtain ⟨o3740, ho3741, H⟩ := bind_some H
 refine run_mid (fun ρ_ w_ => ∃ a3736 : Int, ∃ v3737 : Value, ∃ a3738 : List Out, (a3736, a3738) = o3740 ∧ ρ_ = [(7, .pointer (some ⟨b3627, 0, none⟩)), (8, u3632), (9, v3737)] ∧ Mem w [] w_ [box b3627 76 [p0, .int .i64 a3736], fro kCoin u3632 t3630.1, own kOut 36 v3737 a3738]) ?_ ?_
 ·clear H
  refine run_seq ?_
  obtain ⟨t3742, h3743, ho3741⟩ := bind_some ho3741
  refine run_region rfl ?_
  refine ox rfl rfl rfl rfl (ex_move rfl rfl) ?_
  replace HM := HM.front 1 rfl rfl
  obtain ⟨F3744, hF3745, hFn3746, hFl3747, HMh3748, hcl3749⟩ := HM.hide (Ms := [box b3627 76 [p0, .int .i64 t3641.2]])
  refine od rfl rfl rfl rfl (does_callk rfl callok18 rfl (spec_l1Next.calls (x0 := (⟨x0, t3641.2⟩ : l1Src)) (x1 := 14) (hide_olds _ _) hF3745 hFn3746 hFl3747 (HMh3748.rd hp0) h3743)) ?_
  rintro _ w3750 ⟨rfl, hn⟩
  replace HM : Mem w [] w3750 [box b3627 76 [p0, .int .i64 t3742.2], own kOut 36 u3643 t3641.1, fro kCoin u3632 t3630.1] := hcl3749 _ _ hn
  refine ops_nil (at_then ?_)
  refine run_block ?_
  refine run_seq ?_
  refine run_region rfl ?_
  refine ox rfl rfl rfl rfl (ex_eql rfl rfl rfl) ?_
  refine ox rfl rfl rfl rfl (ex_assign rfl rfl) ?_
  refine ops_nil (at_then ?_)
  refine run_cond (b := (t3742.1 == 0)) rfl (fun hb3751 => ?_) (fun hb3751 => ?_)
  ·replace ho3741 := cond_t hb3751 ho3741
   obtain ⟨e3755, ho3741⟩ := chk_some ho3741
   obtain ⟨e3756, ho3741⟩ := chk_some ho3741
   refine run_region rfl ?_
   refine od rfl rfl rfl rfl (does_make (x := (⟨0, (⟨[], 0, 0⟩ : Rule)⟩ : Out)) kOut rfl rfl rfl Try.underlying25 tsz36 tby36 tz36 rfl rfl (fun _ => ⟨.slice none 0 0, rfl, OwS.nil _ _ _ _⟩) (of_decide_eq_true e3755) rfl (leB_le e3756) rfl HM) ?_
   rintro v3752 w3757 HM
   refine ox rfl rfl rfl rfl (ex_assign rfl rfl) ?_
   refine ops_nil ?_
   refine at_block ?_
   replace HM := (HM.front 2 rfl rfl).drop
   replace HM := HM.front 2 rfl rfl
   replace HM := HM.front 2 rfl rfl
   exact at_mid (ρ' := [(7, .pointer (some ⟨b3627, 0, none⟩)), (8, u3632), (9, v3752)]) ⟨_, _, _, (Option.some.inj ho3741), rfl, HM⟩ (Sub.cons rfl (Sub.cons rfl (Sub.cons rfl Sub.nil)))
  ·replace ho3741 := cond_f hb3751 ho3741
   refine run_seq ?_
   refine run_region rfl ?_
   refine ox rfl rfl rfl rfl (ex_eql rfl rfl rfl) ?_
   refine ox rfl rfl rfl rfl (ex_assign rfl rfl) ?_
   refine ops_nil (at_then ?_)
   refine run_cond (b := (t3742.1 == 1)) rfl (fun hb3758 => ?_) (fun hb3758 => ?_)
   ·replace ho3741 := cond_t hb3758 ho3741
    obtain ⟨t3762, h3763, ho3741⟩ := bind_some ho3741
    obtain ⟨t3770, h3771, ho3741⟩ := bind_some ho3741
    obtain ⟨e3783, ho3741⟩ := chk_some ho3741
    refine run_region rfl ?_
    refine ox rfl rfl rfl rfl (ex_move rfl rfl) ?_
    refine ox rfl rfl rfl rfl (ex_move rfl rfl) ?_
    refine od rfl rfl rfl rfl (does_lit (e := 2) (cs := [.int .i64 0, .int .i64 5]) (xs := ([0, 5] : List Int)) kInt rfl rfl (fun _ => by kernel_rfl) rfl rfl (fun _ _ h => by have h' : _ = [] := h; subst h'; exact (Elems.cons (d := kInt) (x := 0) (f := []) ⟨rfl, rfl⟩ (Elems.cons (d := kInt) (x := 5) (f := []) ⟨rfl, rfl⟩ .nil))) HM.emp) ?_
    rintro v3759 w3786 HM
    replace HM := HM.front 1 rfl rfl
    obtain ⟨F3764, hF3765, hFn3766, hFl3767, HMh3768, hcl3769⟩ := HM.hide (Ms := [box b3627 76 [p0, .int .i64 t3742.2]])
    refine od rfl rfl rfl rfl (does_callk rfl callok19 rfl (spec_l1Pick.calls (x0 := (⟨x0, t3742.2⟩ : l1Src)) (x1 := ([0, 5] : List Int)) (hide_olds _ _) hF3765 hFn3766 hFl3767 (HMh3768.rd hp0) (HMh3768.own_rd 0 rfl) h3763)) ?_
    rintro _ w3787 ⟨rfl, hn⟩
    replace HM : Mem w [] w3787 [box b3627 76 [p0, .int .i64 t3762.2], own kInt 2 v3759 ([0, 5] : List Int), own kOut 36 u3643 t3641.1, fro kCoin u3632 t3630.1] := hcl3769 _ _ hn
    refine ox rfl rfl rfl rfl (ex_move rfl rfl) ?_
    obtain ⟨F3774, hF3775, hFn3776, hFl3777, HMh3778, hcl3779⟩ := HM.hide (Ms := [box b3627 76 [p0, .int .i64 t3762.2]])
    refine od rfl rfl rfl rfl (does_callk rfl callok20 rfl (spec_l2Bent.calls (x0 := (⟨x0, t3762.2⟩ : l1Src)) (hide_olds _ _) hF3775 hFn3776 hFl3777 (HMh3778.rd hp0) h3771)) ?_
    rintro _ w3788 ⟨u3772, rfl, hn⟩
    replace HM : Mem w [] w3788 [own kInt 2 u3772 t3770.1.fKeys, box b3627 76 [p0, .int .i64 t3770.2], own kInt 2 v3759 ([0, 5] : List Int), own kOut 36 u3643 t3641.1, fro kCoin u3632 t3630.1] := hcl3779 _ _ hn
    refine ox rfl rfl rfl rfl (ex_build1 (fun u3772 => [(0, .int .i64 t3762.1), (1, .agg #[u3772, (.int .i64 t3770.1.fNeed), (.int .i64 t3770.1.fAfter)])]) (fun u3772 => #[.int .i64 t3762.1, u3772, .int .i64 t3770.1.fNeed, .int .i64 t3770.1.fAfter]) rfl rfl (fun _ _ _ => by kernel_rfl) (HM.own_rd 0 rfl).isSl) ?_
    refine od rfl rfl rfl rfl (does_lit (e := 36) (cs := [(.int .i64 t3762.1), u3772, (.int .i64 t3770.1.fNeed), (.int .i64 t3770.1.fAfter)]) (xs := ([(⟨t3762.1, (⟨t3770.1.fKeys, t3770.1.fNeed, t3770.1.fAfter⟩ : Rule)⟩ : Out)] : List Out)) kOut rfl rfl (fun _ => by kernel_rfl) rfl rfl (fun _ _ h => by have := Elems.cons (d := kOut) (x := (⟨t3762.1, (⟨t3770.1.fKeys, t3770.1.fNeed, t3770.1.fAfter⟩ : Rule)⟩ : Out)) ⟨_, rfl, h⟩ .nil; rw [List.append_nil, List.append_nil] at this; exact this) HM) ?_
    rintro v3780 w3789 HM
    replace HM := HM.front 3 rfl rfl
    refine od rfl rfl rfl rfl (does_append kOut rfl rfl rfl Try.underlying25 tsz36 rfl tby36 tz36 rfl rfl (leB_le e3783) HM) ?_
    rintro v3784 w3790 HM
    refine ox rfl rfl rfl rfl (ex_assign rfl rfl) ?_
    refine ops_nil ?_
    refine at_block ?_
    replace HM := (HM.front 2 rfl rfl).drop
    replace HM := HM.front 2 rfl rfl
    replace HM := HM.front 2 rfl rfl
    exact at_mid (ρ' := [(7, .pointer (some ⟨b3627, 0, none⟩)), (8, u3632), (9, v3784)]) ⟨_, _, _, (Option.some.inj ho3741), rfl, HM⟩ (Sub.cons rfl (Sub.cons rfl (Sub.cons rfl Sub.nil)))
   ·replace ho3741 := cond_f hb3758 ho3741
    refine run_skip ?_
    refine at_block ?_
    replace HM := HM.front 1 rfl rfl
    replace HM := HM.front 2 rfl rfl
    replace HM := HM.front 2 rfl rfl
    exact at_mid (ρ' := [(7, .pointer (some ⟨b3627, 0, none⟩)), (8, u3632), (9, u3643)]) ⟨_, _, _, (Option.some.inj ho3741), rfl, HM⟩ (Sub.cons rfl (Sub.cons rfl (Sub.cons rfl Sub.nil)))
 ·rintro _ w3791 ⟨a3736, v3737, a3738, rfl, rfl, HM⟩
  replace H := cur2_mk H
  refine run_seq ?_
  obtain ⟨t3792, h3793, H⟩ := bind_some H
  obtain ⟨t3800, h3801, H⟩ := bind_some H
  obtain ⟨t3811, h3812, H⟩ := bind_some H
  obtain ⟨t3819, h3820, H⟩ := bind_some H
  obtain ⟨t3827, h3828, H⟩ := bind_some H
  obtain ⟨t3838, h3839, H⟩ := bind_some H
  obtain ⟨t3846, h3847, H⟩ := bind_some H
  refine run_region rfl ?_
  refine ox rfl rfl rfl rfl (ex_move rfl rfl) ?_
  refine ox rfl rfl rfl rfl (ex_move rfl rfl) ?_
  refine ox rfl rfl rfl rfl (ex_move rfl rfl) ?_
  obtain ⟨F3794, hF3795, hFn3796, hFl3797, HMh3798, hcl3799⟩ := HM.hide (Ms := [box b3627 76 [p0, .int .i64 a3736]])
  refine od rfl rfl rfl rfl (does_callk rfl callok18 rfl (spec_l1Next.calls (x0 := (⟨x0, a3736⟩ : l1Src)) (x1 := 9) (hide_olds _ _) hF3795 hFn3796 hFl3797 (HMh3798.rd hp0) h3793)) ?_
  rintro _ w3854 ⟨rfl, hn⟩
  replace HM : Mem w [] w3854 [box b3627 76 [p0, .int .i64 t3792.2], fro kCoin u3632 t3630.1, own kOut 36 v3737 a3738] := hcl3799 _ _ hn
  refine ox rfl rfl rfl rfl (ex_add rfl rfl rfl) ?_
  refine ox rfl rfl rfl rfl (ex_move rfl rfl) ?_
  obtain ⟨F3802, hF3803, hFn3804, hFl3805, HMh3806, hcl3807⟩ := HM.hide (Ms := [box b3627 76 [p0, .int .i64 t3792.2]])
  refine od rfl rfl rfl rfl (does_callk rfl callok18 rfl (spec_l1Next.calls (x0 := (⟨x0, t3792.2⟩ : l1Src)) (x1 := 9) (hide_olds _ _) hF3803 hFn3804 hFl3805 (HMh3806.rd hp0) h3801)) ?_
  rintro _ w3855 ⟨rfl, hn⟩
  replace HM : Mem w [] w3855 [box b3627 76 [p0, .int .i64 t3800.2], fro kCoin u3632 t3630.1, own kOut 36 v3737 a3738] := hcl3807 _ _ hn
  refine ox rfl rfl rfl rfl (ex_add rfl rfl rfl) ?_
  refine od rfl rfl rfl rfl (does_lit (e := 2) (cs := [.int .i64 (wrap64 (7 + t3792.1)), .int .i64 (wrap64 (7 + t3800.1)), .int .i64 1, .int .i64 60, .int .i64 61, .int .i64 0]) (xs := ([wrap64 (7 + t3792.1), wrap64 (7 + t3800.1), 1, 60, 61, 0] : List Int)) kInt rfl rfl (fun _ => by kernel_rfl) rfl rfl (fun _ _ h => by have h' : _ = [] := h; subst h'; exact (Elems.cons (d := kInt) (x := wrap64 (7 + t3792.1)) (f := []) ⟨rfl, rfl⟩ (Elems.cons (d := kInt) (x := wrap64 (7 + t3800.1)) (f := []) ⟨rfl, rfl⟩ (Elems.cons (d := kInt) (x := 1) (f := []) ⟨rfl, rfl⟩ (Elems.cons (d := kInt) (x := 60) (f := []) ⟨rfl, rfl⟩ (Elems.cons (d := kInt) (x := 61) (f := []) ⟨rfl, rfl⟩ (Elems.cons (d := kInt) (x := 0) (f := []) ⟨rfl, rfl⟩ .nil))))))) HM.emp) ?_
  rintro v3808 w3856 HM
  replace HM := HM.front 1 rfl rfl
  obtain ⟨F3813, hF3814, hFn3815, hFl3816, HMh3817, hcl3818⟩ := HM.hide (Ms := [box b3627 76 [p0, .int .i64 t3800.2]])
  refine od rfl rfl rfl rfl (does_callk rfl callok19 rfl (spec_l1Pick.calls (x0 := (⟨x0, t3800.2⟩ : l1Src)) (x1 := ([wrap64 (7 + t3792.1), wrap64 (7 + t3800.1), 1, 60, 61, 0] : List Int)) (hide_olds _ _) hF3814 hFn3815 hFl3816 (HMh3817.rd hp0) (HMh3817.own_rd 0 rfl) h3812)) ?_
  rintro _ w3857 ⟨rfl, hn⟩
  replace HM : Mem w [] w3857 [box b3627 76 [p0, .int .i64 t3811.2], own kInt 2 v3808 ([wrap64 (7 + t3792.1), wrap64 (7 + t3800.1), 1, 60, 61, 0] : List Int), fro kCoin u3632 t3630.1, own kOut 36 v3737 a3738] := hcl3818 _ _ hn
  refine ox rfl rfl rfl rfl (ex_move rfl rfl) ?_
  refine ox rfl rfl rfl rfl (ex_move rfl rfl) ?_
  refine ox rfl rfl rfl rfl (ex_move rfl rfl) ?_
  obtain ⟨F3821, hF3822, hFn3823, hFl3824, HMh3825, hcl3826⟩ := HM.hide (Ms := [box b3627 76 [p0, .int .i64 t3811.2]])
  refine od rfl rfl rfl rfl (does_callk rfl callok18 rfl (spec_l1Next.calls (x0 := (⟨x0, t3811.2⟩ : l1Src)) (x1 := 9) (hide_olds _ _) hF3822 hFn3823 hFl3824 (HMh3825.rd hp0) h3820)) ?_
  rintro _ w3858 ⟨rfl, hn⟩
  replace HM : Mem w [] w3858 [box b3627 76 [p0, .int .i64 t3819.2], own kInt 2 v3808 ([wrap64 (7 + t3792.1), wrap64 (7 + t3800.1), 1, 60, 61, 0] : List Int), fro kCoin u3632 t3630.1, own kOut 36 v3737 a3738] := hcl3826 _ _ hn
  refine ox rfl rfl rfl rfl (ex_move rfl rfl) ?_
  obtain ⟨F3829, hF3830, hFn3831, hFl3832, HMh3833, hcl3834⟩ := HM.hide (Ms := [box b3627 76 [p0, .int .i64 t3819.2]])
  refine od rfl rfl rfl rfl (does_callk rfl callok18 rfl (spec_l1Next.calls (x0 := (⟨x0, t3819.2⟩ : l1Src)) (x1 := 9) (hide_olds _ _) hF3830 hFn3831 hFl3832 (HMh3833.rd hp0) h3828)) ?_
  rintro _ w3859 ⟨rfl, hn⟩
  replace HM : Mem w [] w3859 [box b3627 76 [p0, .int .i64 t3827.2], own kInt 2 v3808 ([wrap64 (7 + t3792.1), wrap64 (7 + t3800.1), 1, 60, 61, 0] : List Int), fro kCoin u3632 t3630.1, own kOut 36 v3737 a3738] := hcl3834 _ _ hn
  refine od rfl rfl rfl rfl (does_lit (e := 2) (cs := [.int .i64 t3819.1, .int .i64 t3827.1, .int .i64 999, .int .i64 1000]) (xs := ([t3819.1, t3827.1, 999, 1000] : List Int)) kInt rfl rfl (fun _ => by kernel_rfl) rfl rfl (fun _ _ h => by have h' : _ = [] := h; subst h'; exact (Elems.cons (d := kInt) (x := t3819.1) (f := []) ⟨rfl, rfl⟩ (Elems.cons (d := kInt) (x := t3827.1) (f := []) ⟨rfl, rfl⟩ (Elems.cons (d := kInt) (x := 999) (f := []) ⟨rfl, rfl⟩ (Elems.cons (d := kInt) (x := 1000) (f := []) ⟨rfl, rfl⟩ .nil))))) HM.emp) ?_
  rintro v3835 w3860 HM
  replace HM := HM.front 1 rfl rfl
  obtain ⟨F3840, hF3841, hFn3842, hFl3843, HMh3844, hcl3845⟩ := HM.hide (Ms := [box b3627 76 [p0, .int .i64 t3827.2]])
  refine od rfl rfl rfl rfl (does_callk rfl callok19 rfl (spec_l1Pick.calls (x0 := (⟨x0, t3827.2⟩ : l1Src)) (x1 := ([t3819.1, t3827.1, 999, 1000] : List Int)) (hide_olds _ _) hF3841 hFn3842 hFl3843 (HMh3844.rd hp0) (HMh3844.own_rd 0 rfl) h3839)) ?_
  rintro _ w3861 ⟨rfl, hn⟩
  replace HM : Mem w [] w3861 [box b3627 76 [p0, .int .i64 t3838.2], own kInt 2 v3835 ([t3819.1, t3827.1, 999, 1000] : List Int), own kInt 2 v3808 ([wrap64 (7 + t3792.1), wrap64 (7 + t3800.1), 1, 60, 61, 0] : List Int), fro kCoin u3632 t3630.1, own kOut 36 v3737 a3738] := hcl3845 _ _ hn
  refine ox rfl rfl rfl rfl (ex_move rfl rfl) ?_
  obtain ⟨F3848, hF3849, hFn3850, hFl3851, HMh3852, hcl3853⟩ := HM.hide (Ms := [box b3627 76 [p0, .int .i64 t3838.2]])
  refine od rfl rfl rfl rfl (does_callk rfl callok21 rfl (spec_l1Chance.calls (x0 := (⟨x0, t3838.2⟩ : l1Src)) (x1 := 2) (hide_olds _ _) hF3849 hFn3850 hFl3851 (HMh3852.rd hp0) h3847)) ?_
  rintro _ w3862 ⟨rfl, hn⟩
  replace HM : Mem w [] w3862 [box b3627 76 [p0, .int .i64 t3846.2], own kInt 2 v3835 ([t3819.1, t3827.1, 999, 1000] : List Int), own kInt 2 v3808 ([wrap64 (7 + t3792.1), wrap64 (7 + t3800.1), 1, 60, 61, 0] : List Int), fro kCoin u3632 t3630.1, own kOut 36 v3737 a3738] := hcl3853 _ _ hn
  refine ox rfl rfl rfl rfl (ex_assign rfl rfl) ?_
  refine ox rfl rfl rfl rfl (ex_assign rfl rfl) ?_
  refine ox rfl rfl rfl rfl (ex_assign rfl rfl) ?_
  refine ox rfl rfl rfl rfl (ex_assign rfl rfl) ?_
  refine ox rfl rfl rfl rfl (ex_assign rfl rfl) ?_
  refine ops_nil (at_then ?_)
  refine run_ret ?_
  replace HM := (HM.front 0 rfl rfl).drop
  replace HM := (HM.front 0 rfl rfl).drop
  replace HM := (HM.front 0 rfl rfl).drop
  have hR := Option.some.inj H
  subst hR
  exact at_rets rfl (Rs.tmp rfl (Rs.tmp rfl (Rs.tmp rfl (Rs.tmp rfl (Rs.tmp rfl Rs.nil))))) rfl ⟨_, rfl, _, _, rfl, HM⟩
end Go.Proofs.Ytecgbhfgkkpmhaa.Zk
