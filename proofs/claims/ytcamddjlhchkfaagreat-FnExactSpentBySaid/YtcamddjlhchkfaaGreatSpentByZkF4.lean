/- What functions of the program compute, each as a plain function, and that they do. Conditions: as each theorem states them. -/
import Derived.Test.YtcamddjlhchkfaaGreatSpentByZkF3
namespace Go.Proofs.YtcamddjlhchkfaaGreat.Zk
open Go Go.RowKit Go.IntWalk Go.Proofs
set_option linter.unusedVariables false
set_option linter.unusedSimpArgs false
set_option maxRecDepth 100000
set_option maxHeartbeats 4000000
def impl_RuleFault.f (k : Nat) (x0 : Rule) : Option Int := ((impl_within.f k (x0.fKeys.length : Int) 1 3).bind fun t2875 => (bif !t2875 then some 2 else ((impl_areKeys.f k x0.fKeys).bind fun t2879 => ((bif (!(!t2879)) then impl_within.f k x0.fNeed 1 (x0.fKeys.length : Int) else some default).bind fun t2881 => ((bif (!((!t2879) || (!t2881))) then impl_isHeight.f k x0.fAfter else some default).bind fun t2883 => (bif (((!t2879) || (!t2881)) || (!t2883)) then some 3 else ((impl_isRising.f k x0.fKeys).bind fun t2895 => (bif !t2895 then some 1 else some 0))))))))
theorem impl_RuleFault.calls {k : Nat} {x0 : Rule} {p0_0 : Value} {w : World} (hp0_0 : RdS kInt w p0_0 x0.fKeys) {r : Int} (H : impl_RuleFault.f k x0 = some r) :
    Calls Tryz.prog 67 ([.agg #[p0_0, (.int .i64 x0.fNeed), (.int .i64 x0.fAfter)]] : List Value).toArray w (fun e w_ => ∃ v, e = .returned v ∧ v = (.int .i64 r) ∧ Mem w [] w_ []) := by
  have HM := Mem.start w
  refine calls_run (N := 34) Tryz.func67 rfl rfl rfl rfl ?_
  unfold impl_RuleFault.f at H
  refine run_seq ?_
  refine run_region rfl ?_
  refine ops_does rfl (guard_none rfl) rfl rfl (does_box (cs := [p0_0, .int .i64 x0.fNeed, .int .i64 x0.fAfter]) rfl rfl rfl HM) ?_
  rintro _ w2874 ⟨b2871, rfl, HM⟩
  refine ops_ex rfl (guard_none rfl) rfl rfl (ex_assign rfl rfl) ?_
  refine ops_nil ?_
  refine at_then ?_
  refine run_seq ?_
  refine run_region rfl ?_
  refine ops_ex rfl (guard_none rfl) rfl rfl (ex_fieldAddr (off' := 0) rfl rfl Tryz.underlying73 rfl tsz60 rfl) ?_
  refine ops_ex rfl (guard_none rfl) rfl rfl (ex_load1 rfl rfl Tryz.underlying60 rfl ((HM.box_at 0 rfl) 0 _ rfl)) ?_
  refine ops_ex rfl (guard_none rfl) rfl rfl (ex_len (d := kInt) (xs := x0.fKeys) rfl rfl Tryz.underlying60 hp0_0) ?_
  refine ops_ex rfl (guard_none rfl) rfl rfl (ex_assign rfl rfl) ?_
  refine ops_nil ?_
  refine at_then ?_
  refine run_seq ?_
  refine run_block ?_
  refine run_seq ?_
  obtain ⟨t2875, h2876, H⟩ := bind_some H
  refine run_region rfl ?_
  refine ops_ex rfl (guard_none rfl) rfl rfl (ex_move rfl rfl) ?_
  refine ops_does rfl (guard_none rfl) rfl rfl (does_callk rfl callok66 rfl (impl_within.calls (x0 := (x0.fKeys.length : Int)) (x1 := 1) (x2 := 3) h2876)) ?_
  rintro _ w2877 ⟨rfl, hn⟩
  replace HM : Mem w [] w2877 [box b2871 73 [p0_0, .int .i64 x0.fNeed, .int .i64 x0.fAfter]] := HM.call hn
  refine ops_ex rfl (guard_none rfl) rfl rfl (ex_not rfl rfl) ?_
  refine ops_ex rfl (guard_none rfl) rfl rfl (ex_assign rfl rfl) ?_
  refine ops_nil ?_
  refine at_then ?_
  refine run_cond (b := !t2875) rfl (fun hb2878 => ?_) (fun hb2878 => ?_)
  · replace H := cond_t hb2878 H
    refine run_seq ?_
    refine run_region rfl ?_
    refine ops_ex rfl (guard_none rfl) rfl rfl (ex_assign rfl rfl) ?_
    refine ops_nil ?_
    refine at_then ?_
    refine run_ret ?_
    refine at_block_ret ?_
    refine at_then_ret ?_
    replace HM := (HM.front 0 rfl rfl).drop
    have hR := Option.some.inj H
    subst hR
    exact at_ret1 rfl rfl ⟨_, rfl, rfl, HM⟩
  · replace H := cond_f hb2878 H
    refine run_seq ?_
    obtain ⟨t2879, h2880, H⟩ := bind_some H
    obtain ⟨t2881, h2882, H⟩ := bind_some H
    obtain ⟨t2883, h2884, H⟩ := bind_some H
    refine run_meet (fun ρ_ w_ => ρ_ = [(1, .pointer (some ⟨b2871, 0, none⟩)), (11, .bool (((!t2879) || (!t2881)) || (!t2883)))] ∧ Mem w [] w_ [box b2871 73 [p0_0, .int .i64 x0.fNeed, .int .i64 x0.fAfter]]) ?_ ?_
    · skip
      refine run_region rfl ?_
      refine ops_ex rfl (guard_none rfl) rfl rfl (ex_fieldAddr (off' := 0) rfl rfl Tryz.underlying73 rfl tsz60 rfl) ?_
      refine ops_ex rfl (guard_none rfl) rfl rfl (ex_load1 rfl rfl Tryz.underlying60 rfl ((HM.box_at 0 rfl) 0 _ rfl)) ?_
      refine ops_does rfl (guard_none rfl) rfl rfl (does_callk rfl callok109 rfl (impl_areKeys.calls (x0 := x0.fKeys) (HM.rd hp0_0) h2880)) ?_
      rintro _ w2885 ⟨rfl, hn⟩
      replace HM : Mem w [] w2885 [box b2871 73 [p0_0, .int .i64 x0.fNeed, .int .i64 x0.fAfter]] := HM.call hn
      refine ops_ex rfl (guard_none rfl) rfl rfl (ex_not rfl rfl) ?_
      refine ops_ex rfl (guard_none rfl) rfl rfl (ex_move rfl rfl) ?_
      refine bool_cases (!t2879) (fun hg2886 => ?_) (fun hg2886 => ?_)
      · skip
        refine ops_off rfl (guard_off rfl rfl rfl hg2886) rfl rfl ?_
        refine ops_off rfl (guard_off rfl rfl rfl hg2886) rfl rfl ?_
        refine ops_off rfl (guard_off rfl rfl rfl hg2886) rfl rfl ?_
        refine ops_off rfl (guard_off rfl rfl rfl hg2886) rfl rfl ?_
        refine ops_off rfl (guard_off rfl rfl rfl hg2886) rfl rfl ?_
        have hg2887 : ((!t2879) || (!t2881)) = true := by simp only [hg2886, Bool.and_true, Bool.true_and, Bool.and_false, Bool.false_and, Bool.or_true, Bool.true_or, Bool.or_false, Bool.false_or, Bool.not_true, Bool.not_false, Bool.not_not]
        refine ops_ex (v := .bool ((!t2879) || (!t2881))) rfl (guard_none rfl) rfl rfl (ex_por_t rfl rfl hg2886) ?_
        refine ops_ex rfl (guard_none rfl) rfl rfl (ex_move rfl rfl) ?_
        refine ops_off rfl (guard_off rfl rfl rfl hg2887) rfl rfl ?_
        refine ops_off rfl (guard_off rfl rfl rfl hg2887) rfl rfl ?_
        refine ops_off rfl (guard_off rfl rfl rfl hg2887) rfl rfl ?_
        refine ops_off rfl (guard_off rfl rfl rfl hg2887) rfl rfl ?_
        have hg2888 : (((!t2879) || (!t2881)) || (!t2883)) = true := by simp only [hg2887, Bool.and_true, Bool.true_and, Bool.and_false, Bool.false_and, Bool.or_true, Bool.true_or, Bool.or_false, Bool.false_or, Bool.not_true, Bool.not_false, Bool.not_not]
        refine ops_ex (v := .bool (((!t2879) || (!t2881)) || (!t2883))) rfl (guard_none rfl) rfl rfl (ex_por_t rfl rfl hg2887) ?_
        refine ops_ex rfl (guard_none rfl) rfl rfl (ex_assign rfl rfl) ?_
        refine ops_nil ?_
        exact at_meet [(1, .pointer (some ⟨b2871, 0, none⟩)), (11, .bool (((!t2879) || (!t2881)) || (!t2883)))] ⟨rfl, HM⟩ (Sub.cons rfl (Sub.cons rfl Sub.nil))
      · skip
        refine ops_ex rfl (guard_on rfl rfl rfl hg2886) rfl rfl (ex_fieldAddr (off' := 1) rfl rfl Tryz.underlying73 rfl tsz2 rfl) ?_
        refine ops_ex rfl (guard_on rfl rfl rfl hg2886) rfl rfl (ex_load1 rfl rfl Tryz.underlying2 rfl ((HM.box_at 0 rfl) 1 _ rfl)) ?_
        refine ops_ex rfl (guard_on rfl rfl rfl hg2886) rfl rfl (ex_move rfl rfl) ?_
        refine ops_does rfl (guard_on rfl rfl rfl hg2886) rfl rfl (does_callk rfl callok66 rfl (impl_within.calls (x0 := x0.fNeed) (x1 := 1) (x2 := (x0.fKeys.length : Int)) (cond_t (not_mk hg2886) h2882))) ?_
        rintro _ w2889 ⟨rfl, hn⟩
        replace HM : Mem w [] w2889 [box b2871 73 [p0_0, .int .i64 x0.fNeed, .int .i64 x0.fAfter]] := HM.call hn
        refine ops_ex rfl (guard_on rfl rfl rfl hg2886) rfl rfl (ex_not rfl rfl) ?_
        refine ops_ex (v := .bool ((!t2879) || (!t2881))) rfl (guard_none rfl) rfl rfl (ex_por_f rfl rfl hg2886 rfl) ?_
        refine ops_ex rfl (guard_none rfl) rfl rfl (ex_move rfl rfl) ?_
        refine bool_cases ((!t2879) || (!t2881)) (fun hg2890 => ?_) (fun hg2890 => ?_)
        · skip
          refine ops_off rfl (guard_off rfl rfl rfl hg2890) rfl rfl ?_
          refine ops_off rfl (guard_off rfl rfl rfl hg2890) rfl rfl ?_
          refine ops_off rfl (guard_off rfl rfl rfl hg2890) rfl rfl ?_
          refine ops_off rfl (guard_off rfl rfl rfl hg2890) rfl rfl ?_
          have hg2891 : (((!t2879) || (!t2881)) || (!t2883)) = true := by simp only [hg2890, Bool.and_true, Bool.true_and, Bool.and_false, Bool.false_and, Bool.or_true, Bool.true_or, Bool.or_false, Bool.false_or, Bool.not_true, Bool.not_false, Bool.not_not]
          refine ops_ex (v := .bool (((!t2879) || (!t2881)) || (!t2883))) rfl (guard_none rfl) rfl rfl (ex_por_t rfl rfl hg2890) ?_
          refine ops_ex rfl (guard_none rfl) rfl rfl (ex_assign rfl rfl) ?_
          refine ops_nil ?_
          exact at_meet [(1, .pointer (some ⟨b2871, 0, none⟩)), (11, .bool (((!t2879) || (!t2881)) || (!t2883)))] ⟨rfl, HM⟩ (Sub.cons rfl (Sub.cons rfl Sub.nil))
        · skip
          refine ops_ex rfl (guard_on rfl rfl rfl hg2890) rfl rfl (ex_fieldAddr (off' := 2) rfl rfl Tryz.underlying73 rfl tsz2 rfl) ?_
          refine ops_ex rfl (guard_on rfl rfl rfl hg2890) rfl rfl (ex_load1 rfl rfl Tryz.underlying2 rfl ((HM.box_at 0 rfl) 2 _ rfl)) ?_
          refine ops_does rfl (guard_on rfl rfl rfl hg2890) rfl rfl (does_callk rfl callok65 rfl (impl_isHeight.calls (x0 := x0.fAfter) (cond_t (not_mk hg2890) h2884))) ?_
          rintro _ w2892 ⟨rfl, hn⟩
          replace HM : Mem w [] w2892 [box b2871 73 [p0_0, .int .i64 x0.fNeed, .int .i64 x0.fAfter]] := HM.call hn
          refine ops_ex rfl (guard_on rfl rfl rfl hg2890) rfl rfl (ex_not rfl rfl) ?_
          refine ops_ex (v := .bool (((!t2879) || (!t2881)) || (!t2883))) rfl (guard_none rfl) rfl rfl (ex_por_f rfl rfl hg2890 rfl) ?_
          refine ops_ex rfl (guard_none rfl) rfl rfl (ex_assign rfl rfl) ?_
          refine ops_nil ?_
          exact at_meet [(1, .pointer (some ⟨b2871, 0, none⟩)), (11, .bool (((!t2879) || (!t2881)) || (!t2883)))] ⟨rfl, HM⟩ (Sub.cons rfl (Sub.cons rfl Sub.nil))
    · rintro _ w2893 ⟨rfl, HM⟩
      refine at_then ?_
      refine run_cond (b := (((!t2879) || (!t2881)) || (!t2883))) rfl (fun hb2894 => ?_) (fun hb2894 => ?_)
      · replace H := cond_t hb2894 H
        refine run_seq ?_
        refine run_region rfl ?_
        refine ops_ex rfl (guard_none rfl) rfl rfl (ex_assign rfl rfl) ?_
        refine ops_nil ?_
        refine at_then ?_
        refine run_ret ?_
        refine at_block_ret ?_
        refine at_then_ret ?_
        replace HM := (HM.front 0 rfl rfl).drop
        have hR := Option.some.inj H
        subst hR
        exact at_ret1 rfl rfl ⟨_, rfl, rfl, HM⟩
      · replace H := cond_f hb2894 H
        refine run_seq ?_
        obtain ⟨t2895, h2896, H⟩ := bind_some H
        refine run_region rfl ?_
        refine ops_ex rfl (guard_none rfl) rfl rfl (ex_fieldAddr (off' := 0) rfl rfl Tryz.underlying73 rfl tsz60 rfl) ?_
        refine ops_ex rfl (guard_none rfl) rfl rfl (ex_load1 rfl rfl Tryz.underlying60 rfl ((HM.box_at 0 rfl) 0 _ rfl)) ?_
        refine ops_does rfl (guard_none rfl) rfl rfl (does_callk rfl callok110 rfl (impl_isRising.calls (x0 := x0.fKeys) (HM.rd hp0_0) h2896)) ?_
        rintro _ w2897 ⟨rfl, hn⟩
        replace HM : Mem w [] w2897 [box b2871 73 [p0_0, .int .i64 x0.fNeed, .int .i64 x0.fAfter]] := HM.call hn
        refine ops_ex rfl (guard_none rfl) rfl rfl (ex_not rfl rfl) ?_
        refine ops_ex rfl (guard_none rfl) rfl rfl (ex_assign rfl rfl) ?_
        refine ops_nil ?_
        refine at_then ?_
        refine run_cond (b := !t2895) rfl (fun hb2898 => ?_) (fun hb2898 => ?_)
        · replace H := cond_t hb2898 H
          refine run_seq ?_
          refine run_region rfl ?_
          refine ops_ex rfl (guard_none rfl) rfl rfl (ex_assign rfl rfl) ?_
          refine ops_nil ?_
          refine at_then ?_
          refine run_ret ?_
          refine at_block_ret ?_
          refine at_then_ret ?_
          replace HM := (HM.front 0 rfl rfl).drop
          have hR := Option.some.inj H
          subst hR
          exact at_ret1 rfl rfl ⟨_, rfl, rfl, HM⟩
        · replace H := cond_f hb2898 H
          refine run_skip ?_
          refine at_block ?_
          refine at_then ?_
          refine run_seq ?_
          refine run_region rfl ?_
          refine ops_ex rfl (guard_none rfl) rfl rfl (ex_assign rfl rfl) ?_
          refine ops_nil ?_
          refine at_then ?_
          refine run_ret ?_
          replace HM := (HM.front 0 rfl rfl).drop
          have hR := Option.some.inj H
          subst hR
          exact at_ret1 rfl rfl ⟨_, rfl, rfl, HM⟩

def cmp_isNaN_int64.f (k : Nat) (x0 : Int) : Option Bool := some (x0 != x0)
theorem cmp_isNaN_int64.calls {k : Nat} {x0 : Int}  {w : World}  {r : Bool} (H : cmp_isNaN_int64.f k x0 = some r) :
    Calls Tryz.prog 144 ([.int .i64 x0] : List Value).toArray w (fun e w_ => ∃ v, e = .returned v ∧ v = (.bool r) ∧ Mem w [] w_ []) := by
  have HM := Mem.start w
  refine calls_run (N := 6) Tryz.func144 rfl rfl rfl rfl ?_
  unfold cmp_isNaN_int64.f at H
  refine run_seq ?_
  refine run_region rfl ?_
  refine ops_ex rfl (guard_none rfl) rfl rfl (ex_assign rfl rfl) ?_
  refine ops_nil ?_
  refine at_then ?_
  refine run_seq ?_
  refine run_region rfl ?_
  refine ops_ex rfl (guard_none rfl) rfl rfl (ex_move rfl rfl) ?_
  refine ops_ex rfl (guard_none rfl) rfl rfl (ex_move rfl rfl) ?_
  refine ops_ex rfl (guard_none rfl) rfl rfl (ex_neq rfl rfl rfl) ?_
  refine ops_ex rfl (guard_none rfl) rfl rfl (ex_assign rfl rfl) ?_
  refine ops_nil ?_
  refine at_then ?_
  refine run_ret ?_
  have hR := Option.some.inj H
  subst hR
  exact at_ret1 rfl rfl ⟨_, rfl, rfl, HM⟩

def cmp_Compare_int64.f (k : Nat) (x0 : Int) (x1 : Int) : Option Int := ((cmp_isNaN_int64.f k x0).bind fun t2928 => ((cmp_isNaN_int64.f k x1).bind fun t2931 => (bif t2928 then (bif t2931 then some 0 else some (-1)) else (bif t2931 then some 1 else (bif (decide (x0 < x1)) then some (-1) else (bif (decide (x1 < x0)) then some 1 else some 0))))))
theorem cmp_Compare_int64.calls {k : Nat} {x0 : Int} {x1 : Int}  {w : World}  {r : Int} (H : cmp_Compare_int64.f k x0 x1 = some r) :
    Calls Tryz.prog 112 ([.int .i64 x0, .int .i64 x1] : List Value).toArray w (fun e w_ => ∃ v, e = .returned v ∧ v = (.int .i64 r) ∧ Mem w [] w_ []) := by
  have HM := Mem.start w
  refine calls_run (N := 20) Tryz.func112 rfl rfl rfl rfl ?_
  unfold cmp_Compare_int64.f at H
  refine run_seq ?_
  refine run_region rfl ?_
  refine ops_ex rfl (guard_none rfl) rfl rfl (ex_assign rfl rfl) ?_
  refine ops_nil ?_
  refine at_then ?_
  refine run_seq ?_
  obtain ⟨t2928, h2929, H⟩ := bind_some H
  refine run_region rfl ?_
  refine ops_ex rfl (guard_none rfl) rfl rfl (ex_move rfl rfl) ?_
  refine ops_does rfl (guard_none rfl) rfl rfl (does_callk rfl callok144 rfl (cmp_isNaN_int64.calls (x0 := x0) h2929)) ?_
  rintro _ w2930 ⟨rfl, hn⟩
  replace HM : Mem w [] w2930 [] := HM.call hn
  refine ops_ex rfl (guard_none rfl) rfl rfl (ex_assign rfl rfl) ?_
  refine ops_nil ?_
  refine at_then ?_
  refine run_seq ?_
  obtain ⟨t2931, h2932, H⟩ := bind_some H
  refine run_region rfl ?_
  refine ops_ex rfl (guard_none rfl) rfl rfl (ex_move rfl rfl) ?_
  refine ops_does rfl (guard_none rfl) rfl rfl (does_callk rfl callok144 rfl (cmp_isNaN_int64.calls (x0 := x1) h2932)) ?_
  rintro _ w2933 ⟨rfl, hn⟩
  replace HM : Mem w [] w2933 [] := HM.call hn
  refine ops_ex rfl (guard_none rfl) rfl rfl (ex_assign rfl rfl) ?_
  refine ops_nil ?_
  refine at_then ?_
  refine run_seq ?_
  refine run_seq ?_
  refine run_region rfl ?_
  refine ops_ex rfl (guard_none rfl) rfl rfl (ex_move rfl rfl) ?_
  refine ops_nil ?_
  refine at_then ?_
  refine run_cond (b := t2928) rfl (fun hb2936 => ?_) (fun hb2936 => ?_)
  · replace H := cond_t hb2936 H
    refine run_seq ?_
    refine run_seq ?_
    refine run_region rfl ?_
    refine ops_ex rfl (guard_none rfl) rfl rfl (ex_move rfl rfl) ?_
    refine ops_nil ?_
    refine at_then ?_
    refine run_cond (b := t2931) rfl (fun hb2937 => ?_) (fun hb2937 => ?_)
    · replace H := cond_t hb2937 H
      refine run_seq ?_
      refine run_region rfl ?_
      refine ops_ex rfl (guard_none rfl) rfl rfl (ex_assign rfl rfl) ?_
      refine ops_nil ?_
      refine at_then ?_
      refine run_ret ?_
      refine at_then_ret ?_
      refine at_then_ret ?_
      have hR := Option.some.inj H
      subst hR
      exact at_ret1 rfl rfl ⟨_, rfl, rfl, HM⟩
    · replace H := cond_f hb2937 H
      refine run_skip ?_
      refine at_then ?_
      refine run_seq ?_
      refine run_region rfl ?_
      refine ops_ex rfl (guard_none rfl) rfl rfl (ex_assign rfl rfl) ?_
      refine ops_nil ?_
      refine at_then ?_
      refine run_ret ?_
      refine at_then_ret ?_
      have hR := Option.some.inj H
      subst hR
      exact at_ret1 rfl rfl ⟨_, rfl, rfl, HM⟩
  · replace H := cond_f hb2936 H
    refine run_skip ?_
    refine at_then ?_
    refine run_seq ?_
    refine run_seq ?_
    refine run_region rfl ?_
    refine ops_ex rfl (guard_none rfl) rfl rfl (ex_move rfl rfl) ?_
    refine ops_nil ?_
    refine at_then ?_
    refine run_cond (b := t2931) rfl (fun hb2939 => ?_) (fun hb2939 => ?_)
    · replace H := cond_t hb2939 H
      refine run_seq ?_
      refine run_region rfl ?_
      refine ops_ex rfl (guard_none rfl) rfl rfl (ex_assign rfl rfl) ?_
      refine ops_nil ?_
      refine at_then ?_
      refine run_ret ?_
      refine at_then_ret ?_
      have hR := Option.some.inj H
      subst hR
      exact at_ret1 rfl rfl ⟨_, rfl, rfl, HM⟩
    · replace H := cond_f hb2939 H
      refine run_skip ?_
      refine at_then ?_
      refine run_seq ?_
      refine run_seq ?_
      refine run_region rfl ?_
      refine ops_ex rfl (guard_none rfl) rfl rfl (ex_move rfl rfl) ?_
      refine ops_ex rfl (guard_none rfl) rfl rfl (ex_move rfl rfl) ?_
      refine ops_ex rfl (guard_none rfl) rfl rfl (ex_lss rfl rfl rfl) ?_
      refine ops_nil ?_
      refine at_then ?_
      refine run_cond (b := (decide (x0 < x1))) rfl (fun hb2941 => ?_) (fun hb2941 => ?_)
      · replace H := cond_t hb2941 H
        refine run_seq ?_
        refine run_region rfl ?_
        refine ops_ex rfl (guard_none rfl) rfl rfl (ex_assign rfl rfl) ?_
        refine ops_nil ?_
        refine at_then ?_
        refine run_ret ?_
        refine at_then_ret ?_
        have hR := Option.some.inj H
        subst hR
        exact at_ret1 rfl rfl ⟨_, rfl, rfl, HM⟩
      · replace H := cond_f hb2941 H
        refine run_skip ?_
        refine at_then ?_
        refine run_seq ?_
        refine run_seq ?_
        refine run_region rfl ?_
        refine ops_ex rfl (guard_none rfl) rfl rfl (ex_move rfl rfl) ?_
        refine ops_ex rfl (guard_none rfl) rfl rfl (ex_move rfl rfl) ?_
        refine ops_ex rfl (guard_none rfl) rfl rfl (ex_gtr rfl rfl rfl) ?_
        refine ops_nil ?_
        refine at_then ?_
        refine run_cond (b := (decide (x1 < x0))) rfl (fun hb2942 => ?_) (fun hb2942 => ?_)
        · replace H := cond_t hb2942 H
          refine run_seq ?_
          refine run_region rfl ?_
          refine ops_ex rfl (guard_none rfl) rfl rfl (ex_assign rfl rfl) ?_
          refine ops_nil ?_
          refine at_then ?_
          refine run_ret ?_
          refine at_then_ret ?_
          have hR := Option.some.inj H
          subst hR
          exact at_ret1 rfl rfl ⟨_, rfl, rfl, HM⟩
        · replace H := cond_f hb2942 H
          refine run_skip ?_
          refine at_then ?_
          refine run_seq ?_
          refine run_region rfl ?_
          refine ops_ex rfl (guard_none rfl) rfl rfl (ex_assign rfl rfl) ?_
          refine ops_nil ?_
          refine at_then ?_
          refine run_ret ?_
          have hR := Option.some.inj H
          subst hR
          exact at_ret1 rfl rfl ⟨_, rfl, rfl, HM⟩

def cmp_Or_int.l0 (x0 : List Int) : Nat → Int → Option (Int ⊕ Unit)
  | 0, _ => none
  | k + 1, a2984 => (bif (decide (a2984 < (x0.length : Int))) then (chk (idxOk a2984 x0.length) (bif ((gt x0 a2984) != 0) then some (.inl (gt x0 a2984)) else cmp_Or_int.l0 x0 k (wrap64 (a2984 + 1)))) else some (.inr ()))
theorem cmp_Or_int.l0_z (x0 : List Int) (a2984 : Int) : cmp_Or_int.l0 x0 0 a2984 = none := rfl
theorem cmp_Or_int.l0_s (x0 : List Int) (k : Nat) (a2984 : Int) : cmp_Or_int.l0 x0 (k + 1) a2984 = (bif (decide (a2984 < (x0.length : Int))) then (chk (idxOk a2984 x0.length) (bif ((gt x0 a2984) != 0) then some (.inl (gt x0 a2984)) else cmp_Or_int.l0 x0 k (wrap64 (a2984 + 1)))) else some (.inr ())) := rfl
def cmp_Or_int.f (k : Nat) (x0 : List Int) : Option Int := ((cmp_Or_int.l0 x0 k 0).bind fun o2978 => thn o2978 (fun r => some r) (fun _ => some 0))
theorem cmp_Or_int.calls {k : Nat} {x0 : List Int} {p0 : Value} {w : World} (hp0 : RdS kInt w p0 x0) {r : Int} (H : cmp_Or_int.f k x0 = some r) :
    Calls Tryz.prog 111 ([p0] : List Value).toArray w (fun e w_ => ∃ v, e = .returned v ∧ v = (.int .i64 r) ∧ Mem w [] w_ []) := by
  have HM := Mem.start w
  refine calls_run (N := 18) Tryz.func111 rfl rfl rfl rfl ?_
  unfold cmp_Or_int.f at H
  refine run_seq ?_
  refine run_region rfl ?_
  refine ops_ex rfl (guard_none rfl) rfl rfl (ex_assign rfl rfl) ?_
  refine ops_nil ?_
  refine at_then ?_
  refine run_seq ?_
  refine run_region rfl ?_
  refine ops_ex rfl (guard_none rfl) rfl rfl (ex_assign rfl rfl) ?_
  refine ops_nil ?_
  refine at_then ?_
  obtain ⟨o2978, ho2979, H⟩ := bind_some H
  refine run_mid (fun ρ_ w_ => Sum.inr () = o2978 ∧ ρ_ = [(3, .int .i64 0)] ∧ Mem w [] w_ []) ?_ ?_
  · skip
    refine run_seq ?_
    refine run_region rfl ?_
    refine ops_ex rfl (guard_none rfl) rfl rfl (ex_move rfl rfl) ?_
    refine ops_ex rfl (guard_none rfl) rfl rfl (ex_len (d := kInt) (xs := x0) rfl rfl Tryz.underlying179 hp0) ?_
    refine ops_ex rfl (guard_none rfl) rfl rfl (ex_move rfl rfl) ?_
    refine ops_nil ?_
    refine at_then ?_
    refine run_block ?_
    refine run_loop (fun k_ ρ_ w_ => ∃ a2984 : Int, cmp_Or_int.l0 x0 k_ a2984 = some o2978 ∧ ρ_ = [(3, .int .i64 0), (6, p0), (7, .int .i64 (x0.length : Int)), (8, .int .i64 a2984)] ∧ Mem w [] w_ []) k (ρ1 := [(3, .int .i64 0), (6, p0), (7, .int .i64 (x0.length : Int)), (8, .int .i64 0)]) ⟨_, ho2979, rfl, HM⟩ (Sub.cons rfl (Sub.cons rfl (Sub.cons rfl (Sub.cons rfl Sub.nil)))) ?_
    clear HM ho2979
    rintro k2989 _ w2990 ⟨a2984, ho2979, rfl, HM⟩
    obtain _ | k2989 := k2989
    · exact nomatch ((cmp_Or_int.l0_z x0 a2984).symm.trans ho2979)
    replace ho2979 := (cmp_Or_int.l0_s x0 k2989 a2984).symm.trans ho2979
    refine run_seq ?_
    refine run_region rfl ?_
    refine ops_ex rfl (guard_none rfl) rfl rfl (ex_lss rfl rfl rfl) ?_
    refine ops_nil ?_
    refine at_then ?_
    refine run_seq ?_
    refine run_cond (b := (decide (a2984 < (x0.length : Int)))) rfl (fun hb2991 => ?_) (fun hb2991 => ?_)
    · replace ho2979 := cond_t hb2991 ho2979
      refine run_skip ?_
      refine at_then ?_
      refine run_seq ?_
      refine run_block ?_
      refine run_seq ?_
      obtain ⟨e2992, ho2979⟩ := chk_some ho2979
      refine run_region rfl ?_
      have hc2993 : CellsAt _ (sb p0) (so p0 + (a2984).toNat * 1) [(.int .i64 (gt x0 a2984))] := rd_plain hp0 e2992
      refine ops_ex rfl (guard_none rfl) rfl rfl (ex_indexAddr (d := kInt) rfl rfl rfl Tryz.underlying179 tsz3 hp0 (idx_lo e2992) (idx_hi e2992)) ?_
      refine ops_ex rfl (guard_none rfl) rfl rfl (ex_load1 rfl rfl Tryz.underlying3 rfl ((HM.at_ hc2993) 0 _ rfl)) ?_
      refine ops_ex rfl (guard_none rfl) rfl rfl (ex_assign rfl rfl) ?_
      refine ops_nil ?_
      refine at_then ?_
      refine run_seq ?_
      refine run_region rfl ?_
      refine ops_ex rfl (guard_none rfl) rfl rfl (ex_move rfl rfl) ?_
      refine ops_ex rfl (guard_none rfl) rfl rfl (ex_move rfl rfl) ?_
      refine ops_ex rfl (guard_none rfl) rfl rfl (ex_neq rfl rfl rfl) ?_
      refine ops_nil ?_
      refine at_then ?_
      refine run_cond (b := ((gt x0 a2984) != 0)) rfl (fun hb2994 => ?_) (fun hb2994 => ?_)
      · replace ho2979 := cond_t hb2994 ho2979
        refine run_seq ?_
        refine run_region rfl ?_
        refine ops_ex rfl (guard_none rfl) rfl rfl (ex_move rfl rfl) ?_
        refine ops_ex rfl (guard_none rfl) rfl rfl (ex_assign rfl rfl) ?_
        refine ops_nil ?_
        refine at_then ?_
        refine run_ret ?_
        refine at_block_ret ?_
        refine at_then_ret ?_
        refine at_then_ret ?_
        refine at_block_ret ?_
        refine at_then_ret ?_
        have hR := Option.some.inj ho2979
        subst hR
        have hT := thn_inl H
        have hR := Option.some.inj hT
        subst hR
        exact at_ret1 rfl rfl ⟨_, rfl, rfl, HM⟩
      · replace ho2979 := cond_f hb2994 ho2979
        refine run_skip ?_
        refine at_block ?_
        refine at_then ?_
        refine run_region rfl ?_
        refine ops_ex rfl (guard_none rfl) rfl rfl (ex_add rfl rfl rfl) ?_
        refine ops_ex rfl (guard_none rfl) rfl rfl (ex_move rfl rfl) ?_
        refine ops_nil ?_
        exact at_again k2989 (ρ1 := [(3, .int .i64 0), (6, p0), (7, .int .i64 (x0.length : Int)), (8, .int .i64 (wrap64 (a2984 + 1)))]) (Nat.lt_succ_self _) ⟨_, ho2979, rfl, HM⟩ (Sub.cons rfl (Sub.cons rfl (Sub.cons rfl (Sub.cons rfl Sub.nil))))
    · replace ho2979 := cond_f hb2991 ho2979
      refine run_exit ?_
      refine at_then_exit ?_
      refine at_then_exit ?_
      refine at_block_exit ?_
      exact at_mid (ρ' := [(3, .int .i64 0)]) ⟨(Option.some.inj ho2979), rfl, HM⟩ (Sub.cons rfl Sub.nil)
  · rintro _ w2995 ⟨rfl, rfl, HM⟩
    replace H := (thn_inr H)
    refine run_seq ?_
    refine run_region rfl ?_
    refine ops_ex rfl (guard_none rfl) rfl rfl (ex_move rfl rfl) ?_
    refine ops_ex rfl (guard_none rfl) rfl rfl (ex_assign rfl rfl) ?_
    refine ops_nil ?_
    refine at_then ?_
    refine run_ret ?_
    have hR := Option.some.inj H
    subst hR
    exact at_ret1 rfl rfl ⟨_, rfl, rfl, HM⟩

def impl_compareRefs.f (k : Nat) (x0 : Ref) (x1 : Ref) : Option Int := ((cmp_Compare_int64.f k x0.fTx x1.fTx).bind fun t3006 => ((cmp_Compare_int64.f k x0.fAt x1.fAt).bind fun t3008 => ((cmp_Or_int.f k ([t3006, t3008] : List Int)).bind fun t3013 => some t3013)))
theorem impl_compareRefs.calls {k : Nat} {x0 : Ref} {x1 : Ref}  {w : World}  {r : Int} (H : impl_compareRefs.f k x0 x1 = some r) :
    Calls Tryz.prog 68 ([.agg #[(.int .i64 x0.fTx), (.int .i64 x0.fAt)], .agg #[(.int .i64 x1.fTx), (.int .i64 x1.fAt)]] : List Value).toArray w (fun e w_ => ∃ v, e = .returned v ∧ v = (.int .i64 r) ∧ Mem w [] w_ []) := by
  have HM := Mem.start w
  refine calls_run (N := 17) Tryz.func68 rfl rfl rfl rfl ?_
  unfold impl_compareRefs.f at H
  refine run_seq ?_
  refine run_region rfl ?_
  refine ops_does rfl (guard_none rfl) rfl rfl (does_box (cs := [.int .i64 x0.fTx, .int .i64 x0.fAt]) rfl rfl rfl HM) ?_
  rintro _ w3004 ⟨b2998, rfl, HM⟩
  refine ops_does rfl (guard_none rfl) rfl rfl (does_box (cs := [.int .i64 x1.fTx, .int .i64 x1.fAt]) rfl rfl rfl HM) ?_
  rintro _ w3005 ⟨b3001, rfl, HM⟩
  refine ops_ex rfl (guard_none rfl) rfl rfl (ex_assign rfl rfl) ?_
  refine ops_nil ?_
  refine at_then ?_
  refine run_seq ?_
  obtain ⟨t3006, h3007, H⟩ := bind_some H
  obtain ⟨t3008, h3009, H⟩ := bind_some H
  obtain ⟨t3013, h3014, H⟩ := bind_some H
  refine run_drawf (fun w_ => Mem w [] w_ [box b3001 56 [.int .i64 x1.fTx, .int .i64 x1.fAt], box b2998 56 [.int .i64 x0.fTx, .int .i64 x0.fAt]]) [(0, true), (1, true), (2, true), (3, true), (5, true), (6, true), (7, true), (8, true), (4, false), (9, false), (10, false), (11, false), (12, true)] mixed rfl rfl (by kernel_rfl) ?_
  replace HM := HM.grow (fr_drew _)
  have hS := Mem.suf (M := []) HM
  refine drwp_take rfl (guard_none rfl) rfl rfl (fun w_ hS_ => (ex_fieldAddr (off' := 0) rfl rfl Tryz.underlying56 rfl tsz2 rfl)) hS ?_
  refine drwp_take rfl (guard_none rfl) rfl rfl (fun w_ hS_ => (ex_load1 rfl rfl Tryz.underlying2 rfl ((hS_.box_at 1 rfl) 0 _ rfl))) hS ?_
  refine drwp_take rfl (guard_none rfl) rfl rfl (fun w_ hS_ => (ex_fieldAddr (off' := 0) rfl rfl Tryz.underlying56 rfl tsz2 rfl)) hS ?_
  refine drwp_take rfl (guard_none rfl) rfl rfl (fun w_ hS_ => (ex_load1 rfl rfl Tryz.underlying2 rfl ((hS_.box_at 0 rfl) 0 _ rfl))) hS ?_
  refine drwp_take rfl (guard_none rfl) rfl rfl (fun w_ hS_ => (ex_fieldAddr (off' := 1) rfl rfl Tryz.underlying56 rfl tsz2 rfl)) hS ?_
  refine drwp_take rfl (guard_none rfl) rfl rfl (fun w_ hS_ => (ex_load1 rfl rfl Tryz.underlying2 rfl ((hS_.box_at 1 rfl) 1 _ rfl))) hS ?_
  refine drwp_take rfl (guard_none rfl) rfl rfl (fun w_ hS_ => (ex_fieldAddr (off' := 1) rfl rfl Tryz.underlying56 rfl tsz2 rfl)) hS ?_
  refine drwp_take rfl (guard_none rfl) rfl rfl (fun w_ hS_ => (ex_load1 rfl rfl Tryz.underlying2 rfl ((hS_.box_at 0 rfl) 1 _ rfl))) hS ?_
  refine drwp_one rfl (guard_none rfl) rfl rfl (does_callk rfl callok112 rfl (cmp_Compare_int64.calls (x0 := x0.fTx) (x1 := x1.fTx) h3007)) ?_
  rintro _ w3015 ⟨rfl, hn⟩
  replace HM : Mem w [] w3015 [box b3001 56 [.int .i64 x1.fTx, .int .i64 x1.fAt], box b2998 56 [.int .i64 x0.fTx, .int .i64 x0.fAt]] := HM.call hn
  refine ⟨Mem.suf (M := []) HM, ?_⟩
  have hS := Mem.suf (M := []) HM
  refine drwp_one rfl (guard_none rfl) rfl rfl (does_callk rfl callok112 rfl (cmp_Compare_int64.calls (x0 := x0.fAt) (x1 := x1.fAt) h3009)) ?_
  rintro _ w3016 ⟨rfl, hn⟩
  replace HM : Mem w [] w3016 [box b3001 56 [.int .i64 x1.fTx, .int .i64 x1.fAt], box b2998 56 [.int .i64 x0.fTx, .int .i64 x0.fAt]] := HM.call hn
  refine ⟨Mem.suf (M := []) HM, ?_⟩
  have hS := Mem.suf (M := []) HM
  refine drwp_one rfl (guard_none rfl) rfl rfl (does_lit (e := 3) (cs := [.int .i64 t3006, .int .i64 t3008]) (xs := ([t3006, t3008] : List Int)) kInt rfl rfl (fun _ => by kernel_rfl) rfl rfl (fun _ _ h => by have h' : _ = [] := h; subst h'; exact (Elems.cons (d := kInt) (x := t3006) (f := []) ⟨rfl, rfl⟩ (Elems.cons (d := kInt) (x := t3008) (f := []) ⟨rfl, rfl⟩ .nil))) HM.emp) ?_
  rintro v3010 w3017 HM
  refine ⟨Mem.suf (M := [own kInt 3 v3010 ([t3006, t3008] : List Int)]) HM, ?_⟩
  have hS := Mem.suf (M := [own kInt 3 v3010 ([t3006, t3008] : List Int)]) HM
  refine drwp_one rfl (guard_none rfl) rfl rfl (does_callk rfl callok111 rfl (cmp_Or_int.calls (x0 := ([t3006, t3008] : List Int)) (HM.own_rd 0 rfl) h3014)) ?_
  rintro _ w3018 ⟨rfl, hn⟩
  replace HM : Mem w [] w3018 [own kInt 3 v3010 ([t3006, t3008] : List Int), box b3001 56 [.int .i64 x1.fTx, .int .i64 x1.fAt], box b2998 56 [.int .i64 x0.fTx, .int .i64 x0.fAt]] := HM.call hn
  refine ⟨Mem.suf (M := [own kInt 3 v3010 ([t3006, t3008] : List Int)]) HM, ?_⟩
  have hS := Mem.suf (M := [own kInt 3 v3010 ([t3006, t3008] : List Int)]) HM
  refine drwp_take rfl (guard_none rfl) rfl rfl (fun w_ hS_ => (ex_assign rfl rfl)) hS ?_
  refine drwp_done ?_
  refine at_then ?_
  refine run_ret ?_
  replace HM := (HM.front 0 rfl rfl).drop
  replace HM := (HM.front 0 rfl rfl).drop
  replace HM := (HM.front 0 rfl rfl).drop
  have hR := Option.some.inj H
  subst hR
  exact at_ret1 rfl rfl ⟨_, rfl, rfl, HM⟩

def impl_CoinsFault.l0 (x0 : List Coin) : Nat → Int → Option (Int ⊕ Unit)
  | 0, _ => none
  | k + 1, a3240 => (bif (decide (a3240 < (x0.length : Int))) then (chk (idxOk a3240 x0.length) ((impl_isRef.f k ((gt x0 a3240).fRef)).bind fun t3295 => ((bif (!(!t3295)) then impl_isHeight.f k ((gt x0 a3240).fHeight) else some default).bind fun t3297 => ((bif (!((!t3295) || (!t3297))) then impl_within.f k ((gt x0 a3240).fOut.fValue) 1 1000000 else some default).bind fun t3299 => (bif (((!t3295) || (!t3297)) || (!t3299)) then some (.inl 3) else ((impl_RuleFault.f k ((gt x0 a3240).fOut.fRule)).bind fun t3314 => (bif (t3314 != 0) then some (.inl t3314) else (chk (!(decide (0 < a3240)) || (idxOk (wrap64 (a3240 - 1)) x0.length)) ((bif (decide (0 < a3240)) then impl_compareRefs.f k ((gt x0 (wrap64 (a3240 - 1))).fRef) ((gt x0 a3240).fRef) else some default).bind fun t3322 => (bif ((decide (0 < a3240)) && (decide (0 ≤ t3322))) then some (.inl 1) else impl_CoinsFault.l0 x0 k (wrap64 (a3240 + 1)))))))))))) else some (.inr ()))
theorem impl_CoinsFault.l0_z (x0 : List Coin) (a3240 : Int) : impl_CoinsFault.l0 x0 0 a3240 = none := rfl
theorem impl_CoinsFault.l0_s (x0 : List Coin) (k : Nat) (a3240 : Int) : impl_CoinsFault.l0 x0 (k + 1) a3240 = (bif (decide (a3240 < (x0.length : Int))) then (chk (idxOk a3240 x0.length) ((impl_isRef.f k ((gt x0 a3240).fRef)).bind fun t3295 => ((bif (!(!t3295)) then impl_isHeight.f k ((gt x0 a3240).fHeight) else some default).bind fun t3297 => ((bif (!((!t3295) || (!t3297))) then impl_within.f k ((gt x0 a3240).fOut.fValue) 1 1000000 else some default).bind fun t3299 => (bif (((!t3295) || (!t3297)) || (!t3299)) then some (.inl 3) else ((impl_RuleFault.f k ((gt x0 a3240).fOut.fRule)).bind fun t3314 => (bif (t3314 != 0) then some (.inl t3314) else (chk (!(decide (0 < a3240)) || (idxOk (wrap64 (a3240 - 1)) x0.length)) ((bif (decide (0 < a3240)) then impl_compareRefs.f k ((gt x0 (wrap64 (a3240 - 1))).fRef) ((gt x0 a3240).fRef) else some default).bind fun t3322 => (bif ((decide (0 < a3240)) && (decide (0 ≤ t3322))) then some (.inl 1) else impl_CoinsFault.l0 x0 k (wrap64 (a3240 + 1)))))))))))) else some (.inr ())) := rfl
def impl_CoinsFault.f (k : Nat) (x0 : List Coin) : Option Int := (bif (decide (40 < (x0.length : Int))) then some 2 else ((impl_CoinsFault.l0 x0 k 0).bind fun o3203 => thn o3203 (fun r => some r) (fun _ => some 0)))
theorem impl_CoinsFault.calls {k : Nat} {x0 : List Coin} {p0 : Value} {w : World} (hp0 : RdS kCoin w p0 x0) {r : Int} (H : impl_CoinsFault.f k x0 = some r) :
    Calls Tryz.prog 28 ([p0] : List Value).toArray w (fun e w_ => ∃ v, e = .returned v ∧ v = (.int .i64 r) ∧ Mem w [] w_ []) := by
  have HM := Mem.start w
  refine calls_run (N := 55) Tryz.func28 rfl rfl rfl rfl ?_
  unfold impl_CoinsFault.f at H
  refine run_seq ?_
  refine run_region rfl ?_
  refine ops_ex rfl (guard_none rfl) rfl rfl (ex_assign rfl rfl) ?_
  refine ops_nil ?_
  refine at_then ?_
  refine run_seq ?_
  refine run_seq ?_
  refine run_region rfl ?_
  refine ops_ex rfl (guard_none rfl) rfl rfl (ex_move rfl rfl) ?_
  refine ops_ex rfl (guard_none rfl) rfl rfl (ex_len (d := kCoin) (xs := x0) rfl rfl Tryz.underlying29 hp0) ?_
  refine ops_ex rfl (guard_none rfl) rfl rfl (ex_gtr rfl rfl rfl) ?_
  refine ops_nil ?_
  refine at_then ?_
  refine run_cond (b := (decide (40 < (x0.length : Int)))) rfl (fun hb3096 => ?_) (fun hb3096 => ?_)
  · replace H := cond_t hb3096 H
    refine run_seq ?_
    refine run_region rfl ?_
    refine ops_ex rfl (guard_none rfl) rfl rfl (ex_assign rfl rfl) ?_
    refine ops_nil ?_
    refine at_then ?_
    refine run_ret ?_
    refine at_then_ret ?_
    have hR := Option.some.inj H
    subst hR
    exact at_ret1 rfl rfl ⟨_, rfl, rfl, HM⟩
  · replace H := cond_f hb3096 H
    refine run_skip ?_
    refine at_then ?_
    obtain ⟨o3203, ho3204, H⟩ := bind_some H
    refine run_mid (fun ρ_ w_ => Sum.inr () = o3203 ∧ ρ_ = [] ∧ Mem w [] w_ []) ?_ ?_
    · skip
      refine run_seq ?_
      refine run_region rfl ?_
      refine ops_ex rfl (guard_none rfl) rfl rfl (ex_move rfl rfl) ?_
      refine ops_ex rfl (guard_none rfl) rfl rfl (ex_len (d := kCoin) (xs := x0) rfl rfl Tryz.underlying29 hp0) ?_
      refine ops_ex rfl (guard_none rfl) rfl rfl (ex_move rfl rfl) ?_
      refine ops_nil ?_
      refine at_then ?_
      refine run_block ?_
      refine run_loop (fun k_ ρ_ w_ => ∃ a3240 : Int, impl_CoinsFault.l0 x0 k_ a3240 = some o3203 ∧ ρ_ = [(0, p0), (9, p0), (10, .int .i64 (x0.length : Int)), (11, .int .i64 a3240)] ∧ Mem w [] w_ []) k (ρ1 := [(0, p0), (9, p0), (10, .int .i64 (x0.length : Int)), (11, .int .i64 0)]) ⟨_, ho3204, rfl, HM⟩ (Sub.cons rfl (Sub.cons rfl (Sub.cons rfl (Sub.cons rfl Sub.nil)))) ?_
      clear HM ho3204
      rintro k3276 _ w3277 ⟨a3240, ho3204, rfl, HM⟩
      obtain _ | k3276 := k3276
      · exact nomatch ((impl_CoinsFault.l0_z x0 a3240).symm.trans ho3204)
      replace ho3204 := (impl_CoinsFault.l0_s x0 k3276 a3240).symm.trans ho3204
      refine run_seq ?_
      refine run_region rfl ?_
      refine ops_ex rfl (guard_none rfl) rfl rfl (ex_lss rfl rfl rfl) ?_
      refine ops_nil ?_
      refine at_then ?_
      refine run_seq ?_
      refine run_cond (b := (decide (a3240 < (x0.length : Int)))) rfl (fun hb3278 => ?_) (fun hb3278 => ?_)
      · replace ho3204 := cond_t hb3278 ho3204
        refine run_skip ?_
        refine at_then ?_
        refine run_seq ?_
        refine run_block ?_
        refine run_seq ?_
        obtain ⟨e3279, ho3204⟩ := chk_some ho3204
        refine run_region rfl ?_
        refine ops_ex rfl (guard_none rfl) rfl rfl (ex_move rfl rfl) ?_
        obtain ⟨kv3281, hc3280, hk3282⟩ : ∃ u, CellsAt _ (sb p0) (so p0 + (a3240).toNat * 8) [(.int .i64 ((gt x0 a3240).fRef.fTx)), (.int .i64 ((gt x0 a3240).fRef.fAt)), (.int .i64 ((gt x0 a3240).fOut.fValue)), u, (.int .i64 ((gt x0 a3240).fOut.fRule.fNeed)), (.int .i64 ((gt x0 a3240).fOut.fRule.fAfter)), (.int .i64 ((gt x0 a3240).fHeight)), (.bool ((gt x0 a3240).fMined))] ∧ RdS kInt _ u ((gt x0 a3240).fOut.fRule.fKeys) := rd_with1 hp0 e3279
        refine ops_ex rfl (guard_none rfl) rfl rfl (ex_indexAddr (d := kCoin) rfl rfl rfl Tryz.underlying29 tsz77 hp0 (idx_lo e3279) (idx_hi e3279)) ?_
        refine ops_ex rfl (guard_none rfl) rfl rfl (ex_loadN (cs := [(.int .i64 ((gt x0 a3240).fRef.fTx)), (.int .i64 ((gt x0 a3240).fRef.fAt)), (.int .i64 ((gt x0 a3240).fOut.fValue)), kv3281, (.int .i64 ((gt x0 a3240).fOut.fRule.fNeed)), (.int .i64 ((gt x0 a3240).fOut.fRule.fAfter)), (.int .i64 ((gt x0 a3240).fHeight)), (.bool ((gt x0 a3240).fMined))]) rfl rfl Tryz.underlying77 rfl tsz77 rfl ((HM.at_ hc3280).sub 0 8 rfl)) ?_
        refine ops_does rfl (guard_none rfl) rfl rfl (does_alloc (cs := [.int .i64 0, .int .i64 0, .int .i64 0, .slice none 0 0, .int .i64 0, .int .i64 0, .int .i64 0, .bool false]) rfl tz77 rfl HM) ?_
        rintro _ w3286 ⟨b3283, rfl, HM⟩
        refine ops_ex rfl (guard_none rfl) rfl rfl (ex_assign rfl rfl) ?_
        refine ops_doesS rfl (guard_none rfl) rfl (does_store (vs := [.int .i64 ((gt x0 a3240).fRef.fTx), .int .i64 ((gt x0 a3240).fRef.fAt), .int .i64 ((gt x0 a3240).fOut.fValue), kv3281, .int .i64 ((gt x0 a3240).fOut.fRule.fNeed), .int .i64 ((gt x0 a3240).fOut.fRule.fAfter), .int .i64 ((gt x0 a3240).fHeight), .bool ((gt x0 a3240).fMined)]) (cs' := [.int .i64 ((gt x0 a3240).fRef.fTx), .int .i64 ((gt x0 a3240).fRef.fAt), .int .i64 ((gt x0 a3240).fOut.fValue), kv3281, .int .i64 ((gt x0 a3240).fOut.fRule.fNeed), .int .i64 ((gt x0 a3240).fOut.fRule.fAfter), .int .i64 ((gt x0 a3240).fHeight), .bool ((gt x0 a3240).fMined)]) rfl rfl rfl rfl tsz77 (Ones.int (Ones.int (Ones.int (Ones.rd hk3282 (Ones.int (Ones.int (Ones.int (Ones.bool Ones.nil)))))))) rfl rfl HM) ?_
        rintro w3287 HM
        refine ops_nil ?_
        refine at_then ?_
        refine run_seq ?_
        refine run_seq ?_
        obtain ⟨t3295, h3296, ho3204⟩ := bind_some ho3204
        obtain ⟨t3297, h3298, ho3204⟩ := bind_some ho3204
        obtain ⟨t3299, h3300, ho3204⟩ := bind_some ho3204
        refine run_meet (fun ρ_ w_ => ρ_ = [(0, p0), (9, p0), (10, .int .i64 (x0.length : Int)), (11, .int .i64 a3240), (4, .pointer (some ⟨b3283, 0, none⟩)), (3, .int .i64 a3240), (32, .bool (((!t3295) || (!t3297)) || (!t3299)))] ∧ Mem w [] w_ [box b3283 77 [.int .i64 ((gt x0 a3240).fRef.fTx), .int .i64 ((gt x0 a3240).fRef.fAt), .int .i64 ((gt x0 a3240).fOut.fValue), kv3281, .int .i64 ((gt x0 a3240).fOut.fRule.fNeed), .int .i64 ((gt x0 a3240).fOut.fRule.fAfter), .int .i64 ((gt x0 a3240).fHeight), .bool ((gt x0 a3240).fMined)]]) ?_ ?_
        · skip
          refine run_region rfl ?_
          refine ops_ex rfl (guard_none rfl) rfl rfl (ex_fieldAddr (off' := 0) rfl rfl Tryz.underlying77 rfl tsz56 rfl) ?_
          refine ops_ex rfl (guard_none rfl) rfl rfl (ex_loadN (cs := [(.int .i64 ((gt x0 a3240).fRef.fTx)), (.int .i64 ((gt x0 a3240).fRef.fAt))]) rfl rfl Tryz.underlying56 rfl tsz56 rfl ((HM.box_at 0 rfl).sub 0 2 rfl)) ?_
          refine ops_does rfl (guard_none rfl) rfl rfl (does_callk rfl callok64 rfl (impl_isRef.calls (x0 := (gt x0 a3240).fRef) h3296)) ?_
          rintro _ w3301 ⟨rfl, hn⟩
          replace HM : Mem w [] w3301 [box b3283 77 [.int .i64 ((gt x0 a3240).fRef.fTx), .int .i64 ((gt x0 a3240).fRef.fAt), .int .i64 ((gt x0 a3240).fOut.fValue), kv3281, .int .i64 ((gt x0 a3240).fOut.fRule.fNeed), .int .i64 ((gt x0 a3240).fOut.fRule.fAfter), .int .i64 ((gt x0 a3240).fHeight), .bool ((gt x0 a3240).fMined)]] := HM.call hn
          refine ops_ex rfl (guard_none rfl) rfl rfl (ex_not rfl rfl) ?_
          refine ops_ex rfl (guard_none rfl) rfl rfl (ex_move rfl rfl) ?_
          refine bool_cases (!t3295) (fun hg3302 => ?_) (fun hg3302 => ?_)
          · skip
            refine ops_off rfl (guard_off rfl rfl rfl hg3302) rfl rfl ?_
            refine ops_off rfl (guard_off rfl rfl rfl hg3302) rfl rfl ?_
            refine ops_off rfl (guard_off rfl rfl rfl hg3302) rfl rfl ?_
            refine ops_off rfl (guard_off rfl rfl rfl hg3302) rfl rfl ?_
            have hg3303 : ((!t3295) || (!t3297)) = true := by simp only [hg3302, Bool.and_true, Bool.true_and, Bool.and_false, Bool.false_and, Bool.or_true, Bool.true_or, Bool.or_false, Bool.false_or, Bool.not_true, Bool.not_false, Bool.not_not]
            refine ops_ex (v := .bool ((!t3295) || (!t3297))) rfl (guard_none rfl) rfl rfl (ex_por_t rfl rfl hg3302) ?_
            refine ops_ex rfl (guard_none rfl) rfl rfl (ex_move rfl rfl) ?_
            refine ops_off rfl (guard_off rfl rfl rfl hg3303) rfl rfl ?_
            refine ops_off rfl (guard_off rfl rfl rfl hg3303) rfl rfl ?_
            refine ops_off rfl (guard_off rfl rfl rfl hg3303) rfl rfl ?_
            refine ops_off rfl (guard_off rfl rfl rfl hg3303) rfl rfl ?_
            refine ops_off rfl (guard_off rfl rfl rfl hg3303) rfl rfl ?_
            have hg3304 : (((!t3295) || (!t3297)) || (!t3299)) = true := by simp only [hg3303, Bool.and_true, Bool.true_and, Bool.and_false, Bool.false_and, Bool.or_true, Bool.true_or, Bool.or_false, Bool.false_or, Bool.not_true, Bool.not_false, Bool.not_not]
            refine ops_ex (v := .bool (((!t3295) || (!t3297)) || (!t3299))) rfl (guard_none rfl) rfl rfl (ex_por_t rfl rfl hg3303) ?_
            refine ops_nil ?_
            exact at_meet [(0, p0), (9, p0), (10, .int .i64 (x0.length : Int)), (11, .int .i64 a3240), (4, .pointer (some ⟨b3283, 0, none⟩)), (3, .int .i64 a3240), (32, .bool (((!t3295) || (!t3297)) || (!t3299)))] ⟨rfl, HM⟩ (Sub.cons rfl (Sub.cons rfl (Sub.cons rfl (Sub.cons rfl (Sub.cons rfl (Sub.cons rfl (Sub.cons rfl Sub.nil)))))))
          · skip
            refine ops_ex rfl (guard_on rfl rfl rfl hg3302) rfl rfl (ex_fieldAddr (off' := 6) rfl rfl Tryz.underlying77 rfl tsz2 rfl) ?_
            refine ops_ex rfl (guard_on rfl rfl rfl hg3302) rfl rfl (ex_load1 rfl rfl Tryz.underlying2 rfl ((HM.box_at 0 rfl) 6 _ rfl)) ?_
            refine ops_does rfl (guard_on rfl rfl rfl hg3302) rfl rfl (does_callk rfl callok65 rfl (impl_isHeight.calls (x0 := (gt x0 a3240).fHeight) (cond_t (not_mk hg3302) h3298))) ?_
            rintro _ w3305 ⟨rfl, hn⟩
            replace HM : Mem w [] w3305 [box b3283 77 [.int .i64 ((gt x0 a3240).fRef.fTx), .int .i64 ((gt x0 a3240).fRef.fAt), .int .i64 ((gt x0 a3240).fOut.fValue), kv3281, .int .i64 ((gt x0 a3240).fOut.fRule.fNeed), .int .i64 ((gt x0 a3240).fOut.fRule.fAfter), .int .i64 ((gt x0 a3240).fHeight), .bool ((gt x0 a3240).fMined)]] := HM.call hn
            refine ops_ex rfl (guard_on rfl rfl rfl hg3302) rfl rfl (ex_not rfl rfl) ?_
            refine ops_ex (v := .bool ((!t3295) || (!t3297))) rfl (guard_none rfl) rfl rfl (ex_por_f rfl rfl hg3302 rfl) ?_
            refine ops_ex rfl (guard_none rfl) rfl rfl (ex_move rfl rfl) ?_
            refine bool_cases ((!t3295) || (!t3297)) (fun hg3306 => ?_) (fun hg3306 => ?_)
            · skip
              refine ops_off rfl (guard_off rfl rfl rfl hg3306) rfl rfl ?_
              refine ops_off rfl (guard_off rfl rfl rfl hg3306) rfl rfl ?_
              refine ops_off rfl (guard_off rfl rfl rfl hg3306) rfl rfl ?_
              refine ops_off rfl (guard_off rfl rfl rfl hg3306) rfl rfl ?_
              refine ops_off rfl (guard_off rfl rfl rfl hg3306) rfl rfl ?_
              have hg3307 : (((!t3295) || (!t3297)) || (!t3299)) = true := by simp only [hg3306, Bool.and_true, Bool.true_and, Bool.and_false, Bool.false_and, Bool.or_true, Bool.true_or, Bool.or_false, Bool.false_or, Bool.not_true, Bool.not_false, Bool.not_not]
              refine ops_ex (v := .bool (((!t3295) || (!t3297)) || (!t3299))) rfl (guard_none rfl) rfl rfl (ex_por_t rfl rfl hg3306) ?_
              refine ops_nil ?_
              exact at_meet [(0, p0), (9, p0), (10, .int .i64 (x0.length : Int)), (11, .int .i64 a3240), (4, .pointer (some ⟨b3283, 0, none⟩)), (3, .int .i64 a3240), (32, .bool (((!t3295) || (!t3297)) || (!t3299)))] ⟨rfl, HM⟩ (Sub.cons rfl (Sub.cons rfl (Sub.cons rfl (Sub.cons rfl (Sub.cons rfl (Sub.cons rfl (Sub.cons rfl Sub.nil)))))))
            · skip
              refine ops_ex rfl (guard_on rfl rfl rfl hg3306) rfl rfl (ex_fieldAddr (off' := 2) rfl rfl Tryz.underlying77 rfl tsz75 rfl) ?_
              refine ops_ex rfl (guard_on rfl rfl rfl hg3306) rfl rfl (ex_fieldAddr (off' := 2) rfl rfl Tryz.underlying75 rfl tsz2 rfl) ?_
              refine ops_ex rfl (guard_on rfl rfl rfl hg3306) rfl rfl (ex_load1 rfl rfl Tryz.underlying2 rfl ((HM.box_at 0 rfl) 2 _ rfl)) ?_
              refine ops_does rfl (guard_on rfl rfl rfl hg3306) rfl rfl (does_callk rfl callok66 rfl (impl_within.calls (x0 := (gt x0 a3240).fOut.fValue) (x1 := 1) (x2 := 1000000) (cond_t (not_mk hg3306) h3300))) ?_
              rintro _ w3308 ⟨rfl, hn⟩
              replace HM : Mem w [] w3308 [box b3283 77 [.int .i64 ((gt x0 a3240).fRef.fTx), .int .i64 ((gt x0 a3240).fRef.fAt), .int .i64 ((gt x0 a3240).fOut.fValue), kv3281, .int .i64 ((gt x0 a3240).fOut.fRule.fNeed), .int .i64 ((gt x0 a3240).fOut.fRule.fAfter), .int .i64 ((gt x0 a3240).fHeight), .bool ((gt x0 a3240).fMined)]] := HM.call hn
              refine ops_ex rfl (guard_on rfl rfl rfl hg3306) rfl rfl (ex_not rfl rfl) ?_
              refine ops_ex (v := .bool (((!t3295) || (!t3297)) || (!t3299))) rfl (guard_none rfl) rfl rfl (ex_por_f rfl rfl hg3306 rfl) ?_
              refine ops_nil ?_
              exact at_meet [(0, p0), (9, p0), (10, .int .i64 (x0.length : Int)), (11, .int .i64 a3240), (4, .pointer (some ⟨b3283, 0, none⟩)), (3, .int .i64 a3240), (32, .bool (((!t3295) || (!t3297)) || (!t3299)))] ⟨rfl, HM⟩ (Sub.cons rfl (Sub.cons rfl (Sub.cons rfl (Sub.cons rfl (Sub.cons rfl (Sub.cons rfl (Sub.cons rfl Sub.nil)))))))
        · rintro _ w3309 ⟨rfl, HM⟩
          refine at_then ?_
          refine run_cond (b := (((!t3295) || (!t3297)) || (!t3299))) rfl (fun hb3310 => ?_) (fun hb3310 => ?_)
          · replace ho3204 := cond_t hb3310 ho3204
            refine run_seq ?_
            refine run_region rfl ?_
            refine ops_ex rfl (guard_none rfl) rfl rfl (ex_assign rfl rfl) ?_
            refine ops_nil ?_
            refine at_then ?_
            refine run_ret ?_
            refine at_then_ret ?_
            refine at_block_ret ?_
            refine at_then_ret ?_
            refine at_then_ret ?_
            refine at_block_ret ?_
            refine at_then_ret ?_
            replace HM := (HM.front 0 rfl rfl).drop
            have hR := Option.some.inj ho3204
            subst hR
            have hT := thn_inl H
            have hR := Option.some.inj hT
            subst hR
            exact at_ret1 rfl rfl ⟨_, rfl, rfl, HM⟩
          · replace ho3204 := cond_f hb3310 ho3204
            refine run_skip ?_
            refine at_then ?_
            refine run_seq ?_
            refine run_seq ?_
            obtain ⟨t3314, h3315, ho3204⟩ := bind_some ho3204
            refine run_region rfl ?_
            refine ops_ex rfl (guard_none rfl) rfl rfl (ex_fieldAddr (off' := 2) rfl rfl Tryz.underlying77 rfl tsz75 rfl) ?_
            refine ops_ex rfl (guard_none rfl) rfl rfl (ex_fieldAddr (off' := 3) rfl rfl Tryz.underlying75 rfl tsz73 rfl) ?_
            refine ops_ex rfl (guard_none rfl) rfl rfl (ex_loadN (cs := [kv3281, (.int .i64 ((gt x0 a3240).fOut.fRule.fNeed)), (.int .i64 ((gt x0 a3240).fOut.fRule.fAfter))]) rfl rfl Tryz.underlying73 rfl tsz73 rfl ((HM.box_at 0 rfl).sub 3 3 rfl)) ?_
            refine ops_does rfl (guard_none rfl) rfl rfl (does_callk rfl callok67 rfl (impl_RuleFault.calls (x0 := (gt x0 a3240).fOut.fRule) (HM.rd hk3282) h3315)) ?_
            rintro _ w3316 ⟨rfl, hn⟩
            replace HM : Mem w [] w3316 [box b3283 77 [.int .i64 ((gt x0 a3240).fRef.fTx), .int .i64 ((gt x0 a3240).fRef.fAt), .int .i64 ((gt x0 a3240).fOut.fValue), kv3281, .int .i64 ((gt x0 a3240).fOut.fRule.fNeed), .int .i64 ((gt x0 a3240).fOut.fRule.fAfter), .int .i64 ((gt x0 a3240).fHeight), .bool ((gt x0 a3240).fMined)]] := HM.call hn
            refine ops_ex rfl (guard_none rfl) rfl rfl (ex_assign rfl rfl) ?_
            refine ops_nil ?_
            refine at_then ?_
            refine run_seq ?_
            refine run_region rfl ?_
            refine ops_ex rfl (guard_none rfl) rfl rfl (ex_move rfl rfl) ?_
            refine ops_ex rfl (guard_none rfl) rfl rfl (ex_neq rfl rfl rfl) ?_
            refine ops_nil ?_
            refine at_then ?_
            refine run_cond (b := (t3314 != 0)) rfl (fun hb3317 => ?_) (fun hb3317 => ?_)
            · replace ho3204 := cond_t hb3317 ho3204
              refine run_seq ?_
              refine run_region rfl ?_
              refine ops_ex rfl (guard_none rfl) rfl rfl (ex_move rfl rfl) ?_
              refine ops_ex rfl (guard_none rfl) rfl rfl (ex_assign rfl rfl) ?_
              refine ops_nil ?_
              refine at_then ?_
              refine run_ret ?_
              refine at_then_ret ?_
              refine at_block_ret ?_
              refine at_then_ret ?_
              refine at_then_ret ?_
              refine at_block_ret ?_
              refine at_then_ret ?_
              replace HM := (HM.front 0 rfl rfl).drop
              have hR := Option.some.inj ho3204
              subst hR
              have hT := thn_inl H
              have hR := Option.some.inj hT
              subst hR
              exact at_ret1 rfl rfl ⟨_, rfl, rfl, HM⟩
            · replace ho3204 := cond_f hb3317 ho3204
              refine run_skip ?_
              refine at_then ?_
              refine run_seq ?_
              obtain ⟨e3318, ho3204⟩ := chk_some ho3204
              obtain ⟨t3322, h3323, ho3204⟩ := bind_some ho3204
              refine run_meet (fun ρ_ w_ => ρ_ = [(0, p0), (9, p0), (10, .int .i64 (x0.length : Int)), (11, .int .i64 a3240), (53, .bool ((decide (0 < a3240)) && (decide (0 ≤ t3322))))] ∧ Mem w [] w_ []) ?_ ?_
              · skip
                refine run_drawf (fun w_ => Mem w [] w_ [box b3283 77 [.int .i64 ((gt x0 a3240).fRef.fTx), .int .i64 ((gt x0 a3240).fRef.fAt), .int .i64 ((gt x0 a3240).fOut.fValue), kv3281, .int .i64 ((gt x0 a3240).fOut.fRule.fNeed), .int .i64 ((gt x0 a3240).fOut.fRule.fAfter), .int .i64 ((gt x0 a3240).fHeight), .bool ((gt x0 a3240).fMined)]]) [(0, true), (1, true), (2, true), (3, true), (4, true), (5, true), (6, true), (7, true), (8, true), (9, true), (10, true), (11, false), (12, true), (13, true)] mixed rfl rfl (by kernel_rfl) ?_
                replace HM := HM.grow (fr_drew _)
                have hS := Mem.suf (M := []) HM
                refine drwp_take rfl (guard_none rfl) rfl rfl (fun w_ hS_ => (ex_move rfl rfl)) hS ?_
                refine drwp_take rfl (guard_none rfl) rfl rfl (fun w_ hS_ => (ex_gtr rfl rfl rfl)) hS ?_
                refine drwp_take rfl (guard_none rfl) rfl rfl (fun w_ hS_ => (ex_move rfl rfl)) hS ?_
                refine bool_cases (decide (0 < a3240)) (fun hg3324 => ?_) (fun hg3324 => ?_)
                · skip
                  refine drwp_take rfl (guard_on rfl rfl rfl hg3324) rfl rfl (fun w_ hS_ => (ex_move rfl rfl)) hS ?_
                  refine drwp_take rfl (guard_on rfl rfl rfl hg3324) rfl rfl (fun w_ hS_ => (ex_move rfl rfl)) hS ?_
                  refine drwp_take rfl (guard_on rfl rfl rfl hg3324) rfl rfl (fun w_ hS_ => (ex_sub rfl rfl rfl)) hS ?_
                  obtain ⟨kv3320, hc3319, hk3321⟩ : ∃ u, CellsAt _ (sb p0) (so p0 + (wrap64 (a3240 - 1)).toNat * 8) [(.int .i64 ((gt x0 (wrap64 (a3240 - 1))).fRef.fTx)), (.int .i64 ((gt x0 (wrap64 (a3240 - 1))).fRef.fAt)), (.int .i64 ((gt x0 (wrap64 (a3240 - 1))).fOut.fValue)), u, (.int .i64 ((gt x0 (wrap64 (a3240 - 1))).fOut.fRule.fNeed)), (.int .i64 ((gt x0 (wrap64 (a3240 - 1))).fOut.fRule.fAfter)), (.int .i64 ((gt x0 (wrap64 (a3240 - 1))).fHeight)), (.bool ((gt x0 (wrap64 (a3240 - 1))).fMined))] ∧ RdS kInt _ u ((gt x0 (wrap64 (a3240 - 1))).fOut.fRule.fKeys) := rd_with1 hp0 (or_t e3318 hg3324)
                  refine drwp_take rfl (guard_on rfl rfl rfl hg3324) rfl rfl (fun w_ hS_ => (ex_indexAddr (d := kCoin) rfl rfl rfl Tryz.underlying29 tsz77 hp0 (idx_lo (or_t e3318 hg3324)) (idx_hi (or_t e3318 hg3324)))) hS ?_
                  refine drwp_take rfl (guard_on rfl rfl rfl hg3324) rfl rfl (fun w_ hS_ => (ex_fieldAddr (off' := so p0 + (wrap64 (a3240 - 1)).toNat * 8) rfl rfl Tryz.underlying77 rfl tsz56 rfl)) hS ?_
                  refine drwp_take rfl (guard_on rfl rfl rfl hg3324) rfl rfl (fun w_ hS_ => (ex_loadN (cs := [(.int .i64 ((gt x0 (wrap64 (a3240 - 1))).fRef.fTx)), (.int .i64 ((gt x0 (wrap64 (a3240 - 1))).fRef.fAt))]) rfl rfl Tryz.underlying56 rfl tsz56 rfl ((hS_.at_ hc3319).sub 0 2 rfl))) hS ?_
                  refine drwp_take rfl (guard_on rfl rfl rfl hg3324) rfl rfl (fun w_ hS_ => (ex_fieldAddr (off' := 0) rfl rfl Tryz.underlying77 rfl tsz56 rfl)) hS ?_
                  refine drwp_take rfl (guard_on rfl rfl rfl hg3324) rfl rfl (fun w_ hS_ => (ex_loadN (cs := [(.int .i64 ((gt x0 a3240).fRef.fTx)), (.int .i64 ((gt x0 a3240).fRef.fAt))]) rfl rfl Tryz.underlying56 rfl tsz56 rfl ((hS_.box_at 0 rfl).sub 0 2 rfl))) hS ?_
                  refine drwp_one rfl (guard_on rfl rfl rfl hg3324) rfl rfl (does_callk rfl callok68 rfl (impl_compareRefs.calls (x0 := (gt x0 (wrap64 (a3240 - 1))).fRef) (x1 := (gt x0 a3240).fRef) (cond_t hg3324 h3323))) ?_
                  rintro _ w3325 ⟨rfl, hn⟩
                  replace HM : Mem w [] w3325 [box b3283 77 [.int .i64 ((gt x0 a3240).fRef.fTx), .int .i64 ((gt x0 a3240).fRef.fAt), .int .i64 ((gt x0 a3240).fOut.fValue), kv3281, .int .i64 ((gt x0 a3240).fOut.fRule.fNeed), .int .i64 ((gt x0 a3240).fOut.fRule.fAfter), .int .i64 ((gt x0 a3240).fHeight), .bool ((gt x0 a3240).fMined)]] := HM.call hn
                  refine ⟨Mem.suf (M := []) HM, ?_⟩
                  have hS := Mem.suf (M := []) HM
                  refine drwp_take rfl (guard_on rfl rfl rfl hg3324) rfl rfl (fun w_ hS_ => (ex_geq rfl rfl rfl)) hS ?_
                  refine drwp_take (v := .bool ((decide (0 < a3240)) && (decide (0 ≤ t3322)))) rfl (guard_none rfl) rfl rfl (fun w_ hS_ => (ex_pand_t rfl rfl hg3324 rfl)) hS ?_
                  refine drwp_done ?_
                  replace HM := (HM.front 0 rfl rfl).drop
                  exact at_meet [(0, p0), (9, p0), (10, .int .i64 (x0.length : Int)), (11, .int .i64 a3240), (53, .bool ((decide (0 < a3240)) && (decide (0 ≤ t3322))))] ⟨rfl, HM⟩ (Sub.cons rfl (Sub.cons rfl (Sub.cons rfl (Sub.cons rfl (Sub.cons rfl Sub.nil)))))
                · skip
                  refine drwp_off rfl (guard_off rfl rfl rfl hg3324) rfl rfl hS ?_
                  refine drwp_off rfl (guard_off rfl rfl rfl hg3324) rfl rfl hS ?_
                  refine drwp_off rfl (guard_off rfl rfl rfl hg3324) rfl rfl hS ?_
                  refine drwp_off rfl (guard_off rfl rfl rfl hg3324) rfl rfl hS ?_
                  refine drwp_off rfl (guard_off rfl rfl rfl hg3324) rfl rfl hS ?_
                  refine drwp_off rfl (guard_off rfl rfl rfl hg3324) rfl rfl hS ?_
                  refine drwp_off rfl (guard_off rfl rfl rfl hg3324) rfl rfl hS ?_
                  refine drwp_off rfl (guard_off rfl rfl rfl hg3324) rfl rfl hS ?_
                  refine drwp_off1 rfl (guard_off rfl rfl rfl hg3324) rfl rfl ⟨hS, ?_⟩
                  refine drwp_off rfl (guard_off rfl rfl rfl hg3324) rfl rfl hS ?_
                  have hg3326 : ((decide (0 < a3240)) && (decide (0 ≤ t3322))) = false := by simp only [hg3324, Bool.and_true, Bool.true_and, Bool.and_false, Bool.false_and, Bool.or_true, Bool.true_or, Bool.or_false, Bool.false_or, Bool.not_true, Bool.not_false, Bool.not_not]
                  refine drwp_take (v := .bool ((decide (0 < a3240)) && (decide (0 ≤ t3322)))) rfl (guard_none rfl) rfl rfl (fun w_ hS_ => (ex_pand_f rfl rfl hg3324)) hS ?_
                  refine drwp_done ?_
                  replace HM := (HM.front 0 rfl rfl).drop
                  exact at_meet [(0, p0), (9, p0), (10, .int .i64 (x0.length : Int)), (11, .int .i64 a3240), (53, .bool ((decide (0 < a3240)) && (decide (0 ≤ t3322))))] ⟨rfl, HM⟩ (Sub.cons rfl (Sub.cons rfl (Sub.cons rfl (Sub.cons rfl (Sub.cons rfl Sub.nil)))))
              · rintro _ w3327 ⟨rfl, HM⟩
                refine at_then ?_
                refine run_cond (b := ((decide (0 < a3240)) && (decide (0 ≤ t3322)))) rfl (fun hb3328 => ?_) (fun hb3328 => ?_)
                · replace ho3204 := cond_t hb3328 ho3204
                  refine run_seq ?_
                  refine run_region rfl ?_
                  refine ops_ex rfl (guard_none rfl) rfl rfl (ex_assign rfl rfl) ?_
                  refine ops_nil ?_
                  refine at_then ?_
                  refine run_ret ?_
                  refine at_block_ret ?_
                  refine at_then_ret ?_
                  refine at_then_ret ?_
                  refine at_block_ret ?_
                  refine at_then_ret ?_
                  have hR := Option.some.inj ho3204
                  subst hR
                  have hT := thn_inl H
                  have hR := Option.some.inj hT
                  subst hR
                  exact at_ret1 rfl rfl ⟨_, rfl, rfl, HM⟩
                · replace ho3204 := cond_f hb3328 ho3204
                  refine run_skip ?_
                  refine at_block ?_
                  refine at_then ?_
                  refine run_region rfl ?_
                  refine ops_ex rfl (guard_none rfl) rfl rfl (ex_add rfl rfl rfl) ?_
                  refine ops_ex rfl (guard_none rfl) rfl rfl (ex_move rfl rfl) ?_
                  refine ops_nil ?_
                  exact at_again k3276 (ρ1 := [(0, p0), (9, p0), (10, .int .i64 (x0.length : Int)), (11, .int .i64 (wrap64 (a3240 + 1)))]) (Nat.lt_succ_self _) ⟨_, ho3204, rfl, HM⟩ (Sub.cons rfl (Sub.cons rfl (Sub.cons rfl (Sub.cons rfl Sub.nil))))
      · replace ho3204 := cond_f hb3278 ho3204
        refine run_exit ?_
        refine at_then_exit ?_
        refine at_then_exit ?_
        refine at_block_exit ?_
        exact at_mid (ρ' := []) ⟨(Option.some.inj ho3204), rfl, HM⟩ Sub.nil
    · rintro _ w3329 ⟨rfl, rfl, HM⟩
      replace H := (thn_inr H)
      refine run_seq ?_
      refine run_region rfl ?_
      refine ops_ex rfl (guard_none rfl) rfl rfl (ex_assign rfl rfl) ?_
      refine ops_nil ?_
      refine at_then ?_
      refine run_ret ?_
      have hR := Option.some.inj H
      subst hR
      exact at_ret1 rfl rfl ⟨_, rfl, rfl, HM⟩

def impl_TxFault_1.f (k : Nat) (x0 : Int) : Option Bool := some ((decide (x0 < 1)) || (decide (4 < x0)))
theorem impl_TxFault_1.calls {k : Nat} {x0 : Int}  {w : World}  {r : Bool} (H : impl_TxFault_1.f k x0 = some r) :
    Calls Tryz.prog 80 ([.int .i64 x0] : List Value).toArray w (fun e w_ => ∃ v, e = .returned v ∧ v = (.bool r) ∧ Mem w [] w_ []) := by
  have HM := Mem.start w
  refine calls_run (N := 9) Tryz.func80 rfl rfl rfl rfl ?_
  unfold impl_TxFault_1.f at H
  refine run_seq ?_
  refine run_region rfl ?_
  refine ops_ex rfl (guard_none rfl) rfl rfl (ex_assign rfl rfl) ?_
  refine ops_nil ?_
  refine at_then ?_
  refine run_seq ?_
  refine run_meet (fun ρ_ w_ => ρ_ = [(2, .bool ((decide (x0 < 1)) || (decide (4 < x0))))] ∧ Mem w [] w_ []) ?_ ?_
  · skip
    refine run_region rfl ?_
    refine ops_ex rfl (guard_none rfl) rfl rfl (ex_move rfl rfl) ?_
    refine ops_ex rfl (guard_none rfl) rfl rfl (ex_lss rfl rfl rfl) ?_
    refine ops_ex rfl (guard_none rfl) rfl rfl (ex_move rfl rfl) ?_
    refine bool_cases (decide (x0 < 1)) (fun hg3345 => ?_) (fun hg3345 => ?_)
    · skip
      refine ops_off rfl (guard_off rfl rfl rfl hg3345) rfl rfl ?_
      refine ops_off rfl (guard_off rfl rfl rfl hg3345) rfl rfl ?_
      have hg3346 : ((decide (x0 < 1)) || (decide (4 < x0))) = true := by simp only [hg3345, Bool.and_true, Bool.true_and, Bool.and_false, Bool.false_and, Bool.or_true, Bool.true_or, Bool.or_false, Bool.false_or, Bool.not_true, Bool.not_false, Bool.not_not]
      refine ops_ex (v := .bool ((decide (x0 < 1)) || (decide (4 < x0)))) rfl (guard_none rfl) rfl rfl (ex_por_t rfl rfl hg3345) ?_
      refine ops_ex rfl (guard_none rfl) rfl rfl (ex_assign rfl rfl) ?_
      refine ops_nil ?_
      exact at_meet [(2, .bool ((decide (x0 < 1)) || (decide (4 < x0))))] ⟨rfl, HM⟩ (Sub.cons rfl Sub.nil)
    · skip
      refine ops_ex rfl (guard_on rfl rfl rfl hg3345) rfl rfl (ex_move rfl rfl) ?_
      refine ops_ex rfl (guard_on rfl rfl rfl hg3345) rfl rfl (ex_gtr rfl rfl rfl) ?_
      refine ops_ex (v := .bool ((decide (x0 < 1)) || (decide (4 < x0)))) rfl (guard_none rfl) rfl rfl (ex_por_f rfl rfl hg3345 rfl) ?_
      refine ops_ex rfl (guard_none rfl) rfl rfl (ex_assign rfl rfl) ?_
      refine ops_nil ?_
      exact at_meet [(2, .bool ((decide (x0 < 1)) || (decide (4 < x0))))] ⟨rfl, HM⟩ (Sub.cons rfl Sub.nil)
  · rintro _ w3347 ⟨rfl, HM⟩
    refine at_then ?_
    refine run_ret ?_
    have hR := Option.some.inj H
    subst hR
    exact at_ret1 rfl rfl ⟨_, rfl, rfl, HM⟩
end Go.Proofs.YtcamddjlhchkfaaGreat.Zk
