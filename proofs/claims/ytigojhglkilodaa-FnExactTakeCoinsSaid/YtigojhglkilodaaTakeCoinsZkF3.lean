/- What functions of the program compute, each as a plain function, and that they do. Conditions: as each theorem states them. -/
import Derived.Test.YtigojhglkilodaaTakeCoinsZkF2
namespace Go.Proofs.Ytigojhglkilodaa.Zk
open Go Go.RowKit Go.IntWalk Go.Proofs
set_option linter.unusedVariables false
set_option linter.unusedSimpArgs false
set_option maxRecDepth 100000
set_option maxHeartbeats 4000000
def impl_RuleFault.f (k : Nat) (x0 : Rule) : Option Int := ((impl_within.f k (x0.fKeys.length : Int) 1 3).bind fun t2095 => (bif !t2095 then some 2 else ((impl_areKeys.f k x0.fKeys).bind fun t2099 => ((bif (!(!t2099)) then impl_within.f k x0.fNeed 1 (x0.fKeys.length : Int) else some default).bind fun t2101 => ((bif (!((!t2099) || (!t2101))) then impl_isHeight.f k x0.fAfter else some default).bind fun t2103 => (bif (((!t2099) || (!t2101)) || (!t2103)) then some 3 else ((impl_isRising.f k x0.fKeys).bind fun t2115 => (bif !t2115 then some 1 else some 0))))))))
theorem impl_RuleFault.calls {k : Nat} {x0 : Rule} {p0_0 : Value} {w : World} (hp0_0 : RdS kInt w p0_0 x0.fKeys) {r : Int} (H : impl_RuleFault.f k x0 = some r) :
    Calls Try.prog 125 ([.agg #[p0_0, (.int .i64 x0.fNeed), (.int .i64 x0.fAfter)]] : List Value).toArray w (fun e w_ => ∃ v, e = .returned v ∧ v = (.int .i64 r) ∧ Mem w [] w_ []) := by
  have HM := Mem.start w
  refine calls_run (N := 34) Try.func125 rfl rfl rfl rfl ?_
  unfold impl_RuleFault.f at H
  refine run_seq ?_
  refine run_region rfl ?_
  refine ops_does rfl (guard_none rfl) rfl rfl (does_box (cs := [p0_0, .int .i64 x0.fNeed, .int .i64 x0.fAfter]) rfl rfl rfl HM) ?_
  rintro _ w2094 ⟨b2091, rfl, HM⟩
  refine ops_ex rfl (guard_none rfl) rfl rfl (ex_assign rfl rfl) ?_
  refine ops_nil ?_
  refine at_then ?_
  refine run_seq ?_
  refine run_region rfl ?_
  refine ops_ex rfl (guard_none rfl) rfl rfl (ex_fieldAddr (off' := 0) rfl rfl Try.underlying119 rfl tsz111 rfl) ?_
  refine ops_ex rfl (guard_none rfl) rfl rfl (ex_load1 rfl rfl Try.underlying111 rfl ((HM.box_at 0 rfl) 0 _ rfl)) ?_
  refine ops_ex rfl (guard_none rfl) rfl rfl (ex_len (d := kInt) (xs := x0.fKeys) rfl rfl Try.underlying111 hp0_0) ?_
  refine ops_ex rfl (guard_none rfl) rfl rfl (ex_assign rfl rfl) ?_
  refine ops_nil ?_
  refine at_then ?_
  refine run_seq ?_
  refine run_block ?_
  refine run_seq ?_
  obtain ⟨t2095, h2096, H⟩ := bind_some H
  refine run_region rfl ?_
  refine ops_ex rfl (guard_none rfl) rfl rfl (ex_move rfl rfl) ?_
  refine ops_does rfl (guard_none rfl) rfl rfl (does_callk rfl callok112 rfl (impl_within.calls (x0 := (x0.fKeys.length : Int)) (x1 := 1) (x2 := 3) h2096)) ?_
  rintro _ w2097 ⟨rfl, hn⟩
  replace HM : Mem w [] w2097 [box b2091 119 [p0_0, .int .i64 x0.fNeed, .int .i64 x0.fAfter]] := HM.call hn
  refine ops_ex rfl (guard_none rfl) rfl rfl (ex_not rfl rfl) ?_
  refine ops_ex rfl (guard_none rfl) rfl rfl (ex_assign rfl rfl) ?_
  refine ops_nil ?_
  refine at_then ?_
  refine run_cond (b := !t2095) rfl (fun hb2098 => ?_) (fun hb2098 => ?_)
  · replace H := cond_t hb2098 H
    refine run_seq ?_
    refine run_region rfl ?_
    refine ops_ex rfl (guard_none rfl) rfl rfl (ex_assign rfl rfl) ?_
    refine ops_nil ?_
    refine at_then ?_
    refine run_ret ?_
    refine at_block_ret ?_
    refine at_then_ret ?_
    replace HM := (HM.front 0 rfl rfl).drop
    have hR := Option.some.inj H
    subst hR
    exact at_ret1 rfl rfl ⟨_, rfl, rfl, HM⟩
  · replace H := cond_f hb2098 H
    refine run_seq ?_
    obtain ⟨t2099, h2100, H⟩ := bind_some H
    obtain ⟨t2101, h2102, H⟩ := bind_some H
    obtain ⟨t2103, h2104, H⟩ := bind_some H
    refine run_meet (fun ρ_ w_ => ρ_ = [(1, .pointer (some ⟨b2091, 0, none⟩)), (11, .bool (((!t2099) || (!t2101)) || (!t2103)))] ∧ Mem w [] w_ [box b2091 119 [p0_0, .int .i64 x0.fNeed, .int .i64 x0.fAfter]]) ?_ ?_
    · skip
      refine run_region rfl ?_
      refine ops_ex rfl (guard_none rfl) rfl rfl (ex_fieldAddr (off' := 0) rfl rfl Try.underlying119 rfl tsz111 rfl) ?_
      refine ops_ex rfl (guard_none rfl) rfl rfl (ex_load1 rfl rfl Try.underlying111 rfl ((HM.box_at 0 rfl) 0 _ rfl)) ?_
      refine ops_does rfl (guard_none rfl) rfl rfl (does_callk rfl callok159 rfl (impl_areKeys.calls (x0 := x0.fKeys) (HM.rd hp0_0) h2100)) ?_
      rintro _ w2105 ⟨rfl, hn⟩
      replace HM : Mem w [] w2105 [box b2091 119 [p0_0, .int .i64 x0.fNeed, .int .i64 x0.fAfter]] := HM.call hn
      refine ops_ex rfl (guard_none rfl) rfl rfl (ex_not rfl rfl) ?_
      refine ops_ex rfl (guard_none rfl) rfl rfl (ex_move rfl rfl) ?_
      refine bool_cases (!t2099) (fun hg2106 => ?_) (fun hg2106 => ?_)
      · skip
        refine ops_off rfl (guard_off rfl rfl rfl hg2106) rfl rfl ?_
        refine ops_off rfl (guard_off rfl rfl rfl hg2106) rfl rfl ?_
        refine ops_off rfl (guard_off rfl rfl rfl hg2106) rfl rfl ?_
        refine ops_off rfl (guard_off rfl rfl rfl hg2106) rfl rfl ?_
        refine ops_off rfl (guard_off rfl rfl rfl hg2106) rfl rfl ?_
        have hg2107 : ((!t2099) || (!t2101)) = true := by simp only [hg2106, Bool.and_true, Bool.true_and, Bool.and_false, Bool.false_and, Bool.or_true, Bool.true_or, Bool.or_false, Bool.false_or, Bool.not_true, Bool.not_false, Bool.not_not]
        refine ops_ex (v := .bool ((!t2099) || (!t2101))) rfl (guard_none rfl) rfl rfl (ex_por_t rfl rfl hg2106) ?_
        refine ops_ex rfl (guard_none rfl) rfl rfl (ex_move rfl rfl) ?_
        refine ops_off rfl (guard_off rfl rfl rfl hg2107) rfl rfl ?_
        refine ops_off rfl (guard_off rfl rfl rfl hg2107) rfl rfl ?_
        refine ops_off rfl (guard_off rfl rfl rfl hg2107) rfl rfl ?_
        refine ops_off rfl (guard_off rfl rfl rfl hg2107) rfl rfl ?_
        have hg2108 : (((!t2099) || (!t2101)) || (!t2103)) = true := by simp only [hg2107, Bool.and_true, Bool.true_and, Bool.and_false, Bool.false_and, Bool.or_true, Bool.true_or, Bool.or_false, Bool.false_or, Bool.not_true, Bool.not_false, Bool.not_not]
        refine ops_ex (v := .bool (((!t2099) || (!t2101)) || (!t2103))) rfl (guard_none rfl) rfl rfl (ex_por_t rfl rfl hg2107) ?_
        refine ops_ex rfl (guard_none rfl) rfl rfl (ex_assign rfl rfl) ?_
        refine ops_nil ?_
        exact at_meet [(1, .pointer (some ⟨b2091, 0, none⟩)), (11, .bool (((!t2099) || (!t2101)) || (!t2103)))] ⟨rfl, HM⟩ (Sub.cons rfl (Sub.cons rfl Sub.nil))
      · skip
        refine ops_ex rfl (guard_on rfl rfl rfl hg2106) rfl rfl (ex_fieldAddr (off' := 1) rfl rfl Try.underlying119 rfl tsz2 rfl) ?_
        refine ops_ex rfl (guard_on rfl rfl rfl hg2106) rfl rfl (ex_load1 rfl rfl Try.underlying2 rfl ((HM.box_at 0 rfl) 1 _ rfl)) ?_
        refine ops_ex rfl (guard_on rfl rfl rfl hg2106) rfl rfl (ex_move rfl rfl) ?_
        refine ops_does rfl (guard_on rfl rfl rfl hg2106) rfl rfl (does_callk rfl callok112 rfl (impl_within.calls (x0 := x0.fNeed) (x1 := 1) (x2 := (x0.fKeys.length : Int)) (cond_t (not_mk hg2106) h2102))) ?_
        rintro _ w2109 ⟨rfl, hn⟩
        replace HM : Mem w [] w2109 [box b2091 119 [p0_0, .int .i64 x0.fNeed, .int .i64 x0.fAfter]] := HM.call hn
        refine ops_ex rfl (guard_on rfl rfl rfl hg2106) rfl rfl (ex_not rfl rfl) ?_
        refine ops_ex (v := .bool ((!t2099) || (!t2101))) rfl (guard_none rfl) rfl rfl (ex_por_f rfl rfl hg2106 rfl) ?_
        refine ops_ex rfl (guard_none rfl) rfl rfl (ex_move rfl rfl) ?_
        refine bool_cases ((!t2099) || (!t2101)) (fun hg2110 => ?_) (fun hg2110 => ?_)
        · skip
          refine ops_off rfl (guard_off rfl rfl rfl hg2110) rfl rfl ?_
          refine ops_off rfl (guard_off rfl rfl rfl hg2110) rfl rfl ?_
          refine ops_off rfl (guard_off rfl rfl rfl hg2110) rfl rfl ?_
          refine ops_off rfl (guard_off rfl rfl rfl hg2110) rfl rfl ?_
          have hg2111 : (((!t2099) || (!t2101)) || (!t2103)) = true := by simp only [hg2110, Bool.and_true, Bool.true_and, Bool.and_false, Bool.false_and, Bool.or_true, Bool.true_or, Bool.or_false, Bool.false_or, Bool.not_true, Bool.not_false, Bool.not_not]
          refine ops_ex (v := .bool (((!t2099) || (!t2101)) || (!t2103))) rfl (guard_none rfl) rfl rfl (ex_por_t rfl rfl hg2110) ?_
          refine ops_ex rfl (guard_none rfl) rfl rfl (ex_assign rfl rfl) ?_
          refine ops_nil ?_
          exact at_meet [(1, .pointer (some ⟨b2091, 0, none⟩)), (11, .bool (((!t2099) || (!t2101)) || (!t2103)))] ⟨rfl, HM⟩ (Sub.cons rfl (Sub.cons rfl Sub.nil))
        · skip
          refine ops_ex rfl (guard_on rfl rfl rfl hg2110) rfl rfl (ex_fieldAddr (off' := 2) rfl rfl Try.underlying119 rfl tsz2 rfl) ?_
          refine ops_ex rfl (guard_on rfl rfl rfl hg2110) rfl rfl (ex_load1 rfl rfl Try.underlying2 rfl ((HM.box_at 0 rfl) 2 _ rfl)) ?_
          refine ops_does rfl (guard_on rfl rfl rfl hg2110) rfl rfl (does_callk rfl callok124 rfl (impl_isHeight.calls (x0 := x0.fAfter) (cond_t (not_mk hg2110) h2104))) ?_
          rintro _ w2112 ⟨rfl, hn⟩
          replace HM : Mem w [] w2112 [box b2091 119 [p0_0, .int .i64 x0.fNeed, .int .i64 x0.fAfter]] := HM.call hn
          refine ops_ex rfl (guard_on rfl rfl rfl hg2110) rfl rfl (ex_not rfl rfl) ?_
          refine ops_ex (v := .bool (((!t2099) || (!t2101)) || (!t2103))) rfl (guard_none rfl) rfl rfl (ex_por_f rfl rfl hg2110 rfl) ?_
          refine ops_ex rfl (guard_none rfl) rfl rfl (ex_assign rfl rfl) ?_
          refine ops_nil ?_
          exact at_meet [(1, .pointer (some ⟨b2091, 0, none⟩)), (11, .bool (((!t2099) || (!t2101)) || (!t2103)))] ⟨rfl, HM⟩ (Sub.cons rfl (Sub.cons rfl Sub.nil))
    · rintro _ w2113 ⟨rfl, HM⟩
      refine at_then ?_
      refine run_cond (b := (((!t2099) || (!t2101)) || (!t2103))) rfl (fun hb2114 => ?_) (fun hb2114 => ?_)
      · replace H := cond_t hb2114 H
        refine run_seq ?_
        refine run_region rfl ?_
        refine ops_ex rfl (guard_none rfl) rfl rfl (ex_assign rfl rfl) ?_
        refine ops_nil ?_
        refine at_then ?_
        refine run_ret ?_
        refine at_block_ret ?_
        refine at_then_ret ?_
        replace HM := (HM.front 0 rfl rfl).drop
        have hR := Option.some.inj H
        subst hR
        exact at_ret1 rfl rfl ⟨_, rfl, rfl, HM⟩
      · replace H := cond_f hb2114 H
        refine run_seq ?_
        obtain ⟨t2115, h2116, H⟩ := bind_some H
        refine run_region rfl ?_
        refine ops_ex rfl (guard_none rfl) rfl rfl (ex_fieldAddr (off' := 0) rfl rfl Try.underlying119 rfl tsz111 rfl) ?_
        refine ops_ex rfl (guard_none rfl) rfl rfl (ex_load1 rfl rfl Try.underlying111 rfl ((HM.box_at 0 rfl) 0 _ rfl)) ?_
        refine ops_does rfl (guard_none rfl) rfl rfl (does_callk rfl callok160 rfl (impl_isRising.calls (x0 := x0.fKeys) (HM.rd hp0_0) h2116)) ?_
        rintro _ w2117 ⟨rfl, hn⟩
        replace HM : Mem w [] w2117 [box b2091 119 [p0_0, .int .i64 x0.fNeed, .int .i64 x0.fAfter]] := HM.call hn
        refine ops_ex rfl (guard_none rfl) rfl rfl (ex_not rfl rfl) ?_
        refine ops_ex rfl (guard_none rfl) rfl rfl (ex_assign rfl rfl) ?_
        refine ops_nil ?_
        refine at_then ?_
        refine run_cond (b := !t2115) rfl (fun hb2118 => ?_) (fun hb2118 => ?_)
        · replace H := cond_t hb2118 H
          refine run_seq ?_
          refine run_region rfl ?_
          refine ops_ex rfl (guard_none rfl) rfl rfl (ex_assign rfl rfl) ?_
          refine ops_nil ?_
          refine at_then ?_
          refine run_ret ?_
          refine at_block_ret ?_
          refine at_then_ret ?_
          replace HM := (HM.front 0 rfl rfl).drop
          have hR := Option.some.inj H
          subst hR
          exact at_ret1 rfl rfl ⟨_, rfl, rfl, HM⟩
        · replace H := cond_f hb2118 H
          refine run_skip ?_
          refine at_block ?_
          refine at_then ?_
          refine run_seq ?_
          refine run_region rfl ?_
          refine ops_ex rfl (guard_none rfl) rfl rfl (ex_assign rfl rfl) ?_
          refine ops_nil ?_
          refine at_then ?_
          refine run_ret ?_
          replace HM := (HM.front 0 rfl rfl).drop
          have hR := Option.some.inj H
          subst hR
          exact at_ret1 rfl rfl ⟨_, rfl, rfl, HM⟩

def cmp_isNaN_int64.f (k : Nat) (x0 : Int) : Option Bool := some (x0 != x0)
theorem cmp_isNaN_int64.calls {k : Nat} {x0 : Int}  {w : World}  {r : Bool} (H : cmp_isNaN_int64.f k x0 = some r) :
    Calls Try.prog 179 ([.int .i64 x0] : List Value).toArray w (fun e w_ => ∃ v, e = .returned v ∧ v = (.bool r) ∧ Mem w [] w_ []) := by
  have HM := Mem.start w
  refine calls_run (N := 6) Try.func179 rfl rfl rfl rfl ?_
  unfold cmp_isNaN_int64.f at H
  refine run_seq ?_
  refine run_region rfl ?_
  refine ops_ex rfl (guard_none rfl) rfl rfl (ex_assign rfl rfl) ?_
  refine ops_nil ?_
  refine at_then ?_
  refine run_seq ?_
  refine run_region rfl ?_
  refine ops_ex rfl (guard_none rfl) rfl rfl (ex_move rfl rfl) ?_
  refine ops_ex rfl (guard_none rfl) rfl rfl (ex_move rfl rfl) ?_
  refine ops_ex rfl (guard_none rfl) rfl rfl (ex_neq rfl rfl rfl) ?_
  refine ops_ex rfl (guard_none rfl) rfl rfl (ex_assign rfl rfl) ?_
  refine ops_nil ?_
  refine at_then ?_
  refine run_ret ?_
  have hR := Option.some.inj H
  subst hR
  exact at_ret1 rfl rfl ⟨_, rfl, rfl, HM⟩

def cmp_Compare_int64.f (k : Nat) (x0 : Int) (x1 : Int) : Option Int := ((cmp_isNaN_int64.f k x0).bind fun t2148 => ((cmp_isNaN_int64.f k x1).bind fun t2151 => (bif t2148 then (bif t2151 then some 0 else some (-1)) else (bif t2151 then some 1 else (bif (decide (x0 < x1)) then some (-1) else (bif (decide (x1 < x0)) then some 1 else some 0))))))
theorem cmp_Compare_int64.calls {k : Nat} {x0 : Int} {x1 : Int}  {w : World}  {r : Int} (H : cmp_Compare_int64.f k x0 x1 = some r) :
    Calls Try.prog 162 ([.int .i64 x0, .int .i64 x1] : List Value).toArray w (fun e w_ => ∃ v, e = .returned v ∧ v = (.int .i64 r) ∧ Mem w [] w_ []) := by
  have HM := Mem.start w
  refine calls_run (N := 20) Try.func162 rfl rfl rfl rfl ?_
  unfold cmp_Compare_int64.f at H
  refine run_seq ?_
  refine run_region rfl ?_
  refine ops_ex rfl (guard_none rfl) rfl rfl (ex_assign rfl rfl) ?_
  refine ops_nil ?_
  refine at_then ?_
  refine run_seq ?_
  obtain ⟨t2148, h2149, H⟩ := bind_some H
  refine run_region rfl ?_
  refine ops_ex rfl (guard_none rfl) rfl rfl (ex_move rfl rfl) ?_
  refine ops_does rfl (guard_none rfl) rfl rfl (does_callk rfl callok179 rfl (cmp_isNaN_int64.calls (x0 := x0) h2149)) ?_
  rintro _ w2150 ⟨rfl, hn⟩
  replace HM : Mem w [] w2150 [] := HM.call hn
  refine ops_ex rfl (guard_none rfl) rfl rfl (ex_assign rfl rfl) ?_
  refine ops_nil ?_
  refine at_then ?_
  refine run_seq ?_
  obtain ⟨t2151, h2152, H⟩ := bind_some H
  refine run_region rfl ?_
  refine ops_ex rfl (guard_none rfl) rfl rfl (ex_move rfl rfl) ?_
  refine ops_does rfl (guard_none rfl) rfl rfl (does_callk rfl callok179 rfl (cmp_isNaN_int64.calls (x0 := x1) h2152)) ?_
  rintro _ w2153 ⟨rfl, hn⟩
  replace HM : Mem w [] w2153 [] := HM.call hn
  refine ops_ex rfl (guard_none rfl) rfl rfl (ex_assign rfl rfl) ?_
  refine ops_nil ?_
  refine at_then ?_
  refine run_seq ?_
  refine run_seq ?_
  refine run_region rfl ?_
  refine ops_ex rfl (guard_none rfl) rfl rfl (ex_move rfl rfl) ?_
  refine ops_nil ?_
  refine at_then ?_
  refine run_cond (b := t2148) rfl (fun hb2156 => ?_) (fun hb2156 => ?_)
  · replace H := cond_t hb2156 H
    refine run_seq ?_
    refine run_seq ?_
    refine run_region rfl ?_
    refine ops_ex rfl (guard_none rfl) rfl rfl (ex_move rfl rfl) ?_
    refine ops_nil ?_
    refine at_then ?_
    refine run_cond (b := t2151) rfl (fun hb2157 => ?_) (fun hb2157 => ?_)
    · replace H := cond_t hb2157 H
      refine run_seq ?_
      refine run_region rfl ?_
      refine ops_ex rfl (guard_none rfl) rfl rfl (ex_assign rfl rfl) ?_
      refine ops_nil ?_
      refine at_then ?_
      refine run_ret ?_
      refine at_then_ret ?_
      refine at_then_ret ?_
      have hR := Option.some.inj H
      subst hR
      exact at_ret1 rfl rfl ⟨_, rfl, rfl, HM⟩
    · replace H := cond_f hb2157 H
      refine run_skip ?_
      refine at_then ?_
      refine run_seq ?_
      refine run_region rfl ?_
      refine ops_ex rfl (guard_none rfl) rfl rfl (ex_assign rfl rfl) ?_
      refine ops_nil ?_
      refine at_then ?_
      refine run_ret ?_
      refine at_then_ret ?_
      have hR := Option.some.inj H
      subst hR
      exact at_ret1 rfl rfl ⟨_, rfl, rfl, HM⟩
  · replace H := cond_f hb2156 H
    refine run_skip ?_
    refine at_then ?_
    refine run_seq ?_
    refine run_seq ?_
    refine run_region rfl ?_
    refine ops_ex rfl (guard_none rfl) rfl rfl (ex_move rfl rfl) ?_
    refine ops_nil ?_
    refine at_then ?_
    refine run_cond (b := t2151) rfl (fun hb2159 => ?_) (fun hb2159 => ?_)
    · replace H := cond_t hb2159 H
      refine run_seq ?_
      refine run_region rfl ?_
      refine ops_ex rfl (guard_none rfl) rfl rfl (ex_assign rfl rfl) ?_
      refine ops_nil ?_
      refine at_then ?_
      refine run_ret ?_
      refine at_then_ret ?_
      have hR := Option.some.inj H
      subst hR
      exact at_ret1 rfl rfl ⟨_, rfl, rfl, HM⟩
    · replace H := cond_f hb2159 H
      refine run_skip ?_
      refine at_then ?_
      refine run_seq ?_
      refine run_seq ?_
      refine run_region rfl ?_
      refine ops_ex rfl (guard_none rfl) rfl rfl (ex_move rfl rfl) ?_
      refine ops_ex rfl (guard_none rfl) rfl rfl (ex_move rfl rfl) ?_
      refine ops_ex rfl (guard_none rfl) rfl rfl (ex_lss rfl rfl rfl) ?_
      refine ops_nil ?_
      refine at_then ?_
      refine run_cond (b := (decide (x0 < x1))) rfl (fun hb2161 => ?_) (fun hb2161 => ?_)
      · replace H := cond_t hb2161 H
        refine run_seq ?_
        refine run_region rfl ?_
        refine ops_ex rfl (guard_none rfl) rfl rfl (ex_assign rfl rfl) ?_
        refine ops_nil ?_
        refine at_then ?_
        refine run_ret ?_
        refine at_then_ret ?_
        have hR := Option.some.inj H
        subst hR
        exact at_ret1 rfl rfl ⟨_, rfl, rfl, HM⟩
      · replace H := cond_f hb2161 H
        refine run_skip ?_
        refine at_then ?_
        refine run_seq ?_
        refine run_seq ?_
        refine run_region rfl ?_
        refine ops_ex rfl (guard_none rfl) rfl rfl (ex_move rfl rfl) ?_
        refine ops_ex rfl (guard_none rfl) rfl rfl (ex_move rfl rfl) ?_
        refine ops_ex rfl (guard_none rfl) rfl rfl (ex_gtr rfl rfl rfl) ?_
        refine ops_nil ?_
        refine at_then ?_
        refine run_cond (b := (decide (x1 < x0))) rfl (fun hb2162 => ?_) (fun hb2162 => ?_)
        · replace H := cond_t hb2162 H
          refine run_seq ?_
          refine run_region rfl ?_
          refine ops_ex rfl (guard_none rfl) rfl rfl (ex_assign rfl rfl) ?_
          refine ops_nil ?_
          refine at_then ?_
          refine run_ret ?_
          refine at_then_ret ?_
          have hR := Option.some.inj H
          subst hR
          exact at_ret1 rfl rfl ⟨_, rfl, rfl, HM⟩
        · replace H := cond_f hb2162 H
          refine run_skip ?_
          refine at_then ?_
          refine run_seq ?_
          refine run_region rfl ?_
          refine ops_ex rfl (guard_none rfl) rfl rfl (ex_assign rfl rfl) ?_
          refine ops_nil ?_
          refine at_then ?_
          refine run_ret ?_
          have hR := Option.some.inj H
          subst hR
          exact at_ret1 rfl rfl ⟨_, rfl, rfl, HM⟩

def cmp_Or_int.l0 (x0 : List Int) : Nat → Int → Option (Int ⊕ Unit)
  | 0, _ => none
  | k + 1, a2204 => (bif (decide (a2204 < (x0.length : Int))) then (chk (idxOk a2204 x0.length) (bif ((gt x0 a2204) != 0) then some (.inl (gt x0 a2204)) else cmp_Or_int.l0 x0 k (wrap64 (a2204 + 1)))) else some (.inr ()))
theorem cmp_Or_int.l0_z (x0 : List Int) (a2204 : Int) : cmp_Or_int.l0 x0 0 a2204 = none := rfl
theorem cmp_Or_int.l0_s (x0 : List Int) (k : Nat) (a2204 : Int) : cmp_Or_int.l0 x0 (k + 1) a2204 = (bif (decide (a2204 < (x0.length : Int))) then (chk (idxOk a2204 x0.length) (bif ((gt x0 a2204) != 0) then some (.inl (gt x0 a2204)) else cmp_Or_int.l0 x0 k (wrap64 (a2204 + 1)))) else some (.inr ())) := rfl
def cmp_Or_int.f (k : Nat) (x0 : List Int) : Option Int := ((cmp_Or_int.l0 x0 k 0).bind fun o2198 => thn o2198 (fun r => some r) (fun _ => some 0))
theorem cmp_Or_int.calls {k : Nat} {x0 : List Int} {p0 : Value} {w : World} (hp0 : RdS kInt w p0 x0) {r : Int} (H : cmp_Or_int.f k x0 = some r) :
    Calls Try.prog 161 ([p0] : List Value).toArray w (fun e w_ => ∃ v, e = .returned v ∧ v = (.int .i64 r) ∧ Mem w [] w_ []) := by
  have HM := Mem.start w
  refine calls_run (N := 18) Try.func161 rfl rfl rfl rfl ?_
  unfold cmp_Or_int.f at H
  refine run_seq ?_
  refine run_region rfl ?_
  refine ops_ex rfl (guard_none rfl) rfl rfl (ex_assign rfl rfl) ?_
  refine ops_nil ?_
  refine at_then ?_
  refine run_seq ?_
  refine run_region rfl ?_
  refine ops_ex rfl (guard_none rfl) rfl rfl (ex_assign rfl rfl) ?_
  refine ops_nil ?_
  refine at_then ?_
  obtain ⟨o2198, ho2199, H⟩ := bind_some H
  refine run_mid (fun ρ_ w_ => Sum.inr () = o2198 ∧ ρ_ = [(3, .int .i64 0)] ∧ Mem w [] w_ []) ?_ ?_
  · skip
    refine run_seq ?_
    refine run_region rfl ?_
    refine ops_ex rfl (guard_none rfl) rfl rfl (ex_move rfl rfl) ?_
    refine ops_ex rfl (guard_none rfl) rfl rfl (ex_len (d := kInt) (xs := x0) rfl rfl Try.underlying215 hp0) ?_
    refine ops_ex rfl (guard_none rfl) rfl rfl (ex_move rfl rfl) ?_
    refine ops_nil ?_
    refine at_then ?_
    refine run_block ?_
    refine run_loop (fun k_ ρ_ w_ => ∃ a2204 : Int, cmp_Or_int.l0 x0 k_ a2204 = some o2198 ∧ ρ_ = [(3, .int .i64 0), (6, p0), (7, .int .i64 (x0.length : Int)), (8, .int .i64 a2204)] ∧ Mem w [] w_ []) k (ρ1 := [(3, .int .i64 0), (6, p0), (7, .int .i64 (x0.length : Int)), (8, .int .i64 0)]) ⟨_, ho2199, rfl, HM⟩ (Sub.cons rfl (Sub.cons rfl (Sub.cons rfl (Sub.cons rfl Sub.nil)))) ?_
    clear HM ho2199
    rintro k2209 _ w2210 ⟨a2204, ho2199, rfl, HM⟩
    obtain _ | k2209 := k2209
    · exact nomatch ((cmp_Or_int.l0_z x0 a2204).symm.trans ho2199)
    replace ho2199 := (cmp_Or_int.l0_s x0 k2209 a2204).symm.trans ho2199
    refine run_seq ?_
    refine run_region rfl ?_
    refine ops_ex rfl (guard_none rfl) rfl rfl (ex_lss rfl rfl rfl) ?_
    refine ops_nil ?_
    refine at_then ?_
    refine run_seq ?_
    refine run_cond (b := (decide (a2204 < (x0.length : Int)))) rfl (fun hb2211 => ?_) (fun hb2211 => ?_)
    · replace ho2199 := cond_t hb2211 ho2199
      refine run_skip ?_
      refine at_then ?_
      refine run_seq ?_
      refine run_block ?_
      refine run_seq ?_
      obtain ⟨e2212, ho2199⟩ := chk_some ho2199
      refine run_region rfl ?_
      have hc2213 : CellsAt _ (sb p0) (so p0 + (a2204).toNat * 1) [(.int .i64 (gt x0 a2204))] := rd_plain hp0 e2212
      refine ops_ex rfl (guard_none rfl) rfl rfl (ex_indexAddr (d := kInt) rfl rfl rfl Try.underlying215 tsz3 hp0 (idx_lo e2212) (idx_hi e2212)) ?_
      refine ops_ex rfl (guard_none rfl) rfl rfl (ex_load1 rfl rfl Try.underlying3 rfl ((HM.at_ hc2213) 0 _ rfl)) ?_
      refine ops_ex rfl (guard_none rfl) rfl rfl (ex_assign rfl rfl) ?_
      refine ops_nil ?_
      refine at_then ?_
      refine run_seq ?_
      refine run_region rfl ?_
      refine ops_ex rfl (guard_none rfl) rfl rfl (ex_move rfl rfl) ?_
      refine ops_ex rfl (guard_none rfl) rfl rfl (ex_move rfl rfl) ?_
      refine ops_ex rfl (guard_none rfl) rfl rfl (ex_neq rfl rfl rfl) ?_
      refine ops_nil ?_
      refine at_then ?_
      refine run_cond (b := ((gt x0 a2204) != 0)) rfl (fun hb2214 => ?_) (fun hb2214 => ?_)
      · replace ho2199 := cond_t hb2214 ho2199
        refine run_seq ?_
        refine run_region rfl ?_
        refine ops_ex rfl (guard_none rfl) rfl rfl (ex_move rfl rfl) ?_
        refine ops_ex rfl (guard_none rfl) rfl rfl (ex_assign rfl rfl) ?_
        refine ops_nil ?_
        refine at_then ?_
        refine run_ret ?_
        refine at_block_ret ?_
        refine at_then_ret ?_
        refine at_then_ret ?_
        refine at_block_ret ?_
        refine at_then_ret ?_
        have hR := Option.some.inj ho2199
        subst hR
        have hT := thn_inl H
        have hR := Option.some.inj hT
        subst hR
        exact at_ret1 rfl rfl ⟨_, rfl, rfl, HM⟩
      · replace ho2199 := cond_f hb2214 ho2199
        refine run_skip ?_
        refine at_block ?_
        refine at_then ?_
        refine run_region rfl ?_
        refine ops_ex rfl (guard_none rfl) rfl rfl (ex_add rfl rfl rfl) ?_
        refine ops_ex rfl (guard_none rfl) rfl rfl (ex_move rfl rfl) ?_
        refine ops_nil ?_
        exact at_again k2209 (ρ1 := [(3, .int .i64 0), (6, p0), (7, .int .i64 (x0.length : Int)), (8, .int .i64 (wrap64 (a2204 + 1)))]) (Nat.lt_succ_self _) ⟨_, ho2199, rfl, HM⟩ (Sub.cons rfl (Sub.cons rfl (Sub.cons rfl (Sub.cons rfl Sub.nil))))
    · replace ho2199 := cond_f hb2211 ho2199
      refine run_exit ?_
      refine at_then_exit ?_
      refine at_then_exit ?_
      refine at_block_exit ?_
      exact at_mid (ρ' := [(3, .int .i64 0)]) ⟨(Option.some.inj ho2199), rfl, HM⟩ (Sub.cons rfl Sub.nil)
  · rintro _ w2215 ⟨rfl, rfl, HM⟩
    replace H := (thn_inr H)
    refine run_seq ?_
    refine run_region rfl ?_
    refine ops_ex rfl (guard_none rfl) rfl rfl (ex_move rfl rfl) ?_
    refine ops_ex rfl (guard_none rfl) rfl rfl (ex_assign rfl rfl) ?_
    refine ops_nil ?_
    refine at_then ?_
    refine run_ret ?_
    have hR := Option.some.inj H
    subst hR
    exact at_ret1 rfl rfl ⟨_, rfl, rfl, HM⟩

def impl_compareRefs.f (k : Nat) (x0 : Ref) (x1 : Ref) : Option Int := ((cmp_Compare_int64.f k x0.fTx x1.fTx).bind fun t2226 => ((cmp_Compare_int64.f k x0.fAt x1.fAt).bind fun t2228 => ((cmp_Or_int.f k ([t2226, t2228] : List Int)).bind fun t2233 => some t2233)))
theorem impl_compareRefs.calls {k : Nat} {x0 : Ref} {x1 : Ref}  {w : World}  {r : Int} (H : impl_compareRefs.f k x0 x1 = some r) :
    Calls Try.prog 126 ([.agg #[(.int .i64 x0.fTx), (.int .i64 x0.fAt)], .agg #[(.int .i64 x1.fTx), (.int .i64 x1.fAt)]] : List Value).toArray w (fun e w_ => ∃ v, e = .returned v ∧ v = (.int .i64 r) ∧ Mem w [] w_ []) := by
  have HM := Mem.start w
  refine calls_run (N := 17) Try.func126 rfl rfl rfl rfl ?_
  unfold impl_compareRefs.f at H
  refine run_seq ?_
  refine run_region rfl ?_
  refine ops_does rfl (guard_none rfl) rfl rfl (does_box (cs := [.int .i64 x0.fTx, .int .i64 x0.fAt]) rfl rfl rfl HM) ?_
  rintro _ w2224 ⟨b2218, rfl, HM⟩
  refine ops_does rfl (guard_none rfl) rfl rfl (does_box (cs := [.int .i64 x1.fTx, .int .i64 x1.fAt]) rfl rfl rfl HM) ?_
  rintro _ w2225 ⟨b2221, rfl, HM⟩
  refine ops_ex rfl (guard_none rfl) rfl rfl (ex_assign rfl rfl) ?_
  refine ops_nil ?_
  refine at_then ?_
  refine run_seq ?_
  obtain ⟨t2226, h2227, H⟩ := bind_some H
  obtain ⟨t2228, h2229, H⟩ := bind_some H
  obtain ⟨t2233, h2234, H⟩ := bind_some H
  refine run_drawf (fun w_ => Mem w [] w_ [box b2221 54 [.int .i64 x1.fTx, .int .i64 x1.fAt], box b2218 54 [.int .i64 x0.fTx, .int .i64 x0.fAt]]) [(0, true), (1, true), (2, true), (3, true), (5, true), (6, true), (7, true), (8, true), (4, false), (9, false), (10, false), (11, false), (12, true)] mixed rfl rfl (by kernel_rfl) ?_
  replace HM := HM.grow (fr_drew _)
  have hS := Mem.suf (M := []) HM
  refine drwp_take rfl (guard_none rfl) rfl rfl (fun w_ hS_ => (ex_fieldAddr (off' := 0) rfl rfl Try.underlying54 rfl tsz2 rfl)) hS ?_
  refine drwp_take rfl (guard_none rfl) rfl rfl (fun w_ hS_ => (ex_load1 rfl rfl Try.underlying2 rfl ((hS_.box_at 1 rfl) 0 _ rfl))) hS ?_
  refine drwp_take rfl (guard_none rfl) rfl rfl (fun w_ hS_ => (ex_fieldAddr (off' := 0) rfl rfl Try.underlying54 rfl tsz2 rfl)) hS ?_
  refine drwp_take rfl (guard_none rfl) rfl rfl (fun w_ hS_ => (ex_load1 rfl rfl Try.underlying2 rfl ((hS_.box_at 0 rfl) 0 _ rfl))) hS ?_
  refine drwp_take rfl (guard_none rfl) rfl rfl (fun w_ hS_ => (ex_fieldAddr (off' := 1) rfl rfl Try.underlying54 rfl tsz2 rfl)) hS ?_
  refine drwp_take rfl (guard_none rfl) rfl rfl (fun w_ hS_ => (ex_load1 rfl rfl Try.underlying2 rfl ((hS_.box_at 1 rfl) 1 _ rfl))) hS ?_
  refine drwp_take rfl (guard_none rfl) rfl rfl (fun w_ hS_ => (ex_fieldAddr (off' := 1) rfl rfl Try.underlying54 rfl tsz2 rfl)) hS ?_
  refine drwp_take rfl (guard_none rfl) rfl rfl (fun w_ hS_ => (ex_load1 rfl rfl Try.underlying2 rfl ((hS_.box_at 0 rfl) 1 _ rfl))) hS ?_
  refine drwp_one rfl (guard_none rfl) rfl rfl (does_callk rfl callok162 rfl (cmp_Compare_int64.calls (x0 := x0.fTx) (x1 := x1.fTx) h2227)) ?_
  rintro _ w2235 ⟨rfl, hn⟩
  replace HM : Mem w [] w2235 [box b2221 54 [.int .i64 x1.fTx, .int .i64 x1.fAt], box b2218 54 [.int .i64 x0.fTx, .int .i64 x0.fAt]] := HM.call hn
  refine ⟨Mem.suf (M := []) HM, ?_⟩
  have hS := Mem.suf (M := []) HM
  refine drwp_one rfl (guard_none rfl) rfl rfl (does_callk rfl callok162 rfl (cmp_Compare_int64.calls (x0 := x0.fAt) (x1 := x1.fAt) h2229)) ?_
  rintro _ w2236 ⟨rfl, hn⟩
  replace HM : Mem w [] w2236 [box b2221 54 [.int .i64 x1.fTx, .int .i64 x1.fAt], box b2218 54 [.int .i64 x0.fTx, .int .i64 x0.fAt]] := HM.call hn
  refine ⟨Mem.suf (M := []) HM, ?_⟩
  have hS := Mem.suf (M := []) HM
  refine drwp_one rfl (guard_none rfl) rfl rfl (does_lit (e := 3) (cs := [.int .i64 t2226, .int .i64 t2228]) (xs := ([t2226, t2228] : List Int)) kInt rfl rfl (fun _ => by kernel_rfl) rfl rfl (fun _ _ h => by have h' : _ = [] := h; subst h'; exact (Elems.cons (d := kInt) (f := []) ⟨rfl, rfl⟩ (Elems.cons (d := kInt) (f := []) ⟨rfl, rfl⟩ .nil))) HM.emp) ?_
  rintro v2230 w2237 HM
  refine ⟨Mem.suf (M := [own kInt 3 v2230 ([t2226, t2228] : List Int)]) HM, ?_⟩
  have hS := Mem.suf (M := [own kInt 3 v2230 ([t2226, t2228] : List Int)]) HM
  refine drwp_one rfl (guard_none rfl) rfl rfl (does_callk rfl callok161 rfl (cmp_Or_int.calls (x0 := ([t2226, t2228] : List Int)) (HM.own_rd 0 rfl) h2234)) ?_
  rintro _ w2238 ⟨rfl, hn⟩
  replace HM : Mem w [] w2238 [own kInt 3 v2230 ([t2226, t2228] : List Int), box b2221 54 [.int .i64 x1.fTx, .int .i64 x1.fAt], box b2218 54 [.int .i64 x0.fTx, .int .i64 x0.fAt]] := HM.call hn
  refine ⟨Mem.suf (M := [own kInt 3 v2230 ([t2226, t2228] : List Int)]) HM, ?_⟩
  have hS := Mem.suf (M := [own kInt 3 v2230 ([t2226, t2228] : List Int)]) HM
  refine drwp_take rfl (guard_none rfl) rfl rfl (fun w_ hS_ => (ex_assign rfl rfl)) hS ?_
  refine drwp_done ?_
  refine at_then ?_
  refine run_ret ?_
  replace HM := (HM.front 0 rfl rfl).drop
  replace HM := (HM.front 0 rfl rfl).drop
  replace HM := (HM.front 0 rfl rfl).drop
  have hR := Option.some.inj H
  subst hR
  exact at_ret1 rfl rfl ⟨_, rfl, rfl, HM⟩

def impl_CoinsFault.l0 (x0 : List Coin) : Nat → Int → Option (Int ⊕ Unit)
  | 0, _ => none
  | k + 1, a2460 => (bif (decide (a2460 < (x0.length : Int))) then (chk (idxOk a2460 x0.length) ((impl_isRef.f k ((gt x0 a2460).fRef)).bind fun t2515 => ((bif (!(!t2515)) then impl_isHeight.f k ((gt x0 a2460).fHeight) else some default).bind fun t2517 => ((bif (!((!t2515) || (!t2517))) then impl_within.f k ((gt x0 a2460).fOut.fValue) 1 1000000 else some default).bind fun t2519 => (bif (((!t2515) || (!t2517)) || (!t2519)) then some (.inl 3) else ((impl_RuleFault.f k ((gt x0 a2460).fOut.fRule)).bind fun t2534 => (bif (t2534 != 0) then some (.inl t2534) else (chk (!(decide (0 < a2460)) || (idxOk (wrap64 (a2460 - 1)) x0.length)) ((bif (decide (0 < a2460)) then impl_compareRefs.f k ((gt x0 (wrap64 (a2460 - 1))).fRef) ((gt x0 a2460).fRef) else some default).bind fun t2542 => (bif ((decide (0 < a2460)) && (decide (0 ≤ t2542))) then some (.inl 1) else impl_CoinsFault.l0 x0 k (wrap64 (a2460 + 1)))))))))))) else some (.inr ()))
theorem impl_CoinsFault.l0_z (x0 : List Coin) (a2460 : Int) : impl_CoinsFault.l0 x0 0 a2460 = none := rfl
theorem impl_CoinsFault.l0_s (x0 : List Coin) (k : Nat) (a2460 : Int) : impl_CoinsFault.l0 x0 (k + 1) a2460 = (bif (decide (a2460 < (x0.length : Int))) then (chk (idxOk a2460 x0.length) ((impl_isRef.f k ((gt x0 a2460).fRef)).bind fun t2515 => ((bif (!(!t2515)) then impl_isHeight.f k ((gt x0 a2460).fHeight) else some default).bind fun t2517 => ((bif (!((!t2515) || (!t2517))) then impl_within.f k ((gt x0 a2460).fOut.fValue) 1 1000000 else some default).bind fun t2519 => (bif (((!t2515) || (!t2517)) || (!t2519)) then some (.inl 3) else ((impl_RuleFault.f k ((gt x0 a2460).fOut.fRule)).bind fun t2534 => (bif (t2534 != 0) then some (.inl t2534) else (chk (!(decide (0 < a2460)) || (idxOk (wrap64 (a2460 - 1)) x0.length)) ((bif (decide (0 < a2460)) then impl_compareRefs.f k ((gt x0 (wrap64 (a2460 - 1))).fRef) ((gt x0 a2460).fRef) else some default).bind fun t2542 => (bif ((decide (0 < a2460)) && (decide (0 ≤ t2542))) then some (.inl 1) else impl_CoinsFault.l0 x0 k (wrap64 (a2460 + 1)))))))))))) else some (.inr ())) := rfl
def impl_CoinsFault.f (k : Nat) (x0 : List Coin) : Option Int := (bif (decide (40 < (x0.length : Int))) then some 2 else ((impl_CoinsFault.l0 x0 k 0).bind fun o2423 => thn o2423 (fun r => some r) (fun _ => some 0)))
theorem impl_CoinsFault.calls {k : Nat} {x0 : List Coin} {p0 : Value} {w : World} (hp0 : RdS kCoin w p0 x0) {r : Int} (H : impl_CoinsFault.f k x0 = some r) :
    Calls Try.prog 76 ([p0] : List Value).toArray w (fun e w_ => ∃ v, e = .returned v ∧ v = (.int .i64 r) ∧ Mem w [] w_ []) := by
  have HM := Mem.start w
  refine calls_run (N := 55) Try.func76 rfl rfl rfl rfl ?_
  unfold impl_CoinsFault.f at H
  refine run_seq ?_
  refine run_region rfl ?_
  refine ops_ex rfl (guard_none rfl) rfl rfl (ex_assign rfl rfl) ?_
  refine ops_nil ?_
  refine at_then ?_
  refine run_seq ?_
  refine run_seq ?_
  refine run_region rfl ?_
  refine ops_ex rfl (guard_none rfl) rfl rfl (ex_move rfl rfl) ?_
  refine ops_ex rfl (guard_none rfl) rfl rfl (ex_len (d := kCoin) (xs := x0) rfl rfl Try.underlying44 hp0) ?_
  refine ops_ex rfl (guard_none rfl) rfl rfl (ex_gtr rfl rfl rfl) ?_
  refine ops_nil ?_
  refine at_then ?_
  refine run_cond (b := (decide (40 < (x0.length : Int)))) rfl (fun hb2316 => ?_) (fun hb2316 => ?_)
  · replace H := cond_t hb2316 H
    refine run_seq ?_
    refine run_region rfl ?_
    refine ops_ex rfl (guard_none rfl) rfl rfl (ex_assign rfl rfl) ?_
    refine ops_nil ?_
    refine at_then ?_
    refine run_ret ?_
    refine at_then_ret ?_
    have hR := Option.some.inj H
    subst hR
    exact at_ret1 rfl rfl ⟨_, rfl, rfl, HM⟩
  · replace H := cond_f hb2316 H
    refine run_skip ?_
    refine at_then ?_
    obtain ⟨o2423, ho2424, H⟩ := bind_some H
    refine run_mid (fun ρ_ w_ => Sum.inr () = o2423 ∧ ρ_ = [] ∧ Mem w [] w_ []) ?_ ?_
    · skip
      refine run_seq ?_
      refine run_region rfl ?_
      refine ops_ex rfl (guard_none rfl) rfl rfl (ex_move rfl rfl) ?_
      refine ops_ex rfl (guard_none rfl) rfl rfl (ex_len (d := kCoin) (xs := x0) rfl rfl Try.underlying44 hp0) ?_
      refine ops_ex rfl (guard_none rfl) rfl rfl (ex_move rfl rfl) ?_
      refine ops_nil ?_
      refine at_then ?_
      refine run_block ?_
      refine run_loop (fun k_ ρ_ w_ => ∃ a2460 : Int, impl_CoinsFault.l0 x0 k_ a2460 = some o2423 ∧ ρ_ = [(0, p0), (9, p0), (10, .int .i64 (x0.length : Int)), (11, .int .i64 a2460)] ∧ Mem w [] w_ []) k (ρ1 := [(0, p0), (9, p0), (10, .int .i64 (x0.length : Int)), (11, .int .i64 0)]) ⟨_, ho2424, rfl, HM⟩ (Sub.cons rfl (Sub.cons rfl (Sub.cons rfl (Sub.cons rfl Sub.nil)))) ?_
      clear HM ho2424
      rintro k2496 _ w2497 ⟨a2460, ho2424, rfl, HM⟩
      obtain _ | k2496 := k2496
      · exact nomatch ((impl_CoinsFault.l0_z x0 a2460).symm.trans ho2424)
      replace ho2424 := (impl_CoinsFault.l0_s x0 k2496 a2460).symm.trans ho2424
      refine run_seq ?_
      refine run_region rfl ?_
      refine ops_ex rfl (guard_none rfl) rfl rfl (ex_lss rfl rfl rfl) ?_
      refine ops_nil ?_
      refine at_then ?_
      refine run_seq ?_
      refine run_cond (b := (decide (a2460 < (x0.length : Int)))) rfl (fun hb2498 => ?_) (fun hb2498 => ?_)
      · replace ho2424 := cond_t hb2498 ho2424
        refine run_skip ?_
        refine at_then ?_
        refine run_seq ?_
        refine run_block ?_
        refine run_seq ?_
        obtain ⟨e2499, ho2424⟩ := chk_some ho2424
        refine run_region rfl ?_
        refine ops_ex rfl (guard_none rfl) rfl rfl (ex_move rfl rfl) ?_
        obtain ⟨kv2501, hc2500, hk2502⟩ : ∃ u, CellsAt _ (sb p0) (so p0 + (a2460).toNat * 8) [(.int .i64 ((gt x0 a2460).fRef.fTx)), (.int .i64 ((gt x0 a2460).fRef.fAt)), (.int .i64 ((gt x0 a2460).fOut.fValue)), u, (.int .i64 ((gt x0 a2460).fOut.fRule.fNeed)), (.int .i64 ((gt x0 a2460).fOut.fRule.fAfter)), (.int .i64 ((gt x0 a2460).fHeight)), (.bool ((gt x0 a2460).fMined))] ∧ RdS kInt _ u ((gt x0 a2460).fOut.fRule.fKeys) := rd_with1 hp0 e2499
        refine ops_ex rfl (guard_none rfl) rfl rfl (ex_indexAddr (d := kCoin) rfl rfl rfl Try.underlying44 tsz123 hp0 (idx_lo e2499) (idx_hi e2499)) ?_
        refine ops_ex rfl (guard_none rfl) rfl rfl (ex_loadN (cs := [(.int .i64 ((gt x0 a2460).fRef.fTx)), (.int .i64 ((gt x0 a2460).fRef.fAt)), (.int .i64 ((gt x0 a2460).fOut.fValue)), kv2501, (.int .i64 ((gt x0 a2460).fOut.fRule.fNeed)), (.int .i64 ((gt x0 a2460).fOut.fRule.fAfter)), (.int .i64 ((gt x0 a2460).fHeight)), (.bool ((gt x0 a2460).fMined))]) rfl rfl Try.underlying123 rfl tsz123 rfl ((HM.at_ hc2500).sub 0 8 rfl)) ?_
        refine ops_does rfl (guard_none rfl) rfl rfl (does_alloc (cs := [.int .i64 0, .int .i64 0, .int .i64 0, .slice none 0 0, .int .i64 0, .int .i64 0, .int .i64 0, .bool false]) rfl tz123 rfl HM) ?_
        rintro _ w2506 ⟨b2503, rfl, HM⟩
        refine ops_ex rfl (guard_none rfl) rfl rfl (ex_assign rfl rfl) ?_
        refine ops_doesS rfl (guard_none rfl) rfl (does_store (vs := [.int .i64 ((gt x0 a2460).fRef.fTx), .int .i64 ((gt x0 a2460).fRef.fAt), .int .i64 ((gt x0 a2460).fOut.fValue), kv2501, .int .i64 ((gt x0 a2460).fOut.fRule.fNeed), .int .i64 ((gt x0 a2460).fOut.fRule.fAfter), .int .i64 ((gt x0 a2460).fHeight), .bool ((gt x0 a2460).fMined)]) (cs' := [.int .i64 ((gt x0 a2460).fRef.fTx), .int .i64 ((gt x0 a2460).fRef.fAt), .int .i64 ((gt x0 a2460).fOut.fValue), kv2501, .int .i64 ((gt x0 a2460).fOut.fRule.fNeed), .int .i64 ((gt x0 a2460).fOut.fRule.fAfter), .int .i64 ((gt x0 a2460).fHeight), .bool ((gt x0 a2460).fMined)]) rfl rfl rfl rfl tsz123 (Ones.int (Ones.int (Ones.int (Ones.rd hk2502 (Ones.int (Ones.int (Ones.int (Ones.bool Ones.nil)))))))) rfl rfl HM) ?_
        rintro w2507 HM
        refine ops_nil ?_
        refine at_then ?_
        refine run_seq ?_
        refine run_seq ?_
        obtain ⟨t2515, h2516, ho2424⟩ := bind_some ho2424
        obtain ⟨t2517, h2518, ho2424⟩ := bind_some ho2424
        obtain ⟨t2519, h2520, ho2424⟩ := bind_some ho2424
        refine run_meet (fun ρ_ w_ => ρ_ = [(0, p0), (9, p0), (10, .int .i64 (x0.length : Int)), (11, .int .i64 a2460), (4, .pointer (some ⟨b2503, 0, none⟩)), (3, .int .i64 a2460), (32, .bool (((!t2515) || (!t2517)) || (!t2519)))] ∧ Mem w [] w_ [box b2503 123 [.int .i64 ((gt x0 a2460).fRef.fTx), .int .i64 ((gt x0 a2460).fRef.fAt), .int .i64 ((gt x0 a2460).fOut.fValue), kv2501, .int .i64 ((gt x0 a2460).fOut.fRule.fNeed), .int .i64 ((gt x0 a2460).fOut.fRule.fAfter), .int .i64 ((gt x0 a2460).fHeight), .bool ((gt x0 a2460).fMined)]]) ?_ ?_
        · skip
          refine run_region rfl ?_
          refine ops_ex rfl (guard_none rfl) rfl rfl (ex_fieldAddr (off' := 0) rfl rfl Try.underlying123 rfl tsz54 rfl) ?_
          refine ops_ex rfl (guard_none rfl) rfl rfl (ex_loadN (cs := [(.int .i64 ((gt x0 a2460).fRef.fTx)), (.int .i64 ((gt x0 a2460).fRef.fAt))]) rfl rfl Try.underlying54 rfl tsz54 rfl ((HM.box_at 0 rfl).sub 0 2 rfl)) ?_
          refine ops_does rfl (guard_none rfl) rfl rfl (does_callk rfl callok123 rfl (impl_isRef.calls (x0 := (gt x0 a2460).fRef) h2516)) ?_
          rintro _ w2521 ⟨rfl, hn⟩
          replace HM : Mem w [] w2521 [box b2503 123 [.int .i64 ((gt x0 a2460).fRef.fTx), .int .i64 ((gt x0 a2460).fRef.fAt), .int .i64 ((gt x0 a2460).fOut.fValue), kv2501, .int .i64 ((gt x0 a2460).fOut.fRule.fNeed), .int .i64 ((gt x0 a2460).fOut.fRule.fAfter), .int .i64 ((gt x0 a2460).fHeight), .bool ((gt x0 a2460).fMined)]] := HM.call hn
          refine ops_ex rfl (guard_none rfl) rfl rfl (ex_not rfl rfl) ?_
          refine ops_ex rfl (guard_none rfl) rfl rfl (ex_move rfl rfl) ?_
          refine bool_cases (!t2515) (fun hg2522 => ?_) (fun hg2522 => ?_)
          · skip
            refine ops_off rfl (guard_off rfl rfl rfl hg2522) rfl rfl ?_
            refine ops_off rfl (guard_off rfl rfl rfl hg2522) rfl rfl ?_
            refine ops_off rfl (guard_off rfl rfl rfl hg2522) rfl rfl ?_
            refine ops_off rfl (guard_off rfl rfl rfl hg2522) rfl rfl ?_
            have hg2523 : ((!t2515) || (!t2517)) = true := by simp only [hg2522, Bool.and_true, Bool.true_and, Bool.and_false, Bool.false_and, Bool.or_true, Bool.true_or, Bool.or_false, Bool.false_or, Bool.not_true, Bool.not_false, Bool.not_not]
            refine ops_ex (v := .bool ((!t2515) || (!t2517))) rfl (guard_none rfl) rfl rfl (ex_por_t rfl rfl hg2522) ?_
            refine ops_ex rfl (guard_none rfl) rfl rfl (ex_move rfl rfl) ?_
            refine ops_off rfl (guard_off rfl rfl rfl hg2523) rfl rfl ?_
            refine ops_off rfl (guard_off rfl rfl rfl hg2523) rfl rfl ?_
            refine ops_off rfl (guard_off rfl rfl rfl hg2523) rfl rfl ?_
            refine ops_off rfl (guard_off rfl rfl rfl hg2523) rfl rfl ?_
            refine ops_off rfl (guard_off rfl rfl rfl hg2523) rfl rfl ?_
            have hg2524 : (((!t2515) || (!t2517)) || (!t2519)) = true := by simp only [hg2523, Bool.and_true, Bool.true_and, Bool.and_false, Bool.false_and, Bool.or_true, Bool.true_or, Bool.or_false, Bool.false_or, Bool.not_true, Bool.not_false, Bool.not_not]
            refine ops_ex (v := .bool (((!t2515) || (!t2517)) || (!t2519))) rfl (guard_none rfl) rfl rfl (ex_por_t rfl rfl hg2523) ?_
            refine ops_nil ?_
            exact at_meet [(0, p0), (9, p0), (10, .int .i64 (x0.length : Int)), (11, .int .i64 a2460), (4, .pointer (some ⟨b2503, 0, none⟩)), (3, .int .i64 a2460), (32, .bool (((!t2515) || (!t2517)) || (!t2519)))] ⟨rfl, HM⟩ (Sub.cons rfl (Sub.cons rfl (Sub.cons rfl (Sub.cons rfl (Sub.cons rfl (Sub.cons rfl (Sub.cons rfl Sub.nil)))))))
          · skip
            refine ops_ex rfl (guard_on rfl rfl rfl hg2522) rfl rfl (ex_fieldAddr (off' := 6) rfl rfl Try.underlying123 rfl tsz2 rfl) ?_
            refine ops_ex rfl (guard_on rfl rfl rfl hg2522) rfl rfl (ex_load1 rfl rfl Try.underlying2 rfl ((HM.box_at 0 rfl) 6 _ rfl)) ?_
            refine ops_does rfl (guard_on rfl rfl rfl hg2522) rfl rfl (does_callk rfl callok124 rfl (impl_isHeight.calls (x0 := (gt x0 a2460).fHeight) (cond_t (not_mk hg2522) h2518))) ?_
            rintro _ w2525 ⟨rfl, hn⟩
            replace HM : Mem w [] w2525 [box b2503 123 [.int .i64 ((gt x0 a2460).fRef.fTx), .int .i64 ((gt x0 a2460).fRef.fAt), .int .i64 ((gt x0 a2460).fOut.fValue), kv2501, .int .i64 ((gt x0 a2460).fOut.fRule.fNeed), .int .i64 ((gt x0 a2460).fOut.fRule.fAfter), .int .i64 ((gt x0 a2460).fHeight), .bool ((gt x0 a2460).fMined)]] := HM.call hn
            refine ops_ex rfl (guard_on rfl rfl rfl hg2522) rfl rfl (ex_not rfl rfl) ?_
            refine ops_ex (v := .bool ((!t2515) || (!t2517))) rfl (guard_none rfl) rfl rfl (ex_por_f rfl rfl hg2522 rfl) ?_
            refine ops_ex rfl (guard_none rfl) rfl rfl (ex_move rfl rfl) ?_
            refine bool_cases ((!t2515) || (!t2517)) (fun hg2526 => ?_) (fun hg2526 => ?_)
            · skip
              refine ops_off rfl (guard_off rfl rfl rfl hg2526) rfl rfl ?_
              refine ops_off rfl (guard_off rfl rfl rfl hg2526) rfl rfl ?_
              refine ops_off rfl (guard_off rfl rfl rfl hg2526) rfl rfl ?_
              refine ops_off rfl (guard_off rfl rfl rfl hg2526) rfl rfl ?_
              refine ops_off rfl (guard_off rfl rfl rfl hg2526) rfl rfl ?_
              have hg2527 : (((!t2515) || (!t2517)) || (!t2519)) = true := by simp only [hg2526, Bool.and_true, Bool.true_and, Bool.and_false, Bool.false_and, Bool.or_true, Bool.true_or, Bool.or_false, Bool.false_or, Bool.not_true, Bool.not_false, Bool.not_not]
              refine ops_ex (v := .bool (((!t2515) || (!t2517)) || (!t2519))) rfl (guard_none rfl) rfl rfl (ex_por_t rfl rfl hg2526) ?_
              refine ops_nil ?_
              exact at_meet [(0, p0), (9, p0), (10, .int .i64 (x0.length : Int)), (11, .int .i64 a2460), (4, .pointer (some ⟨b2503, 0, none⟩)), (3, .int .i64 a2460), (32, .bool (((!t2515) || (!t2517)) || (!t2519)))] ⟨rfl, HM⟩ (Sub.cons rfl (Sub.cons rfl (Sub.cons rfl (Sub.cons rfl (Sub.cons rfl (Sub.cons rfl (Sub.cons rfl Sub.nil)))))))
            · skip
              refine ops_ex rfl (guard_on rfl rfl rfl hg2526) rfl rfl (ex_fieldAddr (off' := 2) rfl rfl Try.underlying123 rfl tsz121 rfl) ?_
              refine ops_ex rfl (guard_on rfl rfl rfl hg2526) rfl rfl (ex_fieldAddr (off' := 2) rfl rfl Try.underlying121 rfl tsz2 rfl) ?_
              refine ops_ex rfl (guard_on rfl rfl rfl hg2526) rfl rfl (ex_load1 rfl rfl Try.underlying2 rfl ((HM.box_at 0 rfl) 2 _ rfl)) ?_
              refine ops_does rfl (guard_on rfl rfl rfl hg2526) rfl rfl (does_callk rfl callok112 rfl (impl_within.calls (x0 := (gt x0 a2460).fOut.fValue) (x1 := 1) (x2 := 1000000) (cond_t (not_mk hg2526) h2520))) ?_
              rintro _ w2528 ⟨rfl, hn⟩
              replace HM : Mem w [] w2528 [box b2503 123 [.int .i64 ((gt x0 a2460).fRef.fTx), .int .i64 ((gt x0 a2460).fRef.fAt), .int .i64 ((gt x0 a2460).fOut.fValue), kv2501, .int .i64 ((gt x0 a2460).fOut.fRule.fNeed), .int .i64 ((gt x0 a2460).fOut.fRule.fAfter), .int .i64 ((gt x0 a2460).fHeight), .bool ((gt x0 a2460).fMined)]] := HM.call hn
              refine ops_ex rfl (guard_on rfl rfl rfl hg2526) rfl rfl (ex_not rfl rfl) ?_
              refine ops_ex (v := .bool (((!t2515) || (!t2517)) || (!t2519))) rfl (guard_none rfl) rfl rfl (ex_por_f rfl rfl hg2526 rfl) ?_
              refine ops_nil ?_
              exact at_meet [(0, p0), (9, p0), (10, .int .i64 (x0.length : Int)), (11, .int .i64 a2460), (4, .pointer (some ⟨b2503, 0, none⟩)), (3, .int .i64 a2460), (32, .bool (((!t2515) || (!t2517)) || (!t2519)))] ⟨rfl, HM⟩ (Sub.cons rfl (Sub.cons rfl (Sub.cons rfl (Sub.cons rfl (Sub.cons rfl (Sub.cons rfl (Sub.cons rfl Sub.nil)))))))
        · rintro _ w2529 ⟨rfl, HM⟩
          refine at_then ?_
          refine run_cond (b := (((!t2515) || (!t2517)) || (!t2519))) rfl (fun hb2530 => ?_) (fun hb2530 => ?_)
          · replace ho2424 := cond_t hb2530 ho2424
            refine run_seq ?_
            refine run_region rfl ?_
            refine ops_ex rfl (guard_none rfl) rfl rfl (ex_assign rfl rfl) ?_
            refine ops_nil ?_
            refine at_then ?_
            refine run_ret ?_
            refine at_then_ret ?_
            refine at_block_ret ?_
            refine at_then_ret ?_
            refine at_then_ret ?_
            refine at_block_ret ?_
            refine at_then_ret ?_
            replace HM := (HM.front 0 rfl rfl).drop
            have hR := Option.some.inj ho2424
            subst hR
            have hT := thn_inl H
            have hR := Option.some.inj hT
            subst hR
            exact at_ret1 rfl rfl ⟨_, rfl, rfl, HM⟩
          · replace ho2424 := cond_f hb2530 ho2424
            refine run_skip ?_
            refine at_then ?_
            refine run_seq ?_
            refine run_seq ?_
            obtain ⟨t2534, h2535, ho2424⟩ := bind_some ho2424
            refine run_region rfl ?_
            refine ops_ex rfl (guard_none rfl) rfl rfl (ex_fieldAddr (off' := 2) rfl rfl Try.underlying123 rfl tsz121 rfl) ?_
            refine ops_ex rfl (guard_none rfl) rfl rfl (ex_fieldAddr (off' := 3) rfl rfl Try.underlying121 rfl tsz119 rfl) ?_
            refine ops_ex rfl (guard_none rfl) rfl rfl (ex_loadN (cs := [kv2501, (.int .i64 ((gt x0 a2460).fOut.fRule.fNeed)), (.int .i64 ((gt x0 a2460).fOut.fRule.fAfter))]) rfl rfl Try.underlying119 rfl tsz119 rfl ((HM.box_at 0 rfl).sub 3 3 rfl)) ?_
            refine ops_does rfl (guard_none rfl) rfl rfl (does_callk rfl callok125 rfl (impl_RuleFault.calls (x0 := (gt x0 a2460).fOut.fRule) (HM.rd hk2502) h2535)) ?_
            rintro _ w2536 ⟨rfl, hn⟩
            replace HM : Mem w [] w2536 [box b2503 123 [.int .i64 ((gt x0 a2460).fRef.fTx), .int .i64 ((gt x0 a2460).fRef.fAt), .int .i64 ((gt x0 a2460).fOut.fValue), kv2501, .int .i64 ((gt x0 a2460).fOut.fRule.fNeed), .int .i64 ((gt x0 a2460).fOut.fRule.fAfter), .int .i64 ((gt x0 a2460).fHeight), .bool ((gt x0 a2460).fMined)]] := HM.call hn
            refine ops_ex rfl (guard_none rfl) rfl rfl (ex_assign rfl rfl) ?_
            refine ops_nil ?_
            refine at_then ?_
            refine run_seq ?_
            refine run_region rfl ?_
            refine ops_ex rfl (guard_none rfl) rfl rfl (ex_move rfl rfl) ?_
            refine ops_ex rfl (guard_none rfl) rfl rfl (ex_neq rfl rfl rfl) ?_
            refine ops_nil ?_
            refine at_then ?_
            refine run_cond (b := (t2534 != 0)) rfl (fun hb2537 => ?_) (fun hb2537 => ?_)
            · replace ho2424 := cond_t hb2537 ho2424
              refine run_seq ?_
              refine run_region rfl ?_
              refine ops_ex rfl (guard_none rfl) rfl rfl (ex_move rfl rfl) ?_
              refine ops_ex rfl (guard_none rfl) rfl rfl (ex_assign rfl rfl) ?_
              refine ops_nil ?_
              refine at_then ?_
              refine run_ret ?_
              refine at_then_ret ?_
              refine at_block_ret ?_
              refine at_then_ret ?_
              refine at_then_ret ?_
              refine at_block_ret ?_
              refine at_then_ret ?_
              replace HM := (HM.front 0 rfl rfl).drop
              have hR := Option.some.inj ho2424
              subst hR
              have hT := thn_inl H
              have hR := Option.some.inj hT
              subst hR
              exact at_ret1 rfl rfl ⟨_, rfl, rfl, HM⟩
            · replace ho2424 := cond_f hb2537 ho2424
              refine run_skip ?_
              refine at_then ?_
              refine run_seq ?_
              obtain ⟨e2538, ho2424⟩ := chk_some ho2424
              obtain ⟨t2542, h2543, ho2424⟩ := bind_some ho2424
              refine run_meet (fun ρ_ w_ => ρ_ = [(0, p0), (9, p0), (10, .int .i64 (x0.length : Int)), (11, .int .i64 a2460), (53, .bool ((decide (0 < a2460)) && (decide (0 ≤ t2542))))] ∧ Mem w [] w_ []) ?_ ?_
              · skip
                refine run_drawf (fun w_ => Mem w [] w_ [box b2503 123 [.int .i64 ((gt x0 a2460).fRef.fTx), .int .i64 ((gt x0 a2460).fRef.fAt), .int .i64 ((gt x0 a2460).fOut.fValue), kv2501, .int .i64 ((gt x0 a2460).fOut.fRule.fNeed), .int .i64 ((gt x0 a2460).fOut.fRule.fAfter), .int .i64 ((gt x0 a2460).fHeight), .bool ((gt x0 a2460).fMined)]]) [(0, true), (1, true), (2, true), (3, true), (4, true), (5, true), (6, true), (7, true), (8, true), (9, true), (10, true), (11, false), (12, true), (13, true)] mixed rfl rfl (by kernel_rfl) ?_
                replace HM := HM.grow (fr_drew _)
                have hS := Mem.suf (M := []) HM
                refine drwp_take rfl (guard_none rfl) rfl rfl (fun w_ hS_ => (ex_move rfl rfl)) hS ?_
                refine drwp_take rfl (guard_none rfl) rfl rfl (fun w_ hS_ => (ex_gtr rfl rfl rfl)) hS ?_
                refine drwp_take rfl (guard_none rfl) rfl rfl (fun w_ hS_ => (ex_move rfl rfl)) hS ?_
                refine bool_cases (decide (0 < a2460)) (fun hg2544 => ?_) (fun hg2544 => ?_)
                · skip
                  refine drwp_take rfl (guard_on rfl rfl rfl hg2544) rfl rfl (fun w_ hS_ => (ex_move rfl rfl)) hS ?_
                  refine drwp_take rfl (guard_on rfl rfl rfl hg2544) rfl rfl (fun w_ hS_ => (ex_move rfl rfl)) hS ?_
                  refine drwp_take rfl (guard_on rfl rfl rfl hg2544) rfl rfl (fun w_ hS_ => (ex_sub rfl rfl rfl)) hS ?_
                  obtain ⟨kv2540, hc2539, hk2541⟩ : ∃ u, CellsAt _ (sb p0) (so p0 + (wrap64 (a2460 - 1)).toNat * 8) [(.int .i64 ((gt x0 (wrap64 (a2460 - 1))).fRef.fTx)), (.int .i64 ((gt x0 (wrap64 (a2460 - 1))).fRef.fAt)), (.int .i64 ((gt x0 (wrap64 (a2460 - 1))).fOut.fValue)), u, (.int .i64 ((gt x0 (wrap64 (a2460 - 1))).fOut.fRule.fNeed)), (.int .i64 ((gt x0 (wrap64 (a2460 - 1))).fOut.fRule.fAfter)), (.int .i64 ((gt x0 (wrap64 (a2460 - 1))).fHeight)), (.bool ((gt x0 (wrap64 (a2460 - 1))).fMined))] ∧ RdS kInt _ u ((gt x0 (wrap64 (a2460 - 1))).fOut.fRule.fKeys) := rd_with1 hp0 (or_t e2538 hg2544)
                  refine drwp_take rfl (guard_on rfl rfl rfl hg2544) rfl rfl (fun w_ hS_ => (ex_indexAddr (d := kCoin) rfl rfl rfl Try.underlying44 tsz123 hp0 (idx_lo (or_t e2538 hg2544)) (idx_hi (or_t e2538 hg2544)))) hS ?_
                  refine drwp_take rfl (guard_on rfl rfl rfl hg2544) rfl rfl (fun w_ hS_ => (ex_fieldAddr (off' := so p0 + (wrap64 (a2460 - 1)).toNat * 8) rfl rfl Try.underlying123 rfl tsz54 rfl)) hS ?_
                  refine drwp_take rfl (guard_on rfl rfl rfl hg2544) rfl rfl (fun w_ hS_ => (ex_loadN (cs := [(.int .i64 ((gt x0 (wrap64 (a2460 - 1))).fRef.fTx)), (.int .i64 ((gt x0 (wrap64 (a2460 - 1))).fRef.fAt))]) rfl rfl Try.underlying54 rfl tsz54 rfl ((hS_.at_ hc2539).sub 0 2 rfl))) hS ?_
                  refine drwp_take rfl (guard_on rfl rfl rfl hg2544) rfl rfl (fun w_ hS_ => (ex_fieldAddr (off' := 0) rfl rfl Try.underlying123 rfl tsz54 rfl)) hS ?_
                  refine drwp_take rfl (guard_on rfl rfl rfl hg2544) rfl rfl (fun w_ hS_ => (ex_loadN (cs := [(.int .i64 ((gt x0 a2460).fRef.fTx)), (.int .i64 ((gt x0 a2460).fRef.fAt))]) rfl rfl Try.underlying54 rfl tsz54 rfl ((hS_.box_at 0 rfl).sub 0 2 rfl))) hS ?_
                  refine drwp_one rfl (guard_on rfl rfl rfl hg2544) rfl rfl (does_callk rfl callok126 rfl (impl_compareRefs.calls (x0 := (gt x0 (wrap64 (a2460 - 1))).fRef) (x1 := (gt x0 a2460).fRef) (cond_t hg2544 h2543))) ?_
                  rintro _ w2545 ⟨rfl, hn⟩
                  replace HM : Mem w [] w2545 [box b2503 123 [.int .i64 ((gt x0 a2460).fRef.fTx), .int .i64 ((gt x0 a2460).fRef.fAt), .int .i64 ((gt x0 a2460).fOut.fValue), kv2501, .int .i64 ((gt x0 a2460).fOut.fRule.fNeed), .int .i64 ((gt x0 a2460).fOut.fRule.fAfter), .int .i64 ((gt x0 a2460).fHeight), .bool ((gt x0 a2460).fMined)]] := HM.call hn
                  refine ⟨Mem.suf (M := []) HM, ?_⟩
                  have hS := Mem.suf (M := []) HM
                  refine drwp_take rfl (guard_on rfl rfl rfl hg2544) rfl rfl (fun w_ hS_ => (ex_geq rfl rfl rfl)) hS ?_
                  refine drwp_take (v := .bool ((decide (0 < a2460)) && (decide (0 ≤ t2542)))) rfl (guard_none rfl) rfl rfl (fun w_ hS_ => (ex_pand_t rfl rfl hg2544 rfl)) hS ?_
                  refine drwp_done ?_
                  replace HM := (HM.front 0 rfl rfl).drop
                  exact at_meet [(0, p0), (9, p0), (10, .int .i64 (x0.length : Int)), (11, .int .i64 a2460), (53, .bool ((decide (0 < a2460)) && (decide (0 ≤ t2542))))] ⟨rfl, HM⟩ (Sub.cons rfl (Sub.cons rfl (Sub.cons rfl (Sub.cons rfl (Sub.cons rfl Sub.nil)))))
                · skip
                  refine drwp_off rfl (guard_off rfl rfl rfl hg2544) rfl rfl hS ?_
                  refine drwp_off rfl (guard_off rfl rfl rfl hg2544) rfl rfl hS ?_
                  refine drwp_off rfl (guard_off rfl rfl rfl hg2544) rfl rfl hS ?_
                  refine drwp_off rfl (guard_off rfl rfl rfl hg2544) rfl rfl hS ?_
                  refine drwp_off rfl (guard_off rfl rfl rfl hg2544) rfl rfl hS ?_
                  refine drwp_off rfl (guard_off rfl rfl rfl hg2544) rfl rfl hS ?_
                  refine drwp_off rfl (guard_off rfl rfl rfl hg2544) rfl rfl hS ?_
                  refine drwp_off rfl (guard_off rfl rfl rfl hg2544) rfl rfl hS ?_
                  refine drwp_off1 rfl (guard_off rfl rfl rfl hg2544) rfl rfl ⟨hS, ?_⟩
                  refine drwp_off rfl (guard_off rfl rfl rfl hg2544) rfl rfl hS ?_
                  have hg2546 : ((decide (0 < a2460)) && (decide (0 ≤ t2542))) = false := by simp only [hg2544, Bool.and_true, Bool.true_and, Bool.and_false, Bool.false_and, Bool.or_true, Bool.true_or, Bool.or_false, Bool.false_or, Bool.not_true, Bool.not_false, Bool.not_not]
                  refine drwp_take (v := .bool ((decide (0 < a2460)) && (decide (0 ≤ t2542)))) rfl (guard_none rfl) rfl rfl (fun w_ hS_ => (ex_pand_f rfl rfl hg2544)) hS ?_
                  refine drwp_done ?_
                  replace HM := (HM.front 0 rfl rfl).drop
                  exact at_meet [(0, p0), (9, p0), (10, .int .i64 (x0.length : Int)), (11, .int .i64 a2460), (53, .bool ((decide (0 < a2460)) && (decide (0 ≤ t2542))))] ⟨rfl, HM⟩ (Sub.cons rfl (Sub.cons rfl (Sub.cons rfl (Sub.cons rfl (Sub.cons rfl Sub.nil)))))
              · rintro _ w2547 ⟨rfl, HM⟩
                refine at_then ?_
                refine run_cond (b := ((decide (0 < a2460)) && (decide (0 ≤ t2542)))) rfl (fun hb2548 => ?_) (fun hb2548 => ?_)
                · replace ho2424 := cond_t hb2548 ho2424
                  refine run_seq ?_
                  refine run_region rfl ?_
                  refine ops_ex rfl (guard_none rfl) rfl rfl (ex_assign rfl rfl) ?_
                  refine ops_nil ?_
                  refine at_then ?_
                  refine run_ret ?_
                  refine at_block_ret ?_
                  refine at_then_ret ?_
                  refine at_then_ret ?_
                  refine at_block_ret ?_
                  refine at_then_ret ?_
                  have hR := Option.some.inj ho2424
                  subst hR
                  have hT := thn_inl H
                  have hR := Option.some.inj hT
                  subst hR
                  exact at_ret1 rfl rfl ⟨_, rfl, rfl, HM⟩
                · replace ho2424 := cond_f hb2548 ho2424
                  refine run_skip ?_
                  refine at_block ?_
                  refine at_then ?_
                  refine run_region rfl ?_
                  refine ops_ex rfl (guard_none rfl) rfl rfl (ex_add rfl rfl rfl) ?_
                  refine ops_ex rfl (guard_none rfl) rfl rfl (ex_move rfl rfl) ?_
                  refine ops_nil ?_
                  exact at_again k2496 (ρ1 := [(0, p0), (9, p0), (10, .int .i64 (x0.length : Int)), (11, .int .i64 (wrap64 (a2460 + 1)))]) (Nat.lt_succ_self _) ⟨_, ho2424, rfl, HM⟩ (Sub.cons rfl (Sub.cons rfl (Sub.cons rfl (Sub.cons rfl Sub.nil))))
      · replace ho2424 := cond_f hb2498 ho2424
        refine run_exit ?_
        refine at_then_exit ?_
        refine at_then_exit ?_
        refine at_block_exit ?_
        exact at_mid (ρ' := []) ⟨(Option.some.inj ho2424), rfl, HM⟩ Sub.nil
    · rintro _ w2549 ⟨rfl, rfl, HM⟩
      replace H := (thn_inr H)
      refine run_seq ?_
      refine run_region rfl ?_
      refine ops_ex rfl (guard_none rfl) rfl rfl (ex_assign rfl rfl) ?_
      refine ops_nil ?_
      refine at_then ?_
      refine run_ret ?_
      have hR := Option.some.inj H
      subst hR
      exact at_ret1 rfl rfl ⟨_, rfl, rfl, HM⟩

def slices_Clone_int64.f (k : Nat) (x0 : List Int) : Option ((List Int)) := (chk (leB ((([] : List Int).length + x0.length) * 8) 140737488355328) (some (([] : List Int) ++ x0)))
theorem slices_Clone_int64.calls {k : Nat} {x0 : List Int} {p0 : Value} {w : World} (hp0 : RdS kInt w p0 x0) {r : (List Int)} (H : slices_Clone_int64.f k x0 = some r) :
    Calls Try.prog 180 ([p0] : List Value).toArray w (fun e w_ => ∃ v, e = .returned v ∧ ∃ u0 : Value, v = u0 ∧ Mem w [] w_ [own kInt 2 u0 r]) := by
  have HM := Mem.start w
  refine calls_run (N := 8) Try.func180 rfl rfl rfl rfl ?_
  unfold slices_Clone_int64.f at H
  refine run_seq ?_
  refine run_region rfl ?_
  refine ops_ex rfl (guard_none rfl) rfl rfl (ex_assign rfl rfl) ?_
  refine ops_nil ?_
  refine at_then ?_
  refine run_seq ?_
  refine run_seq ?_
  refine run_region rfl ?_
  refine ops_ex rfl (guard_none rfl) rfl rfl (ex_move rfl rfl) ?_
  refine ops_exE rfl (guard_none rfl) rfl rfl (ex_isnil rfl rfl rfl Try.underlying111 hp0) ?_
  rintro _ ⟨b2590, rfl, hb2591⟩
  refine ops_nil ?_
  refine at_then ?_
  refine run_cond (b := b2590) rfl (fun hb2592 => ?_) (fun hb2592 => ?_)
  · have hx_ := hb2591 hb2592
    subst hx_
    obtain ⟨_, H⟩ := chk_some H
    replace H : some ([] : List Int) = r := H
    refine run_seq ?_
    refine run_region rfl ?_
    refine ops_ex rfl (guard_none rfl) rfl rfl (ex_assign rfl rfl) ?_
    refine ops_nil ?_
    refine at_then ?_
    refine run_ret ?_
    refine at_then_ret ?_
    replace HM := HM.empty kInt 2 none
    have hR := Option.some.inj H
    subst hR
    exact at_ret1 rfl rfl ⟨_, rfl, _, rfl, HM⟩
  · skip
    refine run_skip ?_
    refine at_then ?_
    refine run_seq ?_
    obtain ⟨e2596, H⟩ := chk_some H
    refine run_region rfl ?_
    refine ops_does rfl (guard_none rfl) rfl rfl (does_lit (e := 2) (cs := []) (xs := ([] : List Int)) kInt rfl rfl (fun _ => by kernel_rfl) rfl rfl (fun _ _ h => by have h' : _ = [] := h; subst h'; exact .nil) HM.emp) ?_
    rintro v2593 w2599 HM
    refine ops_ex rfl (guard_none rfl) rfl rfl (ex_move rfl rfl) ?_
    refine ops_does rfl (guard_none rfl) rfl rfl (does_appendR kInt flat_plain rfl rfl rfl Try.underlying111 tsz2 rfl tby2 tz2 rfl rfl (leB_le e2596) (HM.rd hp0) HM) ?_
    rintro v2597 w2600 HM
    refine ops_ex rfl (guard_none rfl) rfl rfl (ex_assign rfl rfl) ?_
    refine ops_nil ?_
    refine at_then ?_
    refine run_ret ?_
    have hR := Option.some.inj H
    subst hR
    exact at_ret1 rfl rfl ⟨_, rfl, _, rfl, HM⟩
end Go.Proofs.Ytigojhglkilodaa.Zk
