/- What functions of the program compute, each as a plain function, and that they do. Conditions: as each theorem states them. -/
import Derived.Test.YtoiacoiccpiciaaStateFaultZkF2
namespace Go.Proofs.Ytoiacoiccpiciaa.Zk
open Go Go.RowKit Go.IntWalk Go.Proofs
set_option linter.unusedVariables false
set_option linter.unusedSimpArgs false
set_option maxRecDepth 100000
set_option maxHeartbeats 4000000
def impl_areKeys.f (k : Nat) (x0 : List Int) : Option Bool := ((slices_ContainsFunc_int64.f k x0).bind fun t2098 => some (!t2098))
theorem impl_areKeys.calls {k : Nat} {x0 : List Int} {p0 : Value} {w : World} (hp0 : RdS kInt w p0 x0) {r : Bool} (H : impl_areKeys.f k x0 = some r) :
    Calls Try.prog 132 ([p0] : List Value).toArray w (fun e w_ => ∃ v, e = .returned v ∧ v = (.bool r) ∧ Mem w [] w_ []) := by
  have HM := Mem.start w
  refine calls_run (N := 6) Try.func132 rfl rfl rfl rfl ?_
  unfold impl_areKeys.f at H
  refine run_seq ?_
  refine run_region rfl ?_
  refine ops_ex rfl (guard_none rfl) rfl rfl (ex_assign rfl rfl) ?_
  refine ops_nil ?_
  refine at_then ?_
  refine run_seq ?_
  obtain ⟨t2098, h2099, H⟩ := bind_some H
  refine run_region rfl ?_
  refine ops_ex rfl (guard_none rfl) rfl rfl (ex_move rfl rfl) ?_
  refine ops_does rfl (guard_none rfl) rfl rfl (does_callk rfl callok162 rfl (slices_ContainsFunc_int64.calls (x0 := x0) (HM.rd hp0) h2099)) ?_
  rintro _ w2100 ⟨rfl, hn⟩
  replace HM : Mem w [] w2100 [] := HM.call hn
  refine ops_ex rfl (guard_none rfl) rfl rfl (ex_not rfl rfl) ?_
  refine ops_ex rfl (guard_none rfl) rfl rfl (ex_assign rfl rfl) ?_
  refine ops_nil ?_
  refine at_then ?_
  refine run_ret ?_
  have hR := Option.some.inj H
  subst hR
  exact at_ret1 rfl rfl ⟨_, rfl, rfl, HM⟩

def impl_isRising.l0 (x0 : List Int) : Nat → Int → Option (Bool ⊕ Unit)
  | 0, _ => none
  | k + 1, a2156 => (bif (decide (a2156 < (x0.length : Int))) then (chk (idxOk a2156 x0.length) (chk (idxOk (wrap64 (a2156 - 1)) x0.length) (bif (decide ((gt x0 a2156) ≤ (gt x0 (wrap64 (a2156 - 1))))) then some (.inl false) else impl_isRising.l0 x0 k (wrap64 (a2156 + 1))))) else some (.inr ()))
theorem impl_isRising.l0_z (x0 : List Int) (a2156 : Int) : impl_isRising.l0 x0 0 a2156 = none := rfl
theorem impl_isRising.l0_s (x0 : List Int) (k : Nat) (a2156 : Int) : impl_isRising.l0 x0 (k + 1) a2156 = (bif (decide (a2156 < (x0.length : Int))) then (chk (idxOk a2156 x0.length) (chk (idxOk (wrap64 (a2156 - 1)) x0.length) (bif (decide ((gt x0 a2156) ≤ (gt x0 (wrap64 (a2156 - 1))))) then some (.inl false) else impl_isRising.l0 x0 k (wrap64 (a2156 + 1))))) else some (.inr ())) := rfl
def impl_isRising.f (k : Nat) (x0 : List Int) : Option Bool := ((impl_isRising.l0 x0 k 1).bind fun o2148 => thn o2148 (fun r => some r) (fun _ => some true))
theorem impl_isRising.calls {k : Nat} {x0 : List Int} {p0 : Value} {w : World} (hp0 : RdS kInt w p0 x0) {r : Bool} (H : impl_isRising.f k x0 = some r) :
    Calls Try.prog 133 ([p0] : List Value).toArray w (fun e w_ => ∃ v, e = .returned v ∧ v = (.bool r) ∧ Mem w [] w_ []) := by
  have HM := Mem.start w
  refine calls_run (N := 20) Try.func133 rfl rfl rfl rfl ?_
  unfold impl_isRising.f at H
  refine run_seq ?_
  refine run_region rfl ?_
  refine ops_ex rfl (guard_none rfl) rfl rfl (ex_assign rfl rfl) ?_
  refine ops_nil ?_
  refine at_then ?_
  obtain ⟨o2148, ho2149, H⟩ := bind_some H
  refine run_mid (fun ρ_ w_ => Sum.inr () = o2148 ∧ ρ_ = [] ∧ Mem w [] w_ []) ?_ ?_
  · skip
    refine run_seq ?_
    refine run_region rfl ?_
    refine ops_ex rfl (guard_none rfl) rfl rfl (ex_assign rfl rfl) ?_
    refine ops_nil ?_
    refine at_then ?_
    refine run_block ?_
    refine run_loop (fun k_ ρ_ w_ => ∃ a2156 : Int, impl_isRising.l0 x0 k_ a2156 = some o2148 ∧ ρ_ = [(0, p0), (3, .int .i64 a2156)] ∧ Mem w [] w_ []) k (ρ1 := [(0, p0), (3, .int .i64 1)]) ⟨_, ho2149, rfl, HM⟩ (Sub.cons rfl (Sub.cons rfl Sub.nil)) ?_
    clear HM ho2149
    rintro k2163 _ w2164 ⟨a2156, ho2149, rfl, HM⟩
    obtain _ | k2163 := k2163
    · exact nomatch ((impl_isRising.l0_z x0 a2156).symm.trans ho2149)
    replace ho2149 := (impl_isRising.l0_s x0 k2163 a2156).symm.trans ho2149
    refine run_seq ?_
    refine run_seq ?_
    refine run_region rfl ?_
    refine ops_ex rfl (guard_none rfl) rfl rfl (ex_move rfl rfl) ?_
    refine ops_ex rfl (guard_none rfl) rfl rfl (ex_move rfl rfl) ?_
    refine ops_ex rfl (guard_none rfl) rfl rfl (ex_len (d := kInt) (xs := x0) rfl rfl Try.underlying74 hp0) ?_
    refine ops_ex rfl (guard_none rfl) rfl rfl (ex_lss rfl rfl rfl) ?_
    refine ops_nil ?_
    refine at_then ?_
    refine run_cond (b := (decide (a2156 < (x0.length : Int)))) rfl (fun hb2165 => ?_) (fun hb2165 => ?_)
    · replace ho2149 := cond_t hb2165 ho2149
      refine run_skip ?_
      refine at_then ?_
      refine run_seq ?_
      refine run_block ?_
      refine run_seq ?_
      obtain ⟨e2166, ho2149⟩ := chk_some ho2149
      obtain ⟨e2168, ho2149⟩ := chk_some ho2149
      refine run_drawf (fun w_ => Mem w [] w_ []) [(0, true), (1, true), (2, true), (3, true), (4, true), (5, true), (6, true), (7, true), (8, true), (9, true)] mixed rfl rfl (by kernel_rfl) ?_
      replace HM := HM.grow (fr_drew _)
      have hS := Mem.suf (M := []) HM
      refine drwp_take rfl (guard_none rfl) rfl rfl (fun w_ hS_ => (ex_move rfl rfl)) hS ?_
      refine drwp_take rfl (guard_none rfl) rfl rfl (fun w_ hS_ => (ex_move rfl rfl)) hS ?_
      have hc2167 : CellsAt _ (sb p0) (so p0 + (a2156).toNat * 1) [(.int .i64 (gt x0 a2156))] := rd_plain hp0 e2166
      refine drwp_take rfl (guard_none rfl) rfl rfl (fun w_ hS_ => (ex_indexAddr (d := kInt) rfl rfl rfl Try.underlying74 tsz2 hp0 (idx_lo e2166) (idx_hi e2166))) hS ?_
      refine drwp_take rfl (guard_none rfl) rfl rfl (fun w_ hS_ => (ex_load1 rfl rfl Try.underlying2 rfl ((hS_.at_ hc2167) 0 _ rfl))) hS ?_
      refine drwp_take rfl (guard_none rfl) rfl rfl (fun w_ hS_ => (ex_move rfl rfl)) hS ?_
      refine drwp_take rfl (guard_none rfl) rfl rfl (fun w_ hS_ => (ex_move rfl rfl)) hS ?_
      refine drwp_take rfl (guard_none rfl) rfl rfl (fun w_ hS_ => (ex_sub rfl rfl rfl)) hS ?_
      have hc2169 : CellsAt _ (sb p0) (so p0 + (wrap64 (a2156 - 1)).toNat * 1) [(.int .i64 (gt x0 (wrap64 (a2156 - 1))))] := rd_plain hp0 e2168
      refine drwp_take rfl (guard_none rfl) rfl rfl (fun w_ hS_ => (ex_indexAddr (d := kInt) rfl rfl rfl Try.underlying74 tsz2 hp0 (idx_lo e2168) (idx_hi e2168))) hS ?_
      refine drwp_take rfl (guard_none rfl) rfl rfl (fun w_ hS_ => (ex_load1 rfl rfl Try.underlying2 rfl ((hS_.at_ hc2169) 0 _ rfl))) hS ?_
      refine drwp_take rfl (guard_none rfl) rfl rfl (fun w_ hS_ => (ex_leq rfl rfl rfl)) hS ?_
      refine drwp_done ?_
      refine at_then ?_
      refine run_cond (b := (decide ((gt x0 a2156) ≤ (gt x0 (wrap64 (a2156 - 1)))))) rfl (fun hb2170 => ?_) (fun hb2170 => ?_)
      · replace ho2149 := cond_t hb2170 ho2149
        refine run_seq ?_
        refine run_region rfl ?_
        refine ops_ex rfl (guard_none rfl) rfl rfl (ex_assign rfl rfl) ?_
        refine ops_nil ?_
        refine at_then ?_
        refine run_ret ?_
        refine at_block_ret ?_
        refine at_then_ret ?_
        refine at_then_ret ?_
        refine at_block_ret ?_
        refine at_then_ret ?_
        have hR := Option.some.inj ho2149
        subst hR
        have hT := thn_inl H
        have hR := Option.some.inj hT
        subst hR
        exact at_ret1 rfl rfl ⟨_, rfl, rfl, HM⟩
      · replace ho2149 := cond_f hb2170 ho2149
        refine run_skip ?_
        refine at_block ?_
        refine at_then ?_
        refine run_region rfl ?_
        refine ops_ex rfl (guard_none rfl) rfl rfl (ex_move rfl rfl) ?_
        refine ops_ex rfl (guard_none rfl) rfl rfl (ex_add rfl rfl rfl) ?_
        refine ops_ex rfl (guard_none rfl) rfl rfl (ex_assign rfl rfl) ?_
        refine ops_nil ?_
        exact at_again k2163 (ρ1 := [(0, p0), (3, .int .i64 (wrap64 (a2156 + 1)))]) (Nat.lt_succ_self _) ⟨_, ho2149, rfl, HM⟩ (Sub.cons rfl (Sub.cons rfl Sub.nil))
    · replace ho2149 := cond_f hb2165 ho2149
      refine run_exit ?_
      refine at_then_exit ?_
      refine at_then_exit ?_
      refine at_block_exit ?_
      exact at_mid (ρ' := []) ⟨(Option.some.inj ho2149), rfl, HM⟩ Sub.nil
  · rintro _ w2171 ⟨rfl, rfl, HM⟩
    replace H := (thn_inr H)
    refine run_seq ?_
    refine run_region rfl ?_
    refine ops_ex rfl (guard_none rfl) rfl rfl (ex_assign rfl rfl) ?_
    refine ops_nil ?_
    refine at_then ?_
    refine run_ret ?_
    have hR := Option.some.inj H
    subst hR
    exact at_ret1 rfl rfl ⟨_, rfl, rfl, HM⟩

def impl_RuleFault.f (k : Nat) (x0 : Rule) : Option Int := ((impl_within.f k (x0.fKeys.length : Int) 1 3).bind fun t2179 => (bif !t2179 then some 2 else ((impl_areKeys.f k x0.fKeys).bind fun t2183 => ((bif (!(!t2183)) then impl_within.f k x0.fNeed 1 (x0.fKeys.length : Int) else some default).bind fun t2185 => ((bif (!((!t2183) || (!t2185))) then impl_isHeight.f k x0.fAfter else some default).bind fun t2187 => (bif (((!t2183) || (!t2185)) || (!t2187)) then some 3 else ((impl_isRising.f k x0.fKeys).bind fun t2199 => (bif !t2199 then some 1 else some 0))))))))
theorem impl_RuleFault.calls {k : Nat} {x0 : Rule} {p0_0 : Value} {w : World} (hp0_0 : RdS kInt w p0_0 x0.fKeys) {r : Int} (H : impl_RuleFault.f k x0 = some r) :
    Calls Try.prog 82 ([.agg #[p0_0, (.int .i64 x0.fNeed), (.int .i64 x0.fAfter)]] : List Value).toArray w (fun e w_ => ∃ v, e = .returned v ∧ v = (.int .i64 r) ∧ Mem w [] w_ []) := by
  have HM := Mem.start w
  refine calls_run (N := 34) Try.func82 rfl rfl rfl rfl ?_
  unfold impl_RuleFault.f at H
  refine run_seq ?_
  refine run_region rfl ?_
  refine ops_does rfl (guard_none rfl) rfl rfl (does_box (cs := [p0_0, .int .i64 x0.fNeed, .int .i64 x0.fAfter]) rfl rfl rfl HM) ?_
  rintro _ w2178 ⟨b2175, rfl, HM⟩
  refine ops_ex rfl (guard_none rfl) rfl rfl (ex_assign rfl rfl) ?_
  refine ops_nil ?_
  refine at_then ?_
  refine run_seq ?_
  refine run_region rfl ?_
  refine ops_ex rfl (guard_none rfl) rfl rfl (ex_fieldAddr (off' := 0) rfl rfl Try.underlying100 rfl tsz74 rfl) ?_
  refine ops_ex rfl (guard_none rfl) rfl rfl (ex_load1 rfl rfl Try.underlying74 rfl ((HM.box_at 0 rfl) 0 _ rfl)) ?_
  refine ops_ex rfl (guard_none rfl) rfl rfl (ex_len (d := kInt) (xs := x0.fKeys) rfl rfl Try.underlying74 hp0_0) ?_
  refine ops_ex rfl (guard_none rfl) rfl rfl (ex_assign rfl rfl) ?_
  refine ops_nil ?_
  refine at_then ?_
  refine run_seq ?_
  refine run_block ?_
  refine run_seq ?_
  obtain ⟨t2179, h2180, H⟩ := bind_some H
  refine run_region rfl ?_
  refine ops_ex rfl (guard_none rfl) rfl rfl (ex_move rfl rfl) ?_
  refine ops_does rfl (guard_none rfl) rfl rfl (does_callk rfl callok81 rfl (impl_within.calls (x0 := (x0.fKeys.length : Int)) (x1 := 1) (x2 := 3) h2180)) ?_
  rintro _ w2181 ⟨rfl, hn⟩
  replace HM : Mem w [] w2181 [box b2175 100 [p0_0, .int .i64 x0.fNeed, .int .i64 x0.fAfter]] := HM.call hn
  refine ops_ex rfl (guard_none rfl) rfl rfl (ex_not rfl rfl) ?_
  refine ops_ex rfl (guard_none rfl) rfl rfl (ex_assign rfl rfl) ?_
  refine ops_nil ?_
  refine at_then ?_
  refine run_cond (b := !t2179) rfl (fun hb2182 => ?_) (fun hb2182 => ?_)
  · replace H := cond_t hb2182 H
    refine run_seq ?_
    refine run_region rfl ?_
    refine ops_ex rfl (guard_none rfl) rfl rfl (ex_assign rfl rfl) ?_
    refine ops_nil ?_
    refine at_then ?_
    refine run_ret ?_
    refine at_block_ret ?_
    refine at_then_ret ?_
    replace HM := (HM.front 0 rfl rfl).drop
    have hR := Option.some.inj H
    subst hR
    exact at_ret1 rfl rfl ⟨_, rfl, rfl, HM⟩
  · replace H := cond_f hb2182 H
    refine run_seq ?_
    obtain ⟨t2183, h2184, H⟩ := bind_some H
    obtain ⟨t2185, h2186, H⟩ := bind_some H
    obtain ⟨t2187, h2188, H⟩ := bind_some H
    refine run_meet (fun ρ_ w_ => ρ_ = [(1, .pointer (some ⟨b2175, 0, none⟩)), (11, .bool (((!t2183) || (!t2185)) || (!t2187)))] ∧ Mem w [] w_ [box b2175 100 [p0_0, .int .i64 x0.fNeed, .int .i64 x0.fAfter]]) ?_ ?_
    · skip
      refine run_region rfl ?_
      refine ops_ex rfl (guard_none rfl) rfl rfl (ex_fieldAddr (off' := 0) rfl rfl Try.underlying100 rfl tsz74 rfl) ?_
      refine ops_ex rfl (guard_none rfl) rfl rfl (ex_load1 rfl rfl Try.underlying74 rfl ((HM.box_at 0 rfl) 0 _ rfl)) ?_
      refine ops_does rfl (guard_none rfl) rfl rfl (does_callk rfl callok132 rfl (impl_areKeys.calls (x0 := x0.fKeys) (HM.rd hp0_0) h2184)) ?_
      rintro _ w2189 ⟨rfl, hn⟩
      replace HM : Mem w [] w2189 [box b2175 100 [p0_0, .int .i64 x0.fNeed, .int .i64 x0.fAfter]] := HM.call hn
      refine ops_ex rfl (guard_none rfl) rfl rfl (ex_not rfl rfl) ?_
      refine ops_ex rfl (guard_none rfl) rfl rfl (ex_move rfl rfl) ?_
      refine bool_cases (!t2183) (fun hg2190 => ?_) (fun hg2190 => ?_)
      · skip
        refine ops_off rfl (guard_off rfl rfl rfl hg2190) rfl rfl ?_
        refine ops_off rfl (guard_off rfl rfl rfl hg2190) rfl rfl ?_
        refine ops_off rfl (guard_off rfl rfl rfl hg2190) rfl rfl ?_
        refine ops_off rfl (guard_off rfl rfl rfl hg2190) rfl rfl ?_
        refine ops_off rfl (guard_off rfl rfl rfl hg2190) rfl rfl ?_
        have hg2191 : ((!t2183) || (!t2185)) = true := by simp only [hg2190, Bool.and_true, Bool.true_and, Bool.and_false, Bool.false_and, Bool.or_true, Bool.true_or, Bool.or_false, Bool.false_or, Bool.not_true, Bool.not_false, Bool.not_not]
        refine ops_ex (v := .bool ((!t2183) || (!t2185))) rfl (guard_none rfl) rfl rfl (ex_por_t rfl rfl hg2190) ?_
        refine ops_ex rfl (guard_none rfl) rfl rfl (ex_move rfl rfl) ?_
        refine ops_off rfl (guard_off rfl rfl rfl hg2191) rfl rfl ?_
        refine ops_off rfl (guard_off rfl rfl rfl hg2191) rfl rfl ?_
        refine ops_off rfl (guard_off rfl rfl rfl hg2191) rfl rfl ?_
        refine ops_off rfl (guard_off rfl rfl rfl hg2191) rfl rfl ?_
        have hg2192 : (((!t2183) || (!t2185)) || (!t2187)) = true := by simp only [hg2191, Bool.and_true, Bool.true_and, Bool.and_false, Bool.false_and, Bool.or_true, Bool.true_or, Bool.or_false, Bool.false_or, Bool.not_true, Bool.not_false, Bool.not_not]
        refine ops_ex (v := .bool (((!t2183) || (!t2185)) || (!t2187))) rfl (guard_none rfl) rfl rfl (ex_por_t rfl rfl hg2191) ?_
        refine ops_ex rfl (guard_none rfl) rfl rfl (ex_assign rfl rfl) ?_
        refine ops_nil ?_
        exact at_meet [(1, .pointer (some ⟨b2175, 0, none⟩)), (11, .bool (((!t2183) || (!t2185)) || (!t2187)))] ⟨rfl, HM⟩ (Sub.cons rfl (Sub.cons rfl Sub.nil))
      · skip
        refine ops_ex rfl (guard_on rfl rfl rfl hg2190) rfl rfl (ex_fieldAddr (off' := 1) rfl rfl Try.underlying100 rfl tsz2 rfl) ?_
        refine ops_ex rfl (guard_on rfl rfl rfl hg2190) rfl rfl (ex_load1 rfl rfl Try.underlying2 rfl ((HM.box_at 0 rfl) 1 _ rfl)) ?_
        refine ops_ex rfl (guard_on rfl rfl rfl hg2190) rfl rfl (ex_move rfl rfl) ?_
        refine ops_does rfl (guard_on rfl rfl rfl hg2190) rfl rfl (does_callk rfl callok81 rfl (impl_within.calls (x0 := x0.fNeed) (x1 := 1) (x2 := (x0.fKeys.length : Int)) (cond_t (not_mk hg2190) h2186))) ?_
        rintro _ w2193 ⟨rfl, hn⟩
        replace HM : Mem w [] w2193 [box b2175 100 [p0_0, .int .i64 x0.fNeed, .int .i64 x0.fAfter]] := HM.call hn
        refine ops_ex rfl (guard_on rfl rfl rfl hg2190) rfl rfl (ex_not rfl rfl) ?_
        refine ops_ex (v := .bool ((!t2183) || (!t2185))) rfl (guard_none rfl) rfl rfl (ex_por_f rfl rfl hg2190 rfl) ?_
        refine ops_ex rfl (guard_none rfl) rfl rfl (ex_move rfl rfl) ?_
        refine bool_cases ((!t2183) || (!t2185)) (fun hg2194 => ?_) (fun hg2194 => ?_)
        · skip
          refine ops_off rfl (guard_off rfl rfl rfl hg2194) rfl rfl ?_
          refine ops_off rfl (guard_off rfl rfl rfl hg2194) rfl rfl ?_
          refine ops_off rfl (guard_off rfl rfl rfl hg2194) rfl rfl ?_
          refine ops_off rfl (guard_off rfl rfl rfl hg2194) rfl rfl ?_
          have hg2195 : (((!t2183) || (!t2185)) || (!t2187)) = true := by simp only [hg2194, Bool.and_true, Bool.true_and, Bool.and_false, Bool.false_and, Bool.or_true, Bool.true_or, Bool.or_false, Bool.false_or, Bool.not_true, Bool.not_false, Bool.not_not]
          refine ops_ex (v := .bool (((!t2183) || (!t2185)) || (!t2187))) rfl (guard_none rfl) rfl rfl (ex_por_t rfl rfl hg2194) ?_
          refine ops_ex rfl (guard_none rfl) rfl rfl (ex_assign rfl rfl) ?_
          refine ops_nil ?_
          exact at_meet [(1, .pointer (some ⟨b2175, 0, none⟩)), (11, .bool (((!t2183) || (!t2185)) || (!t2187)))] ⟨rfl, HM⟩ (Sub.cons rfl (Sub.cons rfl Sub.nil))
        · skip
          refine ops_ex rfl (guard_on rfl rfl rfl hg2194) rfl rfl (ex_fieldAddr (off' := 2) rfl rfl Try.underlying100 rfl tsz2 rfl) ?_
          refine ops_ex rfl (guard_on rfl rfl rfl hg2194) rfl rfl (ex_load1 rfl rfl Try.underlying2 rfl ((HM.box_at 0 rfl) 2 _ rfl)) ?_
          refine ops_does rfl (guard_on rfl rfl rfl hg2194) rfl rfl (does_callk rfl callok80 rfl (impl_isHeight.calls (x0 := x0.fAfter) (cond_t (not_mk hg2194) h2188))) ?_
          rintro _ w2196 ⟨rfl, hn⟩
          replace HM : Mem w [] w2196 [box b2175 100 [p0_0, .int .i64 x0.fNeed, .int .i64 x0.fAfter]] := HM.call hn
          refine ops_ex rfl (guard_on rfl rfl rfl hg2194) rfl rfl (ex_not rfl rfl) ?_
          refine ops_ex (v := .bool (((!t2183) || (!t2185)) || (!t2187))) rfl (guard_none rfl) rfl rfl (ex_por_f rfl rfl hg2194 rfl) ?_
          refine ops_ex rfl (guard_none rfl) rfl rfl (ex_assign rfl rfl) ?_
          refine ops_nil ?_
          exact at_meet [(1, .pointer (some ⟨b2175, 0, none⟩)), (11, .bool (((!t2183) || (!t2185)) || (!t2187)))] ⟨rfl, HM⟩ (Sub.cons rfl (Sub.cons rfl Sub.nil))
    · rintro _ w2197 ⟨rfl, HM⟩
      refine at_then ?_
      refine run_cond (b := (((!t2183) || (!t2185)) || (!t2187))) rfl (fun hb2198 => ?_) (fun hb2198 => ?_)
      · replace H := cond_t hb2198 H
        refine run_seq ?_
        refine run_region rfl ?_
        refine ops_ex rfl (guard_none rfl) rfl rfl (ex_assign rfl rfl) ?_
        refine ops_nil ?_
        refine at_then ?_
        refine run_ret ?_
        refine at_block_ret ?_
        refine at_then_ret ?_
        replace HM := (HM.front 0 rfl rfl).drop
        have hR := Option.some.inj H
        subst hR
        exact at_ret1 rfl rfl ⟨_, rfl, rfl, HM⟩
      · replace H := cond_f hb2198 H
        refine run_seq ?_
        obtain ⟨t2199, h2200, H⟩ := bind_some H
        refine run_region rfl ?_
        refine ops_ex rfl (guard_none rfl) rfl rfl (ex_fieldAddr (off' := 0) rfl rfl Try.underlying100 rfl tsz74 rfl) ?_
        refine ops_ex rfl (guard_none rfl) rfl rfl (ex_load1 rfl rfl Try.underlying74 rfl ((HM.box_at 0 rfl) 0 _ rfl)) ?_
        refine ops_does rfl (guard_none rfl) rfl rfl (does_callk rfl callok133 rfl (impl_isRising.calls (x0 := x0.fKeys) (HM.rd hp0_0) h2200)) ?_
        rintro _ w2201 ⟨rfl, hn⟩
        replace HM : Mem w [] w2201 [box b2175 100 [p0_0, .int .i64 x0.fNeed, .int .i64 x0.fAfter]] := HM.call hn
        refine ops_ex rfl (guard_none rfl) rfl rfl (ex_not rfl rfl) ?_
        refine ops_ex rfl (guard_none rfl) rfl rfl (ex_assign rfl rfl) ?_
        refine ops_nil ?_
        refine at_then ?_
        refine run_cond (b := !t2199) rfl (fun hb2202 => ?_) (fun hb2202 => ?_)
        · replace H := cond_t hb2202 H
          refine run_seq ?_
          refine run_region rfl ?_
          refine ops_ex rfl (guard_none rfl) rfl rfl (ex_assign rfl rfl) ?_
          refine ops_nil ?_
          refine at_then ?_
          refine run_ret ?_
          refine at_block_ret ?_
          refine at_then_ret ?_
          replace HM := (HM.front 0 rfl rfl).drop
          have hR := Option.some.inj H
          subst hR
          exact at_ret1 rfl rfl ⟨_, rfl, rfl, HM⟩
        · replace H := cond_f hb2202 H
          refine run_skip ?_
          refine at_block ?_
          refine at_then ?_
          refine run_seq ?_
          refine run_region rfl ?_
          refine ops_ex rfl (guard_none rfl) rfl rfl (ex_assign rfl rfl) ?_
          refine ops_nil ?_
          refine at_then ?_
          refine run_ret ?_
          replace HM := (HM.front 0 rfl rfl).drop
          have hR := Option.some.inj H
          subst hR
          exact at_ret1 rfl rfl ⟨_, rfl, rfl, HM⟩

def cmp_isNaN_int64.f (k : Nat) (x0 : Int) : Option Bool := some (x0 != x0)
theorem cmp_isNaN_int64.calls {k : Nat} {x0 : Int}  {w : World}  {r : Bool} (H : cmp_isNaN_int64.f k x0 = some r) :
    Calls Try.prog 164 ([.int .i64 x0] : List Value).toArray w (fun e w_ => ∃ v, e = .returned v ∧ v = (.bool r) ∧ Mem w [] w_ []) := by
  have HM := Mem.start w
  refine calls_run (N := 6) Try.func164 rfl rfl rfl rfl ?_
  unfold cmp_isNaN_int64.f at H
  refine run_seq ?_
  refine run_region rfl ?_
  refine ops_ex rfl (guard_none rfl) rfl rfl (ex_assign rfl rfl) ?_
  refine ops_nil ?_
  refine at_then ?_
  refine run_seq ?_
  refine run_region rfl ?_
  refine ops_ex rfl (guard_none rfl) rfl rfl (ex_move rfl rfl) ?_
  refine ops_ex rfl (guard_none rfl) rfl rfl (ex_move rfl rfl) ?_
  refine ops_ex rfl (guard_none rfl) rfl rfl (ex_neq rfl rfl rfl) ?_
  refine ops_ex rfl (guard_none rfl) rfl rfl (ex_assign rfl rfl) ?_
  refine ops_nil ?_
  refine at_then ?_
  refine run_ret ?_
  have hR := Option.some.inj H
  subst hR
  exact at_ret1 rfl rfl ⟨_, rfl, rfl, HM⟩

def cmp_Compare_int64.f (k : Nat) (x0 : Int) (x1 : Int) : Option Int := ((cmp_isNaN_int64.f k x0).bind fun t2232 => ((cmp_isNaN_int64.f k x1).bind fun t2235 => (bif t2232 then (bif t2235 then some 0 else some (-1)) else (bif t2235 then some 1 else (bif (decide (x0 < x1)) then some (-1) else (bif (decide (x1 < x0)) then some 1 else some 0))))))
theorem cmp_Compare_int64.calls {k : Nat} {x0 : Int} {x1 : Int}  {w : World}  {r : Int} (H : cmp_Compare_int64.f k x0 x1 = some r) :
    Calls Try.prog 135 ([.int .i64 x0, .int .i64 x1] : List Value).toArray w (fun e w_ => ∃ v, e = .returned v ∧ v = (.int .i64 r) ∧ Mem w [] w_ []) := by
  have HM := Mem.start w
  refine calls_run (N := 20) Try.func135 rfl rfl rfl rfl ?_
  unfold cmp_Compare_int64.f at H
  refine run_seq ?_
  refine run_region rfl ?_
  refine ops_ex rfl (guard_none rfl) rfl rfl (ex_assign rfl rfl) ?_
  refine ops_nil ?_
  refine at_then ?_
  refine run_seq ?_
  obtain ⟨t2232, h2233, H⟩ := bind_some H
  refine run_region rfl ?_
  refine ops_ex rfl (guard_none rfl) rfl rfl (ex_move rfl rfl) ?_
  refine ops_does rfl (guard_none rfl) rfl rfl (does_callk rfl callok164 rfl (cmp_isNaN_int64.calls (x0 := x0) h2233)) ?_
  rintro _ w2234 ⟨rfl, hn⟩
  replace HM : Mem w [] w2234 [] := HM.call hn
  refine ops_ex rfl (guard_none rfl) rfl rfl (ex_assign rfl rfl) ?_
  refine ops_nil ?_
  refine at_then ?_
  refine run_seq ?_
  obtain ⟨t2235, h2236, H⟩ := bind_some H
  refine run_region rfl ?_
  refine ops_ex rfl (guard_none rfl) rfl rfl (ex_move rfl rfl) ?_
  refine ops_does rfl (guard_none rfl) rfl rfl (does_callk rfl callok164 rfl (cmp_isNaN_int64.calls (x0 := x1) h2236)) ?_
  rintro _ w2237 ⟨rfl, hn⟩
  replace HM : Mem w [] w2237 [] := HM.call hn
  refine ops_ex rfl (guard_none rfl) rfl rfl (ex_assign rfl rfl) ?_
  refine ops_nil ?_
  refine at_then ?_
  refine run_seq ?_
  refine run_seq ?_
  refine run_region rfl ?_
  refine ops_ex rfl (guard_none rfl) rfl rfl (ex_move rfl rfl) ?_
  refine ops_nil ?_
  refine at_then ?_
  refine run_cond (b := t2232) rfl (fun hb2240 => ?_) (fun hb2240 => ?_)
  · replace H := cond_t hb2240 H
    refine run_seq ?_
    refine run_seq ?_
    refine run_region rfl ?_
    refine ops_ex rfl (guard_none rfl) rfl rfl (ex_move rfl rfl) ?_
    refine ops_nil ?_
    refine at_then ?_
    refine run_cond (b := t2235) rfl (fun hb2241 => ?_) (fun hb2241 => ?_)
    · replace H := cond_t hb2241 H
      refine run_seq ?_
      refine run_region rfl ?_
      refine ops_ex rfl (guard_none rfl) rfl rfl (ex_assign rfl rfl) ?_
      refine ops_nil ?_
      refine at_then ?_
      refine run_ret ?_
      refine at_then_ret ?_
      refine at_then_ret ?_
      have hR := Option.some.inj H
      subst hR
      exact at_ret1 rfl rfl ⟨_, rfl, rfl, HM⟩
    · replace H := cond_f hb2241 H
      refine run_skip ?_
      refine at_then ?_
      refine run_seq ?_
      refine run_region rfl ?_
      refine ops_ex rfl (guard_none rfl) rfl rfl (ex_assign rfl rfl) ?_
      refine ops_nil ?_
      refine at_then ?_
      refine run_ret ?_
      refine at_then_ret ?_
      have hR := Option.some.inj H
      subst hR
      exact at_ret1 rfl rfl ⟨_, rfl, rfl, HM⟩
  · replace H := cond_f hb2240 H
    refine run_skip ?_
    refine at_then ?_
    refine run_seq ?_
    refine run_seq ?_
    refine run_region rfl ?_
    refine ops_ex rfl (guard_none rfl) rfl rfl (ex_move rfl rfl) ?_
    refine ops_nil ?_
    refine at_then ?_
    refine run_cond (b := t2235) rfl (fun hb2243 => ?_) (fun hb2243 => ?_)
    · replace H := cond_t hb2243 H
      refine run_seq ?_
      refine run_region rfl ?_
      refine ops_ex rfl (guard_none rfl) rfl rfl (ex_assign rfl rfl) ?_
      refine ops_nil ?_
      refine at_then ?_
      refine run_ret ?_
      refine at_then_ret ?_
      have hR := Option.some.inj H
      subst hR
      exact at_ret1 rfl rfl ⟨_, rfl, rfl, HM⟩
    · replace H := cond_f hb2243 H
      refine run_skip ?_
      refine at_then ?_
      refine run_seq ?_
      refine run_seq ?_
      refine run_region rfl ?_
      refine ops_ex rfl (guard_none rfl) rfl rfl (ex_move rfl rfl) ?_
      refine ops_ex rfl (guard_none rfl) rfl rfl (ex_move rfl rfl) ?_
      refine ops_ex rfl (guard_none rfl) rfl rfl (ex_lss rfl rfl rfl) ?_
      refine ops_nil ?_
      refine at_then ?_
      refine run_cond (b := (decide (x0 < x1))) rfl (fun hb2245 => ?_) (fun hb2245 => ?_)
      · replace H := cond_t hb2245 H
        refine run_seq ?_
        refine run_region rfl ?_
        refine ops_ex rfl (guard_none rfl) rfl rfl (ex_assign rfl rfl) ?_
        refine ops_nil ?_
        refine at_then ?_
        refine run_ret ?_
        refine at_then_ret ?_
        have hR := Option.some.inj H
        subst hR
        exact at_ret1 rfl rfl ⟨_, rfl, rfl, HM⟩
      · replace H := cond_f hb2245 H
        refine run_skip ?_
        refine at_then ?_
        refine run_seq ?_
        refine run_seq ?_
        refine run_region rfl ?_
        refine ops_ex rfl (guard_none rfl) rfl rfl (ex_move rfl rfl) ?_
        refine ops_ex rfl (guard_none rfl) rfl rfl (ex_move rfl rfl) ?_
        refine ops_ex rfl (guard_none rfl) rfl rfl (ex_gtr rfl rfl rfl) ?_
        refine ops_nil ?_
        refine at_then ?_
        refine run_cond (b := (decide (x1 < x0))) rfl (fun hb2246 => ?_) (fun hb2246 => ?_)
        · replace H := cond_t hb2246 H
          refine run_seq ?_
          refine run_region rfl ?_
          refine ops_ex rfl (guard_none rfl) rfl rfl (ex_assign rfl rfl) ?_
          refine ops_nil ?_
          refine at_then ?_
          refine run_ret ?_
          refine at_then_ret ?_
          have hR := Option.some.inj H
          subst hR
          exact at_ret1 rfl rfl ⟨_, rfl, rfl, HM⟩
        · replace H := cond_f hb2246 H
          refine run_skip ?_
          refine at_then ?_
          refine run_seq ?_
          refine run_region rfl ?_
          refine ops_ex rfl (guard_none rfl) rfl rfl (ex_assign rfl rfl) ?_
          refine ops_nil ?_
          refine at_then ?_
          refine run_ret ?_
          have hR := Option.some.inj H
          subst hR
          exact at_ret1 rfl rfl ⟨_, rfl, rfl, HM⟩

def cmp_Or_int.l0 (x0 : List Int) : Nat → Int → Option (Int ⊕ Unit)
  | 0, _ => none
  | k + 1, a2288 => (bif (decide (a2288 < (x0.length : Int))) then (chk (idxOk a2288 x0.length) (bif ((gt x0 a2288) != 0) then some (.inl (gt x0 a2288)) else cmp_Or_int.l0 x0 k (wrap64 (a2288 + 1)))) else some (.inr ()))
theorem cmp_Or_int.l0_z (x0 : List Int) (a2288 : Int) : cmp_Or_int.l0 x0 0 a2288 = none := rfl
theorem cmp_Or_int.l0_s (x0 : List Int) (k : Nat) (a2288 : Int) : cmp_Or_int.l0 x0 (k + 1) a2288 = (bif (decide (a2288 < (x0.length : Int))) then (chk (idxOk a2288 x0.length) (bif ((gt x0 a2288) != 0) then some (.inl (gt x0 a2288)) else cmp_Or_int.l0 x0 k (wrap64 (a2288 + 1)))) else some (.inr ())) := rfl
def cmp_Or_int.f (k : Nat) (x0 : List Int) : Option Int := ((cmp_Or_int.l0 x0 k 0).bind fun o2282 => thn o2282 (fun r => some r) (fun _ => some 0))
theorem cmp_Or_int.calls {k : Nat} {x0 : List Int} {p0 : Value} {w : World} (hp0 : RdS kInt w p0 x0) {r : Int} (H : cmp_Or_int.f k x0 = some r) :
    Calls Try.prog 134 ([p0] : List Value).toArray w (fun e w_ => ∃ v, e = .returned v ∧ v = (.int .i64 r) ∧ Mem w [] w_ []) := by
  have HM := Mem.start w
  refine calls_run (N := 18) Try.func134 rfl rfl rfl rfl ?_
  unfold cmp_Or_int.f at H
  refine run_seq ?_
  refine run_region rfl ?_
  refine ops_ex rfl (guard_none rfl) rfl rfl (ex_assign rfl rfl) ?_
  refine ops_nil ?_
  refine at_then ?_
  refine run_seq ?_
  refine run_region rfl ?_
  refine ops_ex rfl (guard_none rfl) rfl rfl (ex_assign rfl rfl) ?_
  refine ops_nil ?_
  refine at_then ?_
  obtain ⟨o2282, ho2283, H⟩ := bind_some H
  refine run_mid (fun ρ_ w_ => Sum.inr () = o2282 ∧ ρ_ = [(3, .int .i64 0)] ∧ Mem w [] w_ []) ?_ ?_
  · skip
    refine run_seq ?_
    refine run_region rfl ?_
    refine ops_ex rfl (guard_none rfl) rfl rfl (ex_move rfl rfl) ?_
    refine ops_ex rfl (guard_none rfl) rfl rfl (ex_len (d := kInt) (xs := x0) rfl rfl Try.underlying185 hp0) ?_
    refine ops_ex rfl (guard_none rfl) rfl rfl (ex_move rfl rfl) ?_
    refine ops_nil ?_
    refine at_then ?_
    refine run_block ?_
    refine run_loop (fun k_ ρ_ w_ => ∃ a2288 : Int, cmp_Or_int.l0 x0 k_ a2288 = some o2282 ∧ ρ_ = [(3, .int .i64 0), (6, p0), (7, .int .i64 (x0.length : Int)), (8, .int .i64 a2288)] ∧ Mem w [] w_ []) k (ρ1 := [(3, .int .i64 0), (6, p0), (7, .int .i64 (x0.length : Int)), (8, .int .i64 0)]) ⟨_, ho2283, rfl, HM⟩ (Sub.cons rfl (Sub.cons rfl (Sub.cons rfl (Sub.cons rfl Sub.nil)))) ?_
    clear HM ho2283
    rintro k2293 _ w2294 ⟨a2288, ho2283, rfl, HM⟩
    obtain _ | k2293 := k2293
    · exact nomatch ((cmp_Or_int.l0_z x0 a2288).symm.trans ho2283)
    replace ho2283 := (cmp_Or_int.l0_s x0 k2293 a2288).symm.trans ho2283
    refine run_seq ?_
    refine run_region rfl ?_
    refine ops_ex rfl (guard_none rfl) rfl rfl (ex_lss rfl rfl rfl) ?_
    refine ops_nil ?_
    refine at_then ?_
    refine run_seq ?_
    refine run_cond (b := (decide (a2288 < (x0.length : Int)))) rfl (fun hb2295 => ?_) (fun hb2295 => ?_)
    · replace ho2283 := cond_t hb2295 ho2283
      refine run_skip ?_
      refine at_then ?_
      refine run_seq ?_
      refine run_block ?_
      refine run_seq ?_
      obtain ⟨e2296, ho2283⟩ := chk_some ho2283
      refine run_region rfl ?_
      have hc2297 : CellsAt _ (sb p0) (so p0 + (a2288).toNat * 1) [(.int .i64 (gt x0 a2288))] := rd_plain hp0 e2296
      refine ops_ex rfl (guard_none rfl) rfl rfl (ex_indexAddr (d := kInt) rfl rfl rfl Try.underlying185 tsz3 hp0 (idx_lo e2296) (idx_hi e2296)) ?_
      refine ops_ex rfl (guard_none rfl) rfl rfl (ex_load1 rfl rfl Try.underlying3 rfl ((HM.at_ hc2297) 0 _ rfl)) ?_
      refine ops_ex rfl (guard_none rfl) rfl rfl (ex_assign rfl rfl) ?_
      refine ops_nil ?_
      refine at_then ?_
      refine run_seq ?_
      refine run_region rfl ?_
      refine ops_ex rfl (guard_none rfl) rfl rfl (ex_move rfl rfl) ?_
      refine ops_ex rfl (guard_none rfl) rfl rfl (ex_move rfl rfl) ?_
      refine ops_ex rfl (guard_none rfl) rfl rfl (ex_neq rfl rfl rfl) ?_
      refine ops_nil ?_
      refine at_then ?_
      refine run_cond (b := ((gt x0 a2288) != 0)) rfl (fun hb2298 => ?_) (fun hb2298 => ?_)
      · replace ho2283 := cond_t hb2298 ho2283
        refine run_seq ?_
        refine run_region rfl ?_
        refine ops_ex rfl (guard_none rfl) rfl rfl (ex_move rfl rfl) ?_
        refine ops_ex rfl (guard_none rfl) rfl rfl (ex_assign rfl rfl) ?_
        refine ops_nil ?_
        refine at_then ?_
        refine run_ret ?_
        refine at_block_ret ?_
        refine at_then_ret ?_
        refine at_then_ret ?_
        refine at_block_ret ?_
        refine at_then_ret ?_
        have hR := Option.some.inj ho2283
        subst hR
        have hT := thn_inl H
        have hR := Option.some.inj hT
        subst hR
        exact at_ret1 rfl rfl ⟨_, rfl, rfl, HM⟩
      · replace ho2283 := cond_f hb2298 ho2283
        refine run_skip ?_
        refine at_block ?_
        refine at_then ?_
        refine run_region rfl ?_
        refine ops_ex rfl (guard_none rfl) rfl rfl (ex_add rfl rfl rfl) ?_
        refine ops_ex rfl (guard_none rfl) rfl rfl (ex_move rfl rfl) ?_
        refine ops_nil ?_
        exact at_again k2293 (ρ1 := [(3, .int .i64 0), (6, p0), (7, .int .i64 (x0.length : Int)), (8, .int .i64 (wrap64 (a2288 + 1)))]) (Nat.lt_succ_self _) ⟨_, ho2283, rfl, HM⟩ (Sub.cons rfl (Sub.cons rfl (Sub.cons rfl (Sub.cons rfl Sub.nil))))
    · replace ho2283 := cond_f hb2295 ho2283
      refine run_exit ?_
      refine at_then_exit ?_
      refine at_then_exit ?_
      refine at_block_exit ?_
      exact at_mid (ρ' := [(3, .int .i64 0)]) ⟨(Option.some.inj ho2283), rfl, HM⟩ (Sub.cons rfl Sub.nil)
  · rintro _ w2299 ⟨rfl, rfl, HM⟩
    replace H := (thn_inr H)
    refine run_seq ?_
    refine run_region rfl ?_
    refine ops_ex rfl (guard_none rfl) rfl rfl (ex_move rfl rfl) ?_
    refine ops_ex rfl (guard_none rfl) rfl rfl (ex_assign rfl rfl) ?_
    refine ops_nil ?_
    refine at_then ?_
    refine run_ret ?_
    have hR := Option.some.inj H
    subst hR
    exact at_ret1 rfl rfl ⟨_, rfl, rfl, HM⟩

def impl_compareRefs.f (k : Nat) (x0 : Ref) (x1 : Ref) : Option Int := ((cmp_Compare_int64.f k x0.fTx x1.fTx).bind fun t2310 => ((cmp_Compare_int64.f k x0.fAt x1.fAt).bind fun t2312 => ((cmp_Or_int.f k ([t2310, t2312] : List Int)).bind fun t2317 => some t2317)))
theorem impl_compareRefs.calls {k : Nat} {x0 : Ref} {x1 : Ref}  {w : World}  {r : Int} (H : impl_compareRefs.f k x0 x1 = some r) :
    Calls Try.prog 83 ([.agg #[(.int .i64 x0.fTx), (.int .i64 x0.fAt)], .agg #[(.int .i64 x1.fTx), (.int .i64 x1.fAt)]] : List Value).toArray w (fun e w_ => ∃ v, e = .returned v ∧ v = (.int .i64 r) ∧ Mem w [] w_ []) := by
  have HM := Mem.start w
  refine calls_run (N := 17) Try.func83 rfl rfl rfl rfl ?_
  unfold impl_compareRefs.f at H
  refine run_seq ?_
  refine run_region rfl ?_
  refine ops_does rfl (guard_none rfl) rfl rfl (does_box (cs := [.int .i64 x0.fTx, .int .i64 x0.fAt]) rfl rfl rfl HM) ?_
  rintro _ w2308 ⟨b2302, rfl, HM⟩
  refine ops_does rfl (guard_none rfl) rfl rfl (does_box (cs := [.int .i64 x1.fTx, .int .i64 x1.fAt]) rfl rfl rfl HM) ?_
  rintro _ w2309 ⟨b2305, rfl, HM⟩
  refine ops_ex rfl (guard_none rfl) rfl rfl (ex_assign rfl rfl) ?_
  refine ops_nil ?_
  refine at_then ?_
  refine run_seq ?_
  obtain ⟨t2310, h2311, H⟩ := bind_some H
  obtain ⟨t2312, h2313, H⟩ := bind_some H
  obtain ⟨t2317, h2318, H⟩ := bind_some H
  refine run_drawf (fun w_ => Mem w [] w_ [box b2305 99 [.int .i64 x1.fTx, .int .i64 x1.fAt], box b2302 99 [.int .i64 x0.fTx, .int .i64 x0.fAt]]) [(0, true), (1, true), (2, true), (3, true), (5, true), (6, true), (7, true), (8, true), (4, false), (9, false), (10, false), (11, false), (12, true)] mixed rfl rfl (by kernel_rfl) ?_
  replace HM := HM.grow (fr_drew _)
  have hS := Mem.suf (M := []) HM
  refine drwp_take rfl (guard_none rfl) rfl rfl (fun w_ hS_ => (ex_fieldAddr (off' := 0) rfl rfl Try.underlying99 rfl tsz2 rfl)) hS ?_
  refine drwp_take rfl (guard_none rfl) rfl rfl (fun w_ hS_ => (ex_load1 rfl rfl Try.underlying2 rfl ((hS_.box_at 1 rfl) 0 _ rfl))) hS ?_
  refine drwp_take rfl (guard_none rfl) rfl rfl (fun w_ hS_ => (ex_fieldAddr (off' := 0) rfl rfl Try.underlying99 rfl tsz2 rfl)) hS ?_
  refine drwp_take rfl (guard_none rfl) rfl rfl (fun w_ hS_ => (ex_load1 rfl rfl Try.underlying2 rfl ((hS_.box_at 0 rfl) 0 _ rfl))) hS ?_
  refine drwp_take rfl (guard_none rfl) rfl rfl (fun w_ hS_ => (ex_fieldAddr (off' := 1) rfl rfl Try.underlying99 rfl tsz2 rfl)) hS ?_
  refine drwp_take rfl (guard_none rfl) rfl rfl (fun w_ hS_ => (ex_load1 rfl rfl Try.underlying2 rfl ((hS_.box_at 1 rfl) 1 _ rfl))) hS ?_
  refine drwp_take rfl (guard_none rfl) rfl rfl (fun w_ hS_ => (ex_fieldAddr (off' := 1) rfl rfl Try.underlying99 rfl tsz2 rfl)) hS ?_
  refine drwp_take rfl (guard_none rfl) rfl rfl (fun w_ hS_ => (ex_load1 rfl rfl Try.underlying2 rfl ((hS_.box_at 0 rfl) 1 _ rfl))) hS ?_
  refine drwp_one rfl (guard_none rfl) rfl rfl (does_callk rfl callok135 rfl (cmp_Compare_int64.calls (x0 := x0.fTx) (x1 := x1.fTx) h2311)) ?_
  rintro _ w2319 ⟨rfl, hn⟩
  replace HM : Mem w [] w2319 [box b2305 99 [.int .i64 x1.fTx, .int .i64 x1.fAt], box b2302 99 [.int .i64 x0.fTx, .int .i64 x0.fAt]] := HM.call hn
  refine ⟨Mem.suf (M := []) HM, ?_⟩
  have hS := Mem.suf (M := []) HM
  refine drwp_one rfl (guard_none rfl) rfl rfl (does_callk rfl callok135 rfl (cmp_Compare_int64.calls (x0 := x0.fAt) (x1 := x1.fAt) h2313)) ?_
  rintro _ w2320 ⟨rfl, hn⟩
  replace HM : Mem w [] w2320 [box b2305 99 [.int .i64 x1.fTx, .int .i64 x1.fAt], box b2302 99 [.int .i64 x0.fTx, .int .i64 x0.fAt]] := HM.call hn
  refine ⟨Mem.suf (M := []) HM, ?_⟩
  have hS := Mem.suf (M := []) HM
  refine drwp_one rfl (guard_none rfl) rfl rfl (does_lit (e := 3) (cs := [.int .i64 t2310, .int .i64 t2312]) (xs := ([t2310, t2312] : List Int)) kInt rfl rfl (fun _ => by kernel_rfl) rfl rfl (fun _ _ h => by have h' : _ = [] := h; subst h'; exact (Elems.cons (d := kInt) (f := []) ⟨rfl, rfl⟩ (Elems.cons (d := kInt) (f := []) ⟨rfl, rfl⟩ .nil))) HM.emp) ?_
  rintro v2314 w2321 HM
  refine ⟨Mem.suf (M := [own kInt 3 v2314 ([t2310, t2312] : List Int)]) HM, ?_⟩
  have hS := Mem.suf (M := [own kInt 3 v2314 ([t2310, t2312] : List Int)]) HM
  refine drwp_one rfl (guard_none rfl) rfl rfl (does_callk rfl callok134 rfl (cmp_Or_int.calls (x0 := ([t2310, t2312] : List Int)) (HM.own_rd 0 rfl) h2318)) ?_
  rintro _ w2322 ⟨rfl, hn⟩
  replace HM : Mem w [] w2322 [own kInt 3 v2314 ([t2310, t2312] : List Int), box b2305 99 [.int .i64 x1.fTx, .int .i64 x1.fAt], box b2302 99 [.int .i64 x0.fTx, .int .i64 x0.fAt]] := HM.call hn
  refine ⟨Mem.suf (M := [own kInt 3 v2314 ([t2310, t2312] : List Int)]) HM, ?_⟩
  have hS := Mem.suf (M := [own kInt 3 v2314 ([t2310, t2312] : List Int)]) HM
  refine drwp_take rfl (guard_none rfl) rfl rfl (fun w_ hS_ => (ex_assign rfl rfl)) hS ?_
  refine drwp_done ?_
  refine at_then ?_
  refine run_ret ?_
  replace HM := (HM.front 0 rfl rfl).drop
  replace HM := (HM.front 0 rfl rfl).drop
  replace HM := (HM.front 0 rfl rfl).drop
  have hR := Option.some.inj H
  subst hR
  exact at_ret1 rfl rfl ⟨_, rfl, rfl, HM⟩

def impl_CoinsFault.l0 (x0 : List Coin) : Nat → Int → Option (Int ⊕ Unit)
  | 0, _ => none
  | k + 1, a2544 => (bif (decide (a2544 < (x0.length : Int))) then (chk (idxOk a2544 x0.length) ((impl_isRef.f k ((gt x0 a2544).fRef)).bind fun t2599 => ((bif (!(!t2599)) then impl_isHeight.f k ((gt x0 a2544).fHeight) else some default).bind fun t2601 => ((bif (!((!t2599) || (!t2601))) then impl_within.f k ((gt x0 a2544).fOut.fValue) 1 1000000 else some default).bind fun t2603 => (bif (((!t2599) || (!t2601)) || (!t2603)) then some (.inl 3) else ((impl_RuleFault.f k ((gt x0 a2544).fOut.fRule)).bind fun t2618 => (bif (t2618 != 0) then some (.inl t2618) else (chk (!(decide (0 < a2544)) || (idxOk (wrap64 (a2544 - 1)) x0.length)) ((bif (decide (0 < a2544)) then impl_compareRefs.f k ((gt x0 (wrap64 (a2544 - 1))).fRef) ((gt x0 a2544).fRef) else some default).bind fun t2626 => (bif ((decide (0 < a2544)) && (decide (0 ≤ t2626))) then some (.inl 1) else impl_CoinsFault.l0 x0 k (wrap64 (a2544 + 1)))))))))))) else some (.inr ()))
theorem impl_CoinsFault.l0_z (x0 : List Coin) (a2544 : Int) : impl_CoinsFault.l0 x0 0 a2544 = none := rfl
theorem impl_CoinsFault.l0_s (x0 : List Coin) (k : Nat) (a2544 : Int) : impl_CoinsFault.l0 x0 (k + 1) a2544 = (bif (decide (a2544 < (x0.length : Int))) then (chk (idxOk a2544 x0.length) ((impl_isRef.f k ((gt x0 a2544).fRef)).bind fun t2599 => ((bif (!(!t2599)) then impl_isHeight.f k ((gt x0 a2544).fHeight) else some default).bind fun t2601 => ((bif (!((!t2599) || (!t2601))) then impl_within.f k ((gt x0 a2544).fOut.fValue) 1 1000000 else some default).bind fun t2603 => (bif (((!t2599) || (!t2601)) || (!t2603)) then some (.inl 3) else ((impl_RuleFault.f k ((gt x0 a2544).fOut.fRule)).bind fun t2618 => (bif (t2618 != 0) then some (.inl t2618) else (chk (!(decide (0 < a2544)) || (idxOk (wrap64 (a2544 - 1)) x0.length)) ((bif (decide (0 < a2544)) then impl_compareRefs.f k ((gt x0 (wrap64 (a2544 - 1))).fRef) ((gt x0 a2544).fRef) else some default).bind fun t2626 => (bif ((decide (0 < a2544)) && (decide (0 ≤ t2626))) then some (.inl 1) else impl_CoinsFault.l0 x0 k (wrap64 (a2544 + 1)))))))))))) else some (.inr ())) := rfl
def impl_CoinsFault.f (k : Nat) (x0 : List Coin) : Option Int := (bif (decide (40 < (x0.length : Int))) then some 2 else ((impl_CoinsFault.l0 x0 k 0).bind fun o2507 => thn o2507 (fun r => some r) (fun _ => some 0)))
theorem impl_CoinsFault.calls {k : Nat} {x0 : List Coin} {p0 : Value} {w : World} (hp0 : RdS kCoin w p0 x0) {r : Int} (H : impl_CoinsFault.f k x0 = some r) :
    Calls Try.prog 26 ([p0] : List Value).toArray w (fun e w_ => ∃ v, e = .returned v ∧ v = (.int .i64 r) ∧ Mem w [] w_ []) := by
  have HM := Mem.start w
  refine calls_run (N := 55) Try.func26 rfl rfl rfl rfl ?_
  unfold impl_CoinsFault.f at H
  refine run_seq ?_
  refine run_region rfl ?_
  refine ops_ex rfl (guard_none rfl) rfl rfl (ex_assign rfl rfl) ?_
  refine ops_nil ?_
  refine at_then ?_
  refine run_seq ?_
  refine run_seq ?_
  refine run_region rfl ?_
  refine ops_ex rfl (guard_none rfl) rfl rfl (ex_move rfl rfl) ?_
  refine ops_ex rfl (guard_none rfl) rfl rfl (ex_len (d := kCoin) (xs := x0) rfl rfl Try.underlying25 hp0) ?_
  refine ops_ex rfl (guard_none rfl) rfl rfl (ex_gtr rfl rfl rfl) ?_
  refine ops_nil ?_
  refine at_then ?_
  refine run_cond (b := (decide (40 < (x0.length : Int)))) rfl (fun hb2400 => ?_) (fun hb2400 => ?_)
  · replace H := cond_t hb2400 H
    refine run_seq ?_
    refine run_region rfl ?_
    refine ops_ex rfl (guard_none rfl) rfl rfl (ex_assign rfl rfl) ?_
    refine ops_nil ?_
    refine at_then ?_
    refine run_ret ?_
    refine at_then_ret ?_
    have hR := Option.some.inj H
    subst hR
    exact at_ret1 rfl rfl ⟨_, rfl, rfl, HM⟩
  · replace H := cond_f hb2400 H
    refine run_skip ?_
    refine at_then ?_
    obtain ⟨o2507, ho2508, H⟩ := bind_some H
    refine run_mid (fun ρ_ w_ => Sum.inr () = o2507 ∧ ρ_ = [] ∧ Mem w [] w_ []) ?_ ?_
    · skip
      refine run_seq ?_
      refine run_region rfl ?_
      refine ops_ex rfl (guard_none rfl) rfl rfl (ex_move rfl rfl) ?_
      refine ops_ex rfl (guard_none rfl) rfl rfl (ex_len (d := kCoin) (xs := x0) rfl rfl Try.underlying25 hp0) ?_
      refine ops_ex rfl (guard_none rfl) rfl rfl (ex_move rfl rfl) ?_
      refine ops_nil ?_
      refine at_then ?_
      refine run_block ?_
      refine run_loop (fun k_ ρ_ w_ => ∃ a2544 : Int, impl_CoinsFault.l0 x0 k_ a2544 = some o2507 ∧ ρ_ = [(0, p0), (9, p0), (10, .int .i64 (x0.length : Int)), (11, .int .i64 a2544)] ∧ Mem w [] w_ []) k (ρ1 := [(0, p0), (9, p0), (10, .int .i64 (x0.length : Int)), (11, .int .i64 0)]) ⟨_, ho2508, rfl, HM⟩ (Sub.cons rfl (Sub.cons rfl (Sub.cons rfl (Sub.cons rfl Sub.nil)))) ?_
      clear HM ho2508
      rintro k2580 _ w2581 ⟨a2544, ho2508, rfl, HM⟩
      obtain _ | k2580 := k2580
      · exact nomatch ((impl_CoinsFault.l0_z x0 a2544).symm.trans ho2508)
      replace ho2508 := (impl_CoinsFault.l0_s x0 k2580 a2544).symm.trans ho2508
      refine run_seq ?_
      refine run_region rfl ?_
      refine ops_ex rfl (guard_none rfl) rfl rfl (ex_lss rfl rfl rfl) ?_
      refine ops_nil ?_
      refine at_then ?_
      refine run_seq ?_
      refine run_cond (b := (decide (a2544 < (x0.length : Int)))) rfl (fun hb2582 => ?_) (fun hb2582 => ?_)
      · replace ho2508 := cond_t hb2582 ho2508
        refine run_skip ?_
        refine at_then ?_
        refine run_seq ?_
        refine run_block ?_
        refine run_seq ?_
        obtain ⟨e2583, ho2508⟩ := chk_some ho2508
        refine run_region rfl ?_
        refine ops_ex rfl (guard_none rfl) rfl rfl (ex_move rfl rfl) ?_
        obtain ⟨kv2585, hc2584, hk2586⟩ : ∃ u, CellsAt _ (sb p0) (so p0 + (a2544).toNat * 8) [(.int .i64 ((gt x0 a2544).fRef.fTx)), (.int .i64 ((gt x0 a2544).fRef.fAt)), (.int .i64 ((gt x0 a2544).fOut.fValue)), u, (.int .i64 ((gt x0 a2544).fOut.fRule.fNeed)), (.int .i64 ((gt x0 a2544).fOut.fRule.fAfter)), (.int .i64 ((gt x0 a2544).fHeight)), (.bool ((gt x0 a2544).fMined))] ∧ RdS kInt _ u ((gt x0 a2544).fOut.fRule.fKeys) := rd_with1 hp0 e2583
        refine ops_ex rfl (guard_none rfl) rfl rfl (ex_indexAddr (d := kCoin) rfl rfl rfl Try.underlying25 tsz104 hp0 (idx_lo e2583) (idx_hi e2583)) ?_
        refine ops_ex rfl (guard_none rfl) rfl rfl (ex_loadN (cs := [(.int .i64 ((gt x0 a2544).fRef.fTx)), (.int .i64 ((gt x0 a2544).fRef.fAt)), (.int .i64 ((gt x0 a2544).fOut.fValue)), kv2585, (.int .i64 ((gt x0 a2544).fOut.fRule.fNeed)), (.int .i64 ((gt x0 a2544).fOut.fRule.fAfter)), (.int .i64 ((gt x0 a2544).fHeight)), (.bool ((gt x0 a2544).fMined))]) rfl rfl Try.underlying104 rfl tsz104 rfl ((HM.at_ hc2584).sub 0 8 rfl)) ?_
        refine ops_does rfl (guard_none rfl) rfl rfl (does_alloc (cs := [.int .i64 0, .int .i64 0, .int .i64 0, .slice none 0 0, .int .i64 0, .int .i64 0, .int .i64 0, .bool false]) rfl tz104 rfl HM) ?_
        rintro _ w2590 ⟨b2587, rfl, HM⟩
        refine ops_ex rfl (guard_none rfl) rfl rfl (ex_assign rfl rfl) ?_
        refine ops_doesS rfl (guard_none rfl) rfl (does_store (vs := [.int .i64 ((gt x0 a2544).fRef.fTx), .int .i64 ((gt x0 a2544).fRef.fAt), .int .i64 ((gt x0 a2544).fOut.fValue), kv2585, .int .i64 ((gt x0 a2544).fOut.fRule.fNeed), .int .i64 ((gt x0 a2544).fOut.fRule.fAfter), .int .i64 ((gt x0 a2544).fHeight), .bool ((gt x0 a2544).fMined)]) (cs' := [.int .i64 ((gt x0 a2544).fRef.fTx), .int .i64 ((gt x0 a2544).fRef.fAt), .int .i64 ((gt x0 a2544).fOut.fValue), kv2585, .int .i64 ((gt x0 a2544).fOut.fRule.fNeed), .int .i64 ((gt x0 a2544).fOut.fRule.fAfter), .int .i64 ((gt x0 a2544).fHeight), .bool ((gt x0 a2544).fMined)]) rfl rfl rfl rfl tsz104 (Ones.int (Ones.int (Ones.int (Ones.rd hk2586 (Ones.int (Ones.int (Ones.int (Ones.bool Ones.nil)))))))) rfl rfl HM) ?_
        rintro w2591 HM
        refine ops_nil ?_
        refine at_then ?_
        refine run_seq ?_
        refine run_seq ?_
        obtain ⟨t2599, h2600, ho2508⟩ := bind_some ho2508
        obtain ⟨t2601, h2602, ho2508⟩ := bind_some ho2508
        obtain ⟨t2603, h2604, ho2508⟩ := bind_some ho2508
        refine run_meet (fun ρ_ w_ => ρ_ = [(0, p0), (9, p0), (10, .int .i64 (x0.length : Int)), (11, .int .i64 a2544), (4, .pointer (some ⟨b2587, 0, none⟩)), (3, .int .i64 a2544), (32, .bool (((!t2599) || (!t2601)) || (!t2603)))] ∧ Mem w [] w_ [box b2587 104 [.int .i64 ((gt x0 a2544).fRef.fTx), .int .i64 ((gt x0 a2544).fRef.fAt), .int .i64 ((gt x0 a2544).fOut.fValue), kv2585, .int .i64 ((gt x0 a2544).fOut.fRule.fNeed), .int .i64 ((gt x0 a2544).fOut.fRule.fAfter), .int .i64 ((gt x0 a2544).fHeight), .bool ((gt x0 a2544).fMined)]]) ?_ ?_
        · skip
          refine run_region rfl ?_
          refine ops_ex rfl (guard_none rfl) rfl rfl (ex_fieldAddr (off' := 0) rfl rfl Try.underlying104 rfl tsz99 rfl) ?_
          refine ops_ex rfl (guard_none rfl) rfl rfl (ex_loadN (cs := [(.int .i64 ((gt x0 a2544).fRef.fTx)), (.int .i64 ((gt x0 a2544).fRef.fAt))]) rfl rfl Try.underlying99 rfl tsz99 rfl ((HM.box_at 0 rfl).sub 0 2 rfl)) ?_
          refine ops_does rfl (guard_none rfl) rfl rfl (does_callk rfl callok79 rfl (impl_isRef.calls (x0 := (gt x0 a2544).fRef) h2600)) ?_
          rintro _ w2605 ⟨rfl, hn⟩
          replace HM : Mem w [] w2605 [box b2587 104 [.int .i64 ((gt x0 a2544).fRef.fTx), .int .i64 ((gt x0 a2544).fRef.fAt), .int .i64 ((gt x0 a2544).fOut.fValue), kv2585, .int .i64 ((gt x0 a2544).fOut.fRule.fNeed), .int .i64 ((gt x0 a2544).fOut.fRule.fAfter), .int .i64 ((gt x0 a2544).fHeight), .bool ((gt x0 a2544).fMined)]] := HM.call hn
          refine ops_ex rfl (guard_none rfl) rfl rfl (ex_not rfl rfl) ?_
          refine ops_ex rfl (guard_none rfl) rfl rfl (ex_move rfl rfl) ?_
          refine bool_cases (!t2599) (fun hg2606 => ?_) (fun hg2606 => ?_)
          · skip
            refine ops_off rfl (guard_off rfl rfl rfl hg2606) rfl rfl ?_
            refine ops_off rfl (guard_off rfl rfl rfl hg2606) rfl rfl ?_
            refine ops_off rfl (guard_off rfl rfl rfl hg2606) rfl rfl ?_
            refine ops_off rfl (guard_off rfl rfl rfl hg2606) rfl rfl ?_
            have hg2607 : ((!t2599) || (!t2601)) = true := by simp only [hg2606, Bool.and_true, Bool.true_and, Bool.and_false, Bool.false_and, Bool.or_true, Bool.true_or, Bool.or_false, Bool.false_or, Bool.not_true, Bool.not_false, Bool.not_not]
            refine ops_ex (v := .bool ((!t2599) || (!t2601))) rfl (guard_none rfl) rfl rfl (ex_por_t rfl rfl hg2606) ?_
            refine ops_ex rfl (guard_none rfl) rfl rfl (ex_move rfl rfl) ?_
            refine ops_off rfl (guard_off rfl rfl rfl hg2607) rfl rfl ?_
            refine ops_off rfl (guard_off rfl rfl rfl hg2607) rfl rfl ?_
            refine ops_off rfl (guard_off rfl rfl rfl hg2607) rfl rfl ?_
            refine ops_off rfl (guard_off rfl rfl rfl hg2607) rfl rfl ?_
            refine ops_off rfl (guard_off rfl rfl rfl hg2607) rfl rfl ?_
            have hg2608 : (((!t2599) || (!t2601)) || (!t2603)) = true := by simp only [hg2607, Bool.and_true, Bool.true_and, Bool.and_false, Bool.false_and, Bool.or_true, Bool.true_or, Bool.or_false, Bool.false_or, Bool.not_true, Bool.not_false, Bool.not_not]
            refine ops_ex (v := .bool (((!t2599) || (!t2601)) || (!t2603))) rfl (guard_none rfl) rfl rfl (ex_por_t rfl rfl hg2607) ?_
            refine ops_nil ?_
            exact at_meet [(0, p0), (9, p0), (10, .int .i64 (x0.length : Int)), (11, .int .i64 a2544), (4, .pointer (some ⟨b2587, 0, none⟩)), (3, .int .i64 a2544), (32, .bool (((!t2599) || (!t2601)) || (!t2603)))] ⟨rfl, HM⟩ (Sub.cons rfl (Sub.cons rfl (Sub.cons rfl (Sub.cons rfl (Sub.cons rfl (Sub.cons rfl (Sub.cons rfl Sub.nil)))))))
          · skip
            refine ops_ex rfl (guard_on rfl rfl rfl hg2606) rfl rfl (ex_fieldAddr (off' := 6) rfl rfl Try.underlying104 rfl tsz2 rfl) ?_
            refine ops_ex rfl (guard_on rfl rfl rfl hg2606) rfl rfl (ex_load1 rfl rfl Try.underlying2 rfl ((HM.box_at 0 rfl) 6 _ rfl)) ?_
            refine ops_does rfl (guard_on rfl rfl rfl hg2606) rfl rfl (does_callk rfl callok80 rfl (impl_isHeight.calls (x0 := (gt x0 a2544).fHeight) (cond_t (not_mk hg2606) h2602))) ?_
            rintro _ w2609 ⟨rfl, hn⟩
            replace HM : Mem w [] w2609 [box b2587 104 [.int .i64 ((gt x0 a2544).fRef.fTx), .int .i64 ((gt x0 a2544).fRef.fAt), .int .i64 ((gt x0 a2544).fOut.fValue), kv2585, .int .i64 ((gt x0 a2544).fOut.fRule.fNeed), .int .i64 ((gt x0 a2544).fOut.fRule.fAfter), .int .i64 ((gt x0 a2544).fHeight), .bool ((gt x0 a2544).fMined)]] := HM.call hn
            refine ops_ex rfl (guard_on rfl rfl rfl hg2606) rfl rfl (ex_not rfl rfl) ?_
            refine ops_ex (v := .bool ((!t2599) || (!t2601))) rfl (guard_none rfl) rfl rfl (ex_por_f rfl rfl hg2606 rfl) ?_
            refine ops_ex rfl (guard_none rfl) rfl rfl (ex_move rfl rfl) ?_
            refine bool_cases ((!t2599) || (!t2601)) (fun hg2610 => ?_) (fun hg2610 => ?_)
            · skip
              refine ops_off rfl (guard_off rfl rfl rfl hg2610) rfl rfl ?_
              refine ops_off rfl (guard_off rfl rfl rfl hg2610) rfl rfl ?_
              refine ops_off rfl (guard_off rfl rfl rfl hg2610) rfl rfl ?_
              refine ops_off rfl (guard_off rfl rfl rfl hg2610) rfl rfl ?_
              refine ops_off rfl (guard_off rfl rfl rfl hg2610) rfl rfl ?_
              have hg2611 : (((!t2599) || (!t2601)) || (!t2603)) = true := by simp only [hg2610, Bool.and_true, Bool.true_and, Bool.and_false, Bool.false_and, Bool.or_true, Bool.true_or, Bool.or_false, Bool.false_or, Bool.not_true, Bool.not_false, Bool.not_not]
              refine ops_ex (v := .bool (((!t2599) || (!t2601)) || (!t2603))) rfl (guard_none rfl) rfl rfl (ex_por_t rfl rfl hg2610) ?_
              refine ops_nil ?_
              exact at_meet [(0, p0), (9, p0), (10, .int .i64 (x0.length : Int)), (11, .int .i64 a2544), (4, .pointer (some ⟨b2587, 0, none⟩)), (3, .int .i64 a2544), (32, .bool (((!t2599) || (!t2601)) || (!t2603)))] ⟨rfl, HM⟩ (Sub.cons rfl (Sub.cons rfl (Sub.cons rfl (Sub.cons rfl (Sub.cons rfl (Sub.cons rfl (Sub.cons rfl Sub.nil)))))))
            · skip
              refine ops_ex rfl (guard_on rfl rfl rfl hg2610) rfl rfl (ex_fieldAddr (off' := 2) rfl rfl Try.underlying104 rfl tsz102 rfl) ?_
              refine ops_ex rfl (guard_on rfl rfl rfl hg2610) rfl rfl (ex_fieldAddr (off' := 2) rfl rfl Try.underlying102 rfl tsz2 rfl) ?_
              refine ops_ex rfl (guard_on rfl rfl rfl hg2610) rfl rfl (ex_load1 rfl rfl Try.underlying2 rfl ((HM.box_at 0 rfl) 2 _ rfl)) ?_
              refine ops_does rfl (guard_on rfl rfl rfl hg2610) rfl rfl (does_callk rfl callok81 rfl (impl_within.calls (x0 := (gt x0 a2544).fOut.fValue) (x1 := 1) (x2 := 1000000) (cond_t (not_mk hg2610) h2604))) ?_
              rintro _ w2612 ⟨rfl, hn⟩
              replace HM : Mem w [] w2612 [box b2587 104 [.int .i64 ((gt x0 a2544).fRef.fTx), .int .i64 ((gt x0 a2544).fRef.fAt), .int .i64 ((gt x0 a2544).fOut.fValue), kv2585, .int .i64 ((gt x0 a2544).fOut.fRule.fNeed), .int .i64 ((gt x0 a2544).fOut.fRule.fAfter), .int .i64 ((gt x0 a2544).fHeight), .bool ((gt x0 a2544).fMined)]] := HM.call hn
              refine ops_ex rfl (guard_on rfl rfl rfl hg2610) rfl rfl (ex_not rfl rfl) ?_
              refine ops_ex (v := .bool (((!t2599) || (!t2601)) || (!t2603))) rfl (guard_none rfl) rfl rfl (ex_por_f rfl rfl hg2610 rfl) ?_
              refine ops_nil ?_
              exact at_meet [(0, p0), (9, p0), (10, .int .i64 (x0.length : Int)), (11, .int .i64 a2544), (4, .pointer (some ⟨b2587, 0, none⟩)), (3, .int .i64 a2544), (32, .bool (((!t2599) || (!t2601)) || (!t2603)))] ⟨rfl, HM⟩ (Sub.cons rfl (Sub.cons rfl (Sub.cons rfl (Sub.cons rfl (Sub.cons rfl (Sub.cons rfl (Sub.cons rfl Sub.nil)))))))
        · rintro _ w2613 ⟨rfl, HM⟩
          refine at_then ?_
          refine run_cond (b := (((!t2599) || (!t2601)) || (!t2603))) rfl (fun hb2614 => ?_) (fun hb2614 => ?_)
          · replace ho2508 := cond_t hb2614 ho2508
            refine run_seq ?_
            refine run_region rfl ?_
            refine ops_ex rfl (guard_none rfl) rfl rfl (ex_assign rfl rfl) ?_
            refine ops_nil ?_
            refine at_then ?_
            refine run_ret ?_
            refine at_then_ret ?_
            refine at_block_ret ?_
            refine at_then_ret ?_
            refine at_then_ret ?_
            refine at_block_ret ?_
            refine at_then_ret ?_
            replace HM := (HM.front 0 rfl rfl).drop
            have hR := Option.some.inj ho2508
            subst hR
            have hT := thn_inl H
            have hR := Option.some.inj hT
            subst hR
            exact at_ret1 rfl rfl ⟨_, rfl, rfl, HM⟩
          · replace ho2508 := cond_f hb2614 ho2508
            refine run_skip ?_
            refine at_then ?_
            refine run_seq ?_
            refine run_seq ?_
            obtain ⟨t2618, h2619, ho2508⟩ := bind_some ho2508
            refine run_region rfl ?_
            refine ops_ex rfl (guard_none rfl) rfl rfl (ex_fieldAddr (off' := 2) rfl rfl Try.underlying104 rfl tsz102 rfl) ?_
            refine ops_ex rfl (guard_none rfl) rfl rfl (ex_fieldAddr (off' := 3) rfl rfl Try.underlying102 rfl tsz100 rfl) ?_
            refine ops_ex rfl (guard_none rfl) rfl rfl (ex_loadN (cs := [kv2585, (.int .i64 ((gt x0 a2544).fOut.fRule.fNeed)), (.int .i64 ((gt x0 a2544).fOut.fRule.fAfter))]) rfl rfl Try.underlying100 rfl tsz100 rfl ((HM.box_at 0 rfl).sub 3 3 rfl)) ?_
            refine ops_does rfl (guard_none rfl) rfl rfl (does_callk rfl callok82 rfl (impl_RuleFault.calls (x0 := (gt x0 a2544).fOut.fRule) (HM.rd hk2586) h2619)) ?_
            rintro _ w2620 ⟨rfl, hn⟩
            replace HM : Mem w [] w2620 [box b2587 104 [.int .i64 ((gt x0 a2544).fRef.fTx), .int .i64 ((gt x0 a2544).fRef.fAt), .int .i64 ((gt x0 a2544).fOut.fValue), kv2585, .int .i64 ((gt x0 a2544).fOut.fRule.fNeed), .int .i64 ((gt x0 a2544).fOut.fRule.fAfter), .int .i64 ((gt x0 a2544).fHeight), .bool ((gt x0 a2544).fMined)]] := HM.call hn
            refine ops_ex rfl (guard_none rfl) rfl rfl (ex_assign rfl rfl) ?_
            refine ops_nil ?_
            refine at_then ?_
            refine run_seq ?_
            refine run_region rfl ?_
            refine ops_ex rfl (guard_none rfl) rfl rfl (ex_move rfl rfl) ?_
            refine ops_ex rfl (guard_none rfl) rfl rfl (ex_neq rfl rfl rfl) ?_
            refine ops_nil ?_
            refine at_then ?_
            refine run_cond (b := (t2618 != 0)) rfl (fun hb2621 => ?_) (fun hb2621 => ?_)
            · replace ho2508 := cond_t hb2621 ho2508
              refine run_seq ?_
              refine run_region rfl ?_
              refine ops_ex rfl (guard_none rfl) rfl rfl (ex_move rfl rfl) ?_
              refine ops_ex rfl (guard_none rfl) rfl rfl (ex_assign rfl rfl) ?_
              refine ops_nil ?_
              refine at_then ?_
              refine run_ret ?_
              refine at_then_ret ?_
              refine at_block_ret ?_
              refine at_then_ret ?_
              refine at_then_ret ?_
              refine at_block_ret ?_
              refine at_then_ret ?_
              replace HM := (HM.front 0 rfl rfl).drop
              have hR := Option.some.inj ho2508
              subst hR
              have hT := thn_inl H
              have hR := Option.some.inj hT
              subst hR
              exact at_ret1 rfl rfl ⟨_, rfl, rfl, HM⟩
            · replace ho2508 := cond_f hb2621 ho2508
              refine run_skip ?_
              refine at_then ?_
              refine run_seq ?_
              obtain ⟨e2622, ho2508⟩ := chk_some ho2508
              obtain ⟨t2626, h2627, ho2508⟩ := bind_some ho2508
              refine run_meet (fun ρ_ w_ => ρ_ = [(0, p0), (9, p0), (10, .int .i64 (x0.length : Int)), (11, .int .i64 a2544), (53, .bool ((decide (0 < a2544)) && (decide (0 ≤ t2626))))] ∧ Mem w [] w_ []) ?_ ?_
              · skip
                refine run_drawf (fun w_ => Mem w [] w_ [box b2587 104 [.int .i64 ((gt x0 a2544).fRef.fTx), .int .i64 ((gt x0 a2544).fRef.fAt), .int .i64 ((gt x0 a2544).fOut.fValue), kv2585, .int .i64 ((gt x0 a2544).fOut.fRule.fNeed), .int .i64 ((gt x0 a2544).fOut.fRule.fAfter), .int .i64 ((gt x0 a2544).fHeight), .bool ((gt x0 a2544).fMined)]]) [(0, true), (1, true), (2, true), (3, true), (4, true), (5, true), (6, true), (7, true), (8, true), (9, true), (10, true), (11, false), (12, true), (13, true)] mixed rfl rfl (by kernel_rfl) ?_
                replace HM := HM.grow (fr_drew _)
                have hS := Mem.suf (M := []) HM
                refine drwp_take rfl (guard_none rfl) rfl rfl (fun w_ hS_ => (ex_move rfl rfl)) hS ?_
                refine drwp_take rfl (guard_none rfl) rfl rfl (fun w_ hS_ => (ex_gtr rfl rfl rfl)) hS ?_
                refine drwp_take rfl (guard_none rfl) rfl rfl (fun w_ hS_ => (ex_move rfl rfl)) hS ?_
                refine bool_cases (decide (0 < a2544)) (fun hg2628 => ?_) (fun hg2628 => ?_)
                · skip
                  refine drwp_take rfl (guard_on rfl rfl rfl hg2628) rfl rfl (fun w_ hS_ => (ex_move rfl rfl)) hS ?_
                  refine drwp_take rfl (guard_on rfl rfl rfl hg2628) rfl rfl (fun w_ hS_ => (ex_move rfl rfl)) hS ?_
                  refine drwp_take rfl (guard_on rfl rfl rfl hg2628) rfl rfl (fun w_ hS_ => (ex_sub rfl rfl rfl)) hS ?_
                  obtain ⟨kv2624, hc2623, hk2625⟩ : ∃ u, CellsAt _ (sb p0) (so p0 + (wrap64 (a2544 - 1)).toNat * 8) [(.int .i64 ((gt x0 (wrap64 (a2544 - 1))).fRef.fTx)), (.int .i64 ((gt x0 (wrap64 (a2544 - 1))).fRef.fAt)), (.int .i64 ((gt x0 (wrap64 (a2544 - 1))).fOut.fValue)), u, (.int .i64 ((gt x0 (wrap64 (a2544 - 1))).fOut.fRule.fNeed)), (.int .i64 ((gt x0 (wrap64 (a2544 - 1))).fOut.fRule.fAfter)), (.int .i64 ((gt x0 (wrap64 (a2544 - 1))).fHeight)), (.bool ((gt x0 (wrap64 (a2544 - 1))).fMined))] ∧ RdS kInt _ u ((gt x0 (wrap64 (a2544 - 1))).fOut.fRule.fKeys) := rd_with1 hp0 (or_t e2622 hg2628)
                  refine drwp_take rfl (guard_on rfl rfl rfl hg2628) rfl rfl (fun w_ hS_ => (ex_indexAddr (d := kCoin) rfl rfl rfl Try.underlying25 tsz104 hp0 (idx_lo (or_t e2622 hg2628)) (idx_hi (or_t e2622 hg2628)))) hS ?_
                  refine drwp_take rfl (guard_on rfl rfl rfl hg2628) rfl rfl (fun w_ hS_ => (ex_fieldAddr (off' := so p0 + (wrap64 (a2544 - 1)).toNat * 8) rfl rfl Try.underlying104 rfl tsz99 rfl)) hS ?_
                  refine drwp_take rfl (guard_on rfl rfl rfl hg2628) rfl rfl (fun w_ hS_ => (ex_loadN (cs := [(.int .i64 ((gt x0 (wrap64 (a2544 - 1))).fRef.fTx)), (.int .i64 ((gt x0 (wrap64 (a2544 - 1))).fRef.fAt))]) rfl rfl Try.underlying99 rfl tsz99 rfl ((hS_.at_ hc2623).sub 0 2 rfl))) hS ?_
                  refine drwp_take rfl (guard_on rfl rfl rfl hg2628) rfl rfl (fun w_ hS_ => (ex_fieldAddr (off' := 0) rfl rfl Try.underlying104 rfl tsz99 rfl)) hS ?_
                  refine drwp_take rfl (guard_on rfl rfl rfl hg2628) rfl rfl (fun w_ hS_ => (ex_loadN (cs := [(.int .i64 ((gt x0 a2544).fRef.fTx)), (.int .i64 ((gt x0 a2544).fRef.fAt))]) rfl rfl Try.underlying99 rfl tsz99 rfl ((hS_.box_at 0 rfl).sub 0 2 rfl))) hS ?_
                  refine drwp_one rfl (guard_on rfl rfl rfl hg2628) rfl rfl (does_callk rfl callok83 rfl (impl_compareRefs.calls (x0 := (gt x0 (wrap64 (a2544 - 1))).fRef) (x1 := (gt x0 a2544).fRef) (cond_t hg2628 h2627))) ?_
                  rintro _ w2629 ⟨rfl, hn⟩
                  replace HM : Mem w [] w2629 [box b2587 104 [.int .i64 ((gt x0 a2544).fRef.fTx), .int .i64 ((gt x0 a2544).fRef.fAt), .int .i64 ((gt x0 a2544).fOut.fValue), kv2585, .int .i64 ((gt x0 a2544).fOut.fRule.fNeed), .int .i64 ((gt x0 a2544).fOut.fRule.fAfter), .int .i64 ((gt x0 a2544).fHeight), .bool ((gt x0 a2544).fMined)]] := HM.call hn
                  refine ⟨Mem.suf (M := []) HM, ?_⟩
                  have hS := Mem.suf (M := []) HM
                  refine drwp_take rfl (guard_on rfl rfl rfl hg2628) rfl rfl (fun w_ hS_ => (ex_geq rfl rfl rfl)) hS ?_
                  refine drwp_take (v := .bool ((decide (0 < a2544)) && (decide (0 ≤ t2626)))) rfl (guard_none rfl) rfl rfl (fun w_ hS_ => (ex_pand_t rfl rfl hg2628 rfl)) hS ?_
                  refine drwp_done ?_
                  replace HM := (HM.front 0 rfl rfl).drop
                  exact at_meet [(0, p0), (9, p0), (10, .int .i64 (x0.length : Int)), (11, .int .i64 a2544), (53, .bool ((decide (0 < a2544)) && (decide (0 ≤ t2626))))] ⟨rfl, HM⟩ (Sub.cons rfl (Sub.cons rfl (Sub.cons rfl (Sub.cons rfl (Sub.cons rfl Sub.nil)))))
                · skip
                  refine drwp_off rfl (guard_off rfl rfl rfl hg2628) rfl rfl hS ?_
                  refine drwp_off rfl (guard_off rfl rfl rfl hg2628) rfl rfl hS ?_
                  refine drwp_off rfl (guard_off rfl rfl rfl hg2628) rfl rfl hS ?_
                  refine drwp_off rfl (guard_off rfl rfl rfl hg2628) rfl rfl hS ?_
                  refine drwp_off rfl (guard_off rfl rfl rfl hg2628) rfl rfl hS ?_
                  refine drwp_off rfl (guard_off rfl rfl rfl hg2628) rfl rfl hS ?_
                  refine drwp_off rfl (guard_off rfl rfl rfl hg2628) rfl rfl hS ?_
                  refine drwp_off rfl (guard_off rfl rfl rfl hg2628) rfl rfl hS ?_
                  refine drwp_off1 rfl (guard_off rfl rfl rfl hg2628) rfl rfl ⟨hS, ?_⟩
                  refine drwp_off rfl (guard_off rfl rfl rfl hg2628) rfl rfl hS ?_
                  have hg2630 : ((decide (0 < a2544)) && (decide (0 ≤ t2626))) = false := by simp only [hg2628, Bool.and_true, Bool.true_and, Bool.and_false, Bool.false_and, Bool.or_true, Bool.true_or, Bool.or_false, Bool.false_or, Bool.not_true, Bool.not_false, Bool.not_not]
                  refine drwp_take (v := .bool ((decide (0 < a2544)) && (decide (0 ≤ t2626)))) rfl (guard_none rfl) rfl rfl (fun w_ hS_ => (ex_pand_f rfl rfl hg2628)) hS ?_
                  refine drwp_done ?_
                  replace HM := (HM.front 0 rfl rfl).drop
                  exact at_meet [(0, p0), (9, p0), (10, .int .i64 (x0.length : Int)), (11, .int .i64 a2544), (53, .bool ((decide (0 < a2544)) && (decide (0 ≤ t2626))))] ⟨rfl, HM⟩ (Sub.cons rfl (Sub.cons rfl (Sub.cons rfl (Sub.cons rfl (Sub.cons rfl Sub.nil)))))
              · rintro _ w2631 ⟨rfl, HM⟩
                refine at_then ?_
                refine run_cond (b := ((decide (0 < a2544)) && (decide (0 ≤ t2626)))) rfl (fun hb2632 => ?_) (fun hb2632 => ?_)
                · replace ho2508 := cond_t hb2632 ho2508
                  refine run_seq ?_
                  refine run_region rfl ?_
                  refine ops_ex rfl (guard_none rfl) rfl rfl (ex_assign rfl rfl) ?_
                  refine ops_nil ?_
                  refine at_then ?_
                  refine run_ret ?_
                  refine at_block_ret ?_
                  refine at_then_ret ?_
                  refine at_then_ret ?_
                  refine at_block_ret ?_
                  refine at_then_ret ?_
                  have hR := Option.some.inj ho2508
                  subst hR
                  have hT := thn_inl H
                  have hR := Option.some.inj hT
                  subst hR
                  exact at_ret1 rfl rfl ⟨_, rfl, rfl, HM⟩
                · replace ho2508 := cond_f hb2632 ho2508
                  refine run_skip ?_
                  refine at_block ?_
                  refine at_then ?_
                  refine run_region rfl ?_
                  refine ops_ex rfl (guard_none rfl) rfl rfl (ex_add rfl rfl rfl) ?_
                  refine ops_ex rfl (guard_none rfl) rfl rfl (ex_move rfl rfl) ?_
                  refine ops_nil ?_
                  exact at_again k2580 (ρ1 := [(0, p0), (9, p0), (10, .int .i64 (x0.length : Int)), (11, .int .i64 (wrap64 (a2544 + 1)))]) (Nat.lt_succ_self _) ⟨_, ho2508, rfl, HM⟩ (Sub.cons rfl (Sub.cons rfl (Sub.cons rfl (Sub.cons rfl Sub.nil))))
      · replace ho2508 := cond_f hb2582 ho2508
        refine run_exit ?_
        refine at_then_exit ?_
        refine at_then_exit ?_
        refine at_block_exit ?_
        exact at_mid (ρ' := []) ⟨(Option.some.inj ho2508), rfl, HM⟩ Sub.nil
    · rintro _ w2633 ⟨rfl, rfl, HM⟩
      replace H := (thn_inr H)
      refine run_seq ?_
      refine run_region rfl ?_
      refine ops_ex rfl (guard_none rfl) rfl rfl (ex_assign rfl rfl) ?_
      refine ops_nil ?_
      refine at_then ?_
      refine run_ret ?_
      have hR := Option.some.inj H
      subst hR
      exact at_ret1 rfl rfl ⟨_, rfl, rfl, HM⟩
end Go.Proofs.Ytoiacoiccpiciaa.Zk
