/- What functions of the program compute, each as a plain function, and that they do. Conditions: as each theorem states them. -/
import Derived.Test.YtoiacoiccpiciaaSameCoinsZkF1
namespace Go.Proofs.Ytoiacoiccpiciaa.Zk
open Go Go.RowKit Go.IntWalk Go.Proofs
set_option linter.unusedVariables false
set_option linter.unusedSimpArgs false
set_option maxRecDepth 100000
def spec_SameCoins.f (k : Nat) (x0 : List Coin) (x1 : List Coin) : Option Bool := ((spec_l4Same.f k x0 x1).bind fun t992 => some t992)
theorem spec_SameCoins.calls {k : Nat} {x0 : List Coin} {x1 : List Coin} {p0 : Value} {p1 : Value} {w : World} (hp0 : RdS kCoin w p0 x0) (hp1 : RdS kCoin w p1 x1) {r : Bool} (H : spec_SameCoins.f k x0 x1 = some r) :
    Calls Try.prog 16 ([p0, p1] : List Value).toArray w (fun e w_ => ∃ v, e = .returned v ∧ v = (.bool r) ∧ Mem w [] w_ []) := by
  have HM := Mem.start w
  refine calls_run (N := 8) Try.func16 rfl rfl rfl rfl ?_
  unfold spec_SameCoins.f at H
  refine run_seq ?_
  refine run_region rfl ?_
  refine ops_ex rfl (guard_none rfl) rfl rfl (ex_assign rfl rfl) ?_
  refine ops_nil ?_
  refine at_then ?_
  refine run_seq ?_
  obtain ⟨t992, h993, H⟩ := bind_some H
  refine run_region rfl ?_
  refine ops_ex rfl (guard_none rfl) rfl rfl (ex_move rfl rfl) ?_
  refine ops_ex rfl (guard_none rfl) rfl rfl (ex_move rfl rfl) ?_
  refine ops_does rfl (guard_none rfl) rfl rfl (does_callk rfl callok63 rfl (spec_l4Same.calls (x0 := x0) (x1 := x1) (HM.rd hp0) (HM.rd hp1) h993)) ?_
  rintro _ w994 ⟨rfl, hn⟩
  replace HM : Mem w [] w994 [] := HM.call hn
  refine ops_ex rfl (guard_none rfl) rfl rfl (ex_assign rfl rfl) ?_
  refine ops_nil ?_
  refine at_then ?_
  refine run_ret ?_
  have hR := Option.some.inj H
  subst hR
  exact at_ret1 rfl rfl ⟨_, rfl, rfl, HM⟩

def slices_Equal_int64.l0 (x0 : List Int) (x1 : List Int) : Nat → Int → Option (Bool ⊕ Unit)
  | 0, _ => none
  | k + 1, a1092 => (bif (decide (a1092 < (x0.length : Int))) then (chk (idxOk a1092 x0.length) (chk (idxOk a1092 x1.length) (bif ((gt x0 a1092) != (gt x1 a1092)) then some (.inl false) else slices_Equal_int64.l0 x0 x1 k (wrap64 (a1092 + 1))))) else some (.inr ()))
theorem slices_Equal_int64.l0_z (x0 : List Int) (x1 : List Int) (a1092 : Int) : slices_Equal_int64.l0 x0 x1 0 a1092 = none := rfl
theorem slices_Equal_int64.l0_s (x0 : List Int) (x1 : List Int) (k : Nat) (a1092 : Int) : slices_Equal_int64.l0 x0 x1 (k + 1) a1092 = (bif (decide (a1092 < (x0.length : Int))) then (chk (idxOk a1092 x0.length) (chk (idxOk a1092 x1.length) (bif ((gt x0 a1092) != (gt x1 a1092)) then some (.inl false) else slices_Equal_int64.l0 x0 x1 k (wrap64 (a1092 + 1))))) else some (.inr ())) := rfl
def slices_Equal_int64.f (k : Nat) (x0 : List Int) (x1 : List Int) : Option Bool := (bif ((x0.length : Int) != (x1.length : Int)) then some false else ((slices_Equal_int64.l0 x0 x1 k 0).bind fun o1084 => thn o1084 (fun r => some r) (fun _ => some true)))
theorem slices_Equal_int64.calls {k : Nat} {x0 : List Int} {x1 : List Int} {p0 : Value} {p1 : Value} {w : World} (hp0 : RdS kInt w p0 x0) (hp1 : RdS kInt w p1 x1) {r : Bool} (H : slices_Equal_int64.f k x0 x1 = some r) :
    Calls Try.prog 160 ([p0, p1] : List Value).toArray w (fun e w_ => ∃ v, e = .returned v ∧ v = (.bool r) ∧ Mem w [] w_ []) := by
  have HM := Mem.start w
  refine calls_run (N := 26) Try.func160 rfl rfl rfl rfl ?_
  unfold slices_Equal_int64.f at H
  refine run_seq ?_
  refine run_region rfl ?_
  refine ops_ex rfl (guard_none rfl) rfl rfl (ex_assign rfl rfl) ?_
  refine ops_nil ?_
  refine at_then ?_
  refine run_seq ?_
  refine run_seq ?_
  refine run_region rfl ?_
  refine ops_ex rfl (guard_none rfl) rfl rfl (ex_move rfl rfl) ?_
  refine ops_ex rfl (guard_none rfl) rfl rfl (ex_len (d := kInt) (xs := x0) rfl rfl Try.underlying74 hp0) ?_
  refine ops_ex rfl (guard_none rfl) rfl rfl (ex_move rfl rfl) ?_
  refine ops_ex rfl (guard_none rfl) rfl rfl (ex_len (d := kInt) (xs := x1) rfl rfl Try.underlying74 hp1) ?_
  refine ops_ex rfl (guard_none rfl) rfl rfl (ex_neq rfl rfl rfl) ?_
  refine ops_nil ?_
  refine at_then ?_
  refine run_cond (b := ((x0.length : Int) != (x1.length : Int))) rfl (fun hb1064 => ?_) (fun hb1064 => ?_)
  · replace H := cond_t hb1064 H
    refine run_seq ?_
    refine run_region rfl ?_
    refine ops_ex rfl (guard_none rfl) rfl rfl (ex_assign rfl rfl) ?_
    refine ops_nil ?_
    refine at_then ?_
    refine run_ret ?_
    refine at_then_ret ?_
    have hR := Option.some.inj H
    subst hR
    exact at_ret1 rfl rfl ⟨_, rfl, rfl, HM⟩
  · replace H := cond_f hb1064 H
    refine run_skip ?_
    refine at_then ?_
    obtain ⟨o1084, ho1085, H⟩ := bind_some H
    refine run_mid (fun ρ_ w_ => Sum.inr () = o1084 ∧ ρ_ = [] ∧ Mem w [] w_ []) ?_ ?_
    · skip
      refine run_seq ?_
      refine run_region rfl ?_
      refine ops_ex rfl (guard_none rfl) rfl rfl (ex_move rfl rfl) ?_
      refine ops_ex rfl (guard_none rfl) rfl rfl (ex_len (d := kInt) (xs := x0) rfl rfl Try.underlying74 hp0) ?_
      refine ops_ex rfl (guard_none rfl) rfl rfl (ex_move rfl rfl) ?_
      refine ops_nil ?_
      refine at_then ?_
      refine run_block ?_
      refine run_loop (fun k_ ρ_ w_ => ∃ a1092 : Int, slices_Equal_int64.l0 x0 x1 k_ a1092 = some o1084 ∧ ρ_ = [(0, p0), (1, p1), (12, .int .i64 (x0.length : Int)), (13, .int .i64 a1092)] ∧ Mem w [] w_ []) k (ρ1 := [(0, p0), (1, p1), (12, .int .i64 (x0.length : Int)), (13, .int .i64 0)]) ⟨_, ho1085, rfl, HM⟩ (Sub.cons rfl (Sub.cons rfl (Sub.cons rfl (Sub.cons rfl Sub.nil)))) ?_
      clear HM ho1085
      rintro k1099 _ w1100 ⟨a1092, ho1085, rfl, HM⟩
      obtain _ | k1099 := k1099
      · exact nomatch ((slices_Equal_int64.l0_z x0 x1 a1092).symm.trans ho1085)
      replace ho1085 := (slices_Equal_int64.l0_s x0 x1 k1099 a1092).symm.trans ho1085
      refine run_seq ?_
      refine run_region rfl ?_
      refine ops_ex rfl (guard_none rfl) rfl rfl (ex_lss rfl rfl rfl) ?_
      refine ops_nil ?_
      refine at_then ?_
      refine run_seq ?_
      refine run_cond (b := (decide (a1092 < (x0.length : Int)))) rfl (fun hb1101 => ?_) (fun hb1101 => ?_)
      · replace ho1085 := cond_t hb1101 ho1085
        refine run_skip ?_
        refine at_then ?_
        refine run_seq ?_
        refine run_block ?_
        refine run_seq ?_
        refine run_region rfl ?_
        refine ops_ex rfl (guard_none rfl) rfl rfl (ex_move rfl rfl) ?_
        refine ops_ex rfl (guard_none rfl) rfl rfl (ex_assign rfl rfl) ?_
        refine ops_nil ?_
        refine at_then ?_
        refine run_seq ?_
        obtain ⟨e1102, ho1085⟩ := chk_some ho1085
        obtain ⟨e1104, ho1085⟩ := chk_some ho1085
        refine run_drawf (fun w_ => Mem w [] w_ []) [(0, true), (1, true), (2, true), (3, true), (4, true), (5, true), (6, true), (7, true), (8, true)] mixed rfl rfl (by kernel_rfl) ?_
        replace HM := HM.grow (fr_drew _)
        have hS := Mem.suf (M := []) HM
        refine drwp_take rfl (guard_none rfl) rfl rfl (fun w_ hS_ => (ex_move rfl rfl)) hS ?_
        refine drwp_take rfl (guard_none rfl) rfl rfl (fun w_ hS_ => (ex_move rfl rfl)) hS ?_
        have hc1103 : CellsAt _ (sb p0) (so p0 + (a1092).toNat * 1) [(.int .i64 (gt x0 a1092))] := rd_plain hp0 e1102
        refine drwp_take rfl (guard_none rfl) rfl rfl (fun w_ hS_ => (ex_indexAddr (d := kInt) rfl rfl rfl Try.underlying74 tsz2 hp0 (idx_lo e1102) (idx_hi e1102))) hS ?_
        refine drwp_take rfl (guard_none rfl) rfl rfl (fun w_ hS_ => (ex_load1 rfl rfl Try.underlying2 rfl ((hS_.at_ hc1103) 0 _ rfl))) hS ?_
        refine drwp_take rfl (guard_none rfl) rfl rfl (fun w_ hS_ => (ex_move rfl rfl)) hS ?_
        refine drwp_take rfl (guard_none rfl) rfl rfl (fun w_ hS_ => (ex_move rfl rfl)) hS ?_
        have hc1105 : CellsAt _ (sb p1) (so p1 + (a1092).toNat * 1) [(.int .i64 (gt x1 a1092))] := rd_plain hp1 e1104
        refine drwp_take rfl (guard_none rfl) rfl rfl (fun w_ hS_ => (ex_indexAddr (d := kInt) rfl rfl rfl Try.underlying74 tsz2 hp1 (idx_lo e1104) (idx_hi e1104))) hS ?_
        refine drwp_take rfl (guard_none rfl) rfl rfl (fun w_ hS_ => (ex_load1 rfl rfl Try.underlying2 rfl ((hS_.at_ hc1105) 0 _ rfl))) hS ?_
        refine drwp_take rfl (guard_none rfl) rfl rfl (fun w_ hS_ => (ex_neq rfl rfl rfl)) hS ?_
        refine drwp_done ?_
        refine at_then ?_
        refine run_cond (b := ((gt x0 a1092) != (gt x1 a1092))) rfl (fun hb1106 => ?_) (fun hb1106 => ?_)
        · replace ho1085 := cond_t hb1106 ho1085
          refine run_seq ?_
          refine run_region rfl ?_
          refine ops_ex rfl (guard_none rfl) rfl rfl (ex_assign rfl rfl) ?_
          refine ops_nil ?_
          refine at_then ?_
          refine run_ret ?_
          refine at_block_ret ?_
          refine at_then_ret ?_
          refine at_then_ret ?_
          refine at_block_ret ?_
          refine at_then_ret ?_
          have hR := Option.some.inj ho1085
          subst hR
          have hT := thn_inl H
          have hR := Option.some.inj hT
          subst hR
          exact at_ret1 rfl rfl ⟨_, rfl, rfl, HM⟩
        · replace ho1085 := cond_f hb1106 ho1085
          refine run_skip ?_
          refine at_block ?_
          refine at_then ?_
          refine run_region rfl ?_
          refine ops_ex rfl (guard_none rfl) rfl rfl (ex_add rfl rfl rfl) ?_
          refine ops_ex rfl (guard_none rfl) rfl rfl (ex_move rfl rfl) ?_
          refine ops_nil ?_
          exact at_again k1099 (ρ1 := [(0, p0), (1, p1), (12, .int .i64 (x0.length : Int)), (13, .int .i64 (wrap64 (a1092 + 1)))]) (Nat.lt_succ_self _) ⟨_, ho1085, rfl, HM⟩ (Sub.cons rfl (Sub.cons rfl (Sub.cons rfl (Sub.cons rfl Sub.nil))))
      · replace ho1085 := cond_f hb1101 ho1085
        refine run_exit ?_
        refine at_then_exit ?_
        refine at_then_exit ?_
        refine at_block_exit ?_
        exact at_mid (ρ' := []) ⟨(Option.some.inj ho1085), rfl, HM⟩ Sub.nil
    · rintro _ w1107 ⟨rfl, rfl, HM⟩
      replace H := (thn_inr H)
      refine run_seq ?_
      refine run_region rfl ?_
      refine ops_ex rfl (guard_none rfl) rfl rfl (ex_assign rfl rfl) ?_
      refine ops_nil ?_
      refine at_then ?_
      refine run_ret ?_
      have hR := Option.some.inj H
      subst hR
      exact at_ret1 rfl rfl ⟨_, rfl, rfl, HM⟩

def impl_SameRules.f (k : Nat) (x0 : Rule) (x1 : Rule) : Option Bool := ((slices_Equal_int64.f k x0.fKeys x1.fKeys).bind fun t1118 => some ((t1118 && (x0.fNeed == x1.fNeed)) && (x0.fAfter == x1.fAfter)))
theorem impl_SameRules.calls {k : Nat} {x0 : Rule} {x1 : Rule} {p0_0 : Value} {p1_0 : Value} {w : World} (hp0_0 : RdS kInt w p0_0 x0.fKeys) (hp1_0 : RdS kInt w p1_0 x1.fKeys) {r : Bool} (H : impl_SameRules.f k x0 x1 = some r) :
    Calls Try.prog 126 ([.agg #[p0_0, (.int .i64 x0.fNeed), (.int .i64 x0.fAfter)], .agg #[p1_0, (.int .i64 x1.fNeed), (.int .i64 x1.fAfter)]] : List Value).toArray w (fun e w_ => ∃ v, e = .returned v ∧ v = (.bool r) ∧ Mem w [] w_ []) := by
  have HM := Mem.start w
  refine calls_run (N := 24) Try.func126 rfl rfl rfl rfl ?_
  unfold impl_SameRules.f at H
  refine run_seq ?_
  refine run_region rfl ?_
  refine ops_does rfl (guard_none rfl) rfl rfl (does_box (cs := [p0_0, .int .i64 x0.fNeed, .int .i64 x0.fAfter]) rfl rfl rfl HM) ?_
  rintro _ w1116 ⟨b1110, rfl, HM⟩
  refine ops_does rfl (guard_none rfl) rfl rfl (does_box (cs := [p1_0, .int .i64 x1.fNeed, .int .i64 x1.fAfter]) rfl rfl rfl HM) ?_
  rintro _ w1117 ⟨b1113, rfl, HM⟩
  refine ops_ex rfl (guard_none rfl) rfl rfl (ex_assign rfl rfl) ?_
  refine ops_nil ?_
  refine at_then ?_
  refine run_seq ?_
  obtain ⟨t1118, h1119, H⟩ := bind_some H
  refine run_meet (fun ρ_ w_ => ρ_ = [(4, .bool ((t1118 && (x0.fNeed == x1.fNeed)) && (x0.fAfter == x1.fAfter)))] ∧ Mem w [] w_ []) ?_ ?_
  · skip
    refine run_region rfl ?_
    refine ops_ex rfl (guard_none rfl) rfl rfl (ex_fieldAddr (off' := 0) rfl rfl Try.underlying100 rfl tsz74 rfl) ?_
    refine ops_ex rfl (guard_none rfl) rfl rfl (ex_load1 rfl rfl Try.underlying74 rfl ((HM.box_at 1 rfl) 0 _ rfl)) ?_
    refine ops_ex rfl (guard_none rfl) rfl rfl (ex_fieldAddr (off' := 0) rfl rfl Try.underlying100 rfl tsz74 rfl) ?_
    refine ops_ex rfl (guard_none rfl) rfl rfl (ex_load1 rfl rfl Try.underlying74 rfl ((HM.box_at 0 rfl) 0 _ rfl)) ?_
    refine ops_does rfl (guard_none rfl) rfl rfl (does_callk rfl callok160 rfl (slices_Equal_int64.calls (x0 := x0.fKeys) (x1 := x1.fKeys) (HM.rd hp0_0) (HM.rd hp1_0) h1119)) ?_
    rintro _ w1120 ⟨rfl, hn⟩
    replace HM : Mem w [] w1120 [box b1113 100 [p1_0, .int .i64 x1.fNeed, .int .i64 x1.fAfter], box b1110 100 [p0_0, .int .i64 x0.fNeed, .int .i64 x0.fAfter]] := HM.call hn
    refine ops_ex rfl (guard_none rfl) rfl rfl (ex_move rfl rfl) ?_
    refine bool_cases t1118 (fun hg1121 => ?_) (fun hg1121 => ?_)
    · skip
      refine ops_ex rfl (guard_on rfl rfl rfl hg1121) rfl rfl (ex_fieldAddr (off' := 1) rfl rfl Try.underlying100 rfl tsz2 rfl) ?_
      refine ops_ex rfl (guard_on rfl rfl rfl hg1121) rfl rfl (ex_load1 rfl rfl Try.underlying2 rfl ((HM.box_at 1 rfl) 1 _ rfl)) ?_
      refine ops_ex rfl (guard_on rfl rfl rfl hg1121) rfl rfl (ex_fieldAddr (off' := 1) rfl rfl Try.underlying100 rfl tsz2 rfl) ?_
      refine ops_ex rfl (guard_on rfl rfl rfl hg1121) rfl rfl (ex_load1 rfl rfl Try.underlying2 rfl ((HM.box_at 0 rfl) 1 _ rfl)) ?_
      refine ops_ex rfl (guard_on rfl rfl rfl hg1121) rfl rfl (ex_eql rfl rfl rfl) ?_
      refine ops_ex (v := .bool (t1118 && (x0.fNeed == x1.fNeed))) rfl (guard_none rfl) rfl rfl (ex_pand_t rfl rfl hg1121 rfl) ?_
      refine ops_ex rfl (guard_none rfl) rfl rfl (ex_move rfl rfl) ?_
      refine bool_cases (t1118 && (x0.fNeed == x1.fNeed)) (fun hg1122 => ?_) (fun hg1122 => ?_)
      · skip
        refine ops_ex rfl (guard_on rfl rfl rfl hg1122) rfl rfl (ex_fieldAddr (off' := 2) rfl rfl Try.underlying100 rfl tsz2 rfl) ?_
        refine ops_ex rfl (guard_on rfl rfl rfl hg1122) rfl rfl (ex_load1 rfl rfl Try.underlying2 rfl ((HM.box_at 1 rfl) 2 _ rfl)) ?_
        refine ops_ex rfl (guard_on rfl rfl rfl hg1122) rfl rfl (ex_fieldAddr (off' := 2) rfl rfl Try.underlying100 rfl tsz2 rfl) ?_
        refine ops_ex rfl (guard_on rfl rfl rfl hg1122) rfl rfl (ex_load1 rfl rfl Try.underlying2 rfl ((HM.box_at 0 rfl) 2 _ rfl)) ?_
        refine ops_ex rfl (guard_on rfl rfl rfl hg1122) rfl rfl (ex_eql rfl rfl rfl) ?_
        refine ops_ex (v := .bool ((t1118 && (x0.fNeed == x1.fNeed)) && (x0.fAfter == x1.fAfter))) rfl (guard_none rfl) rfl rfl (ex_pand_t rfl rfl hg1122 rfl) ?_
        refine ops_ex rfl (guard_none rfl) rfl rfl (ex_assign rfl rfl) ?_
        refine ops_nil ?_
        replace HM := (HM.front 0 rfl rfl).drop
        replace HM := (HM.front 0 rfl rfl).drop
        exact at_meet [(4, .bool ((t1118 && (x0.fNeed == x1.fNeed)) && (x0.fAfter == x1.fAfter)))] ⟨rfl, HM⟩ (Sub.cons rfl Sub.nil)
      · skip
        refine ops_off rfl (guard_off rfl rfl rfl hg1122) rfl rfl ?_
        refine ops_off rfl (guard_off rfl rfl rfl hg1122) rfl rfl ?_
        refine ops_off rfl (guard_off rfl rfl rfl hg1122) rfl rfl ?_
        refine ops_off rfl (guard_off rfl rfl rfl hg1122) rfl rfl ?_
        refine ops_off rfl (guard_off rfl rfl rfl hg1122) rfl rfl ?_
        have hg1123 : ((t1118 && (x0.fNeed == x1.fNeed)) && (x0.fAfter == x1.fAfter)) = false := by simp only [hg1122, Bool.and_true, Bool.true_and, Bool.and_false, Bool.false_and, Bool.or_true, Bool.true_or, Bool.or_false, Bool.false_or, Bool.not_true, Bool.not_false, Bool.not_not]
        refine ops_ex (v := .bool ((t1118 && (x0.fNeed == x1.fNeed)) && (x0.fAfter == x1.fAfter))) rfl (guard_none rfl) rfl rfl (ex_pand_f rfl rfl hg1122) ?_
        refine ops_ex rfl (guard_none rfl) rfl rfl (ex_assign rfl rfl) ?_
        refine ops_nil ?_
        replace HM := (HM.front 0 rfl rfl).drop
        replace HM := (HM.front 0 rfl rfl).drop
        exact at_meet [(4, .bool ((t1118 && (x0.fNeed == x1.fNeed)) && (x0.fAfter == x1.fAfter)))] ⟨rfl, HM⟩ (Sub.cons rfl Sub.nil)
    · skip
      refine ops_off rfl (guard_off rfl rfl rfl hg1121) rfl rfl ?_
      refine ops_off rfl (guard_off rfl rfl rfl hg1121) rfl rfl ?_
      refine ops_off rfl (guard_off rfl rfl rfl hg1121) rfl rfl ?_
      refine ops_off rfl (guard_off rfl rfl rfl hg1121) rfl rfl ?_
      refine ops_off rfl (guard_off rfl rfl rfl hg1121) rfl rfl ?_
      have hg1124 : (t1118 && (x0.fNeed == x1.fNeed)) = false := by simp only [hg1121, Bool.and_true, Bool.true_and, Bool.and_false, Bool.false_and, Bool.or_true, Bool.true_or, Bool.or_false, Bool.false_or, Bool.not_true, Bool.not_false, Bool.not_not]
      refine ops_ex (v := .bool (t1118 && (x0.fNeed == x1.fNeed))) rfl (guard_none rfl) rfl rfl (ex_pand_f rfl rfl hg1121) ?_
      refine ops_ex rfl (guard_none rfl) rfl rfl (ex_move rfl rfl) ?_
      refine ops_off rfl (guard_off rfl rfl rfl hg1124) rfl rfl ?_
      refine ops_off rfl (guard_off rfl rfl rfl hg1124) rfl rfl ?_
      refine ops_off rfl (guard_off rfl rfl rfl hg1124) rfl rfl ?_
      refine ops_off rfl (guard_off rfl rfl rfl hg1124) rfl rfl ?_
      refine ops_off rfl (guard_off rfl rfl rfl hg1124) rfl rfl ?_
      have hg1125 : ((t1118 && (x0.fNeed == x1.fNeed)) && (x0.fAfter == x1.fAfter)) = false := by simp only [hg1124, Bool.and_true, Bool.true_and, Bool.and_false, Bool.false_and, Bool.or_true, Bool.true_or, Bool.or_false, Bool.false_or, Bool.not_true, Bool.not_false, Bool.not_not]
      refine ops_ex (v := .bool ((t1118 && (x0.fNeed == x1.fNeed)) && (x0.fAfter == x1.fAfter))) rfl (guard_none rfl) rfl rfl (ex_pand_f rfl rfl hg1124) ?_
      refine ops_ex rfl (guard_none rfl) rfl rfl (ex_assign rfl rfl) ?_
      refine ops_nil ?_
      replace HM := (HM.front 0 rfl rfl).drop
      replace HM := (HM.front 0 rfl rfl).drop
      exact at_meet [(4, .bool ((t1118 && (x0.fNeed == x1.fNeed)) && (x0.fAfter == x1.fAfter)))] ⟨rfl, HM⟩ (Sub.cons rfl Sub.nil)
  · rintro _ w1126 ⟨rfl, HM⟩
    refine at_then ?_
    refine run_ret ?_
    have hR := Option.some.inj H
    subst hR
    exact at_ret1 rfl rfl ⟨_, rfl, rfl, HM⟩

def impl_sameOuts.f (k : Nat) (x0 : Out) (x1 : Out) : Option Bool := ((bif (x0.fValue == x1.fValue) then impl_SameRules.f k x0.fRule x1.fRule else some default).bind fun t1137 => some ((x0.fValue == x1.fValue) && t1137))
theorem impl_sameOuts.calls {k : Nat} {x0 : Out} {x1 : Out} {p0_0 : Value} {p1_0 : Value} {w : World} (hp0_0 : RdS kInt w p0_0 x0.fRule.fKeys) (hp1_0 : RdS kInt w p1_0 x1.fRule.fKeys) {r : Bool} (H : impl_sameOuts.f k x0 x1 = some r) :
    Calls Try.prog 75 ([.agg #[(.int .i64 x0.fValue), p0_0, (.int .i64 x0.fRule.fNeed), (.int .i64 x0.fRule.fAfter)], .agg #[(.int .i64 x1.fValue), p1_0, (.int .i64 x1.fRule.fNeed), (.int .i64 x1.fRule.fAfter)]] : List Value).toArray w (fun e w_ => ∃ v, e = .returned v ∧ v = (.bool r) ∧ Mem w [] w_ []) := by
  have HM := Mem.start w
  refine calls_run (N := 17) Try.func75 rfl rfl rfl rfl ?_
  unfold impl_sameOuts.f at H
  refine run_seq ?_
  refine run_region rfl ?_
  refine ops_does rfl (guard_none rfl) rfl rfl (does_box (cs := [.int .i64 x0.fValue, p0_0, .int .i64 x0.fRule.fNeed, .int .i64 x0.fRule.fAfter]) rfl rfl rfl HM) ?_
  rintro _ w1135 ⟨b1129, rfl, HM⟩
  refine ops_does rfl (guard_none rfl) rfl rfl (does_box (cs := [.int .i64 x1.fValue, p1_0, .int .i64 x1.fRule.fNeed, .int .i64 x1.fRule.fAfter]) rfl rfl rfl HM) ?_
  rintro _ w1136 ⟨b1132, rfl, HM⟩
  refine ops_ex rfl (guard_none rfl) rfl rfl (ex_assign rfl rfl) ?_
  refine ops_nil ?_
  refine at_then ?_
  refine run_seq ?_
  obtain ⟨t1137, h1138, H⟩ := bind_some H
  refine run_meet (fun ρ_ w_ => ρ_ = [(4, .bool ((x0.fValue == x1.fValue) && t1137))] ∧ Mem w [] w_ []) ?_ ?_
  · skip
    refine run_region rfl ?_
    refine ops_ex rfl (guard_none rfl) rfl rfl (ex_fieldAddr (off' := 0) rfl rfl Try.underlying102 rfl tsz2 rfl) ?_
    refine ops_ex rfl (guard_none rfl) rfl rfl (ex_load1 rfl rfl Try.underlying2 rfl ((HM.box_at 1 rfl) 0 _ rfl)) ?_
    refine ops_ex rfl (guard_none rfl) rfl rfl (ex_fieldAddr (off' := 0) rfl rfl Try.underlying102 rfl tsz2 rfl) ?_
    refine ops_ex rfl (guard_none rfl) rfl rfl (ex_load1 rfl rfl Try.underlying2 rfl ((HM.box_at 0 rfl) 0 _ rfl)) ?_
    refine ops_ex rfl (guard_none rfl) rfl rfl (ex_eql rfl rfl rfl) ?_
    refine ops_ex rfl (guard_none rfl) rfl rfl (ex_move rfl rfl) ?_
    refine bool_cases (x0.fValue == x1.fValue) (fun hg1139 => ?_) (fun hg1139 => ?_)
    · skip
      refine ops_ex rfl (guard_on rfl rfl rfl hg1139) rfl rfl (ex_fieldAddr (off' := 1) rfl rfl Try.underlying102 rfl tsz100 rfl) ?_
      refine ops_ex rfl (guard_on rfl rfl rfl hg1139) rfl rfl (ex_loadN (cs := [p0_0, (.int .i64 x0.fRule.fNeed), (.int .i64 x0.fRule.fAfter)]) rfl rfl Try.underlying100 rfl tsz100 rfl ((HM.box_at 1 rfl).sub 1 3 rfl)) ?_
      refine ops_ex rfl (guard_on rfl rfl rfl hg1139) rfl rfl (ex_fieldAddr (off' := 1) rfl rfl Try.underlying102 rfl tsz100 rfl) ?_
      refine ops_ex rfl (guard_on rfl rfl rfl hg1139) rfl rfl (ex_loadN (cs := [p1_0, (.int .i64 x1.fRule.fNeed), (.int .i64 x1.fRule.fAfter)]) rfl rfl Try.underlying100 rfl tsz100 rfl ((HM.box_at 0 rfl).sub 1 3 rfl)) ?_
      refine ops_does rfl (guard_on rfl rfl rfl hg1139) rfl rfl (does_callk rfl callok126 rfl (impl_SameRules.calls (x0 := x0.fRule) (x1 := x1.fRule) (HM.rd hp0_0) (HM.rd hp1_0) (cond_t hg1139 h1138))) ?_
      rintro _ w1140 ⟨rfl, hn⟩
      replace HM : Mem w [] w1140 [box b1132 102 [.int .i64 x1.fValue, p1_0, .int .i64 x1.fRule.fNeed, .int .i64 x1.fRule.fAfter], box b1129 102 [.int .i64 x0.fValue, p0_0, .int .i64 x0.fRule.fNeed, .int .i64 x0.fRule.fAfter]] := HM.call hn
      refine ops_ex (v := .bool ((x0.fValue == x1.fValue) && t1137)) rfl (guard_none rfl) rfl rfl (ex_pand_t rfl rfl hg1139 rfl) ?_
      refine ops_ex rfl (guard_none rfl) rfl rfl (ex_assign rfl rfl) ?_
      refine ops_nil ?_
      replace HM := (HM.front 0 rfl rfl).drop
      replace HM := (HM.front 0 rfl rfl).drop
      exact at_meet [(4, .bool ((x0.fValue == x1.fValue) && t1137))] ⟨rfl, HM⟩ (Sub.cons rfl Sub.nil)
    · skip
      refine ops_off rfl (guard_off rfl rfl rfl hg1139) rfl rfl ?_
      refine ops_off rfl (guard_off rfl rfl rfl hg1139) rfl rfl ?_
      refine ops_off rfl (guard_off rfl rfl rfl hg1139) rfl rfl ?_
      refine ops_off rfl (guard_off rfl rfl rfl hg1139) rfl rfl ?_
      refine ops_off rfl (guard_off rfl rfl rfl hg1139) rfl rfl ?_
      have hg1141 : ((x0.fValue == x1.fValue) && t1137) = false := by simp only [hg1139, Bool.and_true, Bool.true_and, Bool.and_false, Bool.false_and, Bool.or_true, Bool.true_or, Bool.or_false, Bool.false_or, Bool.not_true, Bool.not_false, Bool.not_not]
      refine ops_ex (v := .bool ((x0.fValue == x1.fValue) && t1137)) rfl (guard_none rfl) rfl rfl (ex_pand_f rfl rfl hg1139) ?_
      refine ops_ex rfl (guard_none rfl) rfl rfl (ex_assign rfl rfl) ?_
      refine ops_nil ?_
      replace HM := (HM.front 0 rfl rfl).drop
      replace HM := (HM.front 0 rfl rfl).drop
      exact at_meet [(4, .bool ((x0.fValue == x1.fValue) && t1137))] ⟨rfl, HM⟩ (Sub.cons rfl Sub.nil)
  · rintro _ w1142 ⟨rfl, HM⟩
    refine at_then ?_
    refine run_ret ?_
    have hR := Option.some.inj H
    subst hR
    exact at_ret1 rfl rfl ⟨_, rfl, rfl, HM⟩

def impl_sameCoin.f (k : Nat) (x0 : Coin) (x1 : Coin) : Option Bool := ((bif ((x0.fRef.fTx == x1.fRef.fTx) && (x0.fRef.fAt == x1.fRef.fAt)) then impl_sameOuts.f k x0.fOut x1.fOut else some default).bind fun t1153 => some (((((x0.fRef.fTx == x1.fRef.fTx) && (x0.fRef.fAt == x1.fRef.fAt)) && t1153) && (x0.fHeight == x1.fHeight)) && (x0.fMined == x1.fMined)))
theorem impl_sameCoin.calls {k : Nat} {x0 : Coin} {x1 : Coin} {p0_0 : Value} {p1_0 : Value} {w : World} (hp0_0 : RdS kInt w p0_0 x0.fOut.fRule.fKeys) (hp1_0 : RdS kInt w p1_0 x1.fOut.fRule.fKeys) {r : Bool} (H : impl_sameCoin.f k x0 x1 = some r) :
    Calls Try.prog 66 ([.agg #[(.int .i64 x0.fRef.fTx), (.int .i64 x0.fRef.fAt), (.int .i64 x0.fOut.fValue), p0_0, (.int .i64 x0.fOut.fRule.fNeed), (.int .i64 x0.fOut.fRule.fAfter), (.int .i64 x0.fHeight), (.bool x0.fMined)], .agg #[(.int .i64 x1.fRef.fTx), (.int .i64 x1.fRef.fAt), (.int .i64 x1.fOut.fValue), p1_0, (.int .i64 x1.fOut.fRule.fNeed), (.int .i64 x1.fOut.fRule.fAfter), (.int .i64 x1.fHeight), (.bool x1.fMined)]] : List Value).toArray w (fun e w_ => ∃ v, e = .returned v ∧ v = (.bool r) ∧ Mem w [] w_ []) := by
  have HM := Mem.start w
  refine calls_run (N := 31) Try.func66 rfl rfl rfl rfl ?_
  unfold impl_sameCoin.f at H
  refine run_seq ?_
  refine run_region rfl ?_
  refine ops_does rfl (guard_none rfl) rfl rfl (does_box (cs := [.int .i64 x0.fRef.fTx, .int .i64 x0.fRef.fAt, .int .i64 x0.fOut.fValue, p0_0, .int .i64 x0.fOut.fRule.fNeed, .int .i64 x0.fOut.fRule.fAfter, .int .i64 x0.fHeight, .bool x0.fMined]) rfl rfl rfl HM) ?_
  rintro _ w1151 ⟨b1145, rfl, HM⟩
  refine ops_does rfl (guard_none rfl) rfl rfl (does_box (cs := [.int .i64 x1.fRef.fTx, .int .i64 x1.fRef.fAt, .int .i64 x1.fOut.fValue, p1_0, .int .i64 x1.fOut.fRule.fNeed, .int .i64 x1.fOut.fRule.fAfter, .int .i64 x1.fHeight, .bool x1.fMined]) rfl rfl rfl HM) ?_
  rintro _ w1152 ⟨b1148, rfl, HM⟩
  refine ops_ex rfl (guard_none rfl) rfl rfl (ex_assign rfl rfl) ?_
  refine ops_nil ?_
  refine at_then ?_
  refine run_seq ?_
  obtain ⟨t1153, h1154, H⟩ := bind_some H
  refine run_meet (fun ρ_ w_ => ρ_ = [(4, .bool (((((x0.fRef.fTx == x1.fRef.fTx) && (x0.fRef.fAt == x1.fRef.fAt)) && t1153) && (x0.fHeight == x1.fHeight)) && (x0.fMined == x1.fMined)))] ∧ Mem w [] w_ []) ?_ ?_
  · skip
    refine run_region rfl ?_
    refine ops_ex rfl (guard_none rfl) rfl rfl (ex_fieldAddr (off' := 0) rfl rfl Try.underlying104 rfl tsz99 rfl) ?_
    refine ops_ex rfl (guard_none rfl) rfl rfl (ex_loadN (cs := [(.int .i64 x0.fRef.fTx), (.int .i64 x0.fRef.fAt)]) rfl rfl Try.underlying99 rfl tsz99 rfl ((HM.box_at 1 rfl).sub 0 2 rfl)) ?_
    refine ops_ex rfl (guard_none rfl) rfl rfl (ex_fieldAddr (off' := 0) rfl rfl Try.underlying104 rfl tsz99 rfl) ?_
    refine ops_ex rfl (guard_none rfl) rfl rfl (ex_loadN (cs := [(.int .i64 x1.fRef.fTx), (.int .i64 x1.fRef.fAt)]) rfl rfl Try.underlying99 rfl tsz99 rfl ((HM.box_at 0 rfl).sub 0 2 rfl)) ?_
    refine ops_ex rfl (guard_none rfl) rfl rfl (ex_aeql rfl rfl rfl (by kernel_rfl) (eqs99 _ _ _ _ _)) ?_
    refine ops_ex rfl (guard_none rfl) rfl rfl (ex_move rfl rfl) ?_
    refine bool_cases ((x0.fRef.fTx == x1.fRef.fTx) && (x0.fRef.fAt == x1.fRef.fAt)) (fun hg1155 => ?_) (fun hg1155 => ?_)
    · skip
      refine ops_ex rfl (guard_on rfl rfl rfl hg1155) rfl rfl (ex_fieldAddr (off' := 2) rfl rfl Try.underlying104 rfl tsz102 rfl) ?_
      refine ops_ex rfl (guard_on rfl rfl rfl hg1155) rfl rfl (ex_loadN (cs := [(.int .i64 x0.fOut.fValue), p0_0, (.int .i64 x0.fOut.fRule.fNeed), (.int .i64 x0.fOut.fRule.fAfter)]) rfl rfl Try.underlying102 rfl tsz102 rfl ((HM.box_at 1 rfl).sub 2 4 rfl)) ?_
      refine ops_ex rfl (guard_on rfl rfl rfl hg1155) rfl rfl (ex_fieldAddr (off' := 2) rfl rfl Try.underlying104 rfl tsz102 rfl) ?_
      refine ops_ex rfl (guard_on rfl rfl rfl hg1155) rfl rfl (ex_loadN (cs := [(.int .i64 x1.fOut.fValue), p1_0, (.int .i64 x1.fOut.fRule.fNeed), (.int .i64 x1.fOut.fRule.fAfter)]) rfl rfl Try.underlying102 rfl tsz102 rfl ((HM.box_at 0 rfl).sub 2 4 rfl)) ?_
      refine ops_does rfl (guard_on rfl rfl rfl hg1155) rfl rfl (does_callk rfl callok75 rfl (impl_sameOuts.calls (x0 := x0.fOut) (x1 := x1.fOut) (HM.rd hp0_0) (HM.rd hp1_0) (cond_t hg1155 h1154))) ?_
      rintro _ w1156 ⟨rfl, hn⟩
      replace HM : Mem w [] w1156 [box b1148 104 [.int .i64 x1.fRef.fTx, .int .i64 x1.fRef.fAt, .int .i64 x1.fOut.fValue, p1_0, .int .i64 x1.fOut.fRule.fNeed, .int .i64 x1.fOut.fRule.fAfter, .int .i64 x1.fHeight, .bool x1.fMined], box b1145 104 [.int .i64 x0.fRef.fTx, .int .i64 x0.fRef.fAt, .int .i64 x0.fOut.fValue, p0_0, .int .i64 x0.fOut.fRule.fNeed, .int .i64 x0.fOut.fRule.fAfter, .int .i64 x0.fHeight, .bool x0.fMined]] := HM.call hn
      refine ops_ex (v := .bool (((x0.fRef.fTx == x1.fRef.fTx) && (x0.fRef.fAt == x1.fRef.fAt)) && t1153)) rfl (guard_none rfl) rfl rfl (ex_pand_t rfl rfl hg1155 rfl) ?_
      refine ops_ex rfl (guard_none rfl) rfl rfl (ex_move rfl rfl) ?_
      refine bool_cases (((x0.fRef.fTx == x1.fRef.fTx) && (x0.fRef.fAt == x1.fRef.fAt)) && t1153) (fun hg1157 => ?_) (fun hg1157 => ?_)
      · skip
        refine ops_ex rfl (guard_on rfl rfl rfl hg1157) rfl rfl (ex_fieldAddr (off' := 6) rfl rfl Try.underlying104 rfl tsz2 rfl) ?_
        refine ops_ex rfl (guard_on rfl rfl rfl hg1157) rfl rfl (ex_load1 rfl rfl Try.underlying2 rfl ((HM.box_at 1 rfl) 6 _ rfl)) ?_
        refine ops_ex rfl (guard_on rfl rfl rfl hg1157) rfl rfl (ex_fieldAddr (off' := 6) rfl rfl Try.underlying104 rfl tsz2 rfl) ?_
        refine ops_ex rfl (guard_on rfl rfl rfl hg1157) rfl rfl (ex_load1 rfl rfl Try.underlying2 rfl ((HM.box_at 0 rfl) 6 _ rfl)) ?_
        refine ops_ex rfl (guard_on rfl rfl rfl hg1157) rfl rfl (ex_eql rfl rfl rfl) ?_
        refine ops_ex (v := .bool ((((x0.fRef.fTx == x1.fRef.fTx) && (x0.fRef.fAt == x1.fRef.fAt)) && t1153) && (x0.fHeight == x1.fHeight))) rfl (guard_none rfl) rfl rfl (ex_pand_t rfl rfl hg1157 rfl) ?_
        refine ops_ex rfl (guard_none rfl) rfl rfl (ex_move rfl rfl) ?_
        refine bool_cases ((((x0.fRef.fTx == x1.fRef.fTx) && (x0.fRef.fAt == x1.fRef.fAt)) && t1153) && (x0.fHeight == x1.fHeight)) (fun hg1158 => ?_) (fun hg1158 => ?_)
        · skip
          refine ops_ex rfl (guard_on rfl rfl rfl hg1158) rfl rfl (ex_fieldAddr (off' := 7) rfl rfl Try.underlying104 rfl tsz4 rfl) ?_
          refine ops_ex rfl (guard_on rfl rfl rfl hg1158) rfl rfl (ex_load1 rfl rfl Try.underlying4 rfl ((HM.box_at 1 rfl) 7 _ rfl)) ?_
          refine ops_ex rfl (guard_on rfl rfl rfl hg1158) rfl rfl (ex_fieldAddr (off' := 7) rfl rfl Try.underlying104 rfl tsz4 rfl) ?_
          refine ops_ex rfl (guard_on rfl rfl rfl hg1158) rfl rfl (ex_load1 rfl rfl Try.underlying4 rfl ((HM.box_at 0 rfl) 7 _ rfl)) ?_
          refine ops_ex rfl (guard_on rfl rfl rfl hg1158) rfl rfl (ex_beql rfl rfl rfl Try.underlying4) ?_
          refine ops_ex (v := .bool (((((x0.fRef.fTx == x1.fRef.fTx) && (x0.fRef.fAt == x1.fRef.fAt)) && t1153) && (x0.fHeight == x1.fHeight)) && (x0.fMined == x1.fMined))) rfl (guard_none rfl) rfl rfl (ex_pand_t rfl rfl hg1158 rfl) ?_
          refine ops_ex rfl (guard_none rfl) rfl rfl (ex_assign rfl rfl) ?_
          refine ops_nil ?_
          replace HM := (HM.front 0 rfl rfl).drop
          replace HM := (HM.front 0 rfl rfl).drop
          exact at_meet [(4, .bool (((((x0.fRef.fTx == x1.fRef.fTx) && (x0.fRef.fAt == x1.fRef.fAt)) && t1153) && (x0.fHeight == x1.fHeight)) && (x0.fMined == x1.fMined)))] ⟨rfl, HM⟩ (Sub.cons rfl Sub.nil)
        · skip
          refine ops_off rfl (guard_off rfl rfl rfl hg1158) rfl rfl ?_
          refine ops_off rfl (guard_off rfl rfl rfl hg1158) rfl rfl ?_
          refine ops_off rfl (guard_off rfl rfl rfl hg1158) rfl rfl ?_
          refine ops_off rfl (guard_off rfl rfl rfl hg1158) rfl rfl ?_
          refine ops_off rfl (guard_off rfl rfl rfl hg1158) rfl rfl ?_
          have hg1159 : (((((x0.fRef.fTx == x1.fRef.fTx) && (x0.fRef.fAt == x1.fRef.fAt)) && t1153) && (x0.fHeight == x1.fHeight)) && (x0.fMined == x1.fMined)) = false := by simp only [hg1158, Bool.and_true, Bool.true_and, Bool.and_false, Bool.false_and, Bool.or_true, Bool.true_or, Bool.or_false, Bool.false_or, Bool.not_true, Bool.not_false, Bool.not_not]
          refine ops_ex (v := .bool (((((x0.fRef.fTx == x1.fRef.fTx) && (x0.fRef.fAt == x1.fRef.fAt)) && t1153) && (x0.fHeight == x1.fHeight)) && (x0.fMined == x1.fMined))) rfl (guard_none rfl) rfl rfl (ex_pand_f rfl rfl hg1158) ?_
          refine ops_ex rfl (guard_none rfl) rfl rfl (ex_assign rfl rfl) ?_
          refine ops_nil ?_
          replace HM := (HM.front 0 rfl rfl).drop
          replace HM := (HM.front 0 rfl rfl).drop
          exact at_meet [(4, .bool (((((x0.fRef.fTx == x1.fRef.fTx) && (x0.fRef.fAt == x1.fRef.fAt)) && t1153) && (x0.fHeight == x1.fHeight)) && (x0.fMined == x1.fMined)))] ⟨rfl, HM⟩ (Sub.cons rfl Sub.nil)
      · skip
        refine ops_off rfl (guard_off rfl rfl rfl hg1157) rfl rfl ?_
        refine ops_off rfl (guard_off rfl rfl rfl hg1157) rfl rfl ?_
        refine ops_off rfl (guard_off rfl rfl rfl hg1157) rfl rfl ?_
        refine ops_off rfl (guard_off rfl rfl rfl hg1157) rfl rfl ?_
        refine ops_off rfl (guard_off rfl rfl rfl hg1157) rfl rfl ?_
        have hg1160 : ((((x0.fRef.fTx == x1.fRef.fTx) && (x0.fRef.fAt == x1.fRef.fAt)) && t1153) && (x0.fHeight == x1.fHeight)) = false := by simp only [hg1157, Bool.and_true, Bool.true_and, Bool.and_false, Bool.false_and, Bool.or_true, Bool.true_or, Bool.or_false, Bool.false_or, Bool.not_true, Bool.not_false, Bool.not_not]
        refine ops_ex (v := .bool ((((x0.fRef.fTx == x1.fRef.fTx) && (x0.fRef.fAt == x1.fRef.fAt)) && t1153) && (x0.fHeight == x1.fHeight))) rfl (guard_none rfl) rfl rfl (ex_pand_f rfl rfl hg1157) ?_
        refine ops_ex rfl (guard_none rfl) rfl rfl (ex_move rfl rfl) ?_
        refine ops_off rfl (guard_off rfl rfl rfl hg1160) rfl rfl ?_
        refine ops_off rfl (guard_off rfl rfl rfl hg1160) rfl rfl ?_
        refine ops_off rfl (guard_off rfl rfl rfl hg1160) rfl rfl ?_
        refine ops_off rfl (guard_off rfl rfl rfl hg1160) rfl rfl ?_
        refine ops_off rfl (guard_off rfl rfl rfl hg1160) rfl rfl ?_
        have hg1161 : (((((x0.fRef.fTx == x1.fRef.fTx) && (x0.fRef.fAt == x1.fRef.fAt)) && t1153) && (x0.fHeight == x1.fHeight)) && (x0.fMined == x1.fMined)) = false := by simp only [hg1160, Bool.and_true, Bool.true_and, Bool.and_false, Bool.false_and, Bool.or_true, Bool.true_or, Bool.or_false, Bool.false_or, Bool.not_true, Bool.not_false, Bool.not_not]
        refine ops_ex (v := .bool (((((x0.fRef.fTx == x1.fRef.fTx) && (x0.fRef.fAt == x1.fRef.fAt)) && t1153) && (x0.fHeight == x1.fHeight)) && (x0.fMined == x1.fMined))) rfl (guard_none rfl) rfl rfl (ex_pand_f rfl rfl hg1160) ?_
        refine ops_ex rfl (guard_none rfl) rfl rfl (ex_assign rfl rfl) ?_
        refine ops_nil ?_
        replace HM := (HM.front 0 rfl rfl).drop
        replace HM := (HM.front 0 rfl rfl).drop
        exact at_meet [(4, .bool (((((x0.fRef.fTx == x1.fRef.fTx) && (x0.fRef.fAt == x1.fRef.fAt)) && t1153) && (x0.fHeight == x1.fHeight)) && (x0.fMined == x1.fMined)))] ⟨rfl, HM⟩ (Sub.cons rfl Sub.nil)
    · skip
      refine ops_off rfl (guard_off rfl rfl rfl hg1155) rfl rfl ?_
      refine ops_off rfl (guard_off rfl rfl rfl hg1155) rfl rfl ?_
      refine ops_off rfl (guard_off rfl rfl rfl hg1155) rfl rfl ?_
      refine ops_off rfl (guard_off rfl rfl rfl hg1155) rfl rfl ?_
      refine ops_off rfl (guard_off rfl rfl rfl hg1155) rfl rfl ?_
      have hg1162 : (((x0.fRef.fTx == x1.fRef.fTx) && (x0.fRef.fAt == x1.fRef.fAt)) && t1153) = false := by simp only [hg1155, Bool.and_true, Bool.true_and, Bool.and_false, Bool.false_and, Bool.or_true, Bool.true_or, Bool.or_false, Bool.false_or, Bool.not_true, Bool.not_false, Bool.not_not]
      refine ops_ex (v := .bool (((x0.fRef.fTx == x1.fRef.fTx) && (x0.fRef.fAt == x1.fRef.fAt)) && t1153)) rfl (guard_none rfl) rfl rfl (ex_pand_f rfl rfl hg1155) ?_
      refine ops_ex rfl (guard_none rfl) rfl rfl (ex_move rfl rfl) ?_
      refine ops_off rfl (guard_off rfl rfl rfl hg1162) rfl rfl ?_
      refine ops_off rfl (guard_off rfl rfl rfl hg1162) rfl rfl ?_
      refine ops_off rfl (guard_off rfl rfl rfl hg1162) rfl rfl ?_
      refine ops_off rfl (guard_off rfl rfl rfl hg1162) rfl rfl ?_
      refine ops_off rfl (guard_off rfl rfl rfl hg1162) rfl rfl ?_
      have hg1163 : ((((x0.fRef.fTx == x1.fRef.fTx) && (x0.fRef.fAt == x1.fRef.fAt)) && t1153) && (x0.fHeight == x1.fHeight)) = false := by simp only [hg1162, Bool.and_true, Bool.true_and, Bool.and_false, Bool.false_and, Bool.or_true, Bool.true_or, Bool.or_false, Bool.false_or, Bool.not_true, Bool.not_false, Bool.not_not]
      refine ops_ex (v := .bool ((((x0.fRef.fTx == x1.fRef.fTx) && (x0.fRef.fAt == x1.fRef.fAt)) && t1153) && (x0.fHeight == x1.fHeight))) rfl (guard_none rfl) rfl rfl (ex_pand_f rfl rfl hg1162) ?_
      refine ops_ex rfl (guard_none rfl) rfl rfl (ex_move rfl rfl) ?_
      refine ops_off rfl (guard_off rfl rfl rfl hg1163) rfl rfl ?_
      refine ops_off rfl (guard_off rfl rfl rfl hg1163) rfl rfl ?_
      refine ops_off rfl (guard_off rfl rfl rfl hg1163) rfl rfl ?_
      refine ops_off rfl (guard_off rfl rfl rfl hg1163) rfl rfl ?_
      refine ops_off rfl (guard_off rfl rfl rfl hg1163) rfl rfl ?_
      have hg1164 : (((((x0.fRef.fTx == x1.fRef.fTx) && (x0.fRef.fAt == x1.fRef.fAt)) && t1153) && (x0.fHeight == x1.fHeight)) && (x0.fMined == x1.fMined)) = false := by simp only [hg1163, Bool.and_true, Bool.true_and, Bool.and_false, Bool.false_and, Bool.or_true, Bool.true_or, Bool.or_false, Bool.false_or, Bool.not_true, Bool.not_false, Bool.not_not]
      refine ops_ex (v := .bool (((((x0.fRef.fTx == x1.fRef.fTx) && (x0.fRef.fAt == x1.fRef.fAt)) && t1153) && (x0.fHeight == x1.fHeight)) && (x0.fMined == x1.fMined))) rfl (guard_none rfl) rfl rfl (ex_pand_f rfl rfl hg1163) ?_
      refine ops_ex rfl (guard_none rfl) rfl rfl (ex_assign rfl rfl) ?_
      refine ops_nil ?_
      replace HM := (HM.front 0 rfl rfl).drop
      replace HM := (HM.front 0 rfl rfl).drop
      exact at_meet [(4, .bool (((((x0.fRef.fTx == x1.fRef.fTx) && (x0.fRef.fAt == x1.fRef.fAt)) && t1153) && (x0.fHeight == x1.fHeight)) && (x0.fMined == x1.fMined)))] ⟨rfl, HM⟩ (Sub.cons rfl Sub.nil)
  · rintro _ w1165 ⟨rfl, HM⟩
    refine at_then ?_
    refine run_ret ?_
    have hR := Option.some.inj H
    subst hR
    exact at_ret1 rfl rfl ⟨_, rfl, rfl, HM⟩

def slices_EqualFunc_impl_Coin.l0 (x0 : List Coin) (x1 : List Coin) : Nat → Int → Option (Bool ⊕ Unit)
  | 0, _ => none
  | k + 1, a1285 => (bif (decide (a1285 < (x0.length : Int))) then (chk (idxOk a1285 x0.length) (chk (idxOk a1285 x1.length) ((impl_sameCoin.f k (gt x0 a1285) (gt x1 a1285)).bind fun t1325 => (bif !t1325 then some (.inl false) else slices_EqualFunc_impl_Coin.l0 x0 x1 k (wrap64 (a1285 + 1)))))) else some (.inr ()))
theorem slices_EqualFunc_impl_Coin.l0_z (x0 : List Coin) (x1 : List Coin) (a1285 : Int) : slices_EqualFunc_impl_Coin.l0 x0 x1 0 a1285 = none := rfl
theorem slices_EqualFunc_impl_Coin.l0_s (x0 : List Coin) (x1 : List Coin) (k : Nat) (a1285 : Int) : slices_EqualFunc_impl_Coin.l0 x0 x1 (k + 1) a1285 = (bif (decide (a1285 < (x0.length : Int))) then (chk (idxOk a1285 x0.length) (chk (idxOk a1285 x1.length) ((impl_sameCoin.f k (gt x0 a1285) (gt x1 a1285)).bind fun t1325 => (bif !t1325 then some (.inl false) else slices_EqualFunc_impl_Coin.l0 x0 x1 k (wrap64 (a1285 + 1)))))) else some (.inr ())) := rfl
def slices_EqualFunc_impl_Coin.f (k : Nat) (x0 : List Coin) (x1 : List Coin) : Option Bool := (bif ((x0.length : Int) != (x1.length : Int)) then some false else ((slices_EqualFunc_impl_Coin.l0 x0 x1 k 0).bind fun o1265 => thn o1265 (fun r => some r) (fun _ => some true)))
theorem slices_EqualFunc_impl_Coin.calls {k : Nat} {x0 : List Coin} {x1 : List Coin} {p0 : Value} {p1 : Value} {w : World} (hp0 : RdS kCoin w p0 x0) (hp1 : RdS kCoin w p1 x1) {r : Bool} (H : slices_EqualFunc_impl_Coin.f k x0 x1 = some r) :
    Calls Try.prog 65 ([p0, p1, .func (.func 66) #[] #[]] : List Value).toArray w (fun e w_ => ∃ v, e = .returned v ∧ v = (.bool r) ∧ Mem w [] w_ []) := by
  have HM := Mem.start w
  refine calls_run (N := 32) Try.func65 rfl rfl rfl rfl ?_
  unfold slices_EqualFunc_impl_Coin.f at H
  refine run_seq ?_
  refine run_region rfl ?_
  refine ops_ex rfl (guard_none rfl) rfl rfl (ex_assign rfl rfl) ?_
  refine ops_nil ?_
  refine at_then ?_
  refine run_seq ?_
  refine run_seq ?_
  refine run_region rfl ?_
  refine ops_ex rfl (guard_none rfl) rfl rfl (ex_move rfl rfl) ?_
  refine ops_ex rfl (guard_none rfl) rfl rfl (ex_len (d := kCoin) (xs := x0) rfl rfl Try.underlying25 hp0) ?_
  refine ops_ex rfl (guard_none rfl) rfl rfl (ex_move rfl rfl) ?_
  refine ops_ex rfl (guard_none rfl) rfl rfl (ex_len (d := kCoin) (xs := x1) rfl rfl Try.underlying25 hp1) ?_
  refine ops_ex rfl (guard_none rfl) rfl rfl (ex_neq rfl rfl rfl) ?_
  refine ops_nil ?_
  refine at_then ?_
  refine run_cond (b := ((x0.length : Int) != (x1.length : Int))) rfl (fun hb1209 => ?_) (fun hb1209 => ?_)
  · replace H := cond_t hb1209 H
    refine run_seq ?_
    refine run_region rfl ?_
    refine ops_ex rfl (guard_none rfl) rfl rfl (ex_assign rfl rfl) ?_
    refine ops_nil ?_
    refine at_then ?_
    refine run_ret ?_
    refine at_then_ret ?_
    have hR := Option.some.inj H
    subst hR
    exact at_ret1 rfl rfl ⟨_, rfl, rfl, HM⟩
  · replace H := cond_f hb1209 H
    refine run_skip ?_
    refine at_then ?_
    obtain ⟨o1265, ho1266, H⟩ := bind_some H
    refine run_mid (fun ρ_ w_ => Sum.inr () = o1265 ∧ ρ_ = [] ∧ Mem w [] w_ []) ?_ ?_
    · skip
      refine run_seq ?_
      refine run_region rfl ?_
      refine ops_ex rfl (guard_none rfl) rfl rfl (ex_move rfl rfl) ?_
      refine ops_ex rfl (guard_none rfl) rfl rfl (ex_len (d := kCoin) (xs := x0) rfl rfl Try.underlying25 hp0) ?_
      refine ops_ex rfl (guard_none rfl) rfl rfl (ex_move rfl rfl) ?_
      refine ops_nil ?_
      refine at_then ?_
      refine run_block ?_
      refine run_loop (fun k_ ρ_ w_ => ∃ a1285 : Int, slices_EqualFunc_impl_Coin.l0 x0 x1 k_ a1285 = some o1265 ∧ ρ_ = [(1, p1), (2, .func (.func 66) #[] #[]), (15, p0), (16, .int .i64 (x0.length : Int)), (17, .int .i64 a1285)] ∧ Mem w [] w_ []) k (ρ1 := [(1, p1), (2, .func (.func 66) #[] #[]), (15, p0), (16, .int .i64 (x0.length : Int)), (17, .int .i64 0)]) ⟨_, ho1266, rfl, HM⟩ (Sub.cons rfl (Sub.cons rfl (Sub.cons rfl (Sub.cons rfl (Sub.cons rfl Sub.nil))))) ?_
      clear HM ho1266
      rintro k1304 _ w1305 ⟨a1285, ho1266, rfl, HM⟩
      obtain _ | k1304 := k1304
      · exact nomatch ((slices_EqualFunc_impl_Coin.l0_z x0 x1 a1285).symm.trans ho1266)
      replace ho1266 := (slices_EqualFunc_impl_Coin.l0_s x0 x1 k1304 a1285).symm.trans ho1266
      refine run_seq ?_
      refine run_region rfl ?_
      refine ops_ex rfl (guard_none rfl) rfl rfl (ex_lss rfl rfl rfl) ?_
      refine ops_nil ?_
      refine at_then ?_
      refine run_seq ?_
      refine run_cond (b := (decide (a1285 < (x0.length : Int)))) rfl (fun hb1306 => ?_) (fun hb1306 => ?_)
      · replace ho1266 := cond_t hb1306 ho1266
        refine run_skip ?_
        refine at_then ?_
        refine run_seq ?_
        refine run_block ?_
        refine run_seq ?_
        obtain ⟨e1307, ho1266⟩ := chk_some ho1266
        refine run_region rfl ?_
        refine ops_ex rfl (guard_none rfl) rfl rfl (ex_move rfl rfl) ?_
        obtain ⟨kv1309, hc1308, hk1310⟩ : ∃ u, CellsAt _ (sb p0) (so p0 + (a1285).toNat * 8) [(.int .i64 ((gt x0 a1285).fRef.fTx)), (.int .i64 ((gt x0 a1285).fRef.fAt)), (.int .i64 ((gt x0 a1285).fOut.fValue)), u, (.int .i64 ((gt x0 a1285).fOut.fRule.fNeed)), (.int .i64 ((gt x0 a1285).fOut.fRule.fAfter)), (.int .i64 ((gt x0 a1285).fHeight)), (.bool ((gt x0 a1285).fMined))] ∧ RdS kInt _ u ((gt x0 a1285).fOut.fRule.fKeys) := rd_with1 hp0 e1307
        refine ops_ex rfl (guard_none rfl) rfl rfl (ex_indexAddr (d := kCoin) rfl rfl rfl Try.underlying25 tsz104 hp0 (idx_lo e1307) (idx_hi e1307)) ?_
        refine ops_ex rfl (guard_none rfl) rfl rfl (ex_loadN (cs := [(.int .i64 ((gt x0 a1285).fRef.fTx)), (.int .i64 ((gt x0 a1285).fRef.fAt)), (.int .i64 ((gt x0 a1285).fOut.fValue)), kv1309, (.int .i64 ((gt x0 a1285).fOut.fRule.fNeed)), (.int .i64 ((gt x0 a1285).fOut.fRule.fAfter)), (.int .i64 ((gt x0 a1285).fHeight)), (.bool ((gt x0 a1285).fMined))]) rfl rfl Try.underlying104 rfl tsz104 rfl ((HM.at_ hc1308).sub 0 8 rfl)) ?_
        refine ops_does rfl (guard_none rfl) rfl rfl (does_alloc (cs := [.int .i64 0, .int .i64 0, .int .i64 0, .slice none 0 0, .int .i64 0, .int .i64 0, .int .i64 0, .bool false]) rfl tz104 rfl HM) ?_
        rintro _ w1314 ⟨b1311, rfl, HM⟩
        refine ops_ex rfl (guard_none rfl) rfl rfl (ex_assign rfl rfl) ?_
        refine ops_doesS rfl (guard_none rfl) rfl (does_store (vs := [.int .i64 ((gt x0 a1285).fRef.fTx), .int .i64 ((gt x0 a1285).fRef.fAt), .int .i64 ((gt x0 a1285).fOut.fValue), kv1309, .int .i64 ((gt x0 a1285).fOut.fRule.fNeed), .int .i64 ((gt x0 a1285).fOut.fRule.fAfter), .int .i64 ((gt x0 a1285).fHeight), .bool ((gt x0 a1285).fMined)]) (cs' := [.int .i64 ((gt x0 a1285).fRef.fTx), .int .i64 ((gt x0 a1285).fRef.fAt), .int .i64 ((gt x0 a1285).fOut.fValue), kv1309, .int .i64 ((gt x0 a1285).fOut.fRule.fNeed), .int .i64 ((gt x0 a1285).fOut.fRule.fAfter), .int .i64 ((gt x0 a1285).fHeight), .bool ((gt x0 a1285).fMined)]) rfl rfl rfl rfl tsz104 (Ones.int (Ones.int (Ones.int (Ones.rd hk1310 (Ones.int (Ones.int (Ones.int (Ones.bool Ones.nil)))))))) rfl rfl HM) ?_
        rintro w1315 HM
        refine ops_nil ?_
        refine at_then ?_
        refine run_seq ?_
        obtain ⟨e1316, ho1266⟩ := chk_some ho1266
        refine run_region rfl ?_
        refine ops_ex rfl (guard_none rfl) rfl rfl (ex_move rfl rfl) ?_
        refine ops_ex rfl (guard_none rfl) rfl rfl (ex_move rfl rfl) ?_
        obtain ⟨kv1318, hc1317, hk1319⟩ : ∃ u, CellsAt _ (sb p1) (so p1 + (a1285).toNat * 8) [(.int .i64 ((gt x1 a1285).fRef.fTx)), (.int .i64 ((gt x1 a1285).fRef.fAt)), (.int .i64 ((gt x1 a1285).fOut.fValue)), u, (.int .i64 ((gt x1 a1285).fOut.fRule.fNeed)), (.int .i64 ((gt x1 a1285).fOut.fRule.fAfter)), (.int .i64 ((gt x1 a1285).fHeight)), (.bool ((gt x1 a1285).fMined))] ∧ RdS kInt _ u ((gt x1 a1285).fOut.fRule.fKeys) := rd_with1 hp1 e1316
        refine ops_ex rfl (guard_none rfl) rfl rfl (ex_indexAddr (d := kCoin) rfl rfl rfl Try.underlying25 tsz104 hp1 (idx_lo e1316) (idx_hi e1316)) ?_
        refine ops_ex rfl (guard_none rfl) rfl rfl (ex_loadN (cs := [(.int .i64 ((gt x1 a1285).fRef.fTx)), (.int .i64 ((gt x1 a1285).fRef.fAt)), (.int .i64 ((gt x1 a1285).fOut.fValue)), kv1318, (.int .i64 ((gt x1 a1285).fOut.fRule.fNeed)), (.int .i64 ((gt x1 a1285).fOut.fRule.fAfter)), (.int .i64 ((gt x1 a1285).fHeight)), (.bool ((gt x1 a1285).fMined))]) rfl rfl Try.underlying104 rfl tsz104 rfl ((HM.at_ hc1317).sub 0 8 rfl)) ?_
        refine ops_does rfl (guard_none rfl) rfl rfl (does_alloc (cs := [.int .i64 0, .int .i64 0, .int .i64 0, .slice none 0 0, .int .i64 0, .int .i64 0, .int .i64 0, .bool false]) rfl tz104 rfl HM) ?_
        rintro _ w1323 ⟨b1320, rfl, HM⟩
        refine ops_doesS rfl (guard_none rfl) rfl (does_store (vs := [.int .i64 ((gt x1 a1285).fRef.fTx), .int .i64 ((gt x1 a1285).fRef.fAt), .int .i64 ((gt x1 a1285).fOut.fValue), kv1318, .int .i64 ((gt x1 a1285).fOut.fRule.fNeed), .int .i64 ((gt x1 a1285).fOut.fRule.fAfter), .int .i64 ((gt x1 a1285).fHeight), .bool ((gt x1 a1285).fMined)]) (cs' := [.int .i64 ((gt x1 a1285).fRef.fTx), .int .i64 ((gt x1 a1285).fRef.fAt), .int .i64 ((gt x1 a1285).fOut.fValue), kv1318, .int .i64 ((gt x1 a1285).fOut.fRule.fNeed), .int .i64 ((gt x1 a1285).fOut.fRule.fAfter), .int .i64 ((gt x1 a1285).fHeight), .bool ((gt x1 a1285).fMined)]) rfl rfl rfl rfl tsz104 (Ones.int (Ones.int (Ones.int (Ones.rd hk1319 (Ones.int (Ones.int (Ones.int (Ones.bool Ones.nil)))))))) rfl rfl HM) ?_
        rintro w1324 HM
        refine ops_nil ?_
        refine at_then ?_
        refine run_seq ?_
        obtain ⟨t1325, h1326, ho1266⟩ := bind_some ho1266
        refine run_region rfl ?_
        refine ops_ex rfl (guard_none rfl) rfl rfl (ex_move rfl rfl) ?_
        refine ops_ex rfl (guard_none rfl) rfl rfl (ex_loadN (cs := [(.int .i64 ((gt x0 a1285).fRef.fTx)), (.int .i64 ((gt x0 a1285).fRef.fAt)), (.int .i64 ((gt x0 a1285).fOut.fValue)), kv1309, (.int .i64 ((gt x0 a1285).fOut.fRule.fNeed)), (.int .i64 ((gt x0 a1285).fOut.fRule.fAfter)), (.int .i64 ((gt x0 a1285).fHeight)), (.bool ((gt x0 a1285).fMined))]) rfl rfl Try.underlying104 rfl tsz104 rfl ((HM.box_at 1 rfl).sub 0 8 rfl)) ?_
        refine ops_ex rfl (guard_none rfl) rfl rfl (ex_loadN (cs := [(.int .i64 ((gt x1 a1285).fRef.fTx)), (.int .i64 ((gt x1 a1285).fRef.fAt)), (.int .i64 ((gt x1 a1285).fOut.fValue)), kv1318, (.int .i64 ((gt x1 a1285).fOut.fRule.fNeed)), (.int .i64 ((gt x1 a1285).fOut.fRule.fAfter)), (.int .i64 ((gt x1 a1285).fHeight)), (.bool ((gt x1 a1285).fMined))]) rfl rfl Try.underlying104 rfl tsz104 rfl ((HM.box_at 0 rfl).sub 0 8 rfl)) ?_
        refine ops_does rfl (guard_none rfl) rfl rfl (does_callvk rfl callok66 rfl rfl rfl (impl_sameCoin.calls (x0 := (gt x0 a1285)) (x1 := (gt x1 a1285)) (HM.rd hk1310) (HM.rd hk1319) h1326)) ?_
        rintro _ w1327 ⟨rfl, hn⟩
        replace HM : Mem w [] w1327 [box b1320 104 [.int .i64 ((gt x1 a1285).fRef.fTx), .int .i64 ((gt x1 a1285).fRef.fAt), .int .i64 ((gt x1 a1285).fOut.fValue), kv1318, .int .i64 ((gt x1 a1285).fOut.fRule.fNeed), .int .i64 ((gt x1 a1285).fOut.fRule.fAfter), .int .i64 ((gt x1 a1285).fHeight), .bool ((gt x1 a1285).fMined)], box b1311 104 [.int .i64 ((gt x0 a1285).fRef.fTx), .int .i64 ((gt x0 a1285).fRef.fAt), .int .i64 ((gt x0 a1285).fOut.fValue), kv1309, .int .i64 ((gt x0 a1285).fOut.fRule.fNeed), .int .i64 ((gt x0 a1285).fOut.fRule.fAfter), .int .i64 ((gt x0 a1285).fHeight), .bool ((gt x0 a1285).fMined)]] := HM.call hn
        refine ops_ex rfl (guard_none rfl) rfl rfl (ex_not rfl rfl) ?_
        refine ops_nil ?_
        refine at_then ?_
        refine run_cond (b := !t1325) rfl (fun hb1328 => ?_) (fun hb1328 => ?_)
        · replace ho1266 := cond_t hb1328 ho1266
          refine run_seq ?_
          refine run_region rfl ?_
          refine ops_ex rfl (guard_none rfl) rfl rfl (ex_assign rfl rfl) ?_
          refine ops_nil ?_
          refine at_then ?_
          refine run_ret ?_
          refine at_block_ret ?_
          refine at_then_ret ?_
          refine at_then_ret ?_
          refine at_block_ret ?_
          refine at_then_ret ?_
          replace HM := (HM.front 0 rfl rfl).drop
          replace HM := (HM.front 0 rfl rfl).drop
          have hR := Option.some.inj ho1266
          subst hR
          have hT := thn_inl H
          have hR := Option.some.inj hT
          subst hR
          exact at_ret1 rfl rfl ⟨_, rfl, rfl, HM⟩
        · replace ho1266 := cond_f hb1328 ho1266
          refine run_skip ?_
          refine at_block ?_
          refine at_then ?_
          refine run_region rfl ?_
          refine ops_ex rfl (guard_none rfl) rfl rfl (ex_add rfl rfl rfl) ?_
          refine ops_ex rfl (guard_none rfl) rfl rfl (ex_move rfl rfl) ?_
          refine ops_nil ?_
          replace HM := (HM.front 0 rfl rfl).drop
          replace HM := (HM.front 0 rfl rfl).drop
          exact at_again k1304 (ρ1 := [(1, p1), (2, .func (.func 66) #[] #[]), (15, p0), (16, .int .i64 (x0.length : Int)), (17, .int .i64 (wrap64 (a1285 + 1)))]) (Nat.lt_succ_self _) ⟨_, ho1266, rfl, HM⟩ (Sub.cons rfl (Sub.cons rfl (Sub.cons rfl (Sub.cons rfl (Sub.cons rfl Sub.nil)))))
      · replace ho1266 := cond_f hb1306 ho1266
        refine run_exit ?_
        refine at_then_exit ?_
        refine at_then_exit ?_
        refine at_block_exit ?_
        exact at_mid (ρ' := []) ⟨(Option.some.inj ho1266), rfl, HM⟩ Sub.nil
    · rintro _ w1329 ⟨rfl, rfl, HM⟩
      replace H := (thn_inr H)
      refine run_seq ?_
      refine run_region rfl ?_
      refine ops_ex rfl (guard_none rfl) rfl rfl (ex_assign rfl rfl) ?_
      refine ops_nil ?_
      refine at_then ?_
      refine run_ret ?_
      have hR := Option.some.inj H
      subst hR
      exact at_ret1 rfl rfl ⟨_, rfl, rfl, HM⟩

def impl_SameCoins.f (k : Nat) (x0 : List Coin) (x1 : List Coin) : Option Bool := ((slices_EqualFunc_impl_Coin.f k x0 x1).bind fun t1332 => some t1332)
theorem impl_SameCoins.calls {k : Nat} {x0 : List Coin} {x1 : List Coin} {p0 : Value} {p1 : Value} {w : World} (hp0 : RdS kCoin w p0 x0) (hp1 : RdS kCoin w p1 x1) {r : Bool} (H : impl_SameCoins.f k x0 x1 = some r) :
    Calls Try.prog 18 ([p0, p1] : List Value).toArray w (fun e w_ => ∃ v, e = .returned v ∧ v = (.bool r) ∧ Mem w [] w_ []) := by
  have HM := Mem.start w
  refine calls_run (N := 8) Try.func18 rfl rfl rfl rfl ?_
  unfold impl_SameCoins.f at H
  refine run_seq ?_
  refine run_region rfl ?_
  refine ops_ex rfl (guard_none rfl) rfl rfl (ex_assign rfl rfl) ?_
  refine ops_nil ?_
  refine at_then ?_
  refine run_seq ?_
  obtain ⟨t1332, h1333, H⟩ := bind_some H
  refine run_region rfl ?_
  refine ops_ex rfl (guard_none rfl) rfl rfl (ex_move rfl rfl) ?_
  refine ops_ex rfl (guard_none rfl) rfl rfl (ex_move rfl rfl) ?_
  refine ops_does rfl (guard_none rfl) rfl rfl (does_callk rfl callok65 rfl (slices_EqualFunc_impl_Coin.calls (x0 := x0) (x1 := x1) (HM.rd hp0) (HM.rd hp1) h1333)) ?_
  rintro _ w1334 ⟨rfl, hn⟩
  replace HM : Mem w [] w1334 [] := HM.call hn
  refine ops_ex rfl (guard_none rfl) rfl rfl (ex_assign rfl rfl) ?_
  refine ops_nil ?_
  refine at_then ?_
  refine run_ret ?_
  have hR := Option.some.inj H
  subst hR
  exact at_ret1 rfl rfl ⟨_, rfl, rfl, HM⟩

def laws_eqRef.f (k : Nat) (x0 : Ref) (x1 : Ref) : Option Bool := (bif (x0.fTx != x1.fTx) then some false else (bif (x0.fAt != x1.fAt) then some false else some true))
theorem laws_eqRef.calls {k : Nat} {x0 : Ref} {x1 : Ref}  {w : World}  {r : Bool} (H : laws_eqRef.f k x0 x1 = some r) :
    Calls Try.prog 124 ([.agg #[(.int .i64 x0.fTx), (.int .i64 x0.fAt)], .agg #[(.int .i64 x1.fTx), (.int .i64 x1.fAt)]] : List Value).toArray w (fun e w_ => ∃ v, e = .returned v ∧ v = (.bool r) ∧ Mem w [] w_ []) := by
  have HM := Mem.start w
  refine calls_run (N := 15) Try.func124 rfl rfl rfl rfl ?_
  unfold laws_eqRef.f at H
  refine run_seq ?_
  refine run_region rfl ?_
  refine ops_does rfl (guard_none rfl) rfl rfl (does_box (cs := [.int .i64 x0.fTx, .int .i64 x0.fAt]) rfl rfl rfl HM) ?_
  rintro _ w1375 ⟨b1369, rfl, HM⟩
  refine ops_does rfl (guard_none rfl) rfl rfl (does_box (cs := [.int .i64 x1.fTx, .int .i64 x1.fAt]) rfl rfl rfl HM) ?_
  rintro _ w1376 ⟨b1372, rfl, HM⟩
  refine ops_ex rfl (guard_none rfl) rfl rfl (ex_assign rfl rfl) ?_
  refine ops_nil ?_
  refine at_then ?_
  refine run_seq ?_
  refine run_seq ?_
  refine run_region rfl ?_
  refine ops_ex rfl (guard_none rfl) rfl rfl (ex_fieldAddr (off' := 0) rfl rfl Try.underlying99 rfl tsz2 rfl) ?_
  refine ops_ex rfl (guard_none rfl) rfl rfl (ex_load1 rfl rfl Try.underlying2 rfl ((HM.box_at 1 rfl) 0 _ rfl)) ?_
  refine ops_ex rfl (guard_none rfl) rfl rfl (ex_fieldAddr (off' := 0) rfl rfl Try.underlying99 rfl tsz2 rfl) ?_
  refine ops_ex rfl (guard_none rfl) rfl rfl (ex_load1 rfl rfl Try.underlying2 rfl ((HM.box_at 0 rfl) 0 _ rfl)) ?_
  refine ops_ex rfl (guard_none rfl) rfl rfl (ex_neq rfl rfl rfl) ?_
  refine ops_nil ?_
  refine at_then ?_
  refine run_cond (b := (x0.fTx != x1.fTx)) rfl (fun hb1378 => ?_) (fun hb1378 => ?_)
  · replace H := cond_t hb1378 H
    refine run_seq ?_
    refine run_region rfl ?_
    refine ops_ex rfl (guard_none rfl) rfl rfl (ex_assign rfl rfl) ?_
    refine ops_nil ?_
    refine at_then ?_
    refine run_ret ?_
    refine at_then_ret ?_
    replace HM := (HM.front 0 rfl rfl).drop
    replace HM := (HM.front 0 rfl rfl).drop
    have hR := Option.some.inj H
    subst hR
    exact at_ret1 rfl rfl ⟨_, rfl, rfl, HM⟩
  · replace H := cond_f hb1378 H
    refine run_skip ?_
    refine at_then ?_
    refine run_seq ?_
    refine run_seq ?_
    refine run_region rfl ?_
    refine ops_ex rfl (guard_none rfl) rfl rfl (ex_fieldAddr (off' := 1) rfl rfl Try.underlying99 rfl tsz2 rfl) ?_
    refine ops_ex rfl (guard_none rfl) rfl rfl (ex_load1 rfl rfl Try.underlying2 rfl ((HM.box_at 1 rfl) 1 _ rfl)) ?_
    refine ops_ex rfl (guard_none rfl) rfl rfl (ex_fieldAddr (off' := 1) rfl rfl Try.underlying99 rfl tsz2 rfl) ?_
    refine ops_ex rfl (guard_none rfl) rfl rfl (ex_load1 rfl rfl Try.underlying2 rfl ((HM.box_at 0 rfl) 1 _ rfl)) ?_
    refine ops_ex rfl (guard_none rfl) rfl rfl (ex_neq rfl rfl rfl) ?_
    refine ops_nil ?_
    refine at_then ?_
    refine run_cond (b := (x0.fAt != x1.fAt)) rfl (fun hb1379 => ?_) (fun hb1379 => ?_)
    · replace H := cond_t hb1379 H
      refine run_seq ?_
      refine run_region rfl ?_
      refine ops_ex rfl (guard_none rfl) rfl rfl (ex_assign rfl rfl) ?_
      refine ops_nil ?_
      refine at_then ?_
      refine run_ret ?_
      refine at_then_ret ?_
      replace HM := (HM.front 0 rfl rfl).drop
      replace HM := (HM.front 0 rfl rfl).drop
      have hR := Option.some.inj H
      subst hR
      exact at_ret1 rfl rfl ⟨_, rfl, rfl, HM⟩
    · replace H := cond_f hb1379 H
      refine run_skip ?_
      refine at_then ?_
      refine run_seq ?_
      refine run_region rfl ?_
      refine ops_ex rfl (guard_none rfl) rfl rfl (ex_assign rfl rfl) ?_
      refine ops_nil ?_
      refine at_then ?_
      refine run_ret ?_
      replace HM := (HM.front 0 rfl rfl).drop
      replace HM := (HM.front 0 rfl rfl).drop
      have hR := Option.some.inj H
      subst hR
      exact at_ret1 rfl rfl ⟨_, rfl, rfl, HM⟩

def laws_eqInt64S.l0 (x0 : List Int) (x1 : List Int) : Nat → Int → Option (Bool ⊕ Unit)
  | 0, _ => none
  | k + 1, a1452 => (bif (decide (a1452 < (x0.length : Int))) then (chk (idxOk a1452 x0.length) (chk (idxOk a1452 x1.length) (bif ((gt x0 a1452) != (gt x1 a1452)) then some (.inl false) else laws_eqInt64S.l0 x0 x1 k (wrap64 (a1452 + 1))))) else some (.inr ()))
theorem laws_eqInt64S.l0_z (x0 : List Int) (x1 : List Int) (a1452 : Int) : laws_eqInt64S.l0 x0 x1 0 a1452 = none := rfl
theorem laws_eqInt64S.l0_s (x0 : List Int) (x1 : List Int) (k : Nat) (a1452 : Int) : laws_eqInt64S.l0 x0 x1 (k + 1) a1452 = (bif (decide (a1452 < (x0.length : Int))) then (chk (idxOk a1452 x0.length) (chk (idxOk a1452 x1.length) (bif ((gt x0 a1452) != (gt x1 a1452)) then some (.inl false) else laws_eqInt64S.l0 x0 x1 k (wrap64 (a1452 + 1))))) else some (.inr ())) := rfl
def laws_eqInt64S.f (k : Nat) (x0 : List Int) (x1 : List Int) : Option Bool := (bif ((x0.length : Int) != (x1.length : Int)) then some false else ((laws_eqInt64S.l0 x0 x1 k 0).bind fun o1444 => thn o1444 (fun r => some r) (fun _ => some true)))
theorem laws_eqInt64S.calls {k : Nat} {x0 : List Int} {x1 : List Int} {p0 : Value} {p1 : Value} {w : World} (hp0 : RdS kInt w p0 x0) (hp1 : RdS kInt w p1 x1) {r : Bool} (H : laws_eqInt64S.f k x0 x1 = some r) :
    Calls Try.prog 113 ([p0, p1] : List Value).toArray w (fun e w_ => ∃ v, e = .returned v ∧ v = (.bool r) ∧ Mem w [] w_ []) := by
  have HM := Mem.start w
  refine calls_run (N := 26) Try.func113 rfl rfl rfl rfl ?_
  unfold laws_eqInt64S.f at H
  refine run_seq ?_
  refine run_region rfl ?_
  refine ops_ex rfl (guard_none rfl) rfl rfl (ex_assign rfl rfl) ?_
  refine ops_nil ?_
  refine at_then ?_
  refine run_seq ?_
  refine run_seq ?_
  refine run_region rfl ?_
  refine ops_ex rfl (guard_none rfl) rfl rfl (ex_move rfl rfl) ?_
  refine ops_ex rfl (guard_none rfl) rfl rfl (ex_len (d := kInt) (xs := x0) rfl rfl Try.underlying74 hp0) ?_
  refine ops_ex rfl (guard_none rfl) rfl rfl (ex_move rfl rfl) ?_
  refine ops_ex rfl (guard_none rfl) rfl rfl (ex_len (d := kInt) (xs := x1) rfl rfl Try.underlying74 hp1) ?_
  refine ops_ex rfl (guard_none rfl) rfl rfl (ex_neq rfl rfl rfl) ?_
  refine ops_nil ?_
  refine at_then ?_
  refine run_cond (b := ((x0.length : Int) != (x1.length : Int))) rfl (fun hb1424 => ?_) (fun hb1424 => ?_)
  · replace H := cond_t hb1424 H
    refine run_seq ?_
    refine run_region rfl ?_
    refine ops_ex rfl (guard_none rfl) rfl rfl (ex_assign rfl rfl) ?_
    refine ops_nil ?_
    refine at_then ?_
    refine run_ret ?_
    refine at_then_ret ?_
    have hR := Option.some.inj H
    subst hR
    exact at_ret1 rfl rfl ⟨_, rfl, rfl, HM⟩
  · replace H := cond_f hb1424 H
    refine run_skip ?_
    refine at_then ?_
    obtain ⟨o1444, ho1445, H⟩ := bind_some H
    refine run_mid (fun ρ_ w_ => Sum.inr () = o1444 ∧ ρ_ = [] ∧ Mem w [] w_ []) ?_ ?_
    · skip
      refine run_seq ?_
      refine run_region rfl ?_
      refine ops_ex rfl (guard_none rfl) rfl rfl (ex_assign rfl rfl) ?_
      refine ops_nil ?_
      refine at_then ?_
      refine run_block ?_
      refine run_loop (fun k_ ρ_ w_ => ∃ a1452 : Int, laws_eqInt64S.l0 x0 x1 k_ a1452 = some o1444 ∧ ρ_ = [(0, p0), (1, p1), (5, .int .i64 a1452)] ∧ Mem w [] w_ []) k (ρ1 := [(0, p0), (1, p1), (5, .int .i64 0)]) ⟨_, ho1445, rfl, HM⟩ (Sub.cons rfl (Sub.cons rfl (Sub.cons rfl Sub.nil))) ?_
      clear HM ho1445
      rintro k1459 _ w1460 ⟨a1452, ho1445, rfl, HM⟩
      obtain _ | k1459 := k1459
      · exact nomatch ((laws_eqInt64S.l0_z x0 x1 a1452).symm.trans ho1445)
      replace ho1445 := (laws_eqInt64S.l0_s x0 x1 k1459 a1452).symm.trans ho1445
      refine run_seq ?_
      refine run_seq ?_
      refine run_region rfl ?_
      refine ops_ex rfl (guard_none rfl) rfl rfl (ex_move rfl rfl) ?_
      refine ops_ex rfl (guard_none rfl) rfl rfl (ex_move rfl rfl) ?_
      refine ops_ex rfl (guard_none rfl) rfl rfl (ex_len (d := kInt) (xs := x0) rfl rfl Try.underlying74 hp0) ?_
      refine ops_ex rfl (guard_none rfl) rfl rfl (ex_lss rfl rfl rfl) ?_
      refine ops_nil ?_
      refine at_then ?_
      refine run_cond (b := (decide (a1452 < (x0.length : Int)))) rfl (fun hb1461 => ?_) (fun hb1461 => ?_)
      · replace ho1445 := cond_t hb1461 ho1445
        refine run_skip ?_
        refine at_then ?_
        refine run_seq ?_
        refine run_block ?_
        refine run_seq ?_
        obtain ⟨e1462, ho1445⟩ := chk_some ho1445
        obtain ⟨e1464, ho1445⟩ := chk_some ho1445
        refine run_drawf (fun w_ => Mem w [] w_ []) [(0, true), (1, true), (2, true), (3, true), (4, true), (5, true), (6, true), (7, true), (8, true)] mixed rfl rfl (by kernel_rfl) ?_
        replace HM := HM.grow (fr_drew _)
        have hS := Mem.suf (M := []) HM
        refine drwp_take rfl (guard_none rfl) rfl rfl (fun w_ hS_ => (ex_move rfl rfl)) hS ?_
        refine drwp_take rfl (guard_none rfl) rfl rfl (fun w_ hS_ => (ex_move rfl rfl)) hS ?_
        have hc1463 : CellsAt _ (sb p0) (so p0 + (a1452).toNat * 1) [(.int .i64 (gt x0 a1452))] := rd_plain hp0 e1462
        refine drwp_take rfl (guard_none rfl) rfl rfl (fun w_ hS_ => (ex_indexAddr (d := kInt) rfl rfl rfl Try.underlying74 tsz2 hp0 (idx_lo e1462) (idx_hi e1462))) hS ?_
        refine drwp_take rfl (guard_none rfl) rfl rfl (fun w_ hS_ => (ex_load1 rfl rfl Try.underlying2 rfl ((hS_.at_ hc1463) 0 _ rfl))) hS ?_
        refine drwp_take rfl (guard_none rfl) rfl rfl (fun w_ hS_ => (ex_move rfl rfl)) hS ?_
        refine drwp_take rfl (guard_none rfl) rfl rfl (fun w_ hS_ => (ex_move rfl rfl)) hS ?_
        have hc1465 : CellsAt _ (sb p1) (so p1 + (a1452).toNat * 1) [(.int .i64 (gt x1 a1452))] := rd_plain hp1 e1464
        refine drwp_take rfl (guard_none rfl) rfl rfl (fun w_ hS_ => (ex_indexAddr (d := kInt) rfl rfl rfl Try.underlying74 tsz2 hp1 (idx_lo e1464) (idx_hi e1464))) hS ?_
        refine drwp_take rfl (guard_none rfl) rfl rfl (fun w_ hS_ => (ex_load1 rfl rfl Try.underlying2 rfl ((hS_.at_ hc1465) 0 _ rfl))) hS ?_
        refine drwp_take rfl (guard_none rfl) rfl rfl (fun w_ hS_ => (ex_neq rfl rfl rfl)) hS ?_
        refine drwp_done ?_
        refine at_then ?_
        refine run_cond (b := ((gt x0 a1452) != (gt x1 a1452))) rfl (fun hb1466 => ?_) (fun hb1466 => ?_)
        · replace ho1445 := cond_t hb1466 ho1445
          refine run_seq ?_
          refine run_region rfl ?_
          refine ops_ex rfl (guard_none rfl) rfl rfl (ex_assign rfl rfl) ?_
          refine ops_nil ?_
          refine at_then ?_
          refine run_ret ?_
          refine at_block_ret ?_
          refine at_then_ret ?_
          refine at_then_ret ?_
          refine at_block_ret ?_
          refine at_then_ret ?_
          have hR := Option.some.inj ho1445
          subst hR
          have hT := thn_inl H
          have hR := Option.some.inj hT
          subst hR
          exact at_ret1 rfl rfl ⟨_, rfl, rfl, HM⟩
        · replace ho1445 := cond_f hb1466 ho1445
          refine run_skip ?_
          refine at_block ?_
          refine at_then ?_
          refine run_region rfl ?_
          refine ops_ex rfl (guard_none rfl) rfl rfl (ex_move rfl rfl) ?_
          refine ops_ex rfl (guard_none rfl) rfl rfl (ex_add rfl rfl rfl) ?_
          refine ops_ex rfl (guard_none rfl) rfl rfl (ex_assign rfl rfl) ?_
          refine ops_nil ?_
          exact at_again k1459 (ρ1 := [(0, p0), (1, p1), (5, .int .i64 (wrap64 (a1452 + 1)))]) (Nat.lt_succ_self _) ⟨_, ho1445, rfl, HM⟩ (Sub.cons rfl (Sub.cons rfl (Sub.cons rfl Sub.nil)))
      · replace ho1445 := cond_f hb1461 ho1445
        refine run_exit ?_
        refine at_then_exit ?_
        refine at_then_exit ?_
        refine at_block_exit ?_
        exact at_mid (ρ' := []) ⟨(Option.some.inj ho1445), rfl, HM⟩ Sub.nil
    · rintro _ w1467 ⟨rfl, rfl, HM⟩
      replace H := (thn_inr H)
      refine run_seq ?_
      refine run_region rfl ?_
      refine ops_ex rfl (guard_none rfl) rfl rfl (ex_assign rfl rfl) ?_
      refine ops_nil ?_
      refine at_then ?_
      refine run_ret ?_
      have hR := Option.some.inj H
      subst hR
      exact at_ret1 rfl rfl ⟨_, rfl, rfl, HM⟩
end Go.Proofs.Ytoiacoiccpiciaa.Zk
