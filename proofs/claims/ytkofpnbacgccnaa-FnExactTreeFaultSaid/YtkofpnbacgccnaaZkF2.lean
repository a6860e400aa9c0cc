/- What functions of the program compute, each as a plain function, and that they do. Conditions: as each theorem states them. -/
import Derived.Test.YtkofpnbacgccnaaZkF1
namespace Go.Proofs.Ytkofpnbacgccnaa.Zk
open Go Go.RowKit Go.IntWalk Go.Proofs
set_option linter.unusedVariables false
set_option linter.unusedSimpArgs false
set_option maxRecDepth 100000
def spec_SameRules.f (k : Nat) (x0 : Rule) (x1 : Rule) : Option Bool := ((spec_l2Same.f k x0 x1).bind fun t799 => some t799)
theorem spec_SameRules.calls {k : Nat} {x0 : Rule} {x1 : Rule} {p0_0 : Value} {p1_0 : Value} {w : World} (hp0_0 : RdS kInt w p0_0 x0.fKeys) (hp1_0 : RdS kInt w p1_0 x1.fKeys) {r : Bool} (H : spec_SameRules.f k x0 x1 = some r) :
    Calls Try.prog 26 ([.agg #[p0_0, (.int .i64 x0.fNeed), (.int .i64 x0.fAfter)], .agg #[p1_0, (.int .i64 x1.fNeed), (.int .i64 x1.fAfter)]] : List Value).toArray w (fun e w_ => ∃ v, e = .returned v ∧ v = (.bool r) ∧ Mem w [] w_ []) := by
  have HM := Mem.start w
  refine calls_run (N := 6) Try.func26 rfl rfl rfl rfl ?_
  unfold spec_SameRules.f at H
  refine run_seq ?_
  refine run_region rfl ?_
  refine ops_does rfl (guard_none rfl) rfl rfl (does_box (cs := [p0_0, .int .i64 x0.fNeed, .int .i64 x0.fAfter]) rfl rfl rfl HM) ?_
  rintro _ w797 ⟨b791, rfl, HM⟩
  refine ops_does rfl (guard_none rfl) rfl rfl (does_box (cs := [p1_0, .int .i64 x1.fNeed, .int .i64 x1.fAfter]) rfl rfl rfl HM) ?_
  rintro _ w798 ⟨b794, rfl, HM⟩
  refine ops_ex rfl (guard_none rfl) rfl rfl (ex_assign rfl rfl) ?_
  refine ops_nil ?_
  refine at_then ?_
  refine run_seq ?_
  obtain ⟨t799, h800, H⟩ := bind_some H
  refine run_region rfl ?_
  refine ops_does rfl (guard_none rfl) rfl rfl (does_callk rfl callok65 rfl (spec_l2Same.calls (x0 := x0) (x1 := x1) (HM.box_at 1 rfl) (HM.rd hp0_0) (HM.box_at 0 rfl) (HM.rd hp1_0) h800)) ?_
  rintro _ w801 ⟨rfl, hn⟩
  replace HM : Mem w [] w801 [box b794 39 [p1_0, .int .i64 x1.fNeed, .int .i64 x1.fAfter], box b791 39 [p0_0, .int .i64 x0.fNeed, .int .i64 x0.fAfter]] := HM.call hn
  refine ops_ex rfl (guard_none rfl) rfl rfl (ex_assign rfl rfl) ?_
  refine ops_nil ?_
  refine at_then ?_
  refine run_ret ?_
  replace HM := (HM.front 0 rfl rfl).drop
  replace HM := (HM.front 0 rfl rfl).drop
  have hR := Option.some.inj H
  subst hR
  exact at_ret1 rfl rfl ⟨_, rfl, rfl, HM⟩

def slices_Equal_int64.l0 (x0 : List Int) (x1 : List Int) : Nat → Int → Option (Bool ⊕ Unit)
  | 0, _ => none
  | k + 1, a876 => (bif (decide (a876 < (x0.length : Int))) then (chk (idxOk a876 x0.length) (chk (idxOk a876 x1.length) (bif ((gt x0 a876) != (gt x1 a876)) then some (.inl false) else slices_Equal_int64.l0 x0 x1 k (wrap64 (a876 + 1))))) else some (.inr ()))
theorem slices_Equal_int64.l0_z (x0 : List Int) (x1 : List Int) (a876 : Int) : slices_Equal_int64.l0 x0 x1 0 a876 = none := rfl
theorem slices_Equal_int64.l0_s (x0 : List Int) (x1 : List Int) (k : Nat) (a876 : Int) : slices_Equal_int64.l0 x0 x1 (k + 1) a876 = (bif (decide (a876 < (x0.length : Int))) then (chk (idxOk a876 x0.length) (chk (idxOk a876 x1.length) (bif ((gt x0 a876) != (gt x1 a876)) then some (.inl false) else slices_Equal_int64.l0 x0 x1 k (wrap64 (a876 + 1))))) else some (.inr ())) := rfl
def slices_Equal_int64.f (k : Nat) (x0 : List Int) (x1 : List Int) : Option Bool := (bif ((x0.length : Int) != (x1.length : Int)) then some false else ((slices_Equal_int64.l0 x0 x1 k 0).bind fun o868 => thn o868 (fun r => some r) (fun _ => some true)))
theorem slices_Equal_int64.calls {k : Nat} {x0 : List Int} {x1 : List Int} {p0 : Value} {p1 : Value} {w : World} (hp0 : RdS kInt w p0 x0) (hp1 : RdS kInt w p1 x1) {r : Bool} (H : slices_Equal_int64.f k x0 x1 = some r) :
    Calls Try.prog 67 ([p0, p1] : List Value).toArray w (fun e w_ => ∃ v, e = .returned v ∧ v = (.bool r) ∧ Mem w [] w_ []) := by
  have HM := Mem.start w
  refine calls_run (N := 26) Try.func67 rfl rfl rfl rfl ?_
  unfold slices_Equal_int64.f at H
  refine run_seq ?_
  refine run_region rfl ?_
  refine ops_ex rfl (guard_none rfl) rfl rfl (ex_assign rfl rfl) ?_
  refine ops_nil ?_
  refine at_then ?_
  refine run_seq ?_
  refine run_seq ?_
  refine run_region rfl ?_
  refine ops_ex rfl (guard_none rfl) rfl rfl (ex_move rfl rfl) ?_
  refine ops_ex rfl (guard_none rfl) rfl rfl (ex_len (d := kInt) (xs := x0) rfl rfl Try.underlying34 hp0) ?_
  refine ops_ex rfl (guard_none rfl) rfl rfl (ex_move rfl rfl) ?_
  refine ops_ex rfl (guard_none rfl) rfl rfl (ex_len (d := kInt) (xs := x1) rfl rfl Try.underlying34 hp1) ?_
  refine ops_ex rfl (guard_none rfl) rfl rfl (ex_neq rfl rfl rfl) ?_
  refine ops_nil ?_
  refine at_then ?_
  refine run_cond (b := ((x0.length : Int) != (x1.length : Int))) rfl (fun hb848 => ?_) (fun hb848 => ?_)
  · replace H := cond_t hb848 H
    refine run_seq ?_
    refine run_region rfl ?_
    refine ops_ex rfl (guard_none rfl) rfl rfl (ex_assign rfl rfl) ?_
    refine ops_nil ?_
    refine at_then ?_
    refine run_ret ?_
    refine at_then_ret ?_
    have hR := Option.some.inj H
    subst hR
    exact at_ret1 rfl rfl ⟨_, rfl, rfl, HM⟩
  · replace H := cond_f hb848 H
    refine run_skip ?_
    refine at_then ?_
    obtain ⟨o868, ho869, H⟩ := bind_some H
    refine run_mid (fun ρ_ w_ => Sum.inr () = o868 ∧ ρ_ = [] ∧ Mem w [] w_ []) ?_ ?_
    · skip
      refine run_seq ?_
      refine run_region rfl ?_
      refine ops_ex rfl (guard_none rfl) rfl rfl (ex_move rfl rfl) ?_
      refine ops_ex rfl (guard_none rfl) rfl rfl (ex_len (d := kInt) (xs := x0) rfl rfl Try.underlying34 hp0) ?_
      refine ops_ex rfl (guard_none rfl) rfl rfl (ex_move rfl rfl) ?_
      refine ops_nil ?_
      refine at_then ?_
      refine run_block ?_
      refine run_loop (fun k_ ρ_ w_ => ∃ a876 : Int, slices_Equal_int64.l0 x0 x1 k_ a876 = some o868 ∧ ρ_ = [(0, p0), (1, p1), (12, .int .i64 (x0.length : Int)), (13, .int .i64 a876)] ∧ Mem w [] w_ []) k (ρ1 := [(0, p0), (1, p1), (12, .int .i64 (x0.length : Int)), (13, .int .i64 0)]) ⟨_, ho869, rfl, HM⟩ (Sub.cons rfl (Sub.cons rfl (Sub.cons rfl (Sub.cons rfl Sub.nil)))) ?_
      clear HM ho869
      rintro k883 _ w884 ⟨a876, ho869, rfl, HM⟩
      obtain _ | k883 := k883
      · exact nomatch ((slices_Equal_int64.l0_z x0 x1 a876).symm.trans ho869)
      replace ho869 := (slices_Equal_int64.l0_s x0 x1 k883 a876).symm.trans ho869
      refine run_seq ?_
      refine run_region rfl ?_
      refine ops_ex rfl (guard_none rfl) rfl rfl (ex_lss rfl rfl rfl) ?_
      refine ops_nil ?_
      refine at_then ?_
      refine run_seq ?_
      refine run_cond (b := (decide (a876 < (x0.length : Int)))) rfl (fun hb885 => ?_) (fun hb885 => ?_)
      · replace ho869 := cond_t hb885 ho869
        refine run_skip ?_
        refine at_then ?_
        refine run_seq ?_
        refine run_block ?_
        refine run_seq ?_
        refine run_region rfl ?_
        refine ops_ex rfl (guard_none rfl) rfl rfl (ex_move rfl rfl) ?_
        refine ops_ex rfl (guard_none rfl) rfl rfl (ex_assign rfl rfl) ?_
        refine ops_nil ?_
        refine at_then ?_
        refine run_seq ?_
        obtain ⟨e886, ho869⟩ := chk_some ho869
        obtain ⟨e888, ho869⟩ := chk_some ho869
        refine run_draw (fun w_ => Mem w [] w_ []) mixed rfl rfl ?_
        replace HM := HM.grow (fr_drew _)
        have hS := Mem.suf (M := []) HM
        refine drw_take (i := 0) (l' := #[true, false, false, false, false, false, false, false, false]) rfl (guard_none rfl) rfl rfl (by kernel_rfl) (fun w_ hS_ => (ex_move rfl rfl)) hS ?_
        refine drw_take (i := 1) (l' := #[true, true, false, false, false, false, false, false, false]) rfl (guard_none rfl) rfl rfl (by kernel_rfl) (fun w_ hS_ => (ex_move rfl rfl)) hS ?_
        have hc887 : CellsAt _ (sb p0) (so p0 + (a876).toNat * 1) [(.int .i64 (gt x0 a876))] := rd_plain hp0 e886
        refine drw_take (i := 2) (l' := #[true, true, true, false, false, false, false, false, false]) rfl (guard_none rfl) rfl rfl (by kernel_rfl) (fun w_ hS_ => (ex_indexAddr (d := kInt) rfl rfl rfl Try.underlying34 tsz2 hp0 (idx_lo e886) (idx_hi e886))) hS ?_
        refine drw_take (i := 3) (l' := #[true, true, true, true, false, false, false, false, false]) rfl (guard_none rfl) rfl rfl (by kernel_rfl) (fun w_ hS_ => (ex_load1 rfl rfl Try.underlying2 rfl ((hS_.at_ hc887) 0 _ rfl))) hS ?_
        refine drw_take (i := 4) (l' := #[true, true, true, true, true, false, false, false, false]) rfl (guard_none rfl) rfl rfl (by kernel_rfl) (fun w_ hS_ => (ex_move rfl rfl)) hS ?_
        refine drw_take (i := 5) (l' := #[true, true, true, true, true, true, false, false, false]) rfl (guard_none rfl) rfl rfl (by kernel_rfl) (fun w_ hS_ => (ex_move rfl rfl)) hS ?_
        have hc889 : CellsAt _ (sb p1) (so p1 + (a876).toNat * 1) [(.int .i64 (gt x1 a876))] := rd_plain hp1 e888
        refine drw_take (i := 6) (l' := #[true, true, true, true, true, true, true, false, false]) rfl (guard_none rfl) rfl rfl (by kernel_rfl) (fun w_ hS_ => (ex_indexAddr (d := kInt) rfl rfl rfl Try.underlying34 tsz2 hp1 (idx_lo e888) (idx_hi e888))) hS ?_
        refine drw_take (i := 7) (l' := #[true, true, true, true, true, true, true, true, false]) rfl (guard_none rfl) rfl rfl (by kernel_rfl) (fun w_ hS_ => (ex_load1 rfl rfl Try.underlying2 rfl ((hS_.at_ hc889) 0 _ rfl))) hS ?_
        refine drw_take (i := 8) (l' := #[true, true, true, true, true, true, true, true, true]) rfl (guard_none rfl) rfl rfl (by kernel_rfl) (fun w_ hS_ => (ex_neq rfl rfl rfl)) hS ?_
        refine drw_done (by kernel_rfl) ?_
        refine at_then ?_
        refine run_cond (b := ((gt x0 a876) != (gt x1 a876))) rfl (fun hb890 => ?_) (fun hb890 => ?_)
        · replace ho869 := cond_t hb890 ho869
          refine run_seq ?_
          refine run_region rfl ?_
          refine ops_ex rfl (guard_none rfl) rfl rfl (ex_assign rfl rfl) ?_
          refine ops_nil ?_
          refine at_then ?_
          refine run_ret ?_
          refine at_block_ret ?_
          refine at_then_ret ?_
          refine at_then_ret ?_
          refine at_block_ret ?_
          refine at_then_ret ?_
          have hR := Option.some.inj ho869
          subst hR
          have hT := thn_inl H
          have hR := Option.some.inj hT
          subst hR
          exact at_ret1 rfl rfl ⟨_, rfl, rfl, HM⟩
        · replace ho869 := cond_f hb890 ho869
          refine run_skip ?_
          refine at_block ?_
          refine at_then ?_
          refine run_region rfl ?_
          refine ops_ex rfl (guard_none rfl) rfl rfl (ex_add rfl rfl rfl) ?_
          refine ops_ex rfl (guard_none rfl) rfl rfl (ex_move rfl rfl) ?_
          refine ops_nil ?_
          exact at_again k883 (ρ1 := [(0, p0), (1, p1), (12, .int .i64 (x0.length : Int)), (13, .int .i64 (wrap64 (a876 + 1)))]) (Nat.lt_succ_self _) ⟨_, ho869, rfl, HM⟩ (Sub.cons rfl (Sub.cons rfl (Sub.cons rfl (Sub.cons rfl Sub.nil))))
      · replace ho869 := cond_f hb885 ho869
        refine run_exit ?_
        refine at_then_exit ?_
        refine at_then_exit ?_
        refine at_block_exit ?_
        exact at_mid (ρ' := []) ⟨(Option.some.inj ho869), rfl, HM⟩ Sub.nil
    · rintro _ w891 ⟨rfl, rfl, HM⟩
      replace H := (thn_inr H)
      refine run_seq ?_
      refine run_region rfl ?_
      refine ops_ex rfl (guard_none rfl) rfl rfl (ex_assign rfl rfl) ?_
      refine ops_nil ?_
      refine at_then ?_
      refine run_ret ?_
      have hR := Option.some.inj H
      subst hR
      exact at_ret1 rfl rfl ⟨_, rfl, rfl, HM⟩

def impl_SameRules.f (k : Nat) (x0 : Rule) (x1 : Rule) : Option Bool := ((slices_Equal_int64.f k x0.fKeys x1.fKeys).bind fun t902 => some ((t902 && (x0.fNeed == x1.fNeed)) && (x0.fAfter == x1.fAfter)))
theorem impl_SameRules.calls {k : Nat} {x0 : Rule} {x1 : Rule} {p0_0 : Value} {p1_0 : Value} {w : World} (hp0_0 : RdS kInt w p0_0 x0.fKeys) (hp1_0 : RdS kInt w p1_0 x1.fKeys) {r : Bool} (H : impl_SameRules.f k x0 x1 = some r) :
    Calls Try.prog 28 ([.agg #[p0_0, (.int .i64 x0.fNeed), (.int .i64 x0.fAfter)], .agg #[p1_0, (.int .i64 x1.fNeed), (.int .i64 x1.fAfter)]] : List Value).toArray w (fun e w_ => ∃ v, e = .returned v ∧ v = (.bool r) ∧ Mem w [] w_ []) := by
  have HM := Mem.start w
  refine calls_run (N := 24) Try.func28 rfl rfl rfl rfl ?_
  unfold impl_SameRules.f at H
  refine run_seq ?_
  refine run_region rfl ?_
  refine ops_does rfl (guard_none rfl) rfl rfl (does_box (cs := [p0_0, .int .i64 x0.fNeed, .int .i64 x0.fAfter]) rfl rfl rfl HM) ?_
  rintro _ w900 ⟨b894, rfl, HM⟩
  refine ops_does rfl (guard_none rfl) rfl rfl (does_box (cs := [p1_0, .int .i64 x1.fNeed, .int .i64 x1.fAfter]) rfl rfl rfl HM) ?_
  rintro _ w901 ⟨b897, rfl, HM⟩
  refine ops_ex rfl (guard_none rfl) rfl rfl (ex_assign rfl rfl) ?_
  refine ops_nil ?_
  refine at_then ?_
  refine run_seq ?_
  obtain ⟨t902, h903, H⟩ := bind_some H
  refine run_meet (fun ρ_ w_ => ρ_ = [(4, .bool ((t902 && (x0.fNeed == x1.fNeed)) && (x0.fAfter == x1.fAfter)))] ∧ Mem w [] w_ []) ?_ ?_
  · skip
    refine run_region rfl ?_
    refine ops_ex rfl (guard_none rfl) rfl rfl (ex_fieldAddr (off' := 0) rfl rfl Try.underlying39 rfl tsz34 rfl) ?_
    refine ops_ex rfl (guard_none rfl) rfl rfl (ex_load1 rfl rfl Try.underlying34 rfl ((HM.box_at 1 rfl) 0 _ rfl)) ?_
    refine ops_ex rfl (guard_none rfl) rfl rfl (ex_fieldAddr (off' := 0) rfl rfl Try.underlying39 rfl tsz34 rfl) ?_
    refine ops_ex rfl (guard_none rfl) rfl rfl (ex_load1 rfl rfl Try.underlying34 rfl ((HM.box_at 0 rfl) 0 _ rfl)) ?_
    refine ops_does rfl (guard_none rfl) rfl rfl (does_callk rfl callok67 rfl (slices_Equal_int64.calls (x0 := x0.fKeys) (x1 := x1.fKeys) (HM.rd hp0_0) (HM.rd hp1_0) h903)) ?_
    rintro _ w904 ⟨rfl, hn⟩
    replace HM : Mem w [] w904 [box b897 39 [p1_0, .int .i64 x1.fNeed, .int .i64 x1.fAfter], box b894 39 [p0_0, .int .i64 x0.fNeed, .int .i64 x0.fAfter]] := HM.call hn
    refine ops_ex rfl (guard_none rfl) rfl rfl (ex_move rfl rfl) ?_
    refine bool_cases t902 (fun hg905 => ?_) (fun hg905 => ?_)
    · skip
      refine ops_ex rfl (guard_on rfl rfl rfl hg905) rfl rfl (ex_fieldAddr (off' := 1) rfl rfl Try.underlying39 rfl tsz2 rfl) ?_
      refine ops_ex rfl (guard_on rfl rfl rfl hg905) rfl rfl (ex_load1 rfl rfl Try.underlying2 rfl ((HM.box_at 1 rfl) 1 _ rfl)) ?_
      refine ops_ex rfl (guard_on rfl rfl rfl hg905) rfl rfl (ex_fieldAddr (off' := 1) rfl rfl Try.underlying39 rfl tsz2 rfl) ?_
      refine ops_ex rfl (guard_on rfl rfl rfl hg905) rfl rfl (ex_load1 rfl rfl Try.underlying2 rfl ((HM.box_at 0 rfl) 1 _ rfl)) ?_
      refine ops_ex rfl (guard_on rfl rfl rfl hg905) rfl rfl (ex_eql rfl rfl rfl) ?_
      refine ops_ex (v := .bool (t902 && (x0.fNeed == x1.fNeed))) rfl (guard_none rfl) rfl rfl (ex_pand_t rfl rfl hg905 rfl) ?_
      refine ops_ex rfl (guard_none rfl) rfl rfl (ex_move rfl rfl) ?_
      refine bool_cases (t902 && (x0.fNeed == x1.fNeed)) (fun hg906 => ?_) (fun hg906 => ?_)
      · skip
        refine ops_ex rfl (guard_on rfl rfl rfl hg906) rfl rfl (ex_fieldAddr (off' := 2) rfl rfl Try.underlying39 rfl tsz2 rfl) ?_
        refine ops_ex rfl (guard_on rfl rfl rfl hg906) rfl rfl (ex_load1 rfl rfl Try.underlying2 rfl ((HM.box_at 1 rfl) 2 _ rfl)) ?_
        refine ops_ex rfl (guard_on rfl rfl rfl hg906) rfl rfl (ex_fieldAddr (off' := 2) rfl rfl Try.underlying39 rfl tsz2 rfl) ?_
        refine ops_ex rfl (guard_on rfl rfl rfl hg906) rfl rfl (ex_load1 rfl rfl Try.underlying2 rfl ((HM.box_at 0 rfl) 2 _ rfl)) ?_
        refine ops_ex rfl (guard_on rfl rfl rfl hg906) rfl rfl (ex_eql rfl rfl rfl) ?_
        refine ops_ex (v := .bool ((t902 && (x0.fNeed == x1.fNeed)) && (x0.fAfter == x1.fAfter))) rfl (guard_none rfl) rfl rfl (ex_pand_t rfl rfl hg906 rfl) ?_
        refine ops_ex rfl (guard_none rfl) rfl rfl (ex_assign rfl rfl) ?_
        refine ops_nil ?_
        replace HM := (HM.front 0 rfl rfl).drop
        replace HM := (HM.front 0 rfl rfl).drop
        exact at_meet [(4, .bool ((t902 && (x0.fNeed == x1.fNeed)) && (x0.fAfter == x1.fAfter)))] ⟨rfl, HM⟩ (Sub.cons rfl Sub.nil)
      · skip
        refine ops_off rfl (guard_off rfl rfl rfl hg906) rfl rfl ?_
        refine ops_off rfl (guard_off rfl rfl rfl hg906) rfl rfl ?_
        refine ops_off rfl (guard_off rfl rfl rfl hg906) rfl rfl ?_
        refine ops_off rfl (guard_off rfl rfl rfl hg906) rfl rfl ?_
        refine ops_off rfl (guard_off rfl rfl rfl hg906) rfl rfl ?_
        have hg907 : ((t902 && (x0.fNeed == x1.fNeed)) && (x0.fAfter == x1.fAfter)) = false := by simp only [hg906, Bool.and_true, Bool.true_and, Bool.and_false, Bool.false_and, Bool.or_true, Bool.true_or, Bool.or_false, Bool.false_or, Bool.not_true, Bool.not_false, Bool.not_not]
        refine ops_ex (v := .bool ((t902 && (x0.fNeed == x1.fNeed)) && (x0.fAfter == x1.fAfter))) rfl (guard_none rfl) rfl rfl (ex_pand_f rfl rfl hg906) ?_
        refine ops_ex rfl (guard_none rfl) rfl rfl (ex_assign rfl rfl) ?_
        refine ops_nil ?_
        replace HM := (HM.front 0 rfl rfl).drop
        replace HM := (HM.front 0 rfl rfl).drop
        exact at_meet [(4, .bool ((t902 && (x0.fNeed == x1.fNeed)) && (x0.fAfter == x1.fAfter)))] ⟨rfl, HM⟩ (Sub.cons rfl Sub.nil)
    · skip
      refine ops_off rfl (guard_off rfl rfl rfl hg905) rfl rfl ?_
      refine ops_off rfl (guard_off rfl rfl rfl hg905) rfl rfl ?_
      refine ops_off rfl (guard_off rfl rfl rfl hg905) rfl rfl ?_
      refine ops_off rfl (guard_off rfl rfl rfl hg905) rfl rfl ?_
      refine ops_off rfl (guard_off rfl rfl rfl hg905) rfl rfl ?_
      have hg908 : (t902 && (x0.fNeed == x1.fNeed)) = false := by simp only [hg905, Bool.and_true, Bool.true_and, Bool.and_false, Bool.false_and, Bool.or_true, Bool.true_or, Bool.or_false, Bool.false_or, Bool.not_true, Bool.not_false, Bool.not_not]
      refine ops_ex (v := .bool (t902 && (x0.fNeed == x1.fNeed))) rfl (guard_none rfl) rfl rfl (ex_pand_f rfl rfl hg905) ?_
      refine ops_ex rfl (guard_none rfl) rfl rfl (ex_move rfl rfl) ?_
      refine ops_off rfl (guard_off rfl rfl rfl hg908) rfl rfl ?_
      refine ops_off rfl (guard_off rfl rfl rfl hg908) rfl rfl ?_
      refine ops_off rfl (guard_off rfl rfl rfl hg908) rfl rfl ?_
      refine ops_off rfl (guard_off rfl rfl rfl hg908) rfl rfl ?_
      refine ops_off rfl (guard_off rfl rfl rfl hg908) rfl rfl ?_
      have hg909 : ((t902 && (x0.fNeed == x1.fNeed)) && (x0.fAfter == x1.fAfter)) = false := by simp only [hg908, Bool.and_true, Bool.true_and, Bool.and_false, Bool.false_and, Bool.or_true, Bool.true_or, Bool.or_false, Bool.false_or, Bool.not_true, Bool.not_false, Bool.not_not]
      refine ops_ex (v := .bool ((t902 && (x0.fNeed == x1.fNeed)) && (x0.fAfter == x1.fAfter))) rfl (guard_none rfl) rfl rfl (ex_pand_f rfl rfl hg908) ?_
      refine ops_ex rfl (guard_none rfl) rfl rfl (ex_assign rfl rfl) ?_
      refine ops_nil ?_
      replace HM := (HM.front 0 rfl rfl).drop
      replace HM := (HM.front 0 rfl rfl).drop
      exact at_meet [(4, .bool ((t902 && (x0.fNeed == x1.fNeed)) && (x0.fAfter == x1.fAfter)))] ⟨rfl, HM⟩ (Sub.cons rfl Sub.nil)
  · rintro _ w910 ⟨rfl, HM⟩
    refine at_then ?_
    refine run_ret ?_
    have hR := Option.some.inj H
    subst hR
    exact at_ret1 rfl rfl ⟨_, rfl, rfl, HM⟩

def laws_eqInt64S.l0 (x0 : List Int) (x1 : List Int) : Nat → Int → Option (Bool ⊕ Unit)
  | 0, _ => none
  | k + 1, a977 => (bif (decide (a977 < (x0.length : Int))) then (chk (idxOk a977 x0.length) (chk (idxOk a977 x1.length) (bif ((gt x0 a977) != (gt x1 a977)) then some (.inl false) else laws_eqInt64S.l0 x0 x1 k (wrap64 (a977 + 1))))) else some (.inr ()))
theorem laws_eqInt64S.l0_z (x0 : List Int) (x1 : List Int) (a977 : Int) : laws_eqInt64S.l0 x0 x1 0 a977 = none := rfl
theorem laws_eqInt64S.l0_s (x0 : List Int) (x1 : List Int) (k : Nat) (a977 : Int) : laws_eqInt64S.l0 x0 x1 (k + 1) a977 = (bif (decide (a977 < (x0.length : Int))) then (chk (idxOk a977 x0.length) (chk (idxOk a977 x1.length) (bif ((gt x0 a977) != (gt x1 a977)) then some (.inl false) else laws_eqInt64S.l0 x0 x1 k (wrap64 (a977 + 1))))) else some (.inr ())) := rfl
def laws_eqInt64S.f (k : Nat) (x0 : List Int) (x1 : List Int) : Option Bool := (bif ((x0.length : Int) != (x1.length : Int)) then some false else ((laws_eqInt64S.l0 x0 x1 k 0).bind fun o969 => thn o969 (fun r => some r) (fun _ => some true)))
theorem laws_eqInt64S.calls {k : Nat} {x0 : List Int} {x1 : List Int} {p0 : Value} {p1 : Value} {w : World} (hp0 : RdS kInt w p0 x0) (hp1 : RdS kInt w p1 x1) {r : Bool} (H : laws_eqInt64S.f k x0 x1 = some r) :
    Calls Try.prog 68 ([p0, p1] : List Value).toArray w (fun e w_ => ∃ v, e = .returned v ∧ v = (.bool r) ∧ Mem w [] w_ []) := by
  have HM := Mem.start w
  refine calls_run (N := 26) Try.func68 rfl rfl rfl rfl ?_
  unfold laws_eqInt64S.f at H
  refine run_seq ?_
  refine run_region rfl ?_
  refine ops_ex rfl (guard_none rfl) rfl rfl (ex_assign rfl rfl) ?_
  refine ops_nil ?_
  refine at_then ?_
  refine run_seq ?_
  refine run_seq ?_
  refine run_region rfl ?_
  refine ops_ex rfl (guard_none rfl) rfl rfl (ex_move rfl rfl) ?_
  refine ops_ex rfl (guard_none rfl) rfl rfl (ex_len (d := kInt) (xs := x0) rfl rfl Try.underlying34 hp0) ?_
  refine ops_ex rfl (guard_none rfl) rfl rfl (ex_move rfl rfl) ?_
  refine ops_ex rfl (guard_none rfl) rfl rfl (ex_len (d := kInt) (xs := x1) rfl rfl Try.underlying34 hp1) ?_
  refine ops_ex rfl (guard_none rfl) rfl rfl (ex_neq rfl rfl rfl) ?_
  refine ops_nil ?_
  refine at_then ?_
  refine run_cond (b := ((x0.length : Int) != (x1.length : Int))) rfl (fun hb949 => ?_) (fun hb949 => ?_)
  · replace H := cond_t hb949 H
    refine run_seq ?_
    refine run_region rfl ?_
    refine ops_ex rfl (guard_none rfl) rfl rfl (ex_assign rfl rfl) ?_
    refine ops_nil ?_
    refine at_then ?_
    refine run_ret ?_
    refine at_then_ret ?_
    have hR := Option.some.inj H
    subst hR
    exact at_ret1 rfl rfl ⟨_, rfl, rfl, HM⟩
  · replace H := cond_f hb949 H
    refine run_skip ?_
    refine at_then ?_
    obtain ⟨o969, ho970, H⟩ := bind_some H
    refine run_mid (fun ρ_ w_ => Sum.inr () = o969 ∧ ρ_ = [] ∧ Mem w [] w_ []) ?_ ?_
    · skip
      refine run_seq ?_
      refine run_region rfl ?_
      refine ops_ex rfl (guard_none rfl) rfl rfl (ex_assign rfl rfl) ?_
      refine ops_nil ?_
      refine at_then ?_
      refine run_block ?_
      refine run_loop (fun k_ ρ_ w_ => ∃ a977 : Int, laws_eqInt64S.l0 x0 x1 k_ a977 = some o969 ∧ ρ_ = [(0, p0), (1, p1), (5, .int .i64 a977)] ∧ Mem w [] w_ []) k (ρ1 := [(0, p0), (1, p1), (5, .int .i64 0)]) ⟨_, ho970, rfl, HM⟩ (Sub.cons rfl (Sub.cons rfl (Sub.cons rfl Sub.nil))) ?_
      clear HM ho970
      rintro k984 _ w985 ⟨a977, ho970, rfl, HM⟩
      obtain _ | k984 := k984
      · exact nomatch ((laws_eqInt64S.l0_z x0 x1 a977).symm.trans ho970)
      replace ho970 := (laws_eqInt64S.l0_s x0 x1 k984 a977).symm.trans ho970
      refine run_seq ?_
      refine run_seq ?_
      refine run_region rfl ?_
      refine ops_ex rfl (guard_none rfl) rfl rfl (ex_move rfl rfl) ?_
      refine ops_ex rfl (guard_none rfl) rfl rfl (ex_move rfl rfl) ?_
      refine ops_ex rfl (guard_none rfl) rfl rfl (ex_len (d := kInt) (xs := x0) rfl rfl Try.underlying34 hp0) ?_
      refine ops_ex rfl (guard_none rfl) rfl rfl (ex_lss rfl rfl rfl) ?_
      refine ops_nil ?_
      refine at_then ?_
      refine run_cond (b := (decide (a977 < (x0.length : Int)))) rfl (fun hb986 => ?_) (fun hb986 => ?_)
      · replace ho970 := cond_t hb986 ho970
        refine run_skip ?_
        refine at_then ?_
        refine run_seq ?_
        refine run_block ?_
        refine run_seq ?_
        obtain ⟨e987, ho970⟩ := chk_some ho970
        obtain ⟨e989, ho970⟩ := chk_some ho970
        refine run_draw (fun w_ => Mem w [] w_ []) mixed rfl rfl ?_
        replace HM := HM.grow (fr_drew _)
        have hS := Mem.suf (M := []) HM
        refine drw_take (i := 0) (l' := #[true, false, false, false, false, false, false, false, false]) rfl (guard_none rfl) rfl rfl (by kernel_rfl) (fun w_ hS_ => (ex_move rfl rfl)) hS ?_
        refine drw_take (i := 1) (l' := #[true, true, false, false, false, false, false, false, false]) rfl (guard_none rfl) rfl rfl (by kernel_rfl) (fun w_ hS_ => (ex_move rfl rfl)) hS ?_
        have hc988 : CellsAt _ (sb p0) (so p0 + (a977).toNat * 1) [(.int .i64 (gt x0 a977))] := rd_plain hp0 e987
        refine drw_take (i := 2) (l' := #[true, true, true, false, false, false, false, false, false]) rfl (guard_none rfl) rfl rfl (by kernel_rfl) (fun w_ hS_ => (ex_indexAddr (d := kInt) rfl rfl rfl Try.underlying34 tsz2 hp0 (idx_lo e987) (idx_hi e987))) hS ?_
        refine drw_take (i := 3) (l' := #[true, true, true, true, false, false, false, false, false]) rfl (guard_none rfl) rfl rfl (by kernel_rfl) (fun w_ hS_ => (ex_load1 rfl rfl Try.underlying2 rfl ((hS_.at_ hc988) 0 _ rfl))) hS ?_
        refine drw_take (i := 4) (l' := #[true, true, true, true, true, false, false, false, false]) rfl (guard_none rfl) rfl rfl (by kernel_rfl) (fun w_ hS_ => (ex_move rfl rfl)) hS ?_
        refine drw_take (i := 5) (l' := #[true, true, true, true, true, true, false, false, false]) rfl (guard_none rfl) rfl rfl (by kernel_rfl) (fun w_ hS_ => (ex_move rfl rfl)) hS ?_
        have hc990 : CellsAt _ (sb p1) (so p1 + (a977).toNat * 1) [(.int .i64 (gt x1 a977))] := rd_plain hp1 e989
        refine drw_take (i := 6) (l' := #[true, true, true, true, true, true, true, false, false]) rfl (guard_none rfl) rfl rfl (by kernel_rfl) (fun w_ hS_ => (ex_indexAddr (d := kInt) rfl rfl rfl Try.underlying34 tsz2 hp1 (idx_lo e989) (idx_hi e989))) hS ?_
        refine drw_take (i := 7) (l' := #[true, true, true, true, true, true, true, true, false]) rfl (guard_none rfl) rfl rfl (by kernel_rfl) (fun w_ hS_ => (ex_load1 rfl rfl Try.underlying2 rfl ((hS_.at_ hc990) 0 _ rfl))) hS ?_
        refine drw_take (i := 8) (l' := #[true, true, true, true, true, true, true, true, true]) rfl (guard_none rfl) rfl rfl (by kernel_rfl) (fun w_ hS_ => (ex_neq rfl rfl rfl)) hS ?_
        refine drw_done (by kernel_rfl) ?_
        refine at_then ?_
        refine run_cond (b := ((gt x0 a977) != (gt x1 a977))) rfl (fun hb991 => ?_) (fun hb991 => ?_)
        · replace ho970 := cond_t hb991 ho970
          refine run_seq ?_
          refine run_region rfl ?_
          refine ops_ex rfl (guard_none rfl) rfl rfl (ex_assign rfl rfl) ?_
          refine ops_nil ?_
          refine at_then ?_
          refine run_ret ?_
          refine at_block_ret ?_
          refine at_then_ret ?_
          refine at_then_ret ?_
          refine at_block_ret ?_
          refine at_then_ret ?_
          have hR := Option.some.inj ho970
          subst hR
          have hT := thn_inl H
          have hR := Option.some.inj hT
          subst hR
          exact at_ret1 rfl rfl ⟨_, rfl, rfl, HM⟩
        · replace ho970 := cond_f hb991 ho970
          refine run_skip ?_
          refine at_block ?_
          refine at_then ?_
          refine run_region rfl ?_
          refine ops_ex rfl (guard_none rfl) rfl rfl (ex_move rfl rfl) ?_
          refine ops_ex rfl (guard_none rfl) rfl rfl (ex_add rfl rfl rfl) ?_
          refine ops_ex rfl (guard_none rfl) rfl rfl (ex_assign rfl rfl) ?_
          refine ops_nil ?_
          exact at_again k984 (ρ1 := [(0, p0), (1, p1), (5, .int .i64 (wrap64 (a977 + 1)))]) (Nat.lt_succ_self _) ⟨_, ho970, rfl, HM⟩ (Sub.cons rfl (Sub.cons rfl (Sub.cons rfl Sub.nil)))
      · replace ho970 := cond_f hb986 ho970
        refine run_exit ?_
        refine at_then_exit ?_
        refine at_then_exit ?_
        refine at_block_exit ?_
        exact at_mid (ρ' := []) ⟨(Option.some.inj ho970), rfl, HM⟩ Sub.nil
    · rintro _ w992 ⟨rfl, rfl, HM⟩
      replace H := (thn_inr H)
      refine run_seq ?_
      refine run_region rfl ?_
      refine ops_ex rfl (guard_none rfl) rfl rfl (ex_assign rfl rfl) ?_
      refine ops_nil ?_
      refine at_then ?_
      refine run_ret ?_
      have hR := Option.some.inj H
      subst hR
      exact at_ret1 rfl rfl ⟨_, rfl, rfl, HM⟩

def laws_eqRule.f (k : Nat) (x0 : Rule) (x1 : Rule) : Option Bool := ((laws_eqInt64S.f k x0.fKeys x1.fKeys).bind fun t1013 => (bif !t1013 then some false else (bif (x0.fNeed != x1.fNeed) then some false else (bif (x0.fAfter != x1.fAfter) then some false else some true))))
theorem laws_eqRule.calls {k : Nat} {x0 : Rule} {x1 : Rule} {p0_0 : Value} {p1_0 : Value} {w : World} (hp0_0 : RdS kInt w p0_0 x0.fKeys) (hp1_0 : RdS kInt w p1_0 x1.fKeys) {r : Bool} (H : laws_eqRule.f k x0 x1 = some r) :
    Calls Try.prog 29 ([.agg #[p0_0, (.int .i64 x0.fNeed), (.int .i64 x0.fAfter)], .agg #[p1_0, (.int .i64 x1.fNeed), (.int .i64 x1.fAfter)]] : List Value).toArray w (fun e w_ => ∃ v, e = .returned v ∧ v = (.bool r) ∧ Mem w [] w_ []) := by
  have HM := Mem.start w
  refine calls_run (N := 21) Try.func29 rfl rfl rfl rfl ?_
  unfold laws_eqRule.f at H
  refine run_seq ?_
  refine run_region rfl ?_
  refine ops_does rfl (guard_none rfl) rfl rfl (does_box (cs := [p0_0, .int .i64 x0.fNeed, .int .i64 x0.fAfter]) rfl rfl rfl HM) ?_
  rintro _ w1008 ⟨b1002, rfl, HM⟩
  refine ops_does rfl (guard_none rfl) rfl rfl (does_box (cs := [p1_0, .int .i64 x1.fNeed, .int .i64 x1.fAfter]) rfl rfl rfl HM) ?_
  rintro _ w1009 ⟨b1005, rfl, HM⟩
  refine ops_ex rfl (guard_none rfl) rfl rfl (ex_assign rfl rfl) ?_
  refine ops_nil ?_
  refine at_then ?_
  refine run_seq ?_
  refine run_seq ?_
  obtain ⟨t1013, h1014, H⟩ := bind_some H
  refine run_region rfl ?_
  refine ops_ex rfl (guard_none rfl) rfl rfl (ex_fieldAddr (off' := 0) rfl rfl Try.underlying39 rfl tsz34 rfl) ?_
  refine ops_ex rfl (guard_none rfl) rfl rfl (ex_load1 rfl rfl Try.underlying34 rfl ((HM.box_at 1 rfl) 0 _ rfl)) ?_
  refine ops_ex rfl (guard_none rfl) rfl rfl (ex_fieldAddr (off' := 0) rfl rfl Try.underlying39 rfl tsz34 rfl) ?_
  refine ops_ex rfl (guard_none rfl) rfl rfl (ex_load1 rfl rfl Try.underlying34 rfl ((HM.box_at 0 rfl) 0 _ rfl)) ?_
  refine ops_does rfl (guard_none rfl) rfl rfl (does_callk rfl callok68 rfl (laws_eqInt64S.calls (x0 := x0.fKeys) (x1 := x1.fKeys) (HM.rd hp0_0) (HM.rd hp1_0) h1014)) ?_
  rintro _ w1015 ⟨rfl, hn⟩
  replace HM : Mem w [] w1015 [box b1005 39 [p1_0, .int .i64 x1.fNeed, .int .i64 x1.fAfter], box b1002 39 [p0_0, .int .i64 x0.fNeed, .int .i64 x0.fAfter]] := HM.call hn
  refine ops_ex rfl (guard_none rfl) rfl rfl (ex_not rfl rfl) ?_
  refine ops_nil ?_
  refine at_then ?_
  refine run_cond (b := !t1013) rfl (fun hb1016 => ?_) (fun hb1016 => ?_)
  · replace H := cond_t hb1016 H
    refine run_seq ?_
    refine run_region rfl ?_
    refine ops_ex rfl (guard_none rfl) rfl rfl (ex_assign rfl rfl) ?_
    refine ops_nil ?_
    refine at_then ?_
    refine run_ret ?_
    refine at_then_ret ?_
    replace HM := (HM.front 0 rfl rfl).drop
    replace HM := (HM.front 0 rfl rfl).drop
    have hR := Option.some.inj H
    subst hR
    exact at_ret1 rfl rfl ⟨_, rfl, rfl, HM⟩
  · replace H := cond_f hb1016 H
    refine run_skip ?_
    refine at_then ?_
    refine run_seq ?_
    refine run_seq ?_
    refine run_region rfl ?_
    refine ops_ex rfl (guard_none rfl) rfl rfl (ex_fieldAddr (off' := 1) rfl rfl Try.underlying39 rfl tsz2 rfl) ?_
    refine ops_ex rfl (guard_none rfl) rfl rfl (ex_load1 rfl rfl Try.underlying2 rfl ((HM.box_at 1 rfl) 1 _ rfl)) ?_
    refine ops_ex rfl (guard_none rfl) rfl rfl (ex_fieldAddr (off' := 1) rfl rfl Try.underlying39 rfl tsz2 rfl) ?_
    refine ops_ex rfl (guard_none rfl) rfl rfl (ex_load1 rfl rfl Try.underlying2 rfl ((HM.box_at 0 rfl) 1 _ rfl)) ?_
    refine ops_ex rfl (guard_none rfl) rfl rfl (ex_neq rfl rfl rfl) ?_
    refine ops_nil ?_
    refine at_then ?_
    refine run_cond (b := (x0.fNeed != x1.fNeed)) rfl (fun hb1018 => ?_) (fun hb1018 => ?_)
    · replace H := cond_t hb1018 H
      refine run_seq ?_
      refine run_region rfl ?_
      refine ops_ex rfl (guard_none rfl) rfl rfl (ex_assign rfl rfl) ?_
      refine ops_nil ?_
      refine at_then ?_
      refine run_ret ?_
      refine at_then_ret ?_
      replace HM := (HM.front 0 rfl rfl).drop
      replace HM := (HM.front 0 rfl rfl).drop
      have hR := Option.some.inj H
      subst hR
      exact at_ret1 rfl rfl ⟨_, rfl, rfl, HM⟩
    · replace H := cond_f hb1018 H
      refine run_skip ?_
      refine at_then ?_
      refine run_seq ?_
      refine run_seq ?_
      refine run_region rfl ?_
      refine ops_ex rfl (guard_none rfl) rfl rfl (ex_fieldAddr (off' := 2) rfl rfl Try.underlying39 rfl tsz2 rfl) ?_
      refine ops_ex rfl (guard_none rfl) rfl rfl (ex_load1 rfl rfl Try.underlying2 rfl ((HM.box_at 1 rfl) 2 _ rfl)) ?_
      refine ops_ex rfl (guard_none rfl) rfl rfl (ex_fieldAddr (off' := 2) rfl rfl Try.underlying39 rfl tsz2 rfl) ?_
      refine ops_ex rfl (guard_none rfl) rfl rfl (ex_load1 rfl rfl Try.underlying2 rfl ((HM.box_at 0 rfl) 2 _ rfl)) ?_
      refine ops_ex rfl (guard_none rfl) rfl rfl (ex_neq rfl rfl rfl) ?_
      refine ops_nil ?_
      refine at_then ?_
      refine run_cond (b := (x0.fAfter != x1.fAfter)) rfl (fun hb1019 => ?_) (fun hb1019 => ?_)
      · replace H := cond_t hb1019 H
        refine run_seq ?_
        refine run_region rfl ?_
        refine ops_ex rfl (guard_none rfl) rfl rfl (ex_assign rfl rfl) ?_
        refine ops_nil ?_
        refine at_then ?_
        refine run_ret ?_
        refine at_then_ret ?_
        replace HM := (HM.front 0 rfl rfl).drop
        replace HM := (HM.front 0 rfl rfl).drop
        have hR := Option.some.inj H
        subst hR
        exact at_ret1 rfl rfl ⟨_, rfl, rfl, HM⟩
      · replace H := cond_f hb1019 H
        refine run_skip ?_
        refine at_then ?_
        refine run_seq ?_
        refine run_region rfl ?_
        refine ops_ex rfl (guard_none rfl) rfl rfl (ex_assign rfl rfl) ?_
        refine ops_nil ?_
        refine at_then ?_
        refine run_ret ?_
        replace HM := (HM.front 0 rfl rfl).drop
        replace HM := (HM.front 0 rfl rfl).drop
        have hR := Option.some.inj H
        subst hR
        exact at_ret1 rfl rfl ⟨_, rfl, rfl, HM⟩

def laws_FnExactSameRules.f (k : Nat) (x0 : Rule) (x1 : Rule) : Option Bool := ((laws_szRule.f k x0 1048576).bind fun t1045 => (bif (decide (t1045 < 0)) then some true else ((laws_szRule.f k x1 t1045).bind fun t1050 => (bif (decide (t1050 < 0)) then some true else ((laws_toRule.f k x0).bind fun t1055 => ((laws_toRule.f k x1).bind fun t1059 => ((spec_SameRules.f k t1055 t1059).bind fun t1063 => ((laws_toRule.f k x0).bind fun t1068 => ((laws_toRule.f k x1).bind fun t1078 => ((impl_SameRules.f k t1068 t1078).bind fun t1088 => (bif (t1088 != t1063) then some false else ((laws_toRule.f k x0).bind fun t1100 => ((laws_eqRule.f k t1068 t1100).bind fun t1104 => (bif !t1104 then some false else ((laws_toRule.f k x1).bind fun t1109 => ((laws_eqRule.f k t1078 t1109).bind fun t1113 => (bif !t1113 then some false else some true)))))))))))))))))
theorem laws_FnExactSameRules.calls {k : Nat} {x0 : Rule} {x1 : Rule} {p0_0 : Value} {p1_0 : Value} {w : World} (hp0_0 : RdS kInt w p0_0 x0.fKeys) (hp1_0 : RdS kInt w p1_0 x1.fKeys) {r : Bool} (H : laws_FnExactSameRules.f k x0 x1 = some r) :
    Calls Try.prog 7 ([.agg #[p0_0, (.int .i64 x0.fNeed), (.int .i64 x0.fAfter)], .agg #[p1_0, (.int .i64 x1.fNeed), (.int .i64 x1.fAfter)]] : List Value).toArray w (fun e w_ => ∃ v, e = .returned v ∧ v = (.bool r) ∧ Mem w [] w_ []) := by
  have HM := Mem.start w
  refine calls_run (N := 45) Try.func7 rfl rfl rfl rfl ?_
  unfold laws_FnExactSameRules.f at H
  refine run_seq ?_
  refine run_region rfl ?_
  refine ops_does rfl (guard_none rfl) rfl rfl (does_box (cs := [p0_0, .int .i64 x0.fNeed, .int .i64 x0.fAfter]) rfl rfl rfl HM) ?_
  rintro _ w1043 ⟨b1037, rfl, HM⟩
  refine ops_does rfl (guard_none rfl) rfl rfl (does_box (cs := [p1_0, .int .i64 x1.fNeed, .int .i64 x1.fAfter]) rfl rfl rfl HM) ?_
  rintro _ w1044 ⟨b1040, rfl, HM⟩
  refine ops_ex rfl (guard_none rfl) rfl rfl (ex_assign rfl rfl) ?_
  refine ops_nil ?_
  refine at_then ?_
  refine run_seq ?_
  refine run_region rfl ?_
  refine ops_ex rfl (guard_none rfl) rfl rfl (ex_assign rfl rfl) ?_
  refine ops_nil ?_
  refine at_then ?_
  refine run_seq ?_
  obtain ⟨t1045, h1046, H⟩ := bind_some H
  refine run_region rfl ?_
  refine ops_ex rfl (guard_none rfl) rfl rfl (ex_loadN (cs := [p0_0, (.int .i64 x0.fNeed), (.int .i64 x0.fAfter)]) rfl rfl Try.underlying36 rfl tsz36 rfl ((HM.box_at 1 rfl).sub 0 3 rfl)) ?_
  refine ops_ex rfl (guard_none rfl) rfl rfl (ex_move rfl rfl) ?_
  refine ops_does rfl (guard_none rfl) rfl rfl (does_callk rfl callok25 rfl (laws_szRule.calls (x0 := x0) (x1 := 1048576) (HM.rd hp0_0) h1046)) ?_
  rintro _ w1047 ⟨rfl, hn⟩
  replace HM : Mem w [] w1047 [box b1040 36 [p1_0, .int .i64 x1.fNeed, .int .i64 x1.fAfter], box b1037 36 [p0_0, .int .i64 x0.fNeed, .int .i64 x0.fAfter]] := HM.call hn
  refine ops_ex rfl (guard_none rfl) rfl rfl (ex_assign rfl rfl) ?_
  refine ops_nil ?_
  refine at_then ?_
  refine run_seq ?_
  refine run_seq ?_
  refine run_region rfl ?_
  refine ops_ex rfl (guard_none rfl) rfl rfl (ex_move rfl rfl) ?_
  refine ops_ex rfl (guard_none rfl) rfl rfl (ex_lss rfl rfl rfl) ?_
  refine ops_nil ?_
  refine at_then ?_
  refine run_cond (b := (decide (t1045 < 0))) rfl (fun hb1049 => ?_) (fun hb1049 => ?_)
  · replace H := cond_t hb1049 H
    refine run_seq ?_
    refine run_region rfl ?_
    refine ops_ex rfl (guard_none rfl) rfl rfl (ex_assign rfl rfl) ?_
    refine ops_nil ?_
    refine at_then ?_
    refine run_ret ?_
    refine at_then_ret ?_
    replace HM := (HM.front 0 rfl rfl).drop
    replace HM := (HM.front 0 rfl rfl).drop
    have hR := Option.some.inj H
    subst hR
    exact at_ret1 rfl rfl ⟨_, rfl, rfl, HM⟩
  · replace H := cond_f hb1049 H
    refine run_skip ?_
    refine at_then ?_
    refine run_seq ?_
    obtain ⟨t1050, h1051, H⟩ := bind_some H
    refine run_region rfl ?_
    refine ops_ex rfl (guard_none rfl) rfl rfl (ex_loadN (cs := [p1_0, (.int .i64 x1.fNeed), (.int .i64 x1.fAfter)]) rfl rfl Try.underlying36 rfl tsz36 rfl ((HM.box_at 0 rfl).sub 0 3 rfl)) ?_
    refine ops_ex rfl (guard_none rfl) rfl rfl (ex_move rfl rfl) ?_
    refine ops_does rfl (guard_none rfl) rfl rfl (does_callk rfl callok25 rfl (laws_szRule.calls (x0 := x1) (x1 := t1045) (HM.rd hp1_0) h1051)) ?_
    rintro _ w1052 ⟨rfl, hn⟩
    replace HM : Mem w [] w1052 [box b1040 36 [p1_0, .int .i64 x1.fNeed, .int .i64 x1.fAfter], box b1037 36 [p0_0, .int .i64 x0.fNeed, .int .i64 x0.fAfter]] := HM.call hn
    refine ops_ex rfl (guard_none rfl) rfl rfl (ex_assign rfl rfl) ?_
    refine ops_nil ?_
    refine at_then ?_
    refine run_seq ?_
    refine run_seq ?_
    refine run_region rfl ?_
    refine ops_ex rfl (guard_none rfl) rfl rfl (ex_move rfl rfl) ?_
    refine ops_ex rfl (guard_none rfl) rfl rfl (ex_lss rfl rfl rfl) ?_
    refine ops_nil ?_
    refine at_then ?_
    refine run_cond (b := (decide (t1050 < 0))) rfl (fun hb1054 => ?_) (fun hb1054 => ?_)
    · replace H := cond_t hb1054 H
      refine run_seq ?_
      refine run_region rfl ?_
      refine ops_ex rfl (guard_none rfl) rfl rfl (ex_assign rfl rfl) ?_
      refine ops_nil ?_
      refine at_then ?_
      refine run_ret ?_
      refine at_then_ret ?_
      replace HM := (HM.front 0 rfl rfl).drop
      replace HM := (HM.front 0 rfl rfl).drop
      have hR := Option.some.inj H
      subst hR
      exact at_ret1 rfl rfl ⟨_, rfl, rfl, HM⟩
    · replace H := cond_f hb1054 H
      refine run_skip ?_
      refine at_then ?_
      refine run_seq ?_
      obtain ⟨t1055, h1056, H⟩ := bind_some H
      obtain ⟨t1059, h1060, H⟩ := bind_some H
      obtain ⟨t1063, h1064, H⟩ := bind_some H
      refine run_draw (fun w_ => Mem w [] w_ [box b1040 36 [p1_0, .int .i64 x1.fNeed, .int .i64 x1.fAfter], box b1037 36 [p0_0, .int .i64 x0.fNeed, .int .i64 x0.fAfter]]) mixed rfl rfl ?_
      replace HM := HM.grow (fr_drew _)
      have hS := Mem.suf (M := []) HM
      refine drw_take (i := 0) (l' := #[true, false, false, false, false, false]) rfl (guard_none rfl) rfl rfl (by kernel_rfl) (fun w_ hS_ => (ex_loadN (cs := [p0_0, (.int .i64 x0.fNeed), (.int .i64 x0.fAfter)]) rfl rfl Try.underlying36 rfl tsz36 rfl ((hS_.box_at 1 rfl).sub 0 3 rfl))) hS ?_
      refine drw_take (i := 2) (l' := #[true, false, true, false, false, false]) rfl (guard_none rfl) rfl rfl (by kernel_rfl) (fun w_ hS_ => (ex_loadN (cs := [p1_0, (.int .i64 x1.fNeed), (.int .i64 x1.fAfter)]) rfl rfl Try.underlying36 rfl tsz36 rfl ((hS_.box_at 0 rfl).sub 0 3 rfl))) hS ?_
      refine drw_one (i := 1) (l' := #[true, true, true, false, false, false]) rfl (guard_none rfl) rfl rfl (by kernel_rfl) (does_callk rfl callok27 rfl (laws_toRule.calls (x0 := x0) (HM.rd hp0_0) h1056)) ?_
      rintro _ w1065 ⟨u1057, rfl, hn⟩
      replace HM : Mem w [] w1065 [own kInt 2 u1057 t1055.fKeys, box b1040 36 [p1_0, .int .i64 x1.fNeed, .int .i64 x1.fAfter], box b1037 36 [p0_0, .int .i64 x0.fNeed, .int .i64 x0.fAfter]] := HM.call hn
      refine ⟨Mem.suf (M := [own kInt 2 u1057 t1055.fKeys]) HM, ?_⟩
      have hS := Mem.suf (M := [own kInt 2 u1057 t1055.fKeys]) HM
      refine drw_one (i := 3) (l' := #[true, true, true, true, false, false]) rfl (guard_none rfl) rfl rfl (by kernel_rfl) (does_callk rfl callok27 rfl (laws_toRule.calls (x0 := x1) (HM.rd hp1_0) h1060)) ?_
      rintro _ w1066 ⟨u1061, rfl, hn⟩
      replace HM : Mem w [] w1066 [own kInt 2 u1061 t1059.fKeys, own kInt 2 u1057 t1055.fKeys, box b1040 36 [p1_0, .int .i64 x1.fNeed, .int .i64 x1.fAfter], box b1037 36 [p0_0, .int .i64 x0.fNeed, .int .i64 x0.fAfter]] := HM.call hn
      refine ⟨Mem.suf (M := [own kInt 2 u1061 t1059.fKeys, own kInt 2 u1057 t1055.fKeys]) HM, ?_⟩
      have hS := Mem.suf (M := [own kInt 2 u1061 t1059.fKeys, own kInt 2 u1057 t1055.fKeys]) HM
      refine drw_one (i := 4) (l' := #[true, true, true, true, true, false]) rfl (guard_none rfl) rfl rfl (by kernel_rfl) (does_callk rfl callok26 rfl (spec_SameRules.calls (x0 := t1055) (x1 := t1059) (HM.own_rd 1 rfl) (HM.own_rd 0 rfl) h1064)) ?_
      rintro _ w1067 ⟨rfl, hn⟩
      replace HM : Mem w [] w1067 [own kInt 2 u1061 t1059.fKeys, own kInt 2 u1057 t1055.fKeys, box b1040 36 [p1_0, .int .i64 x1.fNeed, .int .i64 x1.fAfter], box b1037 36 [p0_0, .int .i64 x0.fNeed, .int .i64 x0.fAfter]] := HM.call hn
      refine ⟨Mem.suf (M := [own kInt 2 u1061 t1059.fKeys, own kInt 2 u1057 t1055.fKeys]) HM, ?_⟩
      have hS := Mem.suf (M := [own kInt 2 u1061 t1059.fKeys, own kInt 2 u1057 t1055.fKeys]) HM
      refine drw_take (i := 5) (l' := #[true, true, true, true, true, true]) rfl (guard_none rfl) rfl rfl (by kernel_rfl) (fun w_ hS_ => (ex_assign rfl rfl)) hS ?_
      refine drw_done (by kernel_rfl) ?_
      refine at_then ?_
      refine run_seq ?_
      obtain ⟨t1068, h1069, H⟩ := bind_some H
      refine run_region rfl ?_
      refine ops_ex rfl (guard_none rfl) rfl rfl (ex_loadN (cs := [p0_0, (.int .i64 x0.fNeed), (.int .i64 x0.fAfter)]) rfl rfl Try.underlying36 rfl tsz36 rfl ((HM.box_at 3 rfl).sub 0 3 rfl)) ?_
      refine ops_does rfl (guard_none rfl) rfl rfl (does_callk rfl callok27 rfl (laws_toRule.calls (x0 := x0) (HM.rd hp0_0) h1069)) ?_
      rintro _ w1075 ⟨u1070, rfl, hn⟩
      replace HM : Mem w [] w1075 [own kInt 2 u1070 t1068.fKeys, own kInt 2 u1061 t1059.fKeys, own kInt 2 u1057 t1055.fKeys, box b1040 36 [p1_0, .int .i64 x1.fNeed, .int .i64 x1.fAfter], box b1037 36 [p0_0, .int .i64 x0.fNeed, .int .i64 x0.fAfter]] := HM.call hn
      refine ops_does rfl (guard_none rfl) rfl rfl (does_alloc (cs := [.slice none 0 0, .int .i64 0, .int .i64 0]) rfl tz39 rfl HM) ?_
      rintro _ w1076 ⟨b1072, rfl, HM⟩
      refine ops_doesS rfl (guard_none rfl) rfl (does_store (vs := [u1070, .int .i64 t1068.fNeed, .int .i64 t1068.fAfter]) (cs' := [u1070, .int .i64 t1068.fNeed, .int .i64 t1068.fAfter]) rfl rfl rfl rfl tsz39 (Ones.rd (HM.own_rd 1 rfl) (Ones.int (Ones.int Ones.nil))) rfl rfl HM) ?_
      rintro w1077 HM
      refine ops_nil ?_
      refine at_then ?_
      refine run_seq ?_
      obtain ⟨t1078, h1079, H⟩ := bind_some H
      refine run_region rfl ?_
      refine ops_ex rfl (guard_none rfl) rfl rfl (ex_loadN (cs := [p1_0, (.int .i64 x1.fNeed), (.int .i64 x1.fAfter)]) rfl rfl Try.underlying36 rfl tsz36 rfl ((HM.box_at 4 rfl).sub 0 3 rfl)) ?_
      refine ops_does rfl (guard_none rfl) rfl rfl (does_callk rfl callok27 rfl (laws_toRule.calls (x0 := x1) (HM.rd hp1_0) h1079)) ?_
      rintro _ w1085 ⟨u1080, rfl, hn⟩
      replace HM : Mem w [] w1085 [own kInt 2 u1080 t1078.fKeys, box b1072 39 [u1070, .int .i64 t1068.fNeed, .int .i64 t1068.fAfter], own kInt 2 u1070 t1068.fKeys, own kInt 2 u1061 t1059.fKeys, own kInt 2 u1057 t1055.fKeys, box b1040 36 [p1_0, .int .i64 x1.fNeed, .int .i64 x1.fAfter], box b1037 36 [p0_0, .int .i64 x0.fNeed, .int .i64 x0.fAfter]] := HM.call hn
      refine ops_does rfl (guard_none rfl) rfl rfl (does_alloc (cs := [.slice none 0 0, .int .i64 0, .int .i64 0]) rfl tz39 rfl HM) ?_
      rintro _ w1086 ⟨b1082, rfl, HM⟩
      refine ops_doesS rfl (guard_none rfl) rfl (does_store (vs := [u1080, .int .i64 t1078.fNeed, .int .i64 t1078.fAfter]) (cs' := [u1080, .int .i64 t1078.fNeed, .int .i64 t1078.fAfter]) rfl rfl rfl rfl tsz39 (Ones.rd (HM.own_rd 1 rfl) (Ones.int (Ones.int Ones.nil))) rfl rfl HM) ?_
      rintro w1087 HM
      refine ops_nil ?_
      refine at_then ?_
      refine run_seq ?_
      obtain ⟨t1088, h1089, H⟩ := bind_some H
      refine run_region rfl ?_
      refine ops_ex rfl (guard_none rfl) rfl rfl (ex_loadN (cs := [u1070, (.int .i64 t1068.fNeed), (.int .i64 t1068.fAfter)]) rfl rfl Try.underlying39 rfl tsz39 rfl ((HM.box_at 2 rfl).sub 0 3 rfl)) ?_
      refine ops_ex rfl (guard_none rfl) rfl rfl (ex_loadN (cs := [u1080, (.int .i64 t1078.fNeed), (.int .i64 t1078.fAfter)]) rfl rfl Try.underlying39 rfl tsz39 rfl ((HM.box_at 0 rfl).sub 0 3 rfl)) ?_
      refine ops_does rfl (guard_none rfl) rfl rfl (does_callk rfl callok28 rfl (impl_SameRules.calls (x0 := t1068) (x1 := t1078) (HM.own_rd 3 rfl) (HM.own_rd 1 rfl) h1089)) ?_
      rintro _ w1090 ⟨rfl, hn⟩
      replace HM : Mem w [] w1090 [box b1082 39 [u1080, .int .i64 t1078.fNeed, .int .i64 t1078.fAfter], own kInt 2 u1080 t1078.fKeys, box b1072 39 [u1070, .int .i64 t1068.fNeed, .int .i64 t1068.fAfter], own kInt 2 u1070 t1068.fKeys, own kInt 2 u1061 t1059.fKeys, own kInt 2 u1057 t1055.fKeys, box b1040 36 [p1_0, .int .i64 x1.fNeed, .int .i64 x1.fAfter], box b1037 36 [p0_0, .int .i64 x0.fNeed, .int .i64 x0.fAfter]] := HM.call hn
      refine ops_ex rfl (guard_none rfl) rfl rfl (ex_assign rfl rfl) ?_
      refine ops_nil ?_
      refine at_then ?_
      refine run_seq ?_
      refine run_seq ?_
      refine run_region rfl ?_
      refine ops_ex rfl (guard_none rfl) rfl rfl (ex_move rfl rfl) ?_
      refine ops_ex rfl (guard_none rfl) rfl rfl (ex_move rfl rfl) ?_
      refine ops_ex rfl (guard_none rfl) rfl rfl (ex_bneq rfl rfl rfl Try.underlying4) ?_
      refine ops_nil ?_
      refine at_then ?_
      refine run_cond (b := (t1088 != t1063)) rfl (fun hb1092 => ?_) (fun hb1092 => ?_)
      · replace H := cond_t hb1092 H
        refine run_seq ?_
        refine run_region rfl ?_
        refine ops_ex rfl (guard_none rfl) rfl rfl (ex_assign rfl rfl) ?_
        refine ops_nil ?_
        refine at_then ?_
        refine run_ret ?_
        refine at_then_ret ?_
        replace HM := (HM.front 0 rfl rfl).drop
        replace HM := (HM.front 0 rfl rfl).drop
        replace HM := (HM.front 0 rfl rfl).drop
        replace HM := (HM.front 0 rfl rfl).drop
        replace HM := (HM.front 0 rfl rfl).drop
        replace HM := (HM.front 0 rfl rfl).drop
        replace HM := (HM.front 0 rfl rfl).drop
        replace HM := (HM.front 0 rfl rfl).drop
        have hR := Option.some.inj H
        subst hR
        exact at_ret1 rfl rfl ⟨_, rfl, rfl, HM⟩
      · replace H := cond_f hb1092 H
        refine run_skip ?_
        refine at_then ?_
        refine run_seq ?_
        refine run_seq ?_
        obtain ⟨t1100, h1101, H⟩ := bind_some H
        obtain ⟨t1104, h1105, H⟩ := bind_some H
        refine run_draw (fun w_ => Mem w [] w_ [box b1082 39 [u1080, .int .i64 t1078.fNeed, .int .i64 t1078.fAfter], own kInt 2 u1080 t1078.fKeys, box b1072 39 [u1070, .int .i64 t1068.fNeed, .int .i64 t1068.fAfter], own kInt 2 u1070 t1068.fKeys, own kInt 2 u1061 t1059.fKeys, own kInt 2 u1057 t1055.fKeys, box b1040 36 [p1_0, .int .i64 x1.fNeed, .int .i64 x1.fAfter], box b1037 36 [p0_0, .int .i64 x0.fNeed, .int .i64 x0.fAfter]]) mixed rfl rfl ?_
        replace HM := HM.grow (fr_drew _)
        have hS := Mem.suf (M := []) HM
        refine drw_take (i := 0) (l' := #[true, false, false, false, false]) rfl (guard_none rfl) rfl rfl (by kernel_rfl) (fun w_ hS_ => (ex_loadN (cs := [u1070, (.int .i64 t1068.fNeed), (.int .i64 t1068.fAfter)]) rfl rfl Try.underlying39 rfl tsz39 rfl ((hS_.box_at 2 rfl).sub 0 3 rfl))) hS ?_
        refine drw_take (i := 1) (l' := #[true, true, false, false, false]) rfl (guard_none rfl) rfl rfl (by kernel_rfl) (fun w_ hS_ => (ex_loadN (cs := [p0_0, (.int .i64 x0.fNeed), (.int .i64 x0.fAfter)]) rfl rfl Try.underlying36 rfl tsz36 rfl ((hS_.box_at 7 rfl).sub 0 3 rfl))) hS ?_
        refine drw_one (i := 2) (l' := #[true, true, true, false, false]) rfl (guard_none rfl) rfl rfl (by kernel_rfl) (does_callk rfl callok27 rfl (laws_toRule.calls (x0 := x0) (HM.rd hp0_0) h1101)) ?_
        rintro _ w1106 ⟨u1102, rfl, hn⟩
        replace HM : Mem w [] w1106 [own kInt 2 u1102 t1100.fKeys, box b1082 39 [u1080, .int .i64 t1078.fNeed, .int .i64 t1078.fAfter], own kInt 2 u1080 t1078.fKeys, box b1072 39 [u1070, .int .i64 t1068.fNeed, .int .i64 t1068.fAfter], own kInt 2 u1070 t1068.fKeys, own kInt 2 u1061 t1059.fKeys, own kInt 2 u1057 t1055.fKeys, box b1040 36 [p1_0, .int .i64 x1.fNeed, .int .i64 x1.fAfter], box b1037 36 [p0_0, .int .i64 x0.fNeed, .int .i64 x0.fAfter]] := HM.call hn
        refine ⟨Mem.suf (M := [own kInt 2 u1102 t1100.fKeys]) HM, ?_⟩
        have hS := Mem.suf (M := [own kInt 2 u1102 t1100.fKeys]) HM
        refine drw_one (i := 3) (l' := #[true, true, true, true, false]) rfl (guard_none rfl) rfl rfl (by kernel_rfl) (does_callk rfl callok29 rfl (laws_eqRule.calls (x0 := t1068) (x1 := t1100) (HM.own_rd 4 rfl) (HM.own_rd 0 rfl) h1105)) ?_
        rintro _ w1107 ⟨rfl, hn⟩
        replace HM : Mem w [] w1107 [own kInt 2 u1102 t1100.fKeys, box b1082 39 [u1080, .int .i64 t1078.fNeed, .int .i64 t1078.fAfter], own kInt 2 u1080 t1078.fKeys, box b1072 39 [u1070, .int .i64 t1068.fNeed, .int .i64 t1068.fAfter], own kInt 2 u1070 t1068.fKeys, own kInt 2 u1061 t1059.fKeys, own kInt 2 u1057 t1055.fKeys, box b1040 36 [p1_0, .int .i64 x1.fNeed, .int .i64 x1.fAfter], box b1037 36 [p0_0, .int .i64 x0.fNeed, .int .i64 x0.fAfter]] := HM.call hn
        refine ⟨Mem.suf (M := [own kInt 2 u1102 t1100.fKeys]) HM, ?_⟩
        have hS := Mem.suf (M := [own kInt 2 u1102 t1100.fKeys]) HM
        refine drw_take (i := 4) (l' := #[true, true, true, true, true]) rfl (guard_none rfl) rfl rfl (by kernel_rfl) (fun w_ hS_ => (ex_not rfl rfl)) hS ?_
        refine drw_done (by kernel_rfl) ?_
        refine at_then ?_
        refine run_cond (b := !t1104) rfl (fun hb1108 => ?_) (fun hb1108 => ?_)
        · replace H := cond_t hb1108 H
          refine run_seq ?_
          refine run_region rfl ?_
          refine ops_ex rfl (guard_none rfl) rfl rfl (ex_assign rfl rfl) ?_
          refine ops_nil ?_
          refine at_then ?_
          refine run_ret ?_
          refine at_then_ret ?_
          replace HM := (HM.front 0 rfl rfl).drop
          replace HM := (HM.front 0 rfl rfl).drop
          replace HM := (HM.front 0 rfl rfl).drop
          replace HM := (HM.front 0 rfl rfl).drop
          replace HM := (HM.front 0 rfl rfl).drop
          replace HM := (HM.front 0 rfl rfl).drop
          replace HM := (HM.front 0 rfl rfl).drop
          replace HM := (HM.front 0 rfl rfl).drop
          replace HM := (HM.front 0 rfl rfl).drop
          have hR := Option.some.inj H
          subst hR
          exact at_ret1 rfl rfl ⟨_, rfl, rfl, HM⟩
        · replace H := cond_f hb1108 H
          refine run_skip ?_
          refine at_then ?_
          refine run_seq ?_
          refine run_seq ?_
          obtain ⟨t1109, h1110, H⟩ := bind_some H
          obtain ⟨t1113, h1114, H⟩ := bind_some H
          refine run_draw (fun w_ => Mem w [] w_ [own kInt 2 u1102 t1100.fKeys, box b1082 39 [u1080, .int .i64 t1078.fNeed, .int .i64 t1078.fAfter], own kInt 2 u1080 t1078.fKeys, box b1072 39 [u1070, .int .i64 t1068.fNeed, .int .i64 t1068.fAfter], own kInt 2 u1070 t1068.fKeys, own kInt 2 u1061 t1059.fKeys, own kInt 2 u1057 t1055.fKeys, box b1040 36 [p1_0, .int .i64 x1.fNeed, .int .i64 x1.fAfter], box b1037 36 [p0_0, .int .i64 x0.fNeed, .int .i64 x0.fAfter]]) mixed rfl rfl ?_
          replace HM := HM.grow (fr_drew _)
          have hS := Mem.suf (M := []) HM
          refine drw_take (i := 0) (l' := #[true, false, false, false, false]) rfl (guard_none rfl) rfl rfl (by kernel_rfl) (fun w_ hS_ => (ex_loadN (cs := [u1080, (.int .i64 t1078.fNeed), (.int .i64 t1078.fAfter)]) rfl rfl Try.underlying39 rfl tsz39 rfl ((hS_.box_at 1 rfl).sub 0 3 rfl))) hS ?_
          refine drw_take (i := 1) (l' := #[true, true, false, false, false]) rfl (guard_none rfl) rfl rfl (by kernel_rfl) (fun w_ hS_ => (ex_loadN (cs := [p1_0, (.int .i64 x1.fNeed), (.int .i64 x1.fAfter)]) rfl rfl Try.underlying36 rfl tsz36 rfl ((hS_.box_at 7 rfl).sub 0 3 rfl))) hS ?_
          refine drw_one (i := 2) (l' := #[true, true, true, false, false]) rfl (guard_none rfl) rfl rfl (by kernel_rfl) (does_callk rfl callok27 rfl (laws_toRule.calls (x0 := x1) (HM.rd hp1_0) h1110)) ?_
          rintro _ w1115 ⟨u1111, rfl, hn⟩
          replace HM : Mem w [] w1115 [own kInt 2 u1111 t1109.fKeys, own kInt 2 u1102 t1100.fKeys, box b1082 39 [u1080, .int .i64 t1078.fNeed, .int .i64 t1078.fAfter], own kInt 2 u1080 t1078.fKeys, box b1072 39 [u1070, .int .i64 t1068.fNeed, .int .i64 t1068.fAfter], own kInt 2 u1070 t1068.fKeys, own kInt 2 u1061 t1059.fKeys, own kInt 2 u1057 t1055.fKeys, box b1040 36 [p1_0, .int .i64 x1.fNeed, .int .i64 x1.fAfter], box b1037 36 [p0_0, .int .i64 x0.fNeed, .int .i64 x0.fAfter]] := HM.call hn
          refine ⟨Mem.suf (M := [own kInt 2 u1111 t1109.fKeys]) HM, ?_⟩
          have hS := Mem.suf (M := [own kInt 2 u1111 t1109.fKeys]) HM
          refine drw_one (i := 3) (l' := #[true, true, true, true, false]) rfl (guard_none rfl) rfl rfl (by kernel_rfl) (does_callk rfl callok29 rfl (laws_eqRule.calls (x0 := t1078) (x1 := t1109) (HM.own_rd 3 rfl) (HM.own_rd 0 rfl) h1114)) ?_
          rintro _ w1116 ⟨rfl, hn⟩
          replace HM : Mem w [] w1116 [own kInt 2 u1111 t1109.fKeys, own kInt 2 u1102 t1100.fKeys, box b1082 39 [u1080, .int .i64 t1078.fNeed, .int .i64 t1078.fAfter], own kInt 2 u1080 t1078.fKeys, box b1072 39 [u1070, .int .i64 t1068.fNeed, .int .i64 t1068.fAfter], own kInt 2 u1070 t1068.fKeys, own kInt 2 u1061 t1059.fKeys, own kInt 2 u1057 t1055.fKeys, box b1040 36 [p1_0, .int .i64 x1.fNeed, .int .i64 x1.fAfter], box b1037 36 [p0_0, .int .i64 x0.fNeed, .int .i64 x0.fAfter]] := HM.call hn
          refine ⟨Mem.suf (M := [own kInt 2 u1111 t1109.fKeys]) HM, ?_⟩
          have hS := Mem.suf (M := [own kInt 2 u1111 t1109.fKeys]) HM
          refine drw_take (i := 4) (l' := #[true, true, true, true, true]) rfl (guard_none rfl) rfl rfl (by kernel_rfl) (fun w_ hS_ => (ex_not rfl rfl)) hS ?_
          refine drw_done (by kernel_rfl) ?_
          refine at_then ?_
          refine run_cond (b := !t1113) rfl (fun hb1117 => ?_) (fun hb1117 => ?_)
          · replace H := cond_t hb1117 H
            refine run_seq ?_
            refine run_region rfl ?_
            refine ops_ex rfl (guard_none rfl) rfl rfl (ex_assign rfl rfl) ?_
            refine ops_nil ?_
            refine at_then ?_
            refine run_ret ?_
            refine at_then_ret ?_
            replace HM := (HM.front 0 rfl rfl).drop
            replace HM := (HM.front 0 rfl rfl).drop
            replace HM := (HM.front 0 rfl rfl).drop
            replace HM := (HM.front 0 rfl rfl).drop
            replace HM := (HM.front 0 rfl rfl).drop
            replace HM := (HM.front 0 rfl rfl).drop
            replace HM := (HM.front 0 rfl rfl).drop
            replace HM := (HM.front 0 rfl rfl).drop
            replace HM := (HM.front 0 rfl rfl).drop
            replace HM := (HM.front 0 rfl rfl).drop
            have hR := Option.some.inj H
            subst hR
            exact at_ret1 rfl rfl ⟨_, rfl, rfl, HM⟩
          · replace H := cond_f hb1117 H
            refine run_skip ?_
            refine at_then ?_
            refine run_seq ?_
            refine run_region rfl ?_
            refine ops_ex rfl (guard_none rfl) rfl rfl (ex_assign rfl rfl) ?_
            refine ops_nil ?_
            refine at_then ?_
            refine run_ret ?_
            replace HM := (HM.front 0 rfl rfl).drop
            replace HM := (HM.front 0 rfl rfl).drop
            replace HM := (HM.front 0 rfl rfl).drop
            replace HM := (HM.front 0 rfl rfl).drop
            replace HM := (HM.front 0 rfl rfl).drop
            replace HM := (HM.front 0 rfl rfl).drop
            replace HM := (HM.front 0 rfl rfl).drop
            replace HM := (HM.front 0 rfl rfl).drop
            replace HM := (HM.front 0 rfl rfl).drop
            replace HM := (HM.front 0 rfl rfl).drop
            have hR := Option.some.inj H
            subst hR
            exact at_ret1 rfl rfl ⟨_, rfl, rfl, HM⟩

def spec_l1Key.f (k : Nat) (x0 : Int) : Option Bool := ((spec_l1In.f k x0 1 999).bind fun t1143 => some t1143)
theorem spec_l1Key.calls {k : Nat} {x0 : Int}  {w : World}  {r : Bool} (H : spec_l1Key.f k x0 = some r) :
    Calls Try.prog 105 ([.int .i64 x0] : List Value).toArray w (fun e w_ => ∃ v, e = .returned v ∧ v = (.bool r) ∧ Mem w [] w_ []) := by
  have HM := Mem.start w
  refine calls_run (N := 5) Try.func105 rfl rfl rfl rfl ?_
  unfold spec_l1Key.f at H
  refine run_seq ?_
  refine run_region rfl ?_
  refine ops_ex rfl (guard_none rfl) rfl rfl (ex_assign rfl rfl) ?_
  refine ops_nil ?_
  refine at_then ?_
  refine run_seq ?_
  obtain ⟨t1143, h1144, H⟩ := bind_some H
  refine run_region rfl ?_
  refine ops_ex rfl (guard_none rfl) rfl rfl (ex_move rfl rfl) ?_
  refine ops_does rfl (guard_none rfl) rfl rfl (does_callk rfl callok56 rfl (spec_l1In.calls (x0 := x0) (x1 := 1) (x2 := 999) h1144)) ?_
  rintro _ w1145 ⟨rfl, hn⟩
  replace HM : Mem w [] w1145 [] := HM.call hn
  refine ops_ex rfl (guard_none rfl) rfl rfl (ex_assign rfl rfl) ?_
  refine ops_nil ?_
  refine at_then ?_
  refine run_ret ?_
  have hR := Option.some.inj H
  subst hR
  exact at_ret1 rfl rfl ⟨_, rfl, rfl, HM⟩

def spec_l2Height.f (k : Nat) (x0 : Int) : Option Bool := ((spec_l1In.f k x0 0 999).bind fun t1168 => some t1168)
theorem spec_l2Height.calls {k : Nat} {x0 : Int}  {w : World}  {r : Bool} (H : spec_l2Height.f k x0 = some r) :
    Calls Try.prog 86 ([.int .i64 x0] : List Value).toArray w (fun e w_ => ∃ v, e = .returned v ∧ v = (.bool r) ∧ Mem w [] w_ []) := by
  have HM := Mem.start w
  refine calls_run (N := 5) Try.func86 rfl rfl rfl rfl ?_
  unfold spec_l2Height.f at H
  refine run_seq ?_
  refine run_region rfl ?_
  refine ops_ex rfl (guard_none rfl) rfl rfl (ex_assign rfl rfl) ?_
  refine ops_nil ?_
  refine at_then ?_
  refine run_seq ?_
  obtain ⟨t1168, h1169, H⟩ := bind_some H
  refine run_region rfl ?_
  refine ops_ex rfl (guard_none rfl) rfl rfl (ex_move rfl rfl) ?_
  refine ops_does rfl (guard_none rfl) rfl rfl (does_callk rfl callok56 rfl (spec_l1In.calls (x0 := x0) (x1 := 0) (x2 := 999) h1169)) ?_
  rintro _ w1170 ⟨rfl, hn⟩
  replace HM : Mem w [] w1170 [] := HM.call hn
  refine ops_ex rfl (guard_none rfl) rfl rfl (ex_assign rfl rfl) ?_
  refine ops_nil ?_
  refine at_then ?_
  refine run_ret ?_
  have hR := Option.some.inj H
  subst hR
  exact at_ret1 rfl rfl ⟨_, rfl, rfl, HM⟩

def spec_l2Fault.l0 (x0 : Rule) : Nat → Int → Option (Int ⊕ Unit)
  | 0, _ => none
  | k + 1, a1234 => (bif (decide (a1234 < (x0.fKeys.length : Int))) then (chk (idxOk a1234 x0.fKeys.length) ((spec_l1Key.f k (gt x0.fKeys a1234)).bind fun t1246 => (bif !t1246 then some (.inl 3) else spec_l2Fault.l0 x0 k (wrap64 (a1234 + 1))))) else some (.inr ()))
theorem spec_l2Fault.l0_z (x0 : Rule) (a1234 : Int) : spec_l2Fault.l0 x0 0 a1234 = none := rfl
theorem spec_l2Fault.l0_s (x0 : Rule) (k : Nat) (a1234 : Int) : spec_l2Fault.l0 x0 (k + 1) a1234 = (bif (decide (a1234 < (x0.fKeys.length : Int))) then (chk (idxOk a1234 x0.fKeys.length) ((spec_l1Key.f k (gt x0.fKeys a1234)).bind fun t1246 => (bif !t1246 then some (.inl 3) else spec_l2Fault.l0 x0 k (wrap64 (a1234 + 1))))) else some (.inr ())) := rfl
def spec_l2Fault.l1 (x0 : Rule) : Nat → Int → Option (Int ⊕ Unit)
  | 0, _ => none
  | k + 1, a1293 => (bif (decide (a1293 < (x0.fKeys.length : Int))) then (chk (idxOk a1293 x0.fKeys.length) (chk (idxOk (wrap64 (a1293 - 1)) x0.fKeys.length) (bif (decide ((gt x0.fKeys a1293) ≤ (gt x0.fKeys (wrap64 (a1293 - 1))))) then some (.inl 1) else spec_l2Fault.l1 x0 k (wrap64 (a1293 + 1))))) else some (.inr ()))
theorem spec_l2Fault.l1_z (x0 : Rule) (a1293 : Int) : spec_l2Fault.l1 x0 0 a1293 = none := rfl
theorem spec_l2Fault.l1_s (x0 : Rule) (k : Nat) (a1293 : Int) : spec_l2Fault.l1 x0 (k + 1) a1293 = (bif (decide (a1293 < (x0.fKeys.length : Int))) then (chk (idxOk a1293 x0.fKeys.length) (chk (idxOk (wrap64 (a1293 - 1)) x0.fKeys.length) (bif (decide ((gt x0.fKeys a1293) ≤ (gt x0.fKeys (wrap64 (a1293 - 1))))) then some (.inl 1) else spec_l2Fault.l1 x0 k (wrap64 (a1293 + 1))))) else some (.inr ())) := rfl
def spec_l2Fault.f (k : Nat) (x0 : Rule) : Option Int := ((spec_l1In.f k (x0.fKeys.length : Int) 1 3).bind fun t1203 => (bif !t1203 then some 2 else ((spec_l2Fault.l0 x0 k 0).bind fun o1226 => thn o1226 (fun r => some r) (fun _ => ((spec_l1In.f k x0.fNeed 1 (x0.fKeys.length : Int)).bind fun t1256 => ((bif (!(!t1256)) then spec_l2Height.f k x0.fAfter else some default).bind fun t1258 => (bif ((!t1256) || (!t1258)) then some 3 else ((spec_l2Fault.l1 x0 k 1).bind fun o1285 => thn o1285 (fun r => some r) (fun _ => some 0)))))))))
theorem spec_l2Fault.calls {k : Nat} {x0 : Rule} {b0 f0 : Nat} {p0_0 : Value} {w : World} (hc0 : CellsAt w b0 f0 [p0_0, .int .i64 x0.fNeed, .int .i64 x0.fAfter]) (hp0_0 : RdS kInt w p0_0 x0.fKeys) {r : Int} (H : spec_l2Fault.f k x0 = some r) :
    Calls Try.prog 69 ([.pointer (some ⟨b0, f0, none⟩)] : List Value).toArray w (fun e w_ => ∃ v, e = .returned v ∧ v = (.int .i64 r) ∧ Mem w [] w_ []) := by
  have HM := Mem.start w
  refine calls_run (N := 72) Try.func69 rfl rfl rfl rfl ?_
  unfold spec_l2Fault.f at H
  refine run_seq ?_
  refine run_region rfl ?_
  refine ops_ex rfl (guard_none rfl) rfl rfl (ex_assign rfl rfl) ?_
  refine ops_nil ?_
  refine at_then ?_
  refine run_seq ?_
  refine run_region rfl ?_
  refine ops_ex rfl (guard_none rfl) rfl rfl (ex_move rfl rfl) ?_
  refine ops_ex rfl (guard_none rfl) rfl rfl (ex_nilCheck rfl rfl) ?_
  refine ops_ex rfl (guard_none rfl) rfl rfl (ex_fieldAddr (off' := f0) rfl rfl Try.underlying39 rfl tsz34 rfl) ?_
  refine ops_ex rfl (guard_none rfl) rfl rfl (ex_load1 rfl rfl Try.underlying34 rfl ((HM.at_ hc0) 0 _ rfl)) ?_
  refine ops_ex rfl (guard_none rfl) rfl rfl (ex_len (d := kInt) (xs := x0.fKeys) rfl rfl Try.underlying34 hp0_0) ?_
  refine ops_ex rfl (guard_none rfl) rfl rfl (ex_assign rfl rfl) ?_
  refine ops_nil ?_
  refine at_then ?_
  refine run_seq ?_
  refine run_seq ?_
  obtain ⟨t1203, h1204, H⟩ := bind_some H
  refine run_region rfl ?_
  refine ops_ex rfl (guard_none rfl) rfl rfl (ex_move rfl rfl) ?_
  refine ops_does rfl (guard_none rfl) rfl rfl (does_callk rfl callok56 rfl (spec_l1In.calls (x0 := (x0.fKeys.length : Int)) (x1 := 1) (x2 := 3) h1204)) ?_
  rintro _ w1205 ⟨rfl, hn⟩
  replace HM : Mem w [] w1205 [] := HM.call hn
  refine ops_ex rfl (guard_none rfl) rfl rfl (ex_not rfl rfl) ?_
  refine ops_nil ?_
  refine at_then ?_
  refine run_cond (b := !t1203) rfl (fun hb1206 => ?_) (fun hb1206 => ?_)
  · replace H := cond_t hb1206 H
    refine run_seq ?_
    refine run_region rfl ?_
    refine ops_ex rfl (guard_none rfl) rfl rfl (ex_assign rfl rfl) ?_
    refine ops_nil ?_
    refine at_then ?_
    refine run_ret ?_
    refine at_then_ret ?_
    have hR := Option.some.inj H
    subst hR
    exact at_ret1 rfl rfl ⟨_, rfl, rfl, HM⟩
  · replace H := cond_f hb1206 H
    refine run_skip ?_
    refine at_then ?_
    obtain ⟨o1226, ho1227, H⟩ := bind_some H
    refine run_mid (fun ρ_ w_ => Sum.inr () = o1226 ∧ ρ_ = [(0, .pointer (some ⟨b0, f0, none⟩)), (3, .int .i64 (x0.fKeys.length : Int))] ∧ Mem w [] w_ []) ?_ ?_
    · skip
      refine run_seq ?_
      refine run_region rfl ?_
      refine ops_ex rfl (guard_none rfl) rfl rfl (ex_assign rfl rfl) ?_
      refine ops_nil ?_
      refine at_then ?_
      refine run_block ?_
      refine run_loop (fun k_ ρ_ w_ => ∃ a1234 : Int, spec_l2Fault.l0 x0 k_ a1234 = some o1226 ∧ ρ_ = [(0, .pointer (some ⟨b0, f0, none⟩)), (3, .int .i64 (x0.fKeys.length : Int)), (4, .int .i64 a1234)] ∧ Mem w [] w_ []) k (ρ1 := [(0, .pointer (some ⟨b0, f0, none⟩)), (3, .int .i64 (x0.fKeys.length : Int)), (4, .int .i64 0)]) ⟨_, ho1227, rfl, HM⟩ (Sub.cons rfl (Sub.cons rfl (Sub.cons rfl Sub.nil))) ?_
      clear HM ho1227
      rintro k1241 _ w1242 ⟨a1234, ho1227, rfl, HM⟩
      obtain _ | k1241 := k1241
      · exact nomatch ((spec_l2Fault.l0_z x0 a1234).symm.trans ho1227)
      replace ho1227 := (spec_l2Fault.l0_s x0 k1241 a1234).symm.trans ho1227
      refine run_seq ?_
      refine run_seq ?_
      refine run_region rfl ?_
      refine ops_ex rfl (guard_none rfl) rfl rfl (ex_move rfl rfl) ?_
      refine ops_ex rfl (guard_none rfl) rfl rfl (ex_move rfl rfl) ?_
      refine ops_ex rfl (guard_none rfl) rfl rfl (ex_nilCheck rfl rfl) ?_
      refine ops_ex rfl (guard_none rfl) rfl rfl (ex_fieldAddr (off' := f0) rfl rfl Try.underlying39 rfl tsz34 rfl) ?_
      refine ops_ex rfl (guard_none rfl) rfl rfl (ex_load1 rfl rfl Try.underlying34 rfl ((HM.at_ hc0) 0 _ rfl)) ?_
      refine ops_ex rfl (guard_none rfl) rfl rfl (ex_len (d := kInt) (xs := x0.fKeys) rfl rfl Try.underlying34 hp0_0) ?_
      refine ops_ex rfl (guard_none rfl) rfl rfl (ex_lss rfl rfl rfl) ?_
      refine ops_nil ?_
      refine at_then ?_
      refine run_cond (b := (decide (a1234 < (x0.fKeys.length : Int)))) rfl (fun hb1243 => ?_) (fun hb1243 => ?_)
      · replace ho1227 := cond_t hb1243 ho1227
        refine run_skip ?_
        refine at_then ?_
        refine run_seq ?_
        refine run_block ?_
        refine run_seq ?_
        obtain ⟨e1244, ho1227⟩ := chk_some ho1227
        obtain ⟨t1246, h1247, ho1227⟩ := bind_some ho1227
        refine run_region rfl ?_
        refine ops_ex rfl (guard_none rfl) rfl rfl (ex_move rfl rfl) ?_
        refine ops_ex rfl (guard_none rfl) rfl rfl (ex_nilCheck rfl rfl) ?_
        refine ops_ex rfl (guard_none rfl) rfl rfl (ex_fieldAddr (off' := f0) rfl rfl Try.underlying39 rfl tsz34 rfl) ?_
        refine ops_ex rfl (guard_none rfl) rfl rfl (ex_load1 rfl rfl Try.underlying34 rfl ((HM.at_ hc0) 0 _ rfl)) ?_
        refine ops_ex rfl (guard_none rfl) rfl rfl (ex_move rfl rfl) ?_
        have hc1245 : CellsAt _ (sb p0_0) (so p0_0 + (a1234).toNat * 1) [(.int .i64 (gt x0.fKeys a1234))] := rd_plain hp0_0 e1244
        refine ops_ex rfl (guard_none rfl) rfl rfl (ex_indexAddr (d := kInt) rfl rfl rfl Try.underlying34 tsz2 hp0_0 (idx_lo e1244) (idx_hi e1244)) ?_
        refine ops_ex rfl (guard_none rfl) rfl rfl (ex_load1 rfl rfl Try.underlying2 rfl ((HM.at_ hc1245) 0 _ rfl)) ?_
        refine ops_does rfl (guard_none rfl) rfl rfl (does_callk rfl callok105 rfl (spec_l1Key.calls (x0 := (gt x0.fKeys a1234)) h1247)) ?_
        rintro _ w1248 ⟨rfl, hn⟩
        replace HM : Mem w [] w1248 [] := HM.call hn
        refine ops_ex rfl (guard_none rfl) rfl rfl (ex_not rfl rfl) ?_
        refine ops_nil ?_
        refine at_then ?_
        refine run_cond (b := !t1246) rfl (fun hb1249 => ?_) (fun hb1249 => ?_)
        · replace ho1227 := cond_t hb1249 ho1227
          refine run_seq ?_
          refine run_region rfl ?_
          refine ops_ex rfl (guard_none rfl) rfl rfl (ex_assign rfl rfl) ?_
          refine ops_nil ?_
          refine at_then ?_
          refine run_ret ?_
          refine at_block_ret ?_
          refine at_then_ret ?_
          refine at_then_ret ?_
          refine at_block_ret ?_
          refine at_then_ret ?_
          have hR := Option.some.inj ho1227
          subst hR
          have hT := thn_inl H
          have hR := Option.some.inj hT
          subst hR
          exact at_ret1 rfl rfl ⟨_, rfl, rfl, HM⟩
        · replace ho1227 := cond_f hb1249 ho1227
          refine run_skip ?_
          refine at_block ?_
          refine at_then ?_
          refine run_region rfl ?_
          refine ops_ex rfl (guard_none rfl) rfl rfl (ex_move rfl rfl) ?_
          refine ops_ex rfl (guard_none rfl) rfl rfl (ex_add rfl rfl rfl) ?_
          refine ops_ex rfl (guard_none rfl) rfl rfl (ex_assign rfl rfl) ?_
          refine ops_nil ?_
          exact at_again k1241 (ρ1 := [(0, .pointer (some ⟨b0, f0, none⟩)), (3, .int .i64 (x0.fKeys.length : Int)), (4, .int .i64 (wrap64 (a1234 + 1)))]) (Nat.lt_succ_self _) ⟨_, ho1227, rfl, HM⟩ (Sub.cons rfl (Sub.cons rfl (Sub.cons rfl Sub.nil)))
      · replace ho1227 := cond_f hb1243 ho1227
        refine run_exit ?_
        refine at_then_exit ?_
        refine at_then_exit ?_
        refine at_block_exit ?_
        exact at_mid (ρ' := [(0, .pointer (some ⟨b0, f0, none⟩)), (3, .int .i64 (x0.fKeys.length : Int))]) ⟨(Option.some.inj ho1227), rfl, HM⟩ (Sub.cons rfl (Sub.cons rfl Sub.nil))
    · rintro _ w1250 ⟨rfl, rfl, HM⟩
      replace H := (thn_inr H)
      refine run_seq ?_
      refine run_seq ?_
      obtain ⟨t1256, h1257, H⟩ := bind_some H
      obtain ⟨t1258, h1259, H⟩ := bind_some H
      refine run_meet (fun ρ_ w_ => ρ_ = [(0, .pointer (some ⟨b0, f0, none⟩)), (46, .bool ((!t1256) || (!t1258)))] ∧ Mem w [] w_ []) ?_ ?_
      · skip
        refine run_region rfl ?_
        refine ops_ex rfl (guard_none rfl) rfl rfl (ex_move rfl rfl) ?_
        refine ops_ex rfl (guard_none rfl) rfl rfl (ex_nilCheck rfl rfl) ?_
        refine ops_ex rfl (guard_none rfl) rfl rfl (ex_fieldAddr (off' := f0 + 1) rfl rfl Try.underlying39 rfl tsz2 rfl) ?_
        refine ops_ex rfl (guard_none rfl) rfl rfl (ex_load1 rfl rfl Try.underlying2 rfl ((HM.at_ hc0) 1 _ rfl)) ?_
        refine ops_ex rfl (guard_none rfl) rfl rfl (ex_move rfl rfl) ?_
        refine ops_does rfl (guard_none rfl) rfl rfl (does_callk rfl callok56 rfl (spec_l1In.calls (x0 := x0.fNeed) (x1 := 1) (x2 := (x0.fKeys.length : Int)) h1257)) ?_
        rintro _ w1260 ⟨rfl, hn⟩
        replace HM : Mem w [] w1260 [] := HM.call hn
        refine ops_ex rfl (guard_none rfl) rfl rfl (ex_not rfl rfl) ?_
        refine ops_ex rfl (guard_none rfl) rfl rfl (ex_move rfl rfl) ?_
        refine bool_cases (!t1256) (fun hg1261 => ?_) (fun hg1261 => ?_)
        · skip
          refine ops_off rfl (guard_off rfl rfl rfl hg1261) rfl rfl ?_
          refine ops_off rfl (guard_off rfl rfl rfl hg1261) rfl rfl ?_
          refine ops_off rfl (guard_off rfl rfl rfl hg1261) rfl rfl ?_
          refine ops_off rfl (guard_off rfl rfl rfl hg1261) rfl rfl ?_
          refine ops_off rfl (guard_off rfl rfl rfl hg1261) rfl rfl ?_
          refine ops_off rfl (guard_off rfl rfl rfl hg1261) rfl rfl ?_
          have hg1262 : ((!t1256) || (!t1258)) = true := by simp only [hg1261, Bool.and_true, Bool.true_and, Bool.and_false, Bool.false_and, Bool.or_true, Bool.true_or, Bool.or_false, Bool.false_or, Bool.not_true, Bool.not_false, Bool.not_not]
          refine ops_ex (v := .bool ((!t1256) || (!t1258))) rfl (guard_none rfl) rfl rfl (ex_por_t rfl rfl hg1261) ?_
          refine ops_nil ?_
          exact at_meet [(0, .pointer (some ⟨b0, f0, none⟩)), (46, .bool ((!t1256) || (!t1258)))] ⟨rfl, HM⟩ (Sub.cons rfl (Sub.cons rfl Sub.nil))
        · skip
          refine ops_ex rfl (guard_on rfl rfl rfl hg1261) rfl rfl (ex_move rfl rfl) ?_
          refine ops_ex rfl (guard_on rfl rfl rfl hg1261) rfl rfl (ex_nilCheck rfl rfl) ?_
          refine ops_ex rfl (guard_on rfl rfl rfl hg1261) rfl rfl (ex_fieldAddr (off' := f0 + 2) rfl rfl Try.underlying39 rfl tsz2 rfl) ?_
          refine ops_ex rfl (guard_on rfl rfl rfl hg1261) rfl rfl (ex_load1 rfl rfl Try.underlying2 rfl ((HM.at_ hc0) 2 _ rfl)) ?_
          refine ops_does rfl (guard_on rfl rfl rfl hg1261) rfl rfl (does_callk rfl callok86 rfl (spec_l2Height.calls (x0 := x0.fAfter) (cond_t (not_mk hg1261) h1259))) ?_
          rintro _ w1263 ⟨rfl, hn⟩
          replace HM : Mem w [] w1263 [] := HM.call hn
          refine ops_ex rfl (guard_on rfl rfl rfl hg1261) rfl rfl (ex_not rfl rfl) ?_
          refine ops_ex (v := .bool ((!t1256) || (!t1258))) rfl (guard_none rfl) rfl rfl (ex_por_f rfl rfl hg1261 rfl) ?_
          refine ops_nil ?_
          exact at_meet [(0, .pointer (some ⟨b0, f0, none⟩)), (46, .bool ((!t1256) || (!t1258)))] ⟨rfl, HM⟩ (Sub.cons rfl (Sub.cons rfl Sub.nil))
      · rintro _ w1264 ⟨rfl, HM⟩
        refine at_then ?_
        refine run_cond (b := ((!t1256) || (!t1258))) rfl (fun hb1265 => ?_) (fun hb1265 => ?_)
        · replace H := cond_t hb1265 H
          refine run_seq ?_
          refine run_region rfl ?_
          refine ops_ex rfl (guard_none rfl) rfl rfl (ex_assign rfl rfl) ?_
          refine ops_nil ?_
          refine at_then ?_
          refine run_ret ?_
          refine at_then_ret ?_
          have hR := Option.some.inj H
          subst hR
          exact at_ret1 rfl rfl ⟨_, rfl, rfl, HM⟩
        · replace H := cond_f hb1265 H
          refine run_skip ?_
          refine at_then ?_
          obtain ⟨o1285, ho1286, H⟩ := bind_some H
          refine run_mid (fun ρ_ w_ => Sum.inr () = o1285 ∧ ρ_ = [] ∧ Mem w [] w_ []) ?_ ?_
          · skip
            refine run_seq ?_
            refine run_region rfl ?_
            refine ops_ex rfl (guard_none rfl) rfl rfl (ex_assign rfl rfl) ?_
            refine ops_nil ?_
            refine at_then ?_
            refine run_block ?_
            refine run_loop (fun k_ ρ_ w_ => ∃ a1293 : Int, spec_l2Fault.l1 x0 k_ a1293 = some o1285 ∧ ρ_ = [(0, .pointer (some ⟨b0, f0, none⟩)), (5, .int .i64 a1293)] ∧ Mem w [] w_ []) k (ρ1 := [(0, .pointer (some ⟨b0, f0, none⟩)), (5, .int .i64 1)]) ⟨_, ho1286, rfl, HM⟩ (Sub.cons rfl (Sub.cons rfl Sub.nil)) ?_
            clear HM ho1286
            rintro k1300 _ w1301 ⟨a1293, ho1286, rfl, HM⟩
            obtain _ | k1300 := k1300
            · exact nomatch ((spec_l2Fault.l1_z x0 a1293).symm.trans ho1286)
            replace ho1286 := (spec_l2Fault.l1_s x0 k1300 a1293).symm.trans ho1286
            refine run_seq ?_
            refine run_seq ?_
            refine run_region rfl ?_
            refine ops_ex rfl (guard_none rfl) rfl rfl (ex_move rfl rfl) ?_
            refine ops_ex rfl (guard_none rfl) rfl rfl (ex_move rfl rfl) ?_
            refine ops_ex rfl (guard_none rfl) rfl rfl (ex_nilCheck rfl rfl) ?_
            refine ops_ex rfl (guard_none rfl) rfl rfl (ex_fieldAddr (off' := f0) rfl rfl Try.underlying39 rfl tsz34 rfl) ?_
            refine ops_ex rfl (guard_none rfl) rfl rfl (ex_load1 rfl rfl Try.underlying34 rfl ((HM.at_ hc0) 0 _ rfl)) ?_
            refine ops_ex rfl (guard_none rfl) rfl rfl (ex_len (d := kInt) (xs := x0.fKeys) rfl rfl Try.underlying34 hp0_0) ?_
            refine ops_ex rfl (guard_none rfl) rfl rfl (ex_lss rfl rfl rfl) ?_
            refine ops_nil ?_
            refine at_then ?_
            refine run_cond (b := (decide (a1293 < (x0.fKeys.length : Int)))) rfl (fun hb1302 => ?_) (fun hb1302 => ?_)
            · replace ho1286 := cond_t hb1302 ho1286
              refine run_skip ?_
              refine at_then ?_
              refine run_seq ?_
              refine run_block ?_
              refine run_seq ?_
              obtain ⟨e1303, ho1286⟩ := chk_some ho1286
              obtain ⟨e1305, ho1286⟩ := chk_some ho1286
              refine run_draw (fun w_ => Mem w [] w_ []) mixed rfl rfl ?_
              replace HM := HM.grow (fr_drew _)
              have hS := Mem.suf (M := []) HM
              refine drw_take (i := 0) (l' := #[true, false, false, false, false, false, false, false, false, false, false, false, false, false, false, false]) rfl (guard_none rfl) rfl rfl (by kernel_rfl) (fun w_ hS_ => (ex_move rfl rfl)) hS ?_
              refine drw_take (i := 1) (l' := #[true, true, false, false, false, false, false, false, false, false, false, false, false, false, false, false]) rfl (guard_none rfl) rfl rfl (by kernel_rfl) (fun w_ hS_ => (ex_nilCheck rfl rfl)) hS ?_
              refine drw_take (i := 2) (l' := #[true, true, true, false, false, false, false, false, false, false, false, false, false, false, false, false]) rfl (guard_none rfl) rfl rfl (by kernel_rfl) (fun w_ hS_ => (ex_fieldAddr (off' := f0) rfl rfl Try.underlying39 rfl tsz34 rfl)) hS ?_
              refine drw_take (i := 3) (l' := #[true, true, true, true, false, false, false, false, false, false, false, false, false, false, false, false]) rfl (guard_none rfl) rfl rfl (by kernel_rfl) (fun w_ hS_ => (ex_load1 rfl rfl Try.underlying34 rfl ((hS_.at_ hc0) 0 _ rfl))) hS ?_
              refine drw_take (i := 4) (l' := #[true, true, true, true, true, false, false, false, false, false, false, false, false, false, false, false]) rfl (guard_none rfl) rfl rfl (by kernel_rfl) (fun w_ hS_ => (ex_move rfl rfl)) hS ?_
              have hc1304 : CellsAt _ (sb p0_0) (so p0_0 + (a1293).toNat * 1) [(.int .i64 (gt x0.fKeys a1293))] := rd_plain hp0_0 e1303
              refine drw_take (i := 5) (l' := #[true, true, true, true, true, true, false, false, false, false, false, false, false, false, false, false]) rfl (guard_none rfl) rfl rfl (by kernel_rfl) (fun w_ hS_ => (ex_indexAddr (d := kInt) rfl rfl rfl Try.underlying34 tsz2 hp0_0 (idx_lo e1303) (idx_hi e1303))) hS ?_
              refine drw_take (i := 6) (l' := #[true, true, true, true, true, true, true, false, false, false, false, false, false, false, false, false]) rfl (guard_none rfl) rfl rfl (by kernel_rfl) (fun w_ hS_ => (ex_load1 rfl rfl Try.underlying2 rfl ((hS_.at_ hc1304) 0 _ rfl))) hS ?_
              refine drw_take (i := 7) (l' := #[true, true, true, true, true, true, true, true, false, false, false, false, false, false, false, false]) rfl (guard_none rfl) rfl rfl (by kernel_rfl) (fun w_ hS_ => (ex_move rfl rfl)) hS ?_
              refine drw_take (i := 8) (l' := #[true, true, true, true, true, true, true, true, true, false, false, false, false, false, false, false]) rfl (guard_none rfl) rfl rfl (by kernel_rfl) (fun w_ hS_ => (ex_nilCheck rfl rfl)) hS ?_
              refine drw_take (i := 9) (l' := #[true, true, true, true, true, true, true, true, true, true, false, false, false, false, false, false]) rfl (guard_none rfl) rfl rfl (by kernel_rfl) (fun w_ hS_ => (ex_fieldAddr (off' := f0) rfl rfl Try.underlying39 rfl tsz34 rfl)) hS ?_
              refine drw_take (i := 10) (l' := #[true, true, true, true, true, true, true, true, true, true, true, false, false, false, false, false]) rfl (guard_none rfl) rfl rfl (by kernel_rfl) (fun w_ hS_ => (ex_load1 rfl rfl Try.underlying34 rfl ((hS_.at_ hc0) 0 _ rfl))) hS ?_
              refine drw_take (i := 11) (l' := #[true, true, true, true, true, true, true, true, true, true, true, true, false, false, false, false]) rfl (guard_none rfl) rfl rfl (by kernel_rfl) (fun w_ hS_ => (ex_move rfl rfl)) hS ?_
              refine drw_take (i := 12) (l' := #[true, true, true, true, true, true, true, true, true, true, true, true, true, false, false, false]) rfl (guard_none rfl) rfl rfl (by kernel_rfl) (fun w_ hS_ => (ex_sub rfl rfl rfl)) hS ?_
              have hc1306 : CellsAt _ (sb p0_0) (so p0_0 + (wrap64 (a1293 - 1)).toNat * 1) [(.int .i64 (gt x0.fKeys (wrap64 (a1293 - 1))))] := rd_plain hp0_0 e1305
              refine drw_take (i := 13) (l' := #[true, true, true, true, true, true, true, true, true, true, true, true, true, true, false, false]) rfl (guard_none rfl) rfl rfl (by kernel_rfl) (fun w_ hS_ => (ex_indexAddr (d := kInt) rfl rfl rfl Try.underlying34 tsz2 hp0_0 (idx_lo e1305) (idx_hi e1305))) hS ?_
              refine drw_take (i := 14) (l' := #[true, true, true, true, true, true, true, true, true, true, true, true, true, true, true, false]) rfl (guard_none rfl) rfl rfl (by kernel_rfl) (fun w_ hS_ => (ex_load1 rfl rfl Try.underlying2 rfl ((hS_.at_ hc1306) 0 _ rfl))) hS ?_
              refine drw_take (i := 15) (l' := #[true, true, true, true, true, true, true, true, true, true, true, true, true, true, true, true]) rfl (guard_none rfl) rfl rfl (by kernel_rfl) (fun w_ hS_ => (ex_leq rfl rfl rfl)) hS ?_
              refine drw_done (by kernel_rfl) ?_
              refine at_then ?_
              refine run_cond (b := (decide ((gt x0.fKeys a1293) ≤ (gt x0.fKeys (wrap64 (a1293 - 1)))))) rfl (fun hb1307 => ?_) (fun hb1307 => ?_)
              · replace ho1286 := cond_t hb1307 ho1286
                refine run_seq ?_
                refine run_region rfl ?_
                refine ops_ex rfl (guard_none rfl) rfl rfl (ex_assign rfl rfl) ?_
                refine ops_nil ?_
                refine at_then ?_
                refine run_ret ?_
                refine at_block_ret ?_
                refine at_then_ret ?_
                refine at_then_ret ?_
                refine at_block_ret ?_
                refine at_then_ret ?_
                have hR := Option.some.inj ho1286
                subst hR
                have hT := thn_inl H
                have hR := Option.some.inj hT
                subst hR
                exact at_ret1 rfl rfl ⟨_, rfl, rfl, HM⟩
              · replace ho1286 := cond_f hb1307 ho1286
                refine run_skip ?_
                refine at_block ?_
                refine at_then ?_
                refine run_region rfl ?_
                refine ops_ex rfl (guard_none rfl) rfl rfl (ex_move rfl rfl) ?_
                refine ops_ex rfl (guard_none rfl) rfl rfl (ex_add rfl rfl rfl) ?_
                refine ops_ex rfl (guard_none rfl) rfl rfl (ex_assign rfl rfl) ?_
                refine ops_nil ?_
                exact at_again k1300 (ρ1 := [(0, .pointer (some ⟨b0, f0, none⟩)), (5, .int .i64 (wrap64 (a1293 + 1)))]) (Nat.lt_succ_self _) ⟨_, ho1286, rfl, HM⟩ (Sub.cons rfl (Sub.cons rfl Sub.nil))
            · replace ho1286 := cond_f hb1302 ho1286
              refine run_exit ?_
              refine at_then_exit ?_
              refine at_then_exit ?_
              refine at_block_exit ?_
              exact at_mid (ρ' := []) ⟨(Option.some.inj ho1286), rfl, HM⟩ Sub.nil
          · rintro _ w1308 ⟨rfl, rfl, HM⟩
            replace H := (thn_inr H)
            refine run_seq ?_
            refine run_region rfl ?_
            refine ops_ex rfl (guard_none rfl) rfl rfl (ex_assign rfl rfl) ?_
            refine ops_nil ?_
            refine at_then ?_
            refine run_ret ?_
            have hR := Option.some.inj H
            subst hR
            exact at_ret1 rfl rfl ⟨_, rfl, rfl, HM⟩
end Go.Proofs.Ytkofpnbacgccnaa.Zk
