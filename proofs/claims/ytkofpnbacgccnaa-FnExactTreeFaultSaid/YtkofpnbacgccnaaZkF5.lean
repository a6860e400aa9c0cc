/- What functions of the program compute, each as a plain function, and that they do. Conditions: as each theorem states them. -/
import Derived.Test.YtkofpnbacgccnaaZkF4
namespace Go.Proofs.Ytkofpnbacgccnaa.Zk
open Go Go.RowKit Go.IntWalk Go.Proofs
set_option linter.unusedVariables false
set_option linter.unusedSimpArgs false
set_option maxRecDepth 100000
def spec_l4Among.l0 (x0 : List Int) (x1 : Int) : Nat → Int → Option (Bool ⊕ Unit)
  | 0, _ => none
  | k + 1, a2689 => (bif (decide (a2689 < (x0.length : Int))) then (chk (idxOk a2689 x0.length) (bif ((gt x0 a2689) == x1) then some (.inl true) else spec_l4Among.l0 x0 x1 k (wrap64 (a2689 + 1)))) else some (.inr ()))
theorem spec_l4Among.l0_z (x0 : List Int) (x1 : Int) (a2689 : Int) : spec_l4Among.l0 x0 x1 0 a2689 = none := rfl
theorem spec_l4Among.l0_s (x0 : List Int) (x1 : Int) (k : Nat) (a2689 : Int) : spec_l4Among.l0 x0 x1 (k + 1) a2689 = (bif (decide (a2689 < (x0.length : Int))) then (chk (idxOk a2689 x0.length) (bif ((gt x0 a2689) == x1) then some (.inl true) else spec_l4Among.l0 x0 x1 k (wrap64 (a2689 + 1)))) else some (.inr ())) := rfl
def spec_l4Among.f (k : Nat) (x0 : List Int) (x1 : Int) : Option Bool := ((spec_l4Among.l0 x0 x1 k 0).bind fun o2683 => thn o2683 (fun r => some r) (fun _ => some false))
theorem spec_l4Among.calls {k : Nat} {x0 : List Int} {x1 : Int} {p0 : Value} {w : World} (hp0 : RdS kInt w p0 x0) {r : Bool} (H : spec_l4Among.f k x0 x1 = some r) :
    Calls Try.prog 110 ([p0, .int .i64 x1] : List Value).toArray w (fun e w_ => ∃ v, e = .returned v ∧ v = (.bool r) ∧ Mem w [] w_ []) := by
  have HM := Mem.start w
  refine calls_run (N := 18) Try.func110 rfl rfl rfl rfl ?_
  unfold spec_l4Among.f at H
  refine run_seq ?_
  refine run_region rfl ?_
  refine ops_ex rfl (guard_none rfl) rfl rfl (ex_assign rfl rfl) ?_
  refine ops_nil ?_
  refine at_then ?_
  obtain ⟨o2683, ho2684, H⟩ := bind_some H
  refine run_mid (fun ρ_ w_ => Sum.inr () = o2683 ∧ ρ_ = [] ∧ Mem w [] w_ []) ?_ ?_
  · skip
    refine run_seq ?_
    refine run_region rfl ?_
    refine ops_ex rfl (guard_none rfl) rfl rfl (ex_assign rfl rfl) ?_
    refine ops_nil ?_
    refine at_then ?_
    refine run_block ?_
    refine run_loop (fun k_ ρ_ w_ => ∃ a2689 : Int, spec_l4Among.l0 x0 x1 k_ a2689 = some o2683 ∧ ρ_ = [(0, p0), (1, .int .i64 x1), (5, .int .i64 a2689)] ∧ Mem w [] w_ []) k (ρ1 := [(0, p0), (1, .int .i64 x1), (5, .int .i64 0)]) ⟨_, ho2684, rfl, HM⟩ (Sub.cons rfl (Sub.cons rfl (Sub.cons rfl Sub.nil))) ?_
    clear HM ho2684
    rintro k2694 _ w2695 ⟨a2689, ho2684, rfl, HM⟩
    obtain _ | k2694 := k2694
    · exact nomatch ((spec_l4Among.l0_z x0 x1 a2689).symm.trans ho2684)
    replace ho2684 := (spec_l4Among.l0_s x0 x1 k2694 a2689).symm.trans ho2684
    refine run_seq ?_
    refine run_seq ?_
    refine run_region rfl ?_
    refine ops_ex rfl (guard_none rfl) rfl rfl (ex_move rfl rfl) ?_
    refine ops_ex rfl (guard_none rfl) rfl rfl (ex_move rfl rfl) ?_
    refine ops_ex rfl (guard_none rfl) rfl rfl (ex_len (d := kInt) (xs := x0) rfl rfl Try.underlying34 hp0) ?_
    refine ops_ex rfl (guard_none rfl) rfl rfl (ex_lss rfl rfl rfl) ?_
    refine ops_nil ?_
    refine at_then ?_
    refine run_cond (b := (decide (a2689 < (x0.length : Int)))) rfl (fun hb2696 => ?_) (fun hb2696 => ?_)
    · replace ho2684 := cond_t hb2696 ho2684
      refine run_skip ?_
      refine at_then ?_
      refine run_seq ?_
      refine run_block ?_
      refine run_seq ?_
      obtain ⟨e2697, ho2684⟩ := chk_some ho2684
      refine run_region rfl ?_
      refine ops_ex rfl (guard_none rfl) rfl rfl (ex_move rfl rfl) ?_
      refine ops_ex rfl (guard_none rfl) rfl rfl (ex_move rfl rfl) ?_
      have hc2698 : CellsAt _ (sb p0) (so p0 + (a2689).toNat * 1) [(.int .i64 (gt x0 a2689))] := rd_plain hp0 e2697
      refine ops_ex rfl (guard_none rfl) rfl rfl (ex_indexAddr (d := kInt) rfl rfl rfl Try.underlying34 tsz2 hp0 (idx_lo e2697) (idx_hi e2697)) ?_
      refine ops_ex rfl (guard_none rfl) rfl rfl (ex_load1 rfl rfl Try.underlying2 rfl ((HM.at_ hc2698) 0 _ rfl)) ?_
      refine ops_ex rfl (guard_none rfl) rfl rfl (ex_move rfl rfl) ?_
      refine ops_ex rfl (guard_none rfl) rfl rfl (ex_eql rfl rfl rfl) ?_
      refine ops_nil ?_
      refine at_then ?_
      refine run_cond (b := ((gt x0 a2689) == x1)) rfl (fun hb2699 => ?_) (fun hb2699 => ?_)
      · replace ho2684 := cond_t hb2699 ho2684
        refine run_seq ?_
        refine run_region rfl ?_
        refine ops_ex rfl (guard_none rfl) rfl rfl (ex_assign rfl rfl) ?_
        refine ops_nil ?_
        refine at_then ?_
        refine run_ret ?_
        refine at_block_ret ?_
        refine at_then_ret ?_
        refine at_then_ret ?_
        refine at_block_ret ?_
        refine at_then_ret ?_
        have hR := Option.some.inj ho2684
        subst hR
        have hT := thn_inl H
        have hR := Option.some.inj hT
        subst hR
        exact at_ret1 rfl rfl ⟨_, rfl, rfl, HM⟩
      · replace ho2684 := cond_f hb2699 ho2684
        refine run_skip ?_
        refine at_block ?_
        refine at_then ?_
        refine run_region rfl ?_
        refine ops_ex rfl (guard_none rfl) rfl rfl (ex_move rfl rfl) ?_
        refine ops_ex rfl (guard_none rfl) rfl rfl (ex_add rfl rfl rfl) ?_
        refine ops_ex rfl (guard_none rfl) rfl rfl (ex_assign rfl rfl) ?_
        refine ops_nil ?_
        exact at_again k2694 (ρ1 := [(0, p0), (1, .int .i64 x1), (5, .int .i64 (wrap64 (a2689 + 1)))]) (Nat.lt_succ_self _) ⟨_, ho2684, rfl, HM⟩ (Sub.cons rfl (Sub.cons rfl (Sub.cons rfl Sub.nil)))
    · replace ho2684 := cond_f hb2696 ho2684
      refine run_exit ?_
      refine at_then_exit ?_
      refine at_then_exit ?_
      refine at_block_exit ?_
      exact at_mid (ρ' := []) ⟨(Option.some.inj ho2684), rfl, HM⟩ Sub.nil
  · rintro _ w2700 ⟨rfl, rfl, HM⟩
    replace H := (thn_inr H)
    refine run_seq ?_
    refine run_region rfl ?_
    refine ops_ex rfl (guard_none rfl) rfl rfl (ex_assign rfl rfl) ?_
    refine ops_nil ?_
    refine at_then ?_
    refine run_ret ?_
    have hR := Option.some.inj H
    subst hR
    exact at_ret1 rfl rfl ⟨_, rfl, rfl, HM⟩

def spec_l7Fault.l0 (x0 : Block) : Nat → Int → Option (Int ⊕ Unit)
  | 0, _ => none
  | k + 1, a2857 => (bif (decide (a2857 < (x0.fTxs.length : Int))) then (chk (idxOk a2857 x0.fTxs.length) ((spec_l1In.f k (gt x0.fTxs a2857) 1 60).bind fun t2888 => (bif !t2888 then some (.inl 3) else (chk (cutOk a2857 x0.fTxs.length) (chk (idxOk a2857 x0.fTxs.length) ((spec_l4Among.f k (x0.fTxs.take (a2857).toNat) (gt x0.fTxs a2857)).bind fun t2898 => (bif t2898 then some (.inl 7) else spec_l7Fault.l0 x0 k (wrap64 (a2857 + 1))))))))) else some (.inr ()))
theorem spec_l7Fault.l0_z (x0 : Block) (a2857 : Int) : spec_l7Fault.l0 x0 0 a2857 = none := rfl
theorem spec_l7Fault.l0_s (x0 : Block) (k : Nat) (a2857 : Int) : spec_l7Fault.l0 x0 (k + 1) a2857 = (bif (decide (a2857 < (x0.fTxs.length : Int))) then (chk (idxOk a2857 x0.fTxs.length) ((spec_l1In.f k (gt x0.fTxs a2857) 1 60).bind fun t2888 => (bif !t2888 then some (.inl 3) else (chk (cutOk a2857 x0.fTxs.length) (chk (idxOk a2857 x0.fTxs.length) ((spec_l4Among.f k (x0.fTxs.take (a2857).toNat) (gt x0.fTxs a2857)).bind fun t2898 => (bif t2898 then some (.inl 7) else spec_l7Fault.l0 x0 k (wrap64 (a2857 + 1))))))))) else some (.inr ())) := rfl
def spec_l7Fault.f (k : Nat) (x0 : Block) : Option Int := ((spec_l1In.f k x0.fPrev 0 60).bind fun t2754 => ((bif (!(!t2754)) then spec_l1In.f k x0.fHeight 1 40 else some default).bind fun t2756 => ((bif (!((!t2754) || (!t2756))) then spec_l1Key.f k x0.fMiner else some default).bind fun t2758 => (bif (((!t2754) || (!t2756)) || (!t2758)) then some 3 else (bif ((x0.fPrev == 0) != (x0.fHeight == 1)) then some 1 else (bif (decide (6 < (x0.fTxs.length : Int))) then some 2 else ((spec_l7Fault.l0 x0 k 0).bind fun o2835 => thn o2835 (fun r => some r) (fun _ => some 0))))))))
theorem spec_l7Fault.calls {k : Nat} {x0 : Block} {b0 f0 : Nat} {p0_0 : Value} {w : World} (hc0 : CellsAt w b0 f0 [.int .i64 x0.fPrev, .int .i64 x0.fHeight, .int .i64 x0.fMiner, p0_0]) (hp0_0 : RdS kInt w p0_0 x0.fTxs) {r : Int} (H : spec_l7Fault.f k x0 = some r) :
    Calls Try.prog 78 ([.pointer (some ⟨b0, f0, none⟩)] : List Value).toArray w (fun e w_ => ∃ v, e = .returned v ∧ v = (.int .i64 r) ∧ Mem w [] w_ []) := by
  have HM := Mem.start w
  refine calls_run (N := 75) Try.func78 rfl rfl rfl rfl ?_
  unfold spec_l7Fault.f at H
  refine run_seq ?_
  refine run_region rfl ?_
  refine ops_ex rfl (guard_none rfl) rfl rfl (ex_assign rfl rfl) ?_
  refine ops_nil ?_
  refine at_then ?_
  refine run_seq ?_
  refine run_seq ?_
  obtain ⟨t2754, h2755, H⟩ := bind_some H
  obtain ⟨t2756, h2757, H⟩ := bind_some H
  obtain ⟨t2758, h2759, H⟩ := bind_some H
  refine run_meet (fun ρ_ w_ => ρ_ = [(0, .pointer (some ⟨b0, f0, none⟩)), (25, .bool (((!t2754) || (!t2756)) || (!t2758)))] ∧ Mem w [] w_ []) ?_ ?_
  · skip
    refine run_region rfl ?_
    refine ops_ex rfl (guard_none rfl) rfl rfl (ex_move rfl rfl) ?_
    refine ops_ex rfl (guard_none rfl) rfl rfl (ex_nilCheck rfl rfl) ?_
    refine ops_ex rfl (guard_none rfl) rfl rfl (ex_fieldAddr (off' := f0) rfl rfl Try.underlying50 rfl tsz2 rfl) ?_
    refine ops_ex rfl (guard_none rfl) rfl rfl (ex_load1 rfl rfl Try.underlying2 rfl ((HM.at_ hc0) 0 _ rfl)) ?_
    refine ops_does rfl (guard_none rfl) rfl rfl (does_callk rfl callok56 rfl (spec_l1In.calls (x0 := x0.fPrev) (x1 := 0) (x2 := 60) h2755)) ?_
    rintro _ w2760 ⟨rfl, hn⟩
    replace HM : Mem w [] w2760 [] := HM.call hn
    refine ops_ex rfl (guard_none rfl) rfl rfl (ex_not rfl rfl) ?_
    refine ops_ex rfl (guard_none rfl) rfl rfl (ex_move rfl rfl) ?_
    refine bool_cases (!t2754) (fun hg2761 => ?_) (fun hg2761 => ?_)
    · skip
      refine ops_off rfl (guard_off rfl rfl rfl hg2761) rfl rfl ?_
      refine ops_off rfl (guard_off rfl rfl rfl hg2761) rfl rfl ?_
      refine ops_off rfl (guard_off rfl rfl rfl hg2761) rfl rfl ?_
      refine ops_off rfl (guard_off rfl rfl rfl hg2761) rfl rfl ?_
      refine ops_off rfl (guard_off rfl rfl rfl hg2761) rfl rfl ?_
      refine ops_off rfl (guard_off rfl rfl rfl hg2761) rfl rfl ?_
      have hg2762 : ((!t2754) || (!t2756)) = true := by simp only [hg2761, Bool.and_true, Bool.true_and, Bool.and_false, Bool.false_and, Bool.or_true, Bool.true_or, Bool.or_false, Bool.false_or, Bool.not_true, Bool.not_false, Bool.not_not]
      refine ops_ex (v := .bool ((!t2754) || (!t2756))) rfl (guard_none rfl) rfl rfl (ex_por_t rfl rfl hg2761) ?_
      refine ops_ex rfl (guard_none rfl) rfl rfl (ex_move rfl rfl) ?_
      refine ops_off rfl (guard_off rfl rfl rfl hg2762) rfl rfl ?_
      refine ops_off rfl (guard_off rfl rfl rfl hg2762) rfl rfl ?_
      refine ops_off rfl (guard_off rfl rfl rfl hg2762) rfl rfl ?_
      refine ops_off rfl (guard_off rfl rfl rfl hg2762) rfl rfl ?_
      refine ops_off rfl (guard_off rfl rfl rfl hg2762) rfl rfl ?_
      refine ops_off rfl (guard_off rfl rfl rfl hg2762) rfl rfl ?_
      have hg2763 : (((!t2754) || (!t2756)) || (!t2758)) = true := by simp only [hg2762, Bool.and_true, Bool.true_and, Bool.and_false, Bool.false_and, Bool.or_true, Bool.true_or, Bool.or_false, Bool.false_or, Bool.not_true, Bool.not_false, Bool.not_not]
      refine ops_ex (v := .bool (((!t2754) || (!t2756)) || (!t2758))) rfl (guard_none rfl) rfl rfl (ex_por_t rfl rfl hg2762) ?_
      refine ops_nil ?_
      exact at_meet [(0, .pointer (some ⟨b0, f0, none⟩)), (25, .bool (((!t2754) || (!t2756)) || (!t2758)))] ⟨rfl, HM⟩ (Sub.cons rfl (Sub.cons rfl Sub.nil))
    · skip
      refine ops_ex rfl (guard_on rfl rfl rfl hg2761) rfl rfl (ex_move rfl rfl) ?_
      refine ops_ex rfl (guard_on rfl rfl rfl hg2761) rfl rfl (ex_nilCheck rfl rfl) ?_
      refine ops_ex rfl (guard_on rfl rfl rfl hg2761) rfl rfl (ex_fieldAddr (off' := f0 + 1) rfl rfl Try.underlying50 rfl tsz2 rfl) ?_
      refine ops_ex rfl (guard_on rfl rfl rfl hg2761) rfl rfl (ex_load1 rfl rfl Try.underlying2 rfl ((HM.at_ hc0) 1 _ rfl)) ?_
      refine ops_does rfl (guard_on rfl rfl rfl hg2761) rfl rfl (does_callk rfl callok56 rfl (spec_l1In.calls (x0 := x0.fHeight) (x1 := 1) (x2 := 40) (cond_t (not_mk hg2761) h2757))) ?_
      rintro _ w2764 ⟨rfl, hn⟩
      replace HM : Mem w [] w2764 [] := HM.call hn
      refine ops_ex rfl (guard_on rfl rfl rfl hg2761) rfl rfl (ex_not rfl rfl) ?_
      refine ops_ex (v := .bool ((!t2754) || (!t2756))) rfl (guard_none rfl) rfl rfl (ex_por_f rfl rfl hg2761 rfl) ?_
      refine ops_ex rfl (guard_none rfl) rfl rfl (ex_move rfl rfl) ?_
      refine bool_cases ((!t2754) || (!t2756)) (fun hg2765 => ?_) (fun hg2765 => ?_)
      · skip
        refine ops_off rfl (guard_off rfl rfl rfl hg2765) rfl rfl ?_
        refine ops_off rfl (guard_off rfl rfl rfl hg2765) rfl rfl ?_
        refine ops_off rfl (guard_off rfl rfl rfl hg2765) rfl rfl ?_
        refine ops_off rfl (guard_off rfl rfl rfl hg2765) rfl rfl ?_
        refine ops_off rfl (guard_off rfl rfl rfl hg2765) rfl rfl ?_
        refine ops_off rfl (guard_off rfl rfl rfl hg2765) rfl rfl ?_
        have hg2766 : (((!t2754) || (!t2756)) || (!t2758)) = true := by simp only [hg2765, Bool.and_true, Bool.true_and, Bool.and_false, Bool.false_and, Bool.or_true, Bool.true_or, Bool.or_false, Bool.false_or, Bool.not_true, Bool.not_false, Bool.not_not]
        refine ops_ex (v := .bool (((!t2754) || (!t2756)) || (!t2758))) rfl (guard_none rfl) rfl rfl (ex_por_t rfl rfl hg2765) ?_
        refine ops_nil ?_
        exact at_meet [(0, .pointer (some ⟨b0, f0, none⟩)), (25, .bool (((!t2754) || (!t2756)) || (!t2758)))] ⟨rfl, HM⟩ (Sub.cons rfl (Sub.cons rfl Sub.nil))
      · skip
        refine ops_ex rfl (guard_on rfl rfl rfl hg2765) rfl rfl (ex_move rfl rfl) ?_
        refine ops_ex rfl (guard_on rfl rfl rfl hg2765) rfl rfl (ex_nilCheck rfl rfl) ?_
        refine ops_ex rfl (guard_on rfl rfl rfl hg2765) rfl rfl (ex_fieldAddr (off' := f0 + 2) rfl rfl Try.underlying50 rfl tsz2 rfl) ?_
        refine ops_ex rfl (guard_on rfl rfl rfl hg2765) rfl rfl (ex_load1 rfl rfl Try.underlying2 rfl ((HM.at_ hc0) 2 _ rfl)) ?_
        refine ops_does rfl (guard_on rfl rfl rfl hg2765) rfl rfl (does_callk rfl callok105 rfl (spec_l1Key.calls (x0 := x0.fMiner) (cond_t (not_mk hg2765) h2759))) ?_
        rintro _ w2767 ⟨rfl, hn⟩
        replace HM : Mem w [] w2767 [] := HM.call hn
        refine ops_ex rfl (guard_on rfl rfl rfl hg2765) rfl rfl (ex_not rfl rfl) ?_
        refine ops_ex (v := .bool (((!t2754) || (!t2756)) || (!t2758))) rfl (guard_none rfl) rfl rfl (ex_por_f rfl rfl hg2765 rfl) ?_
        refine ops_nil ?_
        exact at_meet [(0, .pointer (some ⟨b0, f0, none⟩)), (25, .bool (((!t2754) || (!t2756)) || (!t2758)))] ⟨rfl, HM⟩ (Sub.cons rfl (Sub.cons rfl Sub.nil))
  · rintro _ w2768 ⟨rfl, HM⟩
    refine at_then ?_
    refine run_cond (b := (((!t2754) || (!t2756)) || (!t2758))) rfl (fun hb2769 => ?_) (fun hb2769 => ?_)
    · replace H := cond_t hb2769 H
      refine run_seq ?_
      refine run_region rfl ?_
      refine ops_ex rfl (guard_none rfl) rfl rfl (ex_assign rfl rfl) ?_
      refine ops_nil ?_
      refine at_then ?_
      refine run_ret ?_
      refine at_then_ret ?_
      have hR := Option.some.inj H
      subst hR
      exact at_ret1 rfl rfl ⟨_, rfl, rfl, HM⟩
    · replace H := cond_f hb2769 H
      refine run_skip ?_
      refine at_then ?_
      refine run_seq ?_
      refine run_seq ?_
      refine run_draw (fun w_ => Mem w [] w_ []) mixed rfl rfl ?_
      replace HM := HM.grow (fr_drew _)
      have hS := Mem.suf (M := []) HM
      refine drw_take (i := 0) (l' := #[true, false, false, false, false, false, false, false, false, false, false]) rfl (guard_none rfl) rfl rfl (by kernel_rfl) (fun w_ hS_ => (ex_move rfl rfl)) hS ?_
      refine drw_take (i := 1) (l' := #[true, true, false, false, false, false, false, false, false, false, false]) rfl (guard_none rfl) rfl rfl (by kernel_rfl) (fun w_ hS_ => (ex_nilCheck rfl rfl)) hS ?_
      refine drw_take (i := 2) (l' := #[true, true, true, false, false, false, false, false, false, false, false]) rfl (guard_none rfl) rfl rfl (by kernel_rfl) (fun w_ hS_ => (ex_fieldAddr (off' := f0) rfl rfl Try.underlying50 rfl tsz2 rfl)) hS ?_
      refine drw_take (i := 3) (l' := #[true, true, true, true, false, false, false, false, false, false, false]) rfl (guard_none rfl) rfl rfl (by kernel_rfl) (fun w_ hS_ => (ex_load1 rfl rfl Try.underlying2 rfl ((hS_.at_ hc0) 0 _ rfl))) hS ?_
      refine drw_take (i := 4) (l' := #[true, true, true, true, true, false, false, false, false, false, false]) rfl (guard_none rfl) rfl rfl (by kernel_rfl) (fun w_ hS_ => (ex_eql rfl rfl rfl)) hS ?_
      refine drw_take (i := 5) (l' := #[true, true, true, true, true, true, false, false, false, false, false]) rfl (guard_none rfl) rfl rfl (by kernel_rfl) (fun w_ hS_ => (ex_move rfl rfl)) hS ?_
      refine drw_take (i := 6) (l' := #[true, true, true, true, true, true, true, false, false, false, false]) rfl (guard_none rfl) rfl rfl (by kernel_rfl) (fun w_ hS_ => (ex_nilCheck rfl rfl)) hS ?_
      refine drw_take (i := 7) (l' := #[true, true, true, true, true, true, true, true, false, false, false]) rfl (guard_none rfl) rfl rfl (by kernel_rfl) (fun w_ hS_ => (ex_fieldAddr (off' := f0 + 1) rfl rfl Try.underlying50 rfl tsz2 rfl)) hS ?_
      refine drw_take (i := 8) (l' := #[true, true, true, true, true, true, true, true, true, false, false]) rfl (guard_none rfl) rfl rfl (by kernel_rfl) (fun w_ hS_ => (ex_load1 rfl rfl Try.underlying2 rfl ((hS_.at_ hc0) 1 _ rfl))) hS ?_
      refine drw_take (i := 9) (l' := #[true, true, true, true, true, true, true, true, true, true, false]) rfl (guard_none rfl) rfl rfl (by kernel_rfl) (fun w_ hS_ => (ex_eql rfl rfl rfl)) hS ?_
      refine drw_take (i := 10) (l' := #[true, true, true, true, true, true, true, true, true, true, true]) rfl (guard_none rfl) rfl rfl (by kernel_rfl) (fun w_ hS_ => (ex_bneq rfl rfl rfl Try.underlying4)) hS ?_
      refine drw_done (by kernel_rfl) ?_
      refine at_then ?_
      refine run_cond (b := ((x0.fPrev == 0) != (x0.fHeight == 1))) rfl (fun hb2771 => ?_) (fun hb2771 => ?_)
      · replace H := cond_t hb2771 H
        refine run_seq ?_
        refine run_region rfl ?_
        refine ops_ex rfl (guard_none rfl) rfl rfl (ex_assign rfl rfl) ?_
        refine ops_nil ?_
        refine at_then ?_
        refine run_ret ?_
        refine at_then_ret ?_
        have hR := Option.some.inj H
        subst hR
        exact at_ret1 rfl rfl ⟨_, rfl, rfl, HM⟩
      · replace H := cond_f hb2771 H
        refine run_skip ?_
        refine at_then ?_
        refine run_seq ?_
        refine run_seq ?_
        refine run_region rfl ?_
        refine ops_ex rfl (guard_none rfl) rfl rfl (ex_move rfl rfl) ?_
        refine ops_ex rfl (guard_none rfl) rfl rfl (ex_nilCheck rfl rfl) ?_
        refine ops_ex rfl (guard_none rfl) rfl rfl (ex_fieldAddr (off' := f0 + 3) rfl rfl Try.underlying50 rfl tsz34 rfl) ?_
        refine ops_ex rfl (guard_none rfl) rfl rfl (ex_load1 rfl rfl Try.underlying34 rfl ((HM.at_ hc0) 3 _ rfl)) ?_
        refine ops_ex rfl (guard_none rfl) rfl rfl (ex_len (d := kInt) (xs := x0.fTxs) rfl rfl Try.underlying34 hp0_0) ?_
        refine ops_ex rfl (guard_none rfl) rfl rfl (ex_gtr rfl rfl rfl) ?_
        refine ops_nil ?_
        refine at_then ?_
        refine run_cond (b := (decide (6 < (x0.fTxs.length : Int)))) rfl (fun hb2773 => ?_) (fun hb2773 => ?_)
        · replace H := cond_t hb2773 H
          refine run_seq ?_
          refine run_region rfl ?_
          refine ops_ex rfl (guard_none rfl) rfl rfl (ex_assign rfl rfl) ?_
          refine ops_nil ?_
          refine at_then ?_
          refine run_ret ?_
          refine at_then_ret ?_
          have hR := Option.some.inj H
          subst hR
          exact at_ret1 rfl rfl ⟨_, rfl, rfl, HM⟩
        · replace H := cond_f hb2773 H
          refine run_skip ?_
          refine at_then ?_
          obtain ⟨o2835, ho2836, H⟩ := bind_some H
          refine run_mid (fun ρ_ w_ => Sum.inr () = o2835 ∧ ρ_ = [] ∧ Mem w [] w_ []) ?_ ?_
          · skip
            refine run_seq ?_
            refine run_region rfl ?_
            refine ops_ex rfl (guard_none rfl) rfl rfl (ex_assign rfl rfl) ?_
            refine ops_nil ?_
            refine at_then ?_
            refine run_block ?_
            refine run_loop (fun k_ ρ_ w_ => ∃ a2857 : Int, spec_l7Fault.l0 x0 k_ a2857 = some o2835 ∧ ρ_ = [(0, .pointer (some ⟨b0, f0, none⟩)), (3, .int .i64 a2857)] ∧ Mem w [] w_ []) k (ρ1 := [(0, .pointer (some ⟨b0, f0, none⟩)), (3, .int .i64 0)]) ⟨_, ho2836, rfl, HM⟩ (Sub.cons rfl (Sub.cons rfl Sub.nil)) ?_
            clear HM ho2836
            rintro k2878 _ w2879 ⟨a2857, ho2836, rfl, HM⟩
            obtain _ | k2878 := k2878
            · exact nomatch ((spec_l7Fault.l0_z x0 a2857).symm.trans ho2836)
            replace ho2836 := (spec_l7Fault.l0_s x0 k2878 a2857).symm.trans ho2836
            refine run_seq ?_
            refine run_seq ?_
            refine run_region rfl ?_
            refine ops_ex rfl (guard_none rfl) rfl rfl (ex_move rfl rfl) ?_
            refine ops_ex rfl (guard_none rfl) rfl rfl (ex_move rfl rfl) ?_
            refine ops_ex rfl (guard_none rfl) rfl rfl (ex_nilCheck rfl rfl) ?_
            refine ops_ex rfl (guard_none rfl) rfl rfl (ex_fieldAddr (off' := f0 + 3) rfl rfl Try.underlying50 rfl tsz34 rfl) ?_
            refine ops_ex rfl (guard_none rfl) rfl rfl (ex_load1 rfl rfl Try.underlying34 rfl ((HM.at_ hc0) 3 _ rfl)) ?_
            refine ops_ex rfl (guard_none rfl) rfl rfl (ex_len (d := kInt) (xs := x0.fTxs) rfl rfl Try.underlying34 hp0_0) ?_
            refine ops_ex rfl (guard_none rfl) rfl rfl (ex_lss rfl rfl rfl) ?_
            refine ops_nil ?_
            refine at_then ?_
            refine run_cond (b := (decide (a2857 < (x0.fTxs.length : Int)))) rfl (fun hb2880 => ?_) (fun hb2880 => ?_)
            · replace ho2836 := cond_t hb2880 ho2836
              refine run_skip ?_
              refine at_then ?_
              refine run_seq ?_
              refine run_block ?_
              refine run_seq ?_
              refine run_seq ?_
              obtain ⟨e2886, ho2836⟩ := chk_some ho2836
              obtain ⟨t2888, h2889, ho2836⟩ := bind_some ho2836
              refine run_region rfl ?_
              refine ops_ex rfl (guard_none rfl) rfl rfl (ex_move rfl rfl) ?_
              refine ops_ex rfl (guard_none rfl) rfl rfl (ex_nilCheck rfl rfl) ?_
              refine ops_ex rfl (guard_none rfl) rfl rfl (ex_fieldAddr (off' := f0 + 3) rfl rfl Try.underlying50 rfl tsz34 rfl) ?_
              refine ops_ex rfl (guard_none rfl) rfl rfl (ex_load1 rfl rfl Try.underlying34 rfl ((HM.at_ hc0) 3 _ rfl)) ?_
              refine ops_ex rfl (guard_none rfl) rfl rfl (ex_move rfl rfl) ?_
              have hc2887 : CellsAt _ (sb p0_0) (so p0_0 + (a2857).toNat * 1) [(.int .i64 (gt x0.fTxs a2857))] := rd_plain hp0_0 e2886
              refine ops_ex rfl (guard_none rfl) rfl rfl (ex_indexAddr (d := kInt) rfl rfl rfl Try.underlying34 tsz2 hp0_0 (idx_lo e2886) (idx_hi e2886)) ?_
              refine ops_ex rfl (guard_none rfl) rfl rfl (ex_load1 rfl rfl Try.underlying2 rfl ((HM.at_ hc2887) 0 _ rfl)) ?_
              refine ops_does rfl (guard_none rfl) rfl rfl (does_callk rfl callok56 rfl (spec_l1In.calls (x0 := (gt x0.fTxs a2857)) (x1 := 1) (x2 := 60) h2889)) ?_
              rintro _ w2890 ⟨rfl, hn⟩
              replace HM : Mem w [] w2890 [] := HM.call hn
              refine ops_ex rfl (guard_none rfl) rfl rfl (ex_not rfl rfl) ?_
              refine ops_nil ?_
              refine at_then ?_
              refine run_cond (b := !t2888) rfl (fun hb2891 => ?_) (fun hb2891 => ?_)
              · replace ho2836 := cond_t hb2891 ho2836
                refine run_seq ?_
                refine run_region rfl ?_
                refine ops_ex rfl (guard_none rfl) rfl rfl (ex_assign rfl rfl) ?_
                refine ops_nil ?_
                refine at_then ?_
                refine run_ret ?_
                refine at_then_ret ?_
                refine at_block_ret ?_
                refine at_then_ret ?_
                refine at_then_ret ?_
                refine at_block_ret ?_
                refine at_then_ret ?_
                have hR := Option.some.inj ho2836
                subst hR
                have hT := thn_inl H
                have hR := Option.some.inj hT
                subst hR
                exact at_ret1 rfl rfl ⟨_, rfl, rfl, HM⟩
              · replace ho2836 := cond_f hb2891 ho2836
                refine run_skip ?_
                refine at_then ?_
                refine run_seq ?_
                obtain ⟨e2892, ho2836⟩ := chk_some ho2836
                obtain ⟨e2896, ho2836⟩ := chk_some ho2836
                obtain ⟨t2898, h2899, ho2836⟩ := bind_some ho2836
                refine run_draw (fun w_ => Mem w [] w_ []) mixed rfl rfl ?_
                replace HM := HM.grow (fr_drew _)
                have hS := Mem.suf (M := []) HM
                refine drw_take (i := 0) (l' := #[true, false, false, false, false, false, false, false, false, false, false, false, false, false]) rfl (guard_none rfl) rfl rfl (by kernel_rfl) (fun w_ hS_ => (ex_move rfl rfl)) hS ?_
                refine drw_take (i := 1) (l' := #[true, true, false, false, false, false, false, false, false, false, false, false, false, false]) rfl (guard_none rfl) rfl rfl (by kernel_rfl) (fun w_ hS_ => (ex_nilCheck rfl rfl)) hS ?_
                refine drw_take (i := 2) (l' := #[true, true, true, false, false, false, false, false, false, false, false, false, false, false]) rfl (guard_none rfl) rfl rfl (by kernel_rfl) (fun w_ hS_ => (ex_fieldAddr (off' := f0 + 3) rfl rfl Try.underlying50 rfl tsz34 rfl)) hS ?_
                refine drw_take (i := 3) (l' := #[true, true, true, true, false, false, false, false, false, false, false, false, false, false]) rfl (guard_none rfl) rfl rfl (by kernel_rfl) (fun w_ hS_ => (ex_load1 rfl rfl Try.underlying34 rfl ((hS_.at_ hc0) 3 _ rfl))) hS ?_
                refine drw_take (i := 4) (l' := #[true, true, true, true, true, false, false, false, false, false, false, false, false, false]) rfl (guard_none rfl) rfl rfl (by kernel_rfl) (fun w_ hS_ => (ex_move rfl rfl)) hS ?_
                refine drw_takeE (i := 5) (l' := #[true, true, true, true, true, true, false, false, false, false, false, false, false, false]) rfl (guard_none rfl) rfl rfl (by kernel_rfl) (ex_cutH kInt rfl rfl rfl Try.underlying34 tsz2 hp0_0 e2892) hS ?_
                intro u2893 hr2895
                refine drw_take (i := 6) (l' := #[true, true, true, true, true, true, true, false, false, false, false, false, false, false]) rfl (guard_none rfl) rfl rfl (by kernel_rfl) (fun w_ hS_ => (ex_move rfl rfl)) hS ?_
                refine drw_take (i := 7) (l' := #[true, true, true, true, true, true, true, true, false, false, false, false, false, false]) rfl (guard_none rfl) rfl rfl (by kernel_rfl) (fun w_ hS_ => (ex_nilCheck rfl rfl)) hS ?_
                refine drw_take (i := 8) (l' := #[true, true, true, true, true, true, true, true, true, false, false, false, false, false]) rfl (guard_none rfl) rfl rfl (by kernel_rfl) (fun w_ hS_ => (ex_fieldAddr (off' := f0 + 3) rfl rfl Try.underlying50 rfl tsz34 rfl)) hS ?_
                refine drw_take (i := 9) (l' := #[true, true, true, true, true, true, true, true, true, true, false, false, false, false]) rfl (guard_none rfl) rfl rfl (by kernel_rfl) (fun w_ hS_ => (ex_load1 rfl rfl Try.underlying34 rfl ((hS_.at_ hc0) 3 _ rfl))) hS ?_
                refine drw_take (i := 10) (l' := #[true, true, true, true, true, true, true, true, true, true, true, false, false, false]) rfl (guard_none rfl) rfl rfl (by kernel_rfl) (fun w_ hS_ => (ex_move rfl rfl)) hS ?_
                have hc2897 : CellsAt _ (sb p0_0) (so p0_0 + (a2857).toNat * 1) [(.int .i64 (gt x0.fTxs a2857))] := rd_plain hp0_0 e2896
                refine drw_take (i := 11) (l' := #[true, true, true, true, true, true, true, true, true, true, true, true, false, false]) rfl (guard_none rfl) rfl rfl (by kernel_rfl) (fun w_ hS_ => (ex_indexAddr (d := kInt) rfl rfl rfl Try.underlying34 tsz2 hp0_0 (idx_lo e2896) (idx_hi e2896))) hS ?_
                refine drw_take (i := 12) (l' := #[true, true, true, true, true, true, true, true, true, true, true, true, true, false]) rfl (guard_none rfl) rfl rfl (by kernel_rfl) (fun w_ hS_ => (ex_load1 rfl rfl Try.underlying2 rfl ((hS_.at_ hc2897) 0 _ rfl))) hS ?_
                refine drw_one (i := 13) (l' := #[true, true, true, true, true, true, true, true, true, true, true, true, true, true]) rfl (guard_none rfl) rfl rfl (by kernel_rfl) (does_callk rfl callok110 rfl (spec_l4Among.calls (x0 := x0.fTxs.take (a2857).toNat) (x1 := (gt x0.fTxs a2857)) (HM.rd hr2895) h2899)) ?_
                rintro _ w2900 ⟨rfl, hn⟩
                replace HM : Mem w [] w2900 [] := HM.call hn
                refine ⟨Mem.suf (M := []) HM, ?_⟩
                have hS := Mem.suf (M := []) HM
                refine drw_done (by kernel_rfl) ?_
                refine at_then ?_
                refine run_cond (b := t2898) rfl (fun hb2901 => ?_) (fun hb2901 => ?_)
                · replace ho2836 := cond_t hb2901 ho2836
                  refine run_seq ?_
                  refine run_region rfl ?_
                  refine ops_ex rfl (guard_none rfl) rfl rfl (ex_assign rfl rfl) ?_
                  refine ops_nil ?_
                  refine at_then ?_
                  refine run_ret ?_
                  refine at_block_ret ?_
                  refine at_then_ret ?_
                  refine at_then_ret ?_
                  refine at_block_ret ?_
                  refine at_then_ret ?_
                  have hR := Option.some.inj ho2836
                  subst hR
                  have hT := thn_inl H
                  have hR := Option.some.inj hT
                  subst hR
                  exact at_ret1 rfl rfl ⟨_, rfl, rfl, HM⟩
                · replace ho2836 := cond_f hb2901 ho2836
                  refine run_skip ?_
                  refine at_block ?_
                  refine at_then ?_
                  refine run_region rfl ?_
                  refine ops_ex rfl (guard_none rfl) rfl rfl (ex_move rfl rfl) ?_
                  refine ops_ex rfl (guard_none rfl) rfl rfl (ex_add rfl rfl rfl) ?_
                  refine ops_ex rfl (guard_none rfl) rfl rfl (ex_assign rfl rfl) ?_
                  refine ops_nil ?_
                  exact at_again k2878 (ρ1 := [(0, .pointer (some ⟨b0, f0, none⟩)), (3, .int .i64 (wrap64 (a2857 + 1)))]) (Nat.lt_succ_self _) ⟨_, ho2836, rfl, HM⟩ (Sub.cons rfl (Sub.cons rfl Sub.nil))
            · replace ho2836 := cond_f hb2880 ho2836
              refine run_exit ?_
              refine at_then_exit ?_
              refine at_then_exit ?_
              refine at_block_exit ?_
              exact at_mid (ρ' := []) ⟨(Option.some.inj ho2836), rfl, HM⟩ Sub.nil
          · rintro _ w2902 ⟨rfl, rfl, HM⟩
            replace H := (thn_inr H)
            refine run_seq ?_
            refine run_region rfl ?_
            refine ops_ex rfl (guard_none rfl) rfl rfl (ex_assign rfl rfl) ?_
            refine ops_nil ?_
            refine at_then ?_
            refine run_ret ?_
            have hR := Option.some.inj H
            subst hR
            exact at_ret1 rfl rfl ⟨_, rfl, rfl, HM⟩

def spec_BlockFault.f (k : Nat) (x0 : Block) : Option Int := ((spec_l7Fault.f k x0).bind fun t2909 => some t2909)
theorem spec_BlockFault.calls {k : Nat} {x0 : Block} {p0_0 : Value} {w : World} (hp0_0 : RdS kInt w p0_0 x0.fTxs) {r : Int} (H : spec_BlockFault.f k x0 = some r) :
    Calls Try.prog 35 ([.agg #[(.int .i64 x0.fPrev), (.int .i64 x0.fHeight), (.int .i64 x0.fMiner), p0_0]] : List Value).toArray w (fun e w_ => ∃ v, e = .returned v ∧ v = (.int .i64 r) ∧ Mem w [] w_ []) := by
  have HM := Mem.start w
  refine calls_run (N := 4) Try.func35 rfl rfl rfl rfl ?_
  unfold spec_BlockFault.f at H
  refine run_seq ?_
  refine run_region rfl ?_
  refine ops_does rfl (guard_none rfl) rfl rfl (does_box (cs := [.int .i64 x0.fPrev, .int .i64 x0.fHeight, .int .i64 x0.fMiner, p0_0]) rfl rfl rfl HM) ?_
  rintro _ w2908 ⟨b2905, rfl, HM⟩
  refine ops_ex rfl (guard_none rfl) rfl rfl (ex_assign rfl rfl) ?_
  refine ops_nil ?_
  refine at_then ?_
  refine run_seq ?_
  obtain ⟨t2909, h2910, H⟩ := bind_some H
  refine run_region rfl ?_
  refine ops_does rfl (guard_none rfl) rfl rfl (does_callk rfl callok78 rfl (spec_l7Fault.calls (x0 := x0) (HM.box_at 0 rfl) (HM.rd hp0_0) h2910)) ?_
  rintro _ w2911 ⟨rfl, hn⟩
  replace HM : Mem w [] w2911 [box b2905 50 [.int .i64 x0.fPrev, .int .i64 x0.fHeight, .int .i64 x0.fMiner, p0_0]] := HM.call hn
  refine ops_ex rfl (guard_none rfl) rfl rfl (ex_assign rfl rfl) ?_
  refine ops_nil ?_
  refine at_then ?_
  refine run_ret ?_
  replace HM := (HM.front 0 rfl rfl).drop
  have hR := Option.some.inj H
  subst hR
  exact at_ret1 rfl rfl ⟨_, rfl, rfl, HM⟩

def slices_Index_int64.l0 (x0 : List Int) (x1 : Int) : Nat → Int → Option (Int ⊕ Unit)
  | 0, _ => none
  | k + 1, a2989 => (bif (decide (a2989 < (x0.length : Int))) then (chk (idxOk a2989 x0.length) (bif (x1 == (gt x0 a2989)) then some (.inl a2989) else slices_Index_int64.l0 x0 x1 k (wrap64 (a2989 + 1)))) else some (.inr ()))
theorem slices_Index_int64.l0_z (x0 : List Int) (x1 : Int) (a2989 : Int) : slices_Index_int64.l0 x0 x1 0 a2989 = none := rfl
theorem slices_Index_int64.l0_s (x0 : List Int) (x1 : Int) (k : Nat) (a2989 : Int) : slices_Index_int64.l0 x0 x1 (k + 1) a2989 = (bif (decide (a2989 < (x0.length : Int))) then (chk (idxOk a2989 x0.length) (bif (x1 == (gt x0 a2989)) then some (.inl a2989) else slices_Index_int64.l0 x0 x1 k (wrap64 (a2989 + 1)))) else some (.inr ())) := rfl
def slices_Index_int64.f (k : Nat) (x0 : List Int) (x1 : Int) : Option Int := ((slices_Index_int64.l0 x0 x1 k 0).bind fun o2983 => thn o2983 (fun r => some r) (fun _ => some (-1)))
theorem slices_Index_int64.calls {k : Nat} {x0 : List Int} {x1 : Int} {p0 : Value} {w : World} (hp0 : RdS kInt w p0 x0) {r : Int} (H : slices_Index_int64.f k x0 x1 = some r) :
    Calls Try.prog 111 ([p0, .int .i64 x1] : List Value).toArray w (fun e w_ => ∃ v, e = .returned v ∧ v = (.int .i64 r) ∧ Mem w [] w_ []) := by
  have HM := Mem.start w
  refine calls_run (N := 19) Try.func111 rfl rfl rfl rfl ?_
  unfold slices_Index_int64.f at H
  refine run_seq ?_
  refine run_region rfl ?_
  refine ops_ex rfl (guard_none rfl) rfl rfl (ex_assign rfl rfl) ?_
  refine ops_nil ?_
  refine at_then ?_
  obtain ⟨o2983, ho2984, H⟩ := bind_some H
  refine run_mid (fun ρ_ w_ => Sum.inr () = o2983 ∧ ρ_ = [] ∧ Mem w [] w_ []) ?_ ?_
  · skip
    refine run_seq ?_
    refine run_region rfl ?_
    refine ops_ex rfl (guard_none rfl) rfl rfl (ex_move rfl rfl) ?_
    refine ops_ex rfl (guard_none rfl) rfl rfl (ex_len (d := kInt) (xs := x0) rfl rfl Try.underlying34 hp0) ?_
    refine ops_ex rfl (guard_none rfl) rfl rfl (ex_move rfl rfl) ?_
    refine ops_nil ?_
    refine at_then ?_
    refine run_block ?_
    refine run_loop (fun k_ ρ_ w_ => ∃ a2989 : Int, slices_Index_int64.l0 x0 x1 k_ a2989 = some o2983 ∧ ρ_ = [(0, p0), (1, .int .i64 x1), (7, .int .i64 (x0.length : Int)), (8, .int .i64 a2989)] ∧ Mem w [] w_ []) k (ρ1 := [(0, p0), (1, .int .i64 x1), (7, .int .i64 (x0.length : Int)), (8, .int .i64 0)]) ⟨_, ho2984, rfl, HM⟩ (Sub.cons rfl (Sub.cons rfl (Sub.cons rfl (Sub.cons rfl Sub.nil)))) ?_
    clear HM ho2984
    rintro k2994 _ w2995 ⟨a2989, ho2984, rfl, HM⟩
    obtain _ | k2994 := k2994
    · exact nomatch ((slices_Index_int64.l0_z x0 x1 a2989).symm.trans ho2984)
    replace ho2984 := (slices_Index_int64.l0_s x0 x1 k2994 a2989).symm.trans ho2984
    refine run_seq ?_
    refine run_region rfl ?_
    refine ops_ex rfl (guard_none rfl) rfl rfl (ex_lss rfl rfl rfl) ?_
    refine ops_nil ?_
    refine at_then ?_
    refine run_seq ?_
    refine run_cond (b := (decide (a2989 < (x0.length : Int)))) rfl (fun hb2996 => ?_) (fun hb2996 => ?_)
    · replace ho2984 := cond_t hb2996 ho2984
      refine run_skip ?_
      refine at_then ?_
      refine run_seq ?_
      refine run_block ?_
      refine run_seq ?_
      refine run_region rfl ?_
      refine ops_ex rfl (guard_none rfl) rfl rfl (ex_move rfl rfl) ?_
      refine ops_ex rfl (guard_none rfl) rfl rfl (ex_assign rfl rfl) ?_
      refine ops_nil ?_
      refine at_then ?_
      refine run_seq ?_
      obtain ⟨e2997, ho2984⟩ := chk_some ho2984
      refine run_region rfl ?_
      refine ops_ex rfl (guard_none rfl) rfl rfl (ex_move rfl rfl) ?_
      refine ops_ex rfl (guard_none rfl) rfl rfl (ex_move rfl rfl) ?_
      refine ops_ex rfl (guard_none rfl) rfl rfl (ex_move rfl rfl) ?_
      have hc2998 : CellsAt _ (sb p0) (so p0 + (a2989).toNat * 1) [(.int .i64 (gt x0 a2989))] := rd_plain hp0 e2997
      refine ops_ex rfl (guard_none rfl) rfl rfl (ex_indexAddr (d := kInt) rfl rfl rfl Try.underlying34 tsz2 hp0 (idx_lo e2997) (idx_hi e2997)) ?_
      refine ops_ex rfl (guard_none rfl) rfl rfl (ex_load1 rfl rfl Try.underlying2 rfl ((HM.at_ hc2998) 0 _ rfl)) ?_
      refine ops_ex rfl (guard_none rfl) rfl rfl (ex_eql rfl rfl rfl) ?_
      refine ops_nil ?_
      refine at_then ?_
      refine run_cond (b := (x1 == (gt x0 a2989))) rfl (fun hb2999 => ?_) (fun hb2999 => ?_)
      · replace ho2984 := cond_t hb2999 ho2984
        refine run_seq ?_
        refine run_region rfl ?_
        refine ops_ex rfl (guard_none rfl) rfl rfl (ex_move rfl rfl) ?_
        refine ops_ex rfl (guard_none rfl) rfl rfl (ex_assign rfl rfl) ?_
        refine ops_nil ?_
        refine at_then ?_
        refine run_ret ?_
        refine at_block_ret ?_
        refine at_then_ret ?_
        refine at_then_ret ?_
        refine at_block_ret ?_
        refine at_then_ret ?_
        have hR := Option.some.inj ho2984
        subst hR
        have hT := thn_inl H
        have hR := Option.some.inj hT
        subst hR
        exact at_ret1 rfl rfl ⟨_, rfl, rfl, HM⟩
      · replace ho2984 := cond_f hb2999 ho2984
        refine run_skip ?_
        refine at_block ?_
        refine at_then ?_
        refine run_region rfl ?_
        refine ops_ex rfl (guard_none rfl) rfl rfl (ex_add rfl rfl rfl) ?_
        refine ops_ex rfl (guard_none rfl) rfl rfl (ex_move rfl rfl) ?_
        refine ops_nil ?_
        exact at_again k2994 (ρ1 := [(0, p0), (1, .int .i64 x1), (7, .int .i64 (x0.length : Int)), (8, .int .i64 (wrap64 (a2989 + 1)))]) (Nat.lt_succ_self _) ⟨_, ho2984, rfl, HM⟩ (Sub.cons rfl (Sub.cons rfl (Sub.cons rfl (Sub.cons rfl Sub.nil))))
    · replace ho2984 := cond_f hb2996 ho2984
      refine run_exit ?_
      refine at_then_exit ?_
      refine at_then_exit ?_
      refine at_block_exit ?_
      exact at_mid (ρ' := []) ⟨(Option.some.inj ho2984), rfl, HM⟩ Sub.nil
  · rintro _ w3000 ⟨rfl, rfl, HM⟩
    replace H := (thn_inr H)
    refine run_seq ?_
    refine run_region rfl ?_
    refine ops_ex rfl (guard_none rfl) rfl rfl (ex_assign rfl rfl) ?_
    refine ops_nil ?_
    refine at_then ?_
    refine run_ret ?_
    have hR := Option.some.inj H
    subst hR
    exact at_ret1 rfl rfl ⟨_, rfl, rfl, HM⟩

def slices_Contains_int64.f (k : Nat) (x0 : List Int) (x1 : Int) : Option Bool := ((slices_Index_int64.f k x0 x1).bind fun t3003 => some (decide (0 ≤ t3003)))
theorem slices_Contains_int64.calls {k : Nat} {x0 : List Int} {x1 : Int} {p0 : Value} {w : World} (hp0 : RdS kInt w p0 x0) {r : Bool} (H : slices_Contains_int64.f k x0 x1 = some r) :
    Calls Try.prog 80 ([p0, .int .i64 x1] : List Value).toArray w (fun e w_ => ∃ v, e = .returned v ∧ v = (.bool r) ∧ Mem w [] w_ []) := by
  have HM := Mem.start w
  refine calls_run (N := 9) Try.func80 rfl rfl rfl rfl ?_
  unfold slices_Contains_int64.f at H
  refine run_seq ?_
  refine run_region rfl ?_
  refine ops_ex rfl (guard_none rfl) rfl rfl (ex_assign rfl rfl) ?_
  refine ops_nil ?_
  refine at_then ?_
  refine run_seq ?_
  obtain ⟨t3003, h3004, H⟩ := bind_some H
  refine run_region rfl ?_
  refine ops_ex rfl (guard_none rfl) rfl rfl (ex_move rfl rfl) ?_
  refine ops_ex rfl (guard_none rfl) rfl rfl (ex_move rfl rfl) ?_
  refine ops_does rfl (guard_none rfl) rfl rfl (does_callk rfl callok111 rfl (slices_Index_int64.calls (x0 := x0) (x1 := x1) (HM.rd hp0) h3004)) ?_
  rintro _ w3005 ⟨rfl, hn⟩
  replace HM : Mem w [] w3005 [] := HM.call hn
  refine ops_ex rfl (guard_none rfl) rfl rfl (ex_geq rfl rfl rfl) ?_
  refine ops_ex rfl (guard_none rfl) rfl rfl (ex_assign rfl rfl) ?_
  refine ops_nil ?_
  refine at_then ?_
  refine run_ret ?_
  have hR := Option.some.inj H
  subst hR
  exact at_ret1 rfl rfl ⟨_, rfl, rfl, HM⟩

def impl_BlockFault.l0 (x0 : Block) : Nat → Int → Option (Int ⊕ Unit)
  | 0, _ => none
  | k + 1, a3142 => (bif (decide (a3142 < (x0.fTxs.length : Int))) then (chk (idxOk a3142 x0.fTxs.length) ((impl_isId.f k (gt x0.fTxs a3142)).bind fun t3167 => (bif !t3167 then some (.inl 3) else (chk (cutOk a3142 x0.fTxs.length) ((slices_Contains_int64.f k (x0.fTxs.take (a3142).toNat) (gt x0.fTxs a3142)).bind fun t3175 => (bif t3175 then some (.inl 7) else impl_BlockFault.l0 x0 k (wrap64 (a3142 + 1)))))))) else some (.inr ()))
theorem impl_BlockFault.l0_z (x0 : Block) (a3142 : Int) : impl_BlockFault.l0 x0 0 a3142 = none := rfl
theorem impl_BlockFault.l0_s (x0 : Block) (k : Nat) (a3142 : Int) : impl_BlockFault.l0 x0 (k + 1) a3142 = (bif (decide (a3142 < (x0.fTxs.length : Int))) then (chk (idxOk a3142 x0.fTxs.length) ((impl_isId.f k (gt x0.fTxs a3142)).bind fun t3167 => (bif !t3167 then some (.inl 3) else (chk (cutOk a3142 x0.fTxs.length) ((slices_Contains_int64.f k (x0.fTxs.take (a3142).toNat) (gt x0.fTxs a3142)).bind fun t3175 => (bif t3175 then some (.inl 7) else impl_BlockFault.l0 x0 k (wrap64 (a3142 + 1)))))))) else some (.inr ())) := rfl
def impl_BlockFault.f (k : Nat) (x0 : Block) : Option Int := ((impl_within.f k x0.fPrev 0 60).bind fun t3057 => ((bif (!(!t3057)) then impl_within.f k x0.fHeight 1 40 else some default).bind fun t3059 => ((bif (!((!t3057) || (!t3059))) then impl_isKey.f k x0.fMiner else some default).bind fun t3061 => (bif (((!t3057) || (!t3059)) || (!t3061)) then some 3 else (bif ((x0.fPrev == 0) != (x0.fHeight == 1)) then some 1 else (bif (decide (6 < (x0.fTxs.length : Int))) then some 2 else ((impl_BlockFault.l0 x0 k 0).bind fun o3124 => thn o3124 (fun r => some r) (fun _ => some 0))))))))
theorem impl_BlockFault.calls {k : Nat} {x0 : Block} {p0_0 : Value} {w : World} (hp0_0 : RdS kInt w p0_0 x0.fTxs) {r : Int} (H : impl_BlockFault.f k x0 = some r) :
    Calls Try.prog 37 ([.agg #[(.int .i64 x0.fPrev), (.int .i64 x0.fHeight), (.int .i64 x0.fMiner), p0_0]] : List Value).toArray w (fun e w_ => ∃ v, e = .returned v ∧ v = (.int .i64 r) ∧ Mem w [] w_ []) := by
  have HM := Mem.start w
  refine calls_run (N := 53) Try.func37 rfl rfl rfl rfl ?_
  unfold impl_BlockFault.f at H
  refine run_seq ?_
  refine run_region rfl ?_
  refine ops_does rfl (guard_none rfl) rfl rfl (does_box (cs := [.int .i64 x0.fPrev, .int .i64 x0.fHeight, .int .i64 x0.fMiner, p0_0]) rfl rfl rfl HM) ?_
  rintro _ w3047 ⟨b3044, rfl, HM⟩
  refine ops_ex rfl (guard_none rfl) rfl rfl (ex_assign rfl rfl) ?_
  refine ops_nil ?_
  refine at_then ?_
  refine run_seq ?_
  refine run_block ?_
  refine run_seq ?_
  obtain ⟨t3057, h3058, H⟩ := bind_some H
  obtain ⟨t3059, h3060, H⟩ := bind_some H
  obtain ⟨t3061, h3062, H⟩ := bind_some H
  refine run_meet (fun ρ_ w_ => ρ_ = [(1, .pointer (some ⟨b3044, 0, none⟩)), (5, .bool (((!t3057) || (!t3059)) || (!t3061)))] ∧ Mem w [] w_ [box b3044 50 [.int .i64 x0.fPrev, .int .i64 x0.fHeight, .int .i64 x0.fMiner, p0_0]]) ?_ ?_
  · skip
    refine run_region rfl ?_
    refine ops_ex rfl (guard_none rfl) rfl rfl (ex_fieldAddr (off' := 0) rfl rfl Try.underlying50 rfl tsz2 rfl) ?_
    refine ops_ex rfl (guard_none rfl) rfl rfl (ex_load1 rfl rfl Try.underlying2 rfl ((HM.box_at 0 rfl) 0 _ rfl)) ?_
    refine ops_does rfl (guard_none rfl) rfl rfl (does_callk rfl callok58 rfl (impl_within.calls (x0 := x0.fPrev) (x1 := 0) (x2 := 60) h3058)) ?_
    rintro _ w3063 ⟨rfl, hn⟩
    replace HM : Mem w [] w3063 [box b3044 50 [.int .i64 x0.fPrev, .int .i64 x0.fHeight, .int .i64 x0.fMiner, p0_0]] := HM.call hn
    refine ops_ex rfl (guard_none rfl) rfl rfl (ex_not rfl rfl) ?_
    refine ops_ex rfl (guard_none rfl) rfl rfl (ex_move rfl rfl) ?_
    refine bool_cases (!t3057) (fun hg3064 => ?_) (fun hg3064 => ?_)
    · skip
      refine ops_off rfl (guard_off rfl rfl rfl hg3064) rfl rfl ?_
      refine ops_off rfl (guard_off rfl rfl rfl hg3064) rfl rfl ?_
      refine ops_off rfl (guard_off rfl rfl rfl hg3064) rfl rfl ?_
      refine ops_off rfl (guard_off rfl rfl rfl hg3064) rfl rfl ?_
      have hg3065 : ((!t3057) || (!t3059)) = true := by simp only [hg3064, Bool.and_true, Bool.true_and, Bool.and_false, Bool.false_and, Bool.or_true, Bool.true_or, Bool.or_false, Bool.false_or, Bool.not_true, Bool.not_false, Bool.not_not]
      refine ops_ex (v := .bool ((!t3057) || (!t3059))) rfl (guard_none rfl) rfl rfl (ex_por_t rfl rfl hg3064) ?_
      refine ops_ex rfl (guard_none rfl) rfl rfl (ex_move rfl rfl) ?_
      refine ops_off rfl (guard_off rfl rfl rfl hg3065) rfl rfl ?_
      refine ops_off rfl (guard_off rfl rfl rfl hg3065) rfl rfl ?_
      refine ops_off rfl (guard_off rfl rfl rfl hg3065) rfl rfl ?_
      refine ops_off rfl (guard_off rfl rfl rfl hg3065) rfl rfl ?_
      have hg3066 : (((!t3057) || (!t3059)) || (!t3061)) = true := by simp only [hg3065, Bool.and_true, Bool.true_and, Bool.and_false, Bool.false_and, Bool.or_true, Bool.true_or, Bool.or_false, Bool.false_or, Bool.not_true, Bool.not_false, Bool.not_not]
      refine ops_ex (v := .bool (((!t3057) || (!t3059)) || (!t3061))) rfl (guard_none rfl) rfl rfl (ex_por_t rfl rfl hg3065) ?_
      refine ops_ex rfl (guard_none rfl) rfl rfl (ex_assign rfl rfl) ?_
      refine ops_nil ?_
      exact at_meet [(1, .pointer (some ⟨b3044, 0, none⟩)), (5, .bool (((!t3057) || (!t3059)) || (!t3061)))] ⟨rfl, HM⟩ (Sub.cons rfl (Sub.cons rfl Sub.nil))
    · skip
      refine ops_ex rfl (guard_on rfl rfl rfl hg3064) rfl rfl (ex_fieldAddr (off' := 1) rfl rfl Try.underlying50 rfl tsz2 rfl) ?_
      refine ops_ex rfl (guard_on rfl rfl rfl hg3064) rfl rfl (ex_load1 rfl rfl Try.underlying2 rfl ((HM.box_at 0 rfl) 1 _ rfl)) ?_
      refine ops_does rfl (guard_on rfl rfl rfl hg3064) rfl rfl (does_callk rfl callok58 rfl (impl_within.calls (x0 := x0.fHeight) (x1 := 1) (x2 := 40) (cond_t (not_mk hg3064) h3060))) ?_
      rintro _ w3067 ⟨rfl, hn⟩
      replace HM : Mem w [] w3067 [box b3044 50 [.int .i64 x0.fPrev, .int .i64 x0.fHeight, .int .i64 x0.fMiner, p0_0]] := HM.call hn
      refine ops_ex rfl (guard_on rfl rfl rfl hg3064) rfl rfl (ex_not rfl rfl) ?_
      refine ops_ex (v := .bool ((!t3057) || (!t3059))) rfl (guard_none rfl) rfl rfl (ex_por_f rfl rfl hg3064 rfl) ?_
      refine ops_ex rfl (guard_none rfl) rfl rfl (ex_move rfl rfl) ?_
      refine bool_cases ((!t3057) || (!t3059)) (fun hg3068 => ?_) (fun hg3068 => ?_)
      · skip
        refine ops_off rfl (guard_off rfl rfl rfl hg3068) rfl rfl ?_
        refine ops_off rfl (guard_off rfl rfl rfl hg3068) rfl rfl ?_
        refine ops_off rfl (guard_off rfl rfl rfl hg3068) rfl rfl ?_
        refine ops_off rfl (guard_off rfl rfl rfl hg3068) rfl rfl ?_
        have hg3069 : (((!t3057) || (!t3059)) || (!t3061)) = true := by simp only [hg3068, Bool.and_true, Bool.true_and, Bool.and_false, Bool.false_and, Bool.or_true, Bool.true_or, Bool.or_false, Bool.false_or, Bool.not_true, Bool.not_false, Bool.not_not]
        refine ops_ex (v := .bool (((!t3057) || (!t3059)) || (!t3061))) rfl (guard_none rfl) rfl rfl (ex_por_t rfl rfl hg3068) ?_
        refine ops_ex rfl (guard_none rfl) rfl rfl (ex_assign rfl rfl) ?_
        refine ops_nil ?_
        exact at_meet [(1, .pointer (some ⟨b3044, 0, none⟩)), (5, .bool (((!t3057) || (!t3059)) || (!t3061)))] ⟨rfl, HM⟩ (Sub.cons rfl (Sub.cons rfl Sub.nil))
      · skip
        refine ops_ex rfl (guard_on rfl rfl rfl hg3068) rfl rfl (ex_fieldAddr (off' := 2) rfl rfl Try.underlying50 rfl tsz2 rfl) ?_
        refine ops_ex rfl (guard_on rfl rfl rfl hg3068) rfl rfl (ex_load1 rfl rfl Try.underlying2 rfl ((HM.box_at 0 rfl) 2 _ rfl)) ?_
        refine ops_does rfl (guard_on rfl rfl rfl hg3068) rfl rfl (does_callk rfl callok74 rfl (impl_isKey.calls (x0 := x0.fMiner) (cond_t (not_mk hg3068) h3062))) ?_
        rintro _ w3070 ⟨rfl, hn⟩
        replace HM : Mem w [] w3070 [box b3044 50 [.int .i64 x0.fPrev, .int .i64 x0.fHeight, .int .i64 x0.fMiner, p0_0]] := HM.call hn
        refine ops_ex rfl (guard_on rfl rfl rfl hg3068) rfl rfl (ex_not rfl rfl) ?_
        refine ops_ex (v := .bool (((!t3057) || (!t3059)) || (!t3061))) rfl (guard_none rfl) rfl rfl (ex_por_f rfl rfl hg3068 rfl) ?_
        refine ops_ex rfl (guard_none rfl) rfl rfl (ex_assign rfl rfl) ?_
        refine ops_nil ?_
        exact at_meet [(1, .pointer (some ⟨b3044, 0, none⟩)), (5, .bool (((!t3057) || (!t3059)) || (!t3061)))] ⟨rfl, HM⟩ (Sub.cons rfl (Sub.cons rfl Sub.nil))
  · rintro _ w3071 ⟨rfl, HM⟩
    refine at_then ?_
    refine run_cond (b := (((!t3057) || (!t3059)) || (!t3061))) rfl (fun hb3072 => ?_) (fun hb3072 => ?_)
    · replace H := cond_t hb3072 H
      refine run_seq ?_
      refine run_region rfl ?_
      refine ops_ex rfl (guard_none rfl) rfl rfl (ex_assign rfl rfl) ?_
      refine ops_nil ?_
      refine at_then ?_
      refine run_ret ?_
      refine at_block_ret ?_
      refine at_then_ret ?_
      replace HM := (HM.front 0 rfl rfl).drop
      have hR := Option.some.inj H
      subst hR
      exact at_ret1 rfl rfl ⟨_, rfl, rfl, HM⟩
    · replace H := cond_f hb3072 H
      refine run_seq ?_
      refine run_region rfl ?_
      refine ops_ex rfl (guard_none rfl) rfl rfl (ex_fieldAddr (off' := 0) rfl rfl Try.underlying50 rfl tsz2 rfl) ?_
      refine ops_ex rfl (guard_none rfl) rfl rfl (ex_load1 rfl rfl Try.underlying2 rfl ((HM.box_at 0 rfl) 0 _ rfl)) ?_
      refine ops_ex rfl (guard_none rfl) rfl rfl (ex_eql rfl rfl rfl) ?_
      refine ops_ex rfl (guard_none rfl) rfl rfl (ex_fieldAddr (off' := 1) rfl rfl Try.underlying50 rfl tsz2 rfl) ?_
      refine ops_ex rfl (guard_none rfl) rfl rfl (ex_load1 rfl rfl Try.underlying2 rfl ((HM.box_at 0 rfl) 1 _ rfl)) ?_
      refine ops_ex rfl (guard_none rfl) rfl rfl (ex_eql rfl rfl rfl) ?_
      refine ops_ex rfl (guard_none rfl) rfl rfl (ex_bneq rfl rfl rfl Try.underlying4) ?_
      refine ops_ex rfl (guard_none rfl) rfl rfl (ex_assign rfl rfl) ?_
      refine ops_nil ?_
      refine at_then ?_
      refine run_cond (b := ((x0.fPrev == 0) != (x0.fHeight == 1))) rfl (fun hb3073 => ?_) (fun hb3073 => ?_)
      · replace H := cond_t hb3073 H
        refine run_seq ?_
        refine run_region rfl ?_
        refine ops_ex rfl (guard_none rfl) rfl rfl (ex_assign rfl rfl) ?_
        refine ops_nil ?_
        refine at_then ?_
        refine run_ret ?_
        refine at_block_ret ?_
        refine at_then_ret ?_
        replace HM := (HM.front 0 rfl rfl).drop
        have hR := Option.some.inj H
        subst hR
        exact at_ret1 rfl rfl ⟨_, rfl, rfl, HM⟩
      · replace H := cond_f hb3073 H
        refine run_seq ?_
        refine run_region rfl ?_
        refine ops_ex rfl (guard_none rfl) rfl rfl (ex_fieldAddr (off' := 3) rfl rfl Try.underlying50 rfl tsz34 rfl) ?_
        refine ops_ex rfl (guard_none rfl) rfl rfl (ex_load1 rfl rfl Try.underlying34 rfl ((HM.box_at 0 rfl) 3 _ rfl)) ?_
        refine ops_ex rfl (guard_none rfl) rfl rfl (ex_len (d := kInt) (xs := x0.fTxs) rfl rfl Try.underlying34 hp0_0) ?_
        refine ops_ex rfl (guard_none rfl) rfl rfl (ex_gtr rfl rfl rfl) ?_
        refine ops_ex rfl (guard_none rfl) rfl rfl (ex_assign rfl rfl) ?_
        refine ops_nil ?_
        refine at_then ?_
        refine run_cond (b := (decide (6 < (x0.fTxs.length : Int)))) rfl (fun hb3074 => ?_) (fun hb3074 => ?_)
        · replace H := cond_t hb3074 H
          refine run_seq ?_
          refine run_region rfl ?_
          refine ops_ex rfl (guard_none rfl) rfl rfl (ex_assign rfl rfl) ?_
          refine ops_nil ?_
          refine at_then ?_
          refine run_ret ?_
          refine at_block_ret ?_
          refine at_then_ret ?_
          replace HM := (HM.front 0 rfl rfl).drop
          have hR := Option.some.inj H
          subst hR
          exact at_ret1 rfl rfl ⟨_, rfl, rfl, HM⟩
        · replace H := cond_f hb3074 H
          refine run_skip ?_
          refine at_block ?_
          refine at_then ?_
          obtain ⟨o3124, ho3125, H⟩ := bind_some H
          refine run_mid (fun ρ_ w_ => Sum.inr () = o3124 ∧ ρ_ = [] ∧ Mem w [] w_ []) ?_ ?_
          · skip
            refine run_seq ?_
            refine run_region rfl ?_
            refine ops_ex rfl (guard_none rfl) rfl rfl (ex_fieldAddr (off' := 3) rfl rfl Try.underlying50 rfl tsz34 rfl) ?_
            refine ops_ex rfl (guard_none rfl) rfl rfl (ex_load1 rfl rfl Try.underlying34 rfl ((HM.box_at 0 rfl) 3 _ rfl)) ?_
            refine ops_ex rfl (guard_none rfl) rfl rfl (ex_len (d := kInt) (xs := x0.fTxs) rfl rfl Try.underlying34 hp0_0) ?_
            refine ops_ex rfl (guard_none rfl) rfl rfl (ex_move rfl rfl) ?_
            refine ops_nil ?_
            refine at_then ?_
            refine run_block ?_
            refine run_loop (fun k_ ρ_ w_ => ∃ a3142 : Int, impl_BlockFault.l0 x0 k_ a3142 = some o3124 ∧ ρ_ = [(1, .pointer (some ⟨b3044, 0, none⟩)), (36, p0_0), (37, .int .i64 (x0.fTxs.length : Int)), (38, .int .i64 a3142)] ∧ Mem w [] w_ [box b3044 50 [.int .i64 x0.fPrev, .int .i64 x0.fHeight, .int .i64 x0.fMiner, p0_0]]) k (ρ1 := [(1, .pointer (some ⟨b3044, 0, none⟩)), (36, p0_0), (37, .int .i64 (x0.fTxs.length : Int)), (38, .int .i64 0)]) ⟨_, ho3125, rfl, HM⟩ (Sub.cons rfl (Sub.cons rfl (Sub.cons rfl (Sub.cons rfl Sub.nil)))) ?_
            clear HM ho3125
            rintro k3159 _ w3160 ⟨a3142, ho3125, rfl, HM⟩
            obtain _ | k3159 := k3159
            · exact nomatch ((impl_BlockFault.l0_z x0 a3142).symm.trans ho3125)
            replace ho3125 := (impl_BlockFault.l0_s x0 k3159 a3142).symm.trans ho3125
            refine run_seq ?_
            refine run_region rfl ?_
            refine ops_ex rfl (guard_none rfl) rfl rfl (ex_lss rfl rfl rfl) ?_
            refine ops_nil ?_
            refine at_then ?_
            refine run_seq ?_
            refine run_cond (b := (decide (a3142 < (x0.fTxs.length : Int)))) rfl (fun hb3161 => ?_) (fun hb3161 => ?_)
            · replace ho3125 := cond_t hb3161 ho3125
              refine run_skip ?_
              refine at_then ?_
              refine run_seq ?_
              refine run_block ?_
              refine run_seq ?_
              obtain ⟨e3162, ho3125⟩ := chk_some ho3125
              refine run_region rfl ?_
              refine ops_ex rfl (guard_none rfl) rfl rfl (ex_move rfl rfl) ?_
              have hc3163 : CellsAt _ (sb p0_0) (so p0_0 + (a3142).toNat * 1) [(.int .i64 (gt x0.fTxs a3142))] := rd_plain hp0_0 e3162
              refine ops_ex rfl (guard_none rfl) rfl rfl (ex_indexAddr (d := kInt) rfl rfl rfl Try.underlying34 tsz2 hp0_0 (idx_lo e3162) (idx_hi e3162)) ?_
              refine ops_ex rfl (guard_none rfl) rfl rfl (ex_load1 rfl rfl Try.underlying2 rfl ((HM.at_ hc3163) 0 _ rfl)) ?_
              refine ops_ex rfl (guard_none rfl) rfl rfl (ex_assign rfl rfl) ?_
              refine ops_ex rfl (guard_none rfl) rfl rfl (ex_assign rfl rfl) ?_
              refine ops_nil ?_
              refine at_then ?_
              refine run_seq ?_
              refine run_seq ?_
              obtain ⟨t3167, h3168, ho3125⟩ := bind_some ho3125
              refine run_region rfl ?_
              refine ops_ex rfl (guard_none rfl) rfl rfl (ex_move rfl rfl) ?_
              refine ops_does rfl (guard_none rfl) rfl rfl (does_callk rfl callok79 rfl (impl_isId.calls (x0 := (gt x0.fTxs a3142)) h3168)) ?_
              rintro _ w3169 ⟨rfl, hn⟩
              replace HM : Mem w [] w3169 [box b3044 50 [.int .i64 x0.fPrev, .int .i64 x0.fHeight, .int .i64 x0.fMiner, p0_0]] := HM.call hn
              refine ops_ex rfl (guard_none rfl) rfl rfl (ex_not rfl rfl) ?_
              refine ops_nil ?_
              refine at_then ?_
              refine run_cond (b := !t3167) rfl (fun hb3170 => ?_) (fun hb3170 => ?_)
              · replace ho3125 := cond_t hb3170 ho3125
                refine run_seq ?_
                refine run_region rfl ?_
                refine ops_ex rfl (guard_none rfl) rfl rfl (ex_assign rfl rfl) ?_
                refine ops_nil ?_
                refine at_then ?_
                refine run_ret ?_
                refine at_then_ret ?_
                refine at_block_ret ?_
                refine at_then_ret ?_
                refine at_then_ret ?_
                refine at_block_ret ?_
                refine at_then_ret ?_
                replace HM := (HM.front 0 rfl rfl).drop
                have hR := Option.some.inj ho3125
                subst hR
                have hT := thn_inl H
                have hR := Option.some.inj hT
                subst hR
                exact at_ret1 rfl rfl ⟨_, rfl, rfl, HM⟩
              · replace ho3125 := cond_f hb3170 ho3125
                refine run_skip ?_
                refine at_then ?_
                refine run_seq ?_
                obtain ⟨e3171, ho3125⟩ := chk_some ho3125
                obtain ⟨t3175, h3176, ho3125⟩ := bind_some ho3125
                refine run_region rfl ?_
                refine ops_ex rfl (guard_none rfl) rfl rfl (ex_fieldAddr (off' := 3) rfl rfl Try.underlying50 rfl tsz34 rfl) ?_
                refine ops_ex rfl (guard_none rfl) rfl rfl (ex_load1 rfl rfl Try.underlying34 rfl ((HM.box_at 0 rfl) 3 _ rfl)) ?_
                refine ops_ex rfl (guard_none rfl) rfl rfl (ex_move rfl rfl) ?_
                refine ops_exE rfl (guard_none rfl) rfl rfl (ex_cutH kInt rfl rfl rfl Try.underlying34 tsz2 hp0_0 e3171) ?_
                intro u3172 hr3174
                refine ops_ex rfl (guard_none rfl) rfl rfl (ex_move rfl rfl) ?_
                refine ops_does rfl (guard_none rfl) rfl rfl (does_callk rfl callok80 rfl (slices_Contains_int64.calls (x0 := x0.fTxs.take (a3142).toNat) (x1 := (gt x0.fTxs a3142)) (HM.rd hr3174) h3176)) ?_
                rintro _ w3177 ⟨rfl, hn⟩
                replace HM : Mem w [] w3177 [box b3044 50 [.int .i64 x0.fPrev, .int .i64 x0.fHeight, .int .i64 x0.fMiner, p0_0]] := HM.call hn
                refine ops_nil ?_
                refine at_then ?_
                refine run_cond (b := t3175) rfl (fun hb3178 => ?_) (fun hb3178 => ?_)
                · replace ho3125 := cond_t hb3178 ho3125
                  refine run_seq ?_
                  refine run_region rfl ?_
                  refine ops_ex rfl (guard_none rfl) rfl rfl (ex_assign rfl rfl) ?_
                  refine ops_nil ?_
                  refine at_then ?_
                  refine run_ret ?_
                  refine at_block_ret ?_
                  refine at_then_ret ?_
                  refine at_then_ret ?_
                  refine at_block_ret ?_
                  refine at_then_ret ?_
                  replace HM := (HM.front 0 rfl rfl).drop
                  have hR := Option.some.inj ho3125
                  subst hR
                  have hT := thn_inl H
                  have hR := Option.some.inj hT
                  subst hR
                  exact at_ret1 rfl rfl ⟨_, rfl, rfl, HM⟩
                · replace ho3125 := cond_f hb3178 ho3125
                  refine run_skip ?_
                  refine at_block ?_
                  refine at_then ?_
                  refine run_region rfl ?_
                  refine ops_ex rfl (guard_none rfl) rfl rfl (ex_add rfl rfl rfl) ?_
                  refine ops_ex rfl (guard_none rfl) rfl rfl (ex_move rfl rfl) ?_
                  refine ops_nil ?_
                  exact at_again k3159 (ρ1 := [(1, .pointer (some ⟨b3044, 0, none⟩)), (36, p0_0), (37, .int .i64 (x0.fTxs.length : Int)), (38, .int .i64 (wrap64 (a3142 + 1)))]) (Nat.lt_succ_self _) ⟨_, ho3125, rfl, HM⟩ (Sub.cons rfl (Sub.cons rfl (Sub.cons rfl (Sub.cons rfl Sub.nil))))
            · replace ho3125 := cond_f hb3161 ho3125
              refine run_exit ?_
              refine at_then_exit ?_
              refine at_then_exit ?_
              refine at_block_exit ?_
              replace HM := (HM.front 0 rfl rfl).drop
              exact at_mid (ρ' := []) ⟨(Option.some.inj ho3125), rfl, HM⟩ Sub.nil
          · rintro _ w3179 ⟨rfl, rfl, HM⟩
            replace H := (thn_inr H)
            refine run_seq ?_
            refine run_region rfl ?_
            refine ops_ex rfl (guard_none rfl) rfl rfl (ex_assign rfl rfl) ?_
            refine ops_nil ?_
            refine at_then ?_
            refine run_ret ?_
            have hR := Option.some.inj H
            subst hR
            exact at_ret1 rfl rfl ⟨_, rfl, rfl, HM⟩
end Go.Proofs.Ytkofpnbacgccnaa.Zk
