/- What functions of the program compute, each as a plain function, and that they do. Conditions: as each theorem states them. -/
import Derived.Test.YtbbcabpnkdilgaaTakeMembersZkF1
namespace Go.Proofs.Ytbbcabpnkdilgaa.Zk
open Go Go.RowKit Go.IntWalk Go.Proofs
set_option linter.unusedVariables false
set_option linter.unusedSimpArgs false
set_option maxRecDepth 100000
set_option maxHeartbeats 4000000
def spec_l3Outs.l0 (x0 : Tx) : Nat → Int → Option (Int ⊕ Unit)
  | 0, _ => none
  | k + 1, a1703 => (bif (decide (a1703 < (x0.fOuts.length : Int))) then (chk (idxOk a1703 x0.fOuts.length) ((spec_l1In.f k ((gt x0.fOuts a1703).fValue) 1 1000000).bind fun t1740 => (bif !t1740 then some (.inl 3) else (chk (idxOk a1703 x0.fOuts.length) ((spec_l2Fault.f k ((gt x0.fOuts a1703).fRule)).bind fun t1748 => (bif (t1748 != 0) then some (.inl t1748) else spec_l3Outs.l0 x0 k (wrap64 (a1703 + 1)))))))) else some (.inr ()))
theorem spec_l3Outs.l0_z (x0 : Tx) (a1703 : Int) : spec_l3Outs.l0 x0 0 a1703 = none := rfl
theorem spec_l3Outs.l0_s (x0 : Tx) (k : Nat) (a1703 : Int) : spec_l3Outs.l0 x0 (k + 1) a1703 = (bif (decide (a1703 < (x0.fOuts.length : Int))) then (chk (idxOk a1703 x0.fOuts.length) ((spec_l1In.f k ((gt x0.fOuts a1703).fValue) 1 1000000).bind fun t1740 => (bif !t1740 then some (.inl 3) else (chk (idxOk a1703 x0.fOuts.length) ((spec_l2Fault.f k ((gt x0.fOuts a1703).fRule)).bind fun t1748 => (bif (t1748 != 0) then some (.inl t1748) else spec_l3Outs.l0 x0 k (wrap64 (a1703 + 1)))))))) else some (.inr ())) := rfl
def spec_l3Outs.f (k : Nat) (x0 : Tx) : Option Int := ((spec_l3Outs.l0 x0 k 0).bind fun o1679 => thn o1679 (fun r => some r) (fun _ => (chk (!(x0.fKind == 1) || (idxOk (0 : Int) x0.fOuts.length)) (bif ((x0.fKind == 1) && (decide (((gt x0.fOuts (0 : Int)).fValue) < 100))) then some 8 else some 0))))
theorem spec_l3Outs.calls {k : Nat} {x0 : Tx} {b0 f0 : Nat} {p0_0 : Value} {p0_1 : Value} {w : World} (hc0 : CellsAt w b0 f0 [.int .i64 x0.fKind, .int .i64 x0.fMember, p0_0, p0_1]) (hp0_0 : RdS kRef w p0_0 x0.fIns) (hp0_1 : RdS kOut w p0_1 x0.fOuts) {r : Int} (H : spec_l3Outs.f k x0 = some r) :
    Calls Try.prog 118 ([.pointer (some ⟨b0, f0, none⟩)] : List Value).toArray w (fun e w_ => ∃ v, e = .returned v ∧ v = (.int .i64 r) ∧ Mem w [] w_ []) := by
  have HM := Mem.start w
  refine calls_run (N := 50) Try.func118 rfl rfl rfl rfl ?_
  unfold spec_l3Outs.f at H
  refine run_seq ?_
  refine run_region rfl ?_
  refine ox rfl rfl rfl rfl (ex_assign rfl rfl) ?_
  refine ops_nil (at_then ?_)
  obtain ⟨o1679, ho1680, H⟩ := bind_some H
  refine run_mid (fun ρ_ w_ => Sum.inr () = o1679 ∧ ρ_ = [(0, .pointer (some ⟨b0, f0, none⟩))] ∧ Mem w [] w_ []) ?_ ?_
  · skip
    refine run_seq ?_
    refine run_region rfl ?_
    refine ox rfl rfl rfl rfl (ex_assign rfl rfl) ?_
    refine ops_nil (at_then ?_)
    refine run_block ?_
    refine run_loop (fun k_ ρ_ w_ => ∃ a1703 : Int, spec_l3Outs.l0 x0 k_ a1703 = some o1679 ∧ ρ_ = [(0, .pointer (some ⟨b0, f0, none⟩)), (3, .int .i64 a1703)] ∧ Mem w [] w_ []) k (ρ1 := [(0, .pointer (some ⟨b0, f0, none⟩)), (3, .int .i64 0)]) ⟨_, ho1680, rfl, HM⟩ (Sub.cons rfl (Sub.cons rfl Sub.nil)) ?_
    clear HM ho1680
    rintro k1726 _ w1727 ⟨a1703, ho1680, rfl, HM⟩
    obtain _ | k1726 := k1726
    · exact nomatch ((spec_l3Outs.l0_z x0 a1703).symm.trans ho1680)
    replace ho1680 := (spec_l3Outs.l0_s x0 k1726 a1703).symm.trans ho1680
    refine run_seq ?_
    refine run_seq ?_
    refine run_region rfl ?_
    refine ox rfl rfl rfl rfl (ex_move rfl rfl) ?_
    refine ox rfl rfl rfl rfl (ex_move rfl rfl) ?_
    refine ox rfl rfl rfl rfl (ex_nilCheck rfl rfl) ?_
    refine ox rfl rfl rfl rfl (ex_fieldAddr (off' := f0 + 3) rfl rfl Try.underlying28 rfl tsz26 rfl) ?_
    refine ox rfl rfl rfl rfl (ex_load1 rfl rfl Try.underlying26 rfl ((HM.at_ hc0) 3 _ rfl)) ?_
    refine ox rfl rfl rfl rfl (ex_len (d := kOut) (xs := x0.fOuts) rfl rfl Try.underlying26 hp0_1) ?_
    refine ox rfl rfl rfl rfl (ex_lss rfl rfl rfl) ?_
    refine ops_nil (at_then ?_)
    refine run_cond (b := (decide (a1703 < (x0.fOuts.length : Int)))) rfl (fun hb1728 => ?_) (fun hb1728 => ?_)
    · replace ho1680 := cond_t hb1728 ho1680
      refine run_skip ?_
      refine at_then ?_
      refine run_seq ?_
      refine run_block ?_
      refine run_seq ?_
      refine run_seq ?_
      obtain ⟨e1736, ho1680⟩ := chk_some ho1680
      obtain ⟨t1740, h1741, ho1680⟩ := bind_some ho1680
      refine run_region rfl ?_
      refine ox rfl rfl rfl rfl (ex_move rfl rfl) ?_
      refine ox rfl rfl rfl rfl (ex_nilCheck rfl rfl) ?_
      refine ox rfl rfl rfl rfl (ex_fieldAddr (off' := f0 + 3) rfl rfl Try.underlying28 rfl tsz26 rfl) ?_
      refine ox rfl rfl rfl rfl (ex_load1 rfl rfl Try.underlying26 rfl ((HM.at_ hc0) 3 _ rfl)) ?_
      refine ox rfl rfl rfl rfl (ex_move rfl rfl) ?_
      obtain ⟨kv1738, hc1737, hk1739⟩ : ∃ u, CellsAt _ (sb p0_1) (so p0_1 + (a1703).toNat * 4) [(.int .i64 ((gt x0.fOuts a1703).fValue)), u, (.int .i64 ((gt x0.fOuts a1703).fRule.fNeed)), (.int .i64 ((gt x0.fOuts a1703).fRule.fAfter))] ∧ RdS kInt _ u ((gt x0.fOuts a1703).fRule.fKeys) := rd_with1 hp0_1 e1736
      refine ox rfl rfl rfl rfl (ex_indexAddr (d := kOut) rfl rfl rfl Try.underlying26 tsz69 hp0_1 (idx_lo e1736) (idx_hi e1736)) ?_
      refine ox rfl rfl rfl rfl (ex_fieldAddr (off' := so p0_1 + (a1703).toNat * 4) rfl rfl Try.underlying69 rfl tsz2 rfl) ?_
      refine ox rfl rfl rfl rfl (ex_load1 rfl rfl Try.underlying2 rfl ((HM.at_ hc1737) 0 _ rfl)) ?_
      refine od rfl rfl rfl rfl (does_callk rfl callok58 rfl (spec_l1In.calls (x0 := (gt x0.fOuts a1703).fValue) (x1 := 1) (x2 := 1000000) h1741)) ?_
      rintro _ w1742 ⟨rfl, hn⟩
      replace HM : Mem w [] w1742 [] := HM.call hn
      refine ox rfl rfl rfl rfl (ex_not rfl rfl) ?_
      refine ops_nil (at_then ?_)
      refine run_cond (b := !t1740) rfl (fun hb1743 => ?_) (fun hb1743 => ?_)
      · replace ho1680 := cond_t hb1743 ho1680
        refine run_seq ?_
        refine run_region rfl ?_
        refine ox rfl rfl rfl rfl (ex_assign rfl rfl) ?_
        refine ops_nil (at_then ?_)
        refine run_ret ?_
        refine at_then_ret ?_
        refine at_block_ret ?_
        refine at_then_ret ?_
        refine at_then_ret ?_
        refine at_block_ret ?_
        refine at_then_ret ?_
        have hR := Option.some.inj ho1680
        subst hR
        have hT := thn_inl H
        have hR := Option.some.inj hT
        subst hR
        exact at_ret1 rfl rfl ⟨_, rfl, rfl, HM⟩
      · replace ho1680 := cond_f hb1743 ho1680
        refine run_skip ?_
        refine at_then ?_
        refine run_seq ?_
        obtain ⟨e1744, ho1680⟩ := chk_some ho1680
        obtain ⟨t1748, h1749, ho1680⟩ := bind_some ho1680
        refine run_region rfl ?_
        refine ox rfl rfl rfl rfl (ex_move rfl rfl) ?_
        refine ox rfl rfl rfl rfl (ex_nilCheck rfl rfl) ?_
        refine ox rfl rfl rfl rfl (ex_fieldAddr (off' := f0 + 3) rfl rfl Try.underlying28 rfl tsz26 rfl) ?_
        refine ox rfl rfl rfl rfl (ex_load1 rfl rfl Try.underlying26 rfl ((HM.at_ hc0) 3 _ rfl)) ?_
        refine ox rfl rfl rfl rfl (ex_move rfl rfl) ?_
        obtain ⟨kv1746, hc1745, hk1747⟩ : ∃ u, CellsAt _ (sb p0_1) (so p0_1 + (a1703).toNat * 4) [(.int .i64 ((gt x0.fOuts a1703).fValue)), u, (.int .i64 ((gt x0.fOuts a1703).fRule.fNeed)), (.int .i64 ((gt x0.fOuts a1703).fRule.fAfter))] ∧ RdS kInt _ u ((gt x0.fOuts a1703).fRule.fKeys) := rd_with1 hp0_1 e1744
        refine ox rfl rfl rfl rfl (ex_indexAddr (d := kOut) rfl rfl rfl Try.underlying26 tsz69 hp0_1 (idx_lo e1744) (idx_hi e1744)) ?_
        refine ox rfl rfl rfl rfl (ex_fieldAddr (off' := so p0_1 + (a1703).toNat * 4 + 1) rfl rfl Try.underlying69 rfl tsz67 rfl) ?_
        refine od rfl rfl rfl rfl (does_callk rfl callok132 rfl (spec_l2Fault.calls (x0 := (gt x0.fOuts a1703).fRule) (CellsAt.sub (HM.at_ hc1745) 1 3 rfl) (HM.rd hk1747) h1749)) ?_
        rintro _ w1750 ⟨rfl, hn⟩
        replace HM : Mem w [] w1750 [] := HM.call hn
        refine ox rfl rfl rfl rfl (ex_assign rfl rfl) ?_
        refine ops_nil (at_then (run_seq ?_))
        refine run_region rfl ?_
        refine ox rfl rfl rfl rfl (ex_move rfl rfl) ?_
        refine ox rfl rfl rfl rfl (ex_neq rfl rfl rfl) ?_
        refine ops_nil (at_then ?_)
        refine run_cond (b := (t1748 != 0)) rfl (fun hb1751 => ?_) (fun hb1751 => ?_)
        · replace ho1680 := cond_t hb1751 ho1680
          refine run_seq ?_
          refine run_region rfl ?_
          refine ox rfl rfl rfl rfl (ex_move rfl rfl) ?_
          refine ox rfl rfl rfl rfl (ex_assign rfl rfl) ?_
          refine ops_nil (at_then ?_)
          refine run_ret ?_
          refine at_block_ret ?_
          refine at_then_ret ?_
          refine at_then_ret ?_
          refine at_block_ret ?_
          refine at_then_ret ?_
          have hR := Option.some.inj ho1680
          subst hR
          have hT := thn_inl H
          have hR := Option.some.inj hT
          subst hR
          exact at_ret1 rfl rfl ⟨_, rfl, rfl, HM⟩
        · replace ho1680 := cond_f hb1751 ho1680
          refine run_skip ?_
          refine at_block ?_
          refine at_then ?_
          refine run_region rfl ?_
          refine ox rfl rfl rfl rfl (ex_move rfl rfl) ?_
          refine ox rfl rfl rfl rfl (ex_add rfl rfl rfl) ?_
          refine ox rfl rfl rfl rfl (ex_assign rfl rfl) ?_
          refine ops_nil ?_
          exact at_again k1726 (ρ1 := [(0, .pointer (some ⟨b0, f0, none⟩)), (3, .int .i64 (wrap64 (a1703 + 1)))]) (Nat.lt_succ_self _) ⟨_, ho1680, rfl, HM⟩ (Sub.cons rfl (Sub.cons rfl Sub.nil))
    · replace ho1680 := cond_f hb1728 ho1680
      refine run_exit ?_
      refine at_then_exit ?_
      refine at_then_exit ?_
      refine at_block_exit ?_
      exact at_mid (ρ' := [(0, .pointer (some ⟨b0, f0, none⟩))]) ⟨(Option.some.inj ho1680), rfl, HM⟩ (Sub.cons rfl Sub.nil)
  · rintro _ w1752 ⟨rfl, rfl, HM⟩
    replace H := (thn_inr H)
    refine run_seq ?_
    refine run_seq ?_
    obtain ⟨e1753, H⟩ := chk_some H
    refine run_meet (fun ρ_ w_ => ρ_ = [(49, .bool ((x0.fKind == 1) && (decide (((gt x0.fOuts (0 : Int)).fValue) < 100))))] ∧ Mem w [] w_ []) ?_ ?_
    · skip
      refine run_region rfl ?_
      refine ox rfl rfl rfl rfl (ex_move rfl rfl) ?_
      refine ox rfl rfl rfl rfl (ex_nilCheck rfl rfl) ?_
      refine ox rfl rfl rfl rfl (ex_fieldAddr (off' := f0) rfl rfl Try.underlying28 rfl tsz2 rfl) ?_
      refine ox rfl rfl rfl rfl (ex_load1 rfl rfl Try.underlying2 rfl ((HM.at_ hc0) 0 _ rfl)) ?_
      refine ox rfl rfl rfl rfl (ex_eql rfl rfl rfl) ?_
      refine ox rfl rfl rfl rfl (ex_move rfl rfl) ?_
      refine bool_cases (x0.fKind == 1) (fun hg1757 => ?_) (fun hg1757 => ?_)
      · skip
        refine ops_ex rfl (guard_on rfl rfl rfl hg1757) rfl rfl (ex_move rfl rfl) ?_
        refine ops_ex rfl (guard_on rfl rfl rfl hg1757) rfl rfl (ex_nilCheck rfl rfl) ?_
        refine ops_ex rfl (guard_on rfl rfl rfl hg1757) rfl rfl (ex_fieldAddr (off' := f0 + 3) rfl rfl Try.underlying28 rfl tsz26 rfl) ?_
        refine ops_ex rfl (guard_on rfl rfl rfl hg1757) rfl rfl (ex_load1 rfl rfl Try.underlying26 rfl ((HM.at_ hc0) 3 _ rfl)) ?_
        obtain ⟨kv1755, hc1754, hk1756⟩ : ∃ u, CellsAt _ (sb p0_1) (so p0_1 + ((0 : Int)).toNat * 4) [(.int .i64 ((gt x0.fOuts (0 : Int)).fValue)), u, (.int .i64 ((gt x0.fOuts (0 : Int)).fRule.fNeed)), (.int .i64 ((gt x0.fOuts (0 : Int)).fRule.fAfter))] ∧ RdS kInt _ u ((gt x0.fOuts (0 : Int)).fRule.fKeys) := rd_with1 hp0_1 (or_t e1753 hg1757)
        refine ops_ex rfl (guard_on rfl rfl rfl hg1757) rfl rfl (ex_indexAddr (d := kOut) rfl rfl rfl Try.underlying26 tsz69 hp0_1 (idx_lo (or_t e1753 hg1757)) (idx_hi (or_t e1753 hg1757))) ?_
        refine ops_ex rfl (guard_on rfl rfl rfl hg1757) rfl rfl (ex_fieldAddr (off' := so p0_1 + ((0 : Int)).toNat * 4) rfl rfl Try.underlying69 rfl tsz2 rfl) ?_
        refine ops_ex rfl (guard_on rfl rfl rfl hg1757) rfl rfl (ex_load1 rfl rfl Try.underlying2 rfl ((HM.at_ hc1754) 0 _ rfl)) ?_
        refine ops_ex rfl (guard_on rfl rfl rfl hg1757) rfl rfl (ex_lss rfl rfl rfl) ?_
        refine ops_ex (v := .bool ((x0.fKind == 1) && (decide (((gt x0.fOuts (0 : Int)).fValue) < 100)))) rfl (guard_none rfl) rfl rfl (ex_pand_t rfl rfl hg1757 rfl) ?_
        refine ops_nil ?_
        exact at_meet [(49, .bool ((x0.fKind == 1) && (decide (((gt x0.fOuts (0 : Int)).fValue) < 100))))] ⟨rfl, HM⟩ (Sub.cons rfl Sub.nil)
      · skip
        refine ops_off rfl (guard_off rfl rfl rfl hg1757) rfl rfl ?_
        refine ops_off rfl (guard_off rfl rfl rfl hg1757) rfl rfl ?_
        refine ops_off rfl (guard_off rfl rfl rfl hg1757) rfl rfl ?_
        refine ops_off rfl (guard_off rfl rfl rfl hg1757) rfl rfl ?_
        refine ops_off rfl (guard_off rfl rfl rfl hg1757) rfl rfl ?_
        refine ops_off rfl (guard_off rfl rfl rfl hg1757) rfl rfl ?_
        refine ops_off rfl (guard_off rfl rfl rfl hg1757) rfl rfl ?_
        refine ops_off rfl (guard_off rfl rfl rfl hg1757) rfl rfl ?_
        have hg1758 : ((x0.fKind == 1) && (decide (((gt x0.fOuts (0 : Int)).fValue) < 100))) = false := by simp only [hg1757, Bool.and_true, Bool.true_and, Bool.and_false, Bool.false_and, Bool.or_true, Bool.true_or, Bool.or_false, Bool.false_or, Bool.not_true, Bool.not_false, Bool.not_not]
        refine ops_ex (v := .bool ((x0.fKind == 1) && (decide (((gt x0.fOuts (0 : Int)).fValue) < 100)))) rfl (guard_none rfl) rfl rfl (ex_pand_f rfl rfl hg1757) ?_
        refine ops_nil ?_
        exact at_meet [(49, .bool ((x0.fKind == 1) && (decide (((gt x0.fOuts (0 : Int)).fValue) < 100))))] ⟨rfl, HM⟩ (Sub.cons rfl Sub.nil)
    · rintro _ w1759 ⟨rfl, HM⟩
      refine at_then ?_
      refine run_cond (b := ((x0.fKind == 1) && (decide (((gt x0.fOuts (0 : Int)).fValue) < 100)))) rfl (fun hb1760 => ?_) (fun hb1760 => ?_)
      · replace H := cond_t hb1760 H
        refine run_seq ?_
        refine run_region rfl ?_
        refine ox rfl rfl rfl rfl (ex_assign rfl rfl) ?_
        refine ops_nil (at_then ?_)
        refine run_ret ?_
        refine at_then_ret ?_
        have hR := Option.some.inj H
        subst hR
        exact at_ret1 rfl rfl ⟨_, rfl, rfl, HM⟩
      · replace H := cond_f hb1760 H
        refine run_skip ?_
        refine at_then ?_
        refine run_seq ?_
        refine run_region rfl ?_
        refine ox rfl rfl rfl rfl (ex_assign rfl rfl) ?_
        refine ops_nil (at_then ?_)
        refine run_ret ?_
        have hR := Option.some.inj H
        subst hR
        exact at_ret1 rfl rfl ⟨_, rfl, rfl, HM⟩

def spec_l3Fault.l0 (x0 : Tx) : Nat → Int → Option (Int ⊕ Unit)
  | 0, _ => none
  | k + 1, a1881 => (bif (decide (a1881 < (x0.fIns.length : Int))) then (chk (idxOk a1881 x0.fIns.length) ((spec_l3Ref.f k (gt x0.fIns a1881)).bind fun t1912 => (bif !t1912 then some (.inl 3) else (chk (cutOk a1881 x0.fIns.length) (chk (idxOk a1881 x0.fIns.length) ((spec_l3Among.f k (x0.fIns.take (a1881).toNat) (gt x0.fIns a1881)).bind fun t1922 => (bif t1922 then some (.inl 7) else spec_l3Fault.l0 x0 k (wrap64 (a1881 + 1))))))))) else some (.inr ()))
theorem spec_l3Fault.l0_z (x0 : Tx) (a1881 : Int) : spec_l3Fault.l0 x0 0 a1881 = none := rfl
theorem spec_l3Fault.l0_s (x0 : Tx) (k : Nat) (a1881 : Int) : spec_l3Fault.l0 x0 (k + 1) a1881 = (bif (decide (a1881 < (x0.fIns.length : Int))) then (chk (idxOk a1881 x0.fIns.length) ((spec_l3Ref.f k (gt x0.fIns a1881)).bind fun t1912 => (bif !t1912 then some (.inl 3) else (chk (cutOk a1881 x0.fIns.length) (chk (idxOk a1881 x0.fIns.length) ((spec_l3Among.f k (x0.fIns.take (a1881).toNat) (gt x0.fIns a1881)).bind fun t1922 => (bif t1922 then some (.inl 7) else spec_l3Fault.l0 x0 k (wrap64 (a1881 + 1))))))))) else some (.inr ())) := rfl
def spec_l3Fault.f (k : Nat) (x0 : Tx) : Option Int := ((spec_l1In.f k x0.fKind 0 2).bind fun t1766 => (bif ((!t1766) || ((x0.fKind == 0) != (x0.fMember == 0))) then some 1 else ((bif (x0.fKind != 0) then spec_l1Key.f k x0.fMember else some default).bind fun t1776 => (bif ((x0.fKind != 0) && (!t1776)) then some 3 else ((spec_l1In.f k (x0.fIns.length : Int) 1 4).bind fun t1788 => ((bif (!(!t1788)) then spec_l1In.f k (x0.fOuts.length : Int) 1 4 else some default).bind fun t1790 => (bif ((!t1788) || (!t1790)) then some 2 else ((spec_l3Fault.l0 x0 k 0).bind fun o1859 => thn o1859 (fun r => some r) (fun _ => ((spec_l3Outs.f k x0).bind fun t1927 => some t1927))))))))))
theorem spec_l3Fault.calls {k : Nat} {x0 : Tx} {b0 f0 : Nat} {p0_0 : Value} {p0_1 : Value} {w : World} (hc0 : CellsAt w b0 f0 [.int .i64 x0.fKind, .int .i64 x0.fMember, p0_0, p0_1]) (hp0_0 : RdS kRef w p0_0 x0.fIns) (hp0_1 : RdS kOut w p0_1 x0.fOuts) {r : Int} (H : spec_l3Fault.f k x0 = some r) :
    Calls Try.prog 57 ([.pointer (some ⟨b0, f0, none⟩)] : List Value).toArray w (fun e w_ => ∃ v, e = .returned v ∧ v = (.int .i64 r) ∧ Mem w [] w_ []) := by
  have HM := Mem.start w
  refine calls_run (N := 86) Try.func57 rfl rfl rfl rfl ?_
  unfold spec_l3Fault.f at H
  refine run_seq ?_
  refine run_region rfl ?_
  refine ox rfl rfl rfl rfl (ex_assign rfl rfl) ?_
  refine ops_nil (at_then (run_seq ?_))
  refine run_seq ?_
  obtain ⟨t1766, h1767, H⟩ := bind_some H
  refine run_meet (fun ρ_ w_ => ρ_ = [(0, .pointer (some ⟨b0, f0, none⟩)), (22, .bool ((!t1766) || ((x0.fKind == 0) != (x0.fMember == 0))))] ∧ Mem w [] w_ []) ?_ ?_
  · skip
    refine run_drawf (fun w_ => Mem w [] w_ []) [(0, true), (1, true), (2, true), (3, true), (4, false), (5, true), (6, true), (7, true), (8, true), (9, true), (10, true), (11, true), (12, true), (13, true), (14, true), (15, true), (16, true), (17, true), (18, true)] mixed rfl rfl (by kernel_rfl) ?_
    replace HM := HM.grow (fr_drew _)
    have hS := Mem.suf (M := []) HM
    refine dp rfl rfl rfl rfl (ex_move rfl rfl) hS ?_
    refine dp rfl rfl rfl rfl (ex_nilCheck rfl rfl) hS ?_
    refine dp rfl rfl rfl rfl (ex_fieldAddr (off' := f0) rfl rfl Try.underlying28 rfl tsz2 rfl) hS ?_
    refine drwp_take rfl (guard_none rfl) rfl rfl (fun w_ hS_ => (ex_load1 rfl rfl Try.underlying2 rfl ((hS_.at_ hc0) 0 _ rfl))) hS ?_
    refine drwp_one rfl (guard_none rfl) rfl rfl (does_callk rfl callok58 rfl (spec_l1In.calls (x0 := x0.fKind) (x1 := 0) (x2 := 2) h1767)) ?_
    rintro _ w1768 ⟨rfl, hn⟩
    replace HM : Mem w [] w1768 [] := HM.call hn
    have hS := Mem.suf (M := []) HM
    refine ⟨hS, ?_⟩
    refine dp rfl rfl rfl rfl (ex_not rfl rfl) hS ?_
    refine dp rfl rfl rfl rfl (ex_move rfl rfl) hS ?_
    refine bool_cases (!t1766) (fun hg1769 => ?_) (fun hg1769 => ?_)
    · skip
      refine drwp_off rfl (guard_off rfl rfl rfl hg1769) rfl rfl hS ?_
      refine drwp_off rfl (guard_off rfl rfl rfl hg1769) rfl rfl hS ?_
      refine drwp_off rfl (guard_off rfl rfl rfl hg1769) rfl rfl hS ?_
      refine drwp_off rfl (guard_off rfl rfl rfl hg1769) rfl rfl hS ?_
      refine drwp_off rfl (guard_off rfl rfl rfl hg1769) rfl rfl hS ?_
      refine drwp_off rfl (guard_off rfl rfl rfl hg1769) rfl rfl hS ?_
      refine drwp_off rfl (guard_off rfl rfl rfl hg1769) rfl rfl hS ?_
      refine drwp_off rfl (guard_off rfl rfl rfl hg1769) rfl rfl hS ?_
      refine drwp_off rfl (guard_off rfl rfl rfl hg1769) rfl rfl hS ?_
      refine drwp_off rfl (guard_off rfl rfl rfl hg1769) rfl rfl hS ?_
      refine drwp_off rfl (guard_off rfl rfl rfl hg1769) rfl rfl hS ?_
      have hg1770 : ((!t1766) || ((x0.fKind == 0) != (x0.fMember == 0))) = true := by simp only [hg1769, Bool.and_true, Bool.true_and, Bool.and_false, Bool.false_and, Bool.or_true, Bool.true_or, Bool.or_false, Bool.false_or, Bool.not_true, Bool.not_false, Bool.not_not]
      refine drwp_take (v := .bool ((!t1766) || ((x0.fKind == 0) != (x0.fMember == 0)))) rfl (guard_none rfl) rfl rfl (fun w_ hS_ => (ex_por_t rfl rfl hg1769)) hS ?_
      refine drwp_done ?_
      exact at_meet [(0, .pointer (some ⟨b0, f0, none⟩)), (22, .bool ((!t1766) || ((x0.fKind == 0) != (x0.fMember == 0))))] ⟨rfl, HM⟩ (Sub.cons rfl (Sub.cons rfl Sub.nil))
    · skip
      refine drwp_take rfl (guard_on rfl rfl rfl hg1769) rfl rfl (fun w_ hS_ => (ex_move rfl rfl)) hS ?_
      refine drwp_take rfl (guard_on rfl rfl rfl hg1769) rfl rfl (fun w_ hS_ => (ex_nilCheck rfl rfl)) hS ?_
      refine drwp_take rfl (guard_on rfl rfl rfl hg1769) rfl rfl (fun w_ hS_ => (ex_fieldAddr (off' := f0) rfl rfl Try.underlying28 rfl tsz2 rfl)) hS ?_
      refine drwp_take rfl (guard_on rfl rfl rfl hg1769) rfl rfl (fun w_ hS_ => (ex_load1 rfl rfl Try.underlying2 rfl ((hS_.at_ hc0) 0 _ rfl))) hS ?_
      refine drwp_take rfl (guard_on rfl rfl rfl hg1769) rfl rfl (fun w_ hS_ => (ex_eql rfl rfl rfl)) hS ?_
      refine drwp_take rfl (guard_on rfl rfl rfl hg1769) rfl rfl (fun w_ hS_ => (ex_move rfl rfl)) hS ?_
      refine drwp_take rfl (guard_on rfl rfl rfl hg1769) rfl rfl (fun w_ hS_ => (ex_nilCheck rfl rfl)) hS ?_
      refine drwp_take rfl (guard_on rfl rfl rfl hg1769) rfl rfl (fun w_ hS_ => (ex_fieldAddr (off' := f0 + 1) rfl rfl Try.underlying28 rfl tsz2 rfl)) hS ?_
      refine drwp_take rfl (guard_on rfl rfl rfl hg1769) rfl rfl (fun w_ hS_ => (ex_load1 rfl rfl Try.underlying2 rfl ((hS_.at_ hc0) 1 _ rfl))) hS ?_
      refine drwp_take rfl (guard_on rfl rfl rfl hg1769) rfl rfl (fun w_ hS_ => (ex_eql rfl rfl rfl)) hS ?_
      refine drwp_take rfl (guard_on rfl rfl rfl hg1769) rfl rfl (fun w_ hS_ => (ex_bneq rfl rfl rfl Try.underlying4)) hS ?_
      refine drwp_take (v := .bool ((!t1766) || ((x0.fKind == 0) != (x0.fMember == 0)))) rfl (guard_none rfl) rfl rfl (fun w_ hS_ => (ex_por_f rfl rfl hg1769 rfl)) hS ?_
      refine drwp_done ?_
      exact at_meet [(0, .pointer (some ⟨b0, f0, none⟩)), (22, .bool ((!t1766) || ((x0.fKind == 0) != (x0.fMember == 0))))] ⟨rfl, HM⟩ (Sub.cons rfl (Sub.cons rfl Sub.nil))
  · rintro _ w1771 ⟨rfl, HM⟩
    refine at_then ?_
    refine run_cond (b := ((!t1766) || ((x0.fKind == 0) != (x0.fMember == 0)))) rfl (fun hb1772 => ?_) (fun hb1772 => ?_)
    · replace H := cond_t hb1772 H
      refine run_seq ?_
      refine run_region rfl ?_
      refine ox rfl rfl rfl rfl (ex_assign rfl rfl) ?_
      refine ops_nil (at_then ?_)
      refine run_ret ?_
      refine at_then_ret ?_
      have hR := Option.some.inj H
      subst hR
      exact at_ret1 rfl rfl ⟨_, rfl, rfl, HM⟩
    · replace H := cond_f hb1772 H
      refine run_skip ?_
      refine at_then ?_
      refine run_seq ?_
      refine run_seq ?_
      obtain ⟨t1776, h1777, H⟩ := bind_some H
      refine run_meet (fun ρ_ w_ => ρ_ = [(0, .pointer (some ⟨b0, f0, none⟩)), (35, .bool ((x0.fKind != 0) && (!t1776)))] ∧ Mem w [] w_ []) ?_ ?_
      · skip
        refine run_region rfl ?_
        refine ox rfl rfl rfl rfl (ex_move rfl rfl) ?_
        refine ox rfl rfl rfl rfl (ex_nilCheck rfl rfl) ?_
        refine ox rfl rfl rfl rfl (ex_fieldAddr (off' := f0) rfl rfl Try.underlying28 rfl tsz2 rfl) ?_
        refine ox rfl rfl rfl rfl (ex_load1 rfl rfl Try.underlying2 rfl ((HM.at_ hc0) 0 _ rfl)) ?_
        refine ox rfl rfl rfl rfl (ex_neq rfl rfl rfl) ?_
        refine ox rfl rfl rfl rfl (ex_move rfl rfl) ?_
        refine bool_cases (x0.fKind != 0) (fun hg1778 => ?_) (fun hg1778 => ?_)
        · skip
          refine ops_ex rfl (guard_on rfl rfl rfl hg1778) rfl rfl (ex_move rfl rfl) ?_
          refine ops_ex rfl (guard_on rfl rfl rfl hg1778) rfl rfl (ex_nilCheck rfl rfl) ?_
          refine ops_ex rfl (guard_on rfl rfl rfl hg1778) rfl rfl (ex_fieldAddr (off' := f0 + 1) rfl rfl Try.underlying28 rfl tsz2 rfl) ?_
          refine ops_ex rfl (guard_on rfl rfl rfl hg1778) rfl rfl (ex_load1 rfl rfl Try.underlying2 rfl ((HM.at_ hc0) 1 _ rfl)) ?_
          refine ops_does rfl (guard_on rfl rfl rfl hg1778) rfl rfl (does_callk rfl callok116 rfl (spec_l1Key.calls (x0 := x0.fMember) (cond_t hg1778 h1777))) ?_
          rintro _ w1779 ⟨rfl, hn⟩
          replace HM : Mem w [] w1779 [] := HM.call hn
          refine ops_ex rfl (guard_on rfl rfl rfl hg1778) rfl rfl (ex_not rfl rfl) ?_
          refine ops_ex (v := .bool ((x0.fKind != 0) && (!t1776))) rfl (guard_none rfl) rfl rfl (ex_pand_t rfl rfl hg1778 rfl) ?_
          refine ops_nil ?_
          exact at_meet [(0, .pointer (some ⟨b0, f0, none⟩)), (35, .bool ((x0.fKind != 0) && (!t1776)))] ⟨rfl, HM⟩ (Sub.cons rfl (Sub.cons rfl Sub.nil))
        · skip
          refine ops_off rfl (guard_off rfl rfl rfl hg1778) rfl rfl ?_
          refine ops_off rfl (guard_off rfl rfl rfl hg1778) rfl rfl ?_
          refine ops_off rfl (guard_off rfl rfl rfl hg1778) rfl rfl ?_
          refine ops_off rfl (guard_off rfl rfl rfl hg1778) rfl rfl ?_
          refine ops_off rfl (guard_off rfl rfl rfl hg1778) rfl rfl ?_
          refine ops_off rfl (guard_off rfl rfl rfl hg1778) rfl rfl ?_
          have hg1780 : ((x0.fKind != 0) && (!t1776)) = false := by simp only [hg1778, Bool.and_true, Bool.true_and, Bool.and_false, Bool.false_and, Bool.or_true, Bool.true_or, Bool.or_false, Bool.false_or, Bool.not_true, Bool.not_false, Bool.not_not]
          refine ops_ex (v := .bool ((x0.fKind != 0) && (!t1776))) rfl (guard_none rfl) rfl rfl (ex_pand_f rfl rfl hg1778) ?_
          refine ops_nil ?_
          exact at_meet [(0, .pointer (some ⟨b0, f0, none⟩)), (35, .bool ((x0.fKind != 0) && (!t1776)))] ⟨rfl, HM⟩ (Sub.cons rfl (Sub.cons rfl Sub.nil))
      · rintro _ w1781 ⟨rfl, HM⟩
        refine at_then ?_
        refine run_cond (b := ((x0.fKind != 0) && (!t1776))) rfl (fun hb1782 => ?_) (fun hb1782 => ?_)
        · replace H := cond_t hb1782 H
          refine run_seq ?_
          refine run_region rfl ?_
          refine ox rfl rfl rfl rfl (ex_assign rfl rfl) ?_
          refine ops_nil (at_then ?_)
          refine run_ret ?_
          refine at_then_ret ?_
          have hR := Option.some.inj H
          subst hR
          exact at_ret1 rfl rfl ⟨_, rfl, rfl, HM⟩
        · replace H := cond_f hb1782 H
          refine run_skip ?_
          refine at_then ?_
          refine run_seq ?_
          refine run_seq ?_
          obtain ⟨t1788, h1789, H⟩ := bind_some H
          obtain ⟨t1790, h1791, H⟩ := bind_some H
          refine run_meet (fun ρ_ w_ => ρ_ = [(0, .pointer (some ⟨b0, f0, none⟩)), (51, .bool ((!t1788) || (!t1790)))] ∧ Mem w [] w_ []) ?_ ?_
          · skip
            refine run_region rfl ?_
            refine ox rfl rfl rfl rfl (ex_move rfl rfl) ?_
            refine ox rfl rfl rfl rfl (ex_nilCheck rfl rfl) ?_
            refine ox rfl rfl rfl rfl (ex_fieldAddr (off' := f0 + 2) rfl rfl Try.underlying28 rfl tsz25 rfl) ?_
            refine ox rfl rfl rfl rfl (ex_load1 rfl rfl Try.underlying25 rfl ((HM.at_ hc0) 2 _ rfl)) ?_
            refine ox rfl rfl rfl rfl (ex_len (d := kRef) (xs := x0.fIns) rfl rfl Try.underlying25 hp0_0) ?_
            refine od rfl rfl rfl rfl (does_callk rfl callok58 rfl (spec_l1In.calls (x0 := (x0.fIns.length : Int)) (x1 := 1) (x2 := 4) h1789)) ?_
            rintro _ w1792 ⟨rfl, hn⟩
            replace HM : Mem w [] w1792 [] := HM.call hn
            refine ox rfl rfl rfl rfl (ex_not rfl rfl) ?_
            refine ox rfl rfl rfl rfl (ex_move rfl rfl) ?_
            refine bool_cases (!t1788) (fun hg1793 => ?_) (fun hg1793 => ?_)
            · skip
              refine ops_off rfl (guard_off rfl rfl rfl hg1793) rfl rfl ?_
              refine ops_off rfl (guard_off rfl rfl rfl hg1793) rfl rfl ?_
              refine ops_off rfl (guard_off rfl rfl rfl hg1793) rfl rfl ?_
              refine ops_off rfl (guard_off rfl rfl rfl hg1793) rfl rfl ?_
              refine ops_off rfl (guard_off rfl rfl rfl hg1793) rfl rfl ?_
              refine ops_off rfl (guard_off rfl rfl rfl hg1793) rfl rfl ?_
              refine ops_off rfl (guard_off rfl rfl rfl hg1793) rfl rfl ?_
              have hg1794 : ((!t1788) || (!t1790)) = true := by simp only [hg1793, Bool.and_true, Bool.true_and, Bool.and_false, Bool.false_and, Bool.or_true, Bool.true_or, Bool.or_false, Bool.false_or, Bool.not_true, Bool.not_false, Bool.not_not]
              refine ops_ex (v := .bool ((!t1788) || (!t1790))) rfl (guard_none rfl) rfl rfl (ex_por_t rfl rfl hg1793) ?_
              refine ops_nil ?_
              exact at_meet [(0, .pointer (some ⟨b0, f0, none⟩)), (51, .bool ((!t1788) || (!t1790)))] ⟨rfl, HM⟩ (Sub.cons rfl (Sub.cons rfl Sub.nil))
            · skip
              refine ops_ex rfl (guard_on rfl rfl rfl hg1793) rfl rfl (ex_move rfl rfl) ?_
              refine ops_ex rfl (guard_on rfl rfl rfl hg1793) rfl rfl (ex_nilCheck rfl rfl) ?_
              refine ops_ex rfl (guard_on rfl rfl rfl hg1793) rfl rfl (ex_fieldAddr (off' := f0 + 3) rfl rfl Try.underlying28 rfl tsz26 rfl) ?_
              refine ops_ex rfl (guard_on rfl rfl rfl hg1793) rfl rfl (ex_load1 rfl rfl Try.underlying26 rfl ((HM.at_ hc0) 3 _ rfl)) ?_
              refine ops_ex rfl (guard_on rfl rfl rfl hg1793) rfl rfl (ex_len (d := kOut) (xs := x0.fOuts) rfl rfl Try.underlying26 hp0_1) ?_
              refine ops_does rfl (guard_on rfl rfl rfl hg1793) rfl rfl (does_callk rfl callok58 rfl (spec_l1In.calls (x0 := (x0.fOuts.length : Int)) (x1 := 1) (x2 := 4) (cond_t (not_mk hg1793) h1791))) ?_
              rintro _ w1795 ⟨rfl, hn⟩
              replace HM : Mem w [] w1795 [] := HM.call hn
              refine ops_ex rfl (guard_on rfl rfl rfl hg1793) rfl rfl (ex_not rfl rfl) ?_
              refine ops_ex (v := .bool ((!t1788) || (!t1790))) rfl (guard_none rfl) rfl rfl (ex_por_f rfl rfl hg1793 rfl) ?_
              refine ops_nil ?_
              exact at_meet [(0, .pointer (some ⟨b0, f0, none⟩)), (51, .bool ((!t1788) || (!t1790)))] ⟨rfl, HM⟩ (Sub.cons rfl (Sub.cons rfl Sub.nil))
          · rintro _ w1796 ⟨rfl, HM⟩
            refine at_then ?_
            refine run_cond (b := ((!t1788) || (!t1790))) rfl (fun hb1797 => ?_) (fun hb1797 => ?_)
            · replace H := cond_t hb1797 H
              refine run_seq ?_
              refine run_region rfl ?_
              refine ox rfl rfl rfl rfl (ex_assign rfl rfl) ?_
              refine ops_nil (at_then ?_)
              refine run_ret ?_
              refine at_then_ret ?_
              have hR := Option.some.inj H
              subst hR
              exact at_ret1 rfl rfl ⟨_, rfl, rfl, HM⟩
            · replace H := cond_f hb1797 H
              refine run_skip ?_
              refine at_then ?_
              obtain ⟨o1859, ho1860, H⟩ := bind_some H
              refine run_mid (fun ρ_ w_ => Sum.inr () = o1859 ∧ ρ_ = [(0, .pointer (some ⟨b0, f0, none⟩))] ∧ Mem w [] w_ []) ?_ ?_
              · skip
                refine run_seq ?_
                refine run_region rfl ?_
                refine ox rfl rfl rfl rfl (ex_assign rfl rfl) ?_
                refine ops_nil (at_then ?_)
                refine run_block ?_
                refine run_loop (fun k_ ρ_ w_ => ∃ a1881 : Int, spec_l3Fault.l0 x0 k_ a1881 = some o1859 ∧ ρ_ = [(0, .pointer (some ⟨b0, f0, none⟩)), (3, .int .i64 a1881)] ∧ Mem w [] w_ []) k (ρ1 := [(0, .pointer (some ⟨b0, f0, none⟩)), (3, .int .i64 0)]) ⟨_, ho1860, rfl, HM⟩ (Sub.cons rfl (Sub.cons rfl Sub.nil)) ?_
                clear HM ho1860
                rintro k1902 _ w1903 ⟨a1881, ho1860, rfl, HM⟩
                obtain _ | k1902 := k1902
                · exact nomatch ((spec_l3Fault.l0_z x0 a1881).symm.trans ho1860)
                replace ho1860 := (spec_l3Fault.l0_s x0 k1902 a1881).symm.trans ho1860
                refine run_seq ?_
                refine run_seq ?_
                refine run_region rfl ?_
                refine ox rfl rfl rfl rfl (ex_move rfl rfl) ?_
                refine ox rfl rfl rfl rfl (ex_move rfl rfl) ?_
                refine ox rfl rfl rfl rfl (ex_nilCheck rfl rfl) ?_
                refine ox rfl rfl rfl rfl (ex_fieldAddr (off' := f0 + 2) rfl rfl Try.underlying28 rfl tsz25 rfl) ?_
                refine ox rfl rfl rfl rfl (ex_load1 rfl rfl Try.underlying25 rfl ((HM.at_ hc0) 2 _ rfl)) ?_
                refine ox rfl rfl rfl rfl (ex_len (d := kRef) (xs := x0.fIns) rfl rfl Try.underlying25 hp0_0) ?_
                refine ox rfl rfl rfl rfl (ex_lss rfl rfl rfl) ?_
                refine ops_nil (at_then ?_)
                refine run_cond (b := (decide (a1881 < (x0.fIns.length : Int)))) rfl (fun hb1904 => ?_) (fun hb1904 => ?_)
                · replace ho1860 := cond_t hb1904 ho1860
                  refine run_skip ?_
                  refine at_then ?_
                  refine run_seq ?_
                  refine run_block ?_
                  refine run_seq ?_
                  refine run_seq ?_
                  obtain ⟨e1910, ho1860⟩ := chk_some ho1860
                  obtain ⟨t1912, h1913, ho1860⟩ := bind_some ho1860
                  refine run_region rfl ?_
                  refine ox rfl rfl rfl rfl (ex_move rfl rfl) ?_
                  refine ox rfl rfl rfl rfl (ex_nilCheck rfl rfl) ?_
                  refine ox rfl rfl rfl rfl (ex_fieldAddr (off' := f0 + 2) rfl rfl Try.underlying28 rfl tsz25 rfl) ?_
                  refine ox rfl rfl rfl rfl (ex_load1 rfl rfl Try.underlying25 rfl ((HM.at_ hc0) 2 _ rfl)) ?_
                  refine ox rfl rfl rfl rfl (ex_move rfl rfl) ?_
                  have hc1911 : CellsAt _ (sb p0_0) (so p0_0 + (a1881).toNat * 2) [(.int .i64 ((gt x0.fIns a1881).fTx)), (.int .i64 ((gt x0.fIns a1881).fAt))] := rd_plain hp0_0 e1910
                  refine ox rfl rfl rfl rfl (ex_indexAddr (d := kRef) rfl rfl rfl Try.underlying25 tsz36 hp0_0 (idx_lo e1910) (idx_hi e1910)) ?_
                  refine ox rfl rfl rfl rfl (ex_loadN (cs := [(.int .i64 ((gt x0.fIns a1881).fTx)), (.int .i64 ((gt x0.fIns a1881).fAt))]) rfl rfl Try.underlying36 rfl tsz36 rfl ((HM.at_ hc1911).sub 0 2 rfl)) ?_
                  refine od rfl rfl rfl rfl (does_callk rfl callok117 rfl (spec_l3Ref.calls (x0 := (gt x0.fIns a1881)) h1913)) ?_
                  rintro _ w1914 ⟨rfl, hn⟩
                  replace HM : Mem w [] w1914 [] := HM.call hn
                  refine ox rfl rfl rfl rfl (ex_not rfl rfl) ?_
                  refine ops_nil (at_then ?_)
                  refine run_cond (b := !t1912) rfl (fun hb1915 => ?_) (fun hb1915 => ?_)
                  · replace ho1860 := cond_t hb1915 ho1860
                    refine run_seq ?_
                    refine run_region rfl ?_
                    refine ox rfl rfl rfl rfl (ex_assign rfl rfl) ?_
                    refine ops_nil (at_then ?_)
                    refine run_ret ?_
                    refine at_then_ret ?_
                    refine at_block_ret ?_
                    refine at_then_ret ?_
                    refine at_then_ret ?_
                    refine at_block_ret ?_
                    refine at_then_ret ?_
                    have hR := Option.some.inj ho1860
                    subst hR
                    have hT := thn_inl H
                    have hR := Option.some.inj hT
                    subst hR
                    exact at_ret1 rfl rfl ⟨_, rfl, rfl, HM⟩
                  · replace ho1860 := cond_f hb1915 ho1860
                    refine run_skip ?_
                    refine at_then ?_
                    refine run_seq ?_
                    obtain ⟨e1916, ho1860⟩ := chk_some ho1860
                    obtain ⟨e1920, ho1860⟩ := chk_some ho1860
                    obtain ⟨t1922, h1923, ho1860⟩ := bind_some ho1860
                    refine run_drawf (fun w_ => Mem w [] w_ []) [(0, true), (1, true), (2, true), (3, true), (4, true), (5, true), (6, true), (7, true), (8, true), (9, true), (10, true), (11, true), (12, true), (13, false)] mixed rfl rfl (by kernel_rfl) ?_
                    replace HM := HM.grow (fr_drew _)
                    have hS := Mem.suf (M := []) HM
                    refine dp rfl rfl rfl rfl (ex_move rfl rfl) hS ?_
                    refine dp rfl rfl rfl rfl (ex_nilCheck rfl rfl) hS ?_
                    refine dp rfl rfl rfl rfl (ex_fieldAddr (off' := f0 + 2) rfl rfl Try.underlying28 rfl tsz25 rfl) hS ?_
                    refine drwp_take rfl (guard_none rfl) rfl rfl (fun w_ hS_ => (ex_load1 rfl rfl Try.underlying25 rfl ((hS_.at_ hc0) 2 _ rfl))) hS ?_
                    refine dp rfl rfl rfl rfl (ex_move rfl rfl) hS ?_
                    refine drwp_takeE rfl (guard_none rfl) rfl rfl (ex_cutH kRef rfl rfl rfl Try.underlying25 tsz36 hp0_0 e1916) hS ?_
                    rintro u1917 hr1919
                    refine dp rfl rfl rfl rfl (ex_move rfl rfl) hS ?_
                    refine dp rfl rfl rfl rfl (ex_nilCheck rfl rfl) hS ?_
                    refine dp rfl rfl rfl rfl (ex_fieldAddr (off' := f0 + 2) rfl rfl Try.underlying28 rfl tsz25 rfl) hS ?_
                    refine drwp_take rfl (guard_none rfl) rfl rfl (fun w_ hS_ => (ex_load1 rfl rfl Try.underlying25 rfl ((hS_.at_ hc0) 2 _ rfl))) hS ?_
                    refine dp rfl rfl rfl rfl (ex_move rfl rfl) hS ?_
                    have hc1921 : CellsAt _ (sb p0_0) (so p0_0 + (a1881).toNat * 2) [(.int .i64 ((gt x0.fIns a1881).fTx)), (.int .i64 ((gt x0.fIns a1881).fAt))] := rd_plain hp0_0 e1920
                    refine dp rfl rfl rfl rfl (ex_indexAddr (d := kRef) rfl rfl rfl Try.underlying25 tsz36 hp0_0 (idx_lo e1920) (idx_hi e1920)) hS ?_
                    refine drwp_take rfl (guard_none rfl) rfl rfl (fun w_ hS_ => (ex_loadN (cs := [(.int .i64 ((gt x0.fIns a1881).fTx)), (.int .i64 ((gt x0.fIns a1881).fAt))]) rfl rfl Try.underlying36 rfl tsz36 rfl ((hS_.at_ hc1921).sub 0 2 rfl))) hS ?_
                    refine drwp_one rfl (guard_none rfl) rfl rfl (does_callk rfl callok104 rfl (spec_l3Among.calls (x0 := x0.fIns.take (a1881).toNat) (x1 := (gt x0.fIns a1881)) (HM.rd hr1919) h1923)) ?_
                    rintro _ w1924 ⟨rfl, hn⟩
                    replace HM : Mem w [] w1924 [] := HM.call hn
                    have hS := Mem.suf (M := []) HM
                    refine ⟨hS, ?_⟩
                    refine drwp_done ?_
                    refine at_then ?_
                    refine run_cond (b := t1922) rfl (fun hb1925 => ?_) (fun hb1925 => ?_)
                    · replace ho1860 := cond_t hb1925 ho1860
                      refine run_seq ?_
                      refine run_region rfl ?_
                      refine ox rfl rfl rfl rfl (ex_assign rfl rfl) ?_
                      refine ops_nil (at_then ?_)
                      refine run_ret ?_
                      refine at_block_ret ?_
                      refine at_then_ret ?_
                      refine at_then_ret ?_
                      refine at_block_ret ?_
                      refine at_then_ret ?_
                      have hR := Option.some.inj ho1860
                      subst hR
                      have hT := thn_inl H
                      have hR := Option.some.inj hT
                      subst hR
                      exact at_ret1 rfl rfl ⟨_, rfl, rfl, HM⟩
                    · replace ho1860 := cond_f hb1925 ho1860
                      refine run_skip ?_
                      refine at_block ?_
                      refine at_then ?_
                      refine run_region rfl ?_
                      refine ox rfl rfl rfl rfl (ex_move rfl rfl) ?_
                      refine ox rfl rfl rfl rfl (ex_add rfl rfl rfl) ?_
                      refine ox rfl rfl rfl rfl (ex_assign rfl rfl) ?_
                      refine ops_nil ?_
                      exact at_again k1902 (ρ1 := [(0, .pointer (some ⟨b0, f0, none⟩)), (3, .int .i64 (wrap64 (a1881 + 1)))]) (Nat.lt_succ_self _) ⟨_, ho1860, rfl, HM⟩ (Sub.cons rfl (Sub.cons rfl Sub.nil))
                · replace ho1860 := cond_f hb1904 ho1860
                  refine run_exit ?_
                  refine at_then_exit ?_
                  refine at_then_exit ?_
                  refine at_block_exit ?_
                  exact at_mid (ρ' := [(0, .pointer (some ⟨b0, f0, none⟩))]) ⟨(Option.some.inj ho1860), rfl, HM⟩ (Sub.cons rfl Sub.nil)
              · rintro _ w1926 ⟨rfl, rfl, HM⟩
                replace H := (thn_inr H)
                refine run_seq ?_
                obtain ⟨t1927, h1928, H⟩ := bind_some H
                refine run_region rfl ?_
                refine ox rfl rfl rfl rfl (ex_move rfl rfl) ?_
                refine od rfl rfl rfl rfl (does_callk rfl callok118 rfl (spec_l3Outs.calls (x0 := x0) (HM.at_ hc0) (HM.rd hp0_0) (HM.rd hp0_1) h1928)) ?_
                rintro _ w1929 ⟨rfl, hn⟩
                replace HM : Mem w [] w1929 [] := HM.call hn
                refine ox rfl rfl rfl rfl (ex_assign rfl rfl) ?_
                refine ops_nil (at_then ?_)
                refine run_ret ?_
                have hR := Option.some.inj H
                subst hR
                exact at_ret1 rfl rfl ⟨_, rfl, rfl, HM⟩

def spec_l6At.l0 (x0 : List Member) (x1 : Int) : Nat → Int → Option (Int ⊕ Unit)
  | 0, _ => none
  | k + 1, a1976 => (bif (decide (a1976 < (x0.length : Int))) then (chk (idxOk a1976 x0.length) (bif (((gt x0 a1976).fKey) == x1) then some (.inl a1976) else spec_l6At.l0 x0 x1 k (wrap64 (a1976 + 1)))) else some (.inr ()))
theorem spec_l6At.l0_z (x0 : List Member) (x1 : Int) (a1976 : Int) : spec_l6At.l0 x0 x1 0 a1976 = none := rfl
theorem spec_l6At.l0_s (x0 : List Member) (x1 : Int) (k : Nat) (a1976 : Int) : spec_l6At.l0 x0 x1 (k + 1) a1976 = (bif (decide (a1976 < (x0.length : Int))) then (chk (idxOk a1976 x0.length) (bif (((gt x0 a1976).fKey) == x1) then some (.inl a1976) else spec_l6At.l0 x0 x1 k (wrap64 (a1976 + 1)))) else some (.inr ())) := rfl
def spec_l6At.f (k : Nat) (x0 : List Member) (x1 : Int) : Option Int := ((spec_l6At.l0 x0 x1 k 0).bind fun o1970 => thn o1970 (fun r => some r) (fun _ => some (-1)))
theorem spec_l6At.calls {k : Nat} {x0 : List Member} {x1 : Int} {p0 : Value} {w : World} (hp0 : RdS kMember w p0 x0) {r : Int} (H : spec_l6At.f k x0 x1 = some r) :
    Calls Try.prog 119 ([p0, .int .i64 x1] : List Value).toArray w (fun e w_ => ∃ v, e = .returned v ∧ v = (.int .i64 r) ∧ Mem w [] w_ []) := by
  have HM := Mem.start w
  refine calls_run (N := 20) Try.func119 rfl rfl rfl rfl ?_
  unfold spec_l6At.f at H
  refine run_seq ?_
  refine run_region rfl ?_
  refine ox rfl rfl rfl rfl (ex_assign rfl rfl) ?_
  refine ops_nil (at_then ?_)
  obtain ⟨o1970, ho1971, H⟩ := bind_some H
  refine run_mid (fun ρ_ w_ => Sum.inr () = o1970 ∧ ρ_ = [] ∧ Mem w [] w_ []) ?_ ?_
  · skip
    refine run_seq ?_
    refine run_region rfl ?_
    refine ox rfl rfl rfl rfl (ex_assign rfl rfl) ?_
    refine ops_nil (at_then ?_)
    refine run_block ?_
    refine run_loop (fun k_ ρ_ w_ => ∃ a1976 : Int, spec_l6At.l0 x0 x1 k_ a1976 = some o1970 ∧ ρ_ = [(0, p0), (1, .int .i64 x1), (5, .int .i64 a1976)] ∧ Mem w [] w_ []) k (ρ1 := [(0, p0), (1, .int .i64 x1), (5, .int .i64 0)]) ⟨_, ho1971, rfl, HM⟩ (Sub.cons rfl (Sub.cons rfl (Sub.cons rfl Sub.nil))) ?_
    clear HM ho1971
    rintro k1981 _ w1982 ⟨a1976, ho1971, rfl, HM⟩
    obtain _ | k1981 := k1981
    · exact nomatch ((spec_l6At.l0_z x0 x1 a1976).symm.trans ho1971)
    replace ho1971 := (spec_l6At.l0_s x0 x1 k1981 a1976).symm.trans ho1971
    refine run_seq ?_
    refine run_seq ?_
    refine run_region rfl ?_
    refine ox rfl rfl rfl rfl (ex_move rfl rfl) ?_
    refine ox rfl rfl rfl rfl (ex_move rfl rfl) ?_
    refine ox rfl rfl rfl rfl (ex_len (d := kMember) (xs := x0) rfl rfl Try.underlying24 hp0) ?_
    refine ox rfl rfl rfl rfl (ex_lss rfl rfl rfl) ?_
    refine ops_nil (at_then ?_)
    refine run_cond (b := (decide (a1976 < (x0.length : Int)))) rfl (fun hb1983 => ?_) (fun hb1983 => ?_)
    · replace ho1971 := cond_t hb1983 ho1971
      refine run_skip ?_
      refine at_then ?_
      refine run_seq ?_
      refine run_block ?_
      refine run_seq ?_
      obtain ⟨e1984, ho1971⟩ := chk_some ho1971
      refine run_region rfl ?_
      refine ox rfl rfl rfl rfl (ex_move rfl rfl) ?_
      refine ox rfl rfl rfl rfl (ex_move rfl rfl) ?_
      have hc1985 : CellsAt _ (sb p0) (so p0 + (a1976).toNat * 3) [(.int .i64 ((gt x0 a1976).fKey)), (.int .i64 ((gt x0 a1976).fRef.fTx)), (.int .i64 ((gt x0 a1976).fRef.fAt))] := rd_plain hp0 e1984
      refine ox rfl rfl rfl rfl (ex_indexAddr (d := kMember) rfl rfl rfl Try.underlying24 tsz38 hp0 (idx_lo e1984) (idx_hi e1984)) ?_
      refine ox rfl rfl rfl rfl (ex_fieldAddr (off' := so p0 + (a1976).toNat * 3) rfl rfl Try.underlying38 rfl tsz2 rfl) ?_
      refine ox rfl rfl rfl rfl (ex_load1 rfl rfl Try.underlying2 rfl ((HM.at_ hc1985) 0 _ rfl)) ?_
      refine ox rfl rfl rfl rfl (ex_move rfl rfl) ?_
      refine ox rfl rfl rfl rfl (ex_eql rfl rfl rfl) ?_
      refine ops_nil (at_then ?_)
      refine run_cond (b := (((gt x0 a1976).fKey) == x1)) rfl (fun hb1986 => ?_) (fun hb1986 => ?_)
      · replace ho1971 := cond_t hb1986 ho1971
        refine run_seq ?_
        refine run_region rfl ?_
        refine ox rfl rfl rfl rfl (ex_move rfl rfl) ?_
        refine ox rfl rfl rfl rfl (ex_assign rfl rfl) ?_
        refine ops_nil (at_then ?_)
        refine run_ret ?_
        refine at_block_ret ?_
        refine at_then_ret ?_
        refine at_then_ret ?_
        refine at_block_ret ?_
        refine at_then_ret ?_
        have hR := Option.some.inj ho1971
        subst hR
        have hT := thn_inl H
        have hR := Option.some.inj hT
        subst hR
        exact at_ret1 rfl rfl ⟨_, rfl, rfl, HM⟩
      · replace ho1971 := cond_f hb1986 ho1971
        refine run_skip ?_
        refine at_block ?_
        refine at_then ?_
        refine run_region rfl ?_
        refine ox rfl rfl rfl rfl (ex_move rfl rfl) ?_
        refine ox rfl rfl rfl rfl (ex_add rfl rfl rfl) ?_
        refine ox rfl rfl rfl rfl (ex_assign rfl rfl) ?_
        refine ops_nil ?_
        exact at_again k1981 (ρ1 := [(0, p0), (1, .int .i64 x1), (5, .int .i64 (wrap64 (a1976 + 1)))]) (Nat.lt_succ_self _) ⟨_, ho1971, rfl, HM⟩ (Sub.cons rfl (Sub.cons rfl (Sub.cons rfl Sub.nil)))
    · replace ho1971 := cond_f hb1983 ho1971
      refine run_exit ?_
      refine at_then_exit ?_
      refine at_then_exit ?_
      refine at_block_exit ?_
      exact at_mid (ρ' := []) ⟨(Option.some.inj ho1971), rfl, HM⟩ Sub.nil
  · rintro _ w1987 ⟨rfl, rfl, HM⟩
    replace H := (thn_inr H)
    refine run_seq ?_
    refine run_region rfl ?_
    refine ox rfl rfl rfl rfl (ex_assign rfl rfl) ?_
    refine ops_nil (at_then ?_)
    refine run_ret ?_
    have hR := Option.some.inj H
    subst hR
    exact at_ret1 rfl rfl ⟨_, rfl, rfl, HM⟩

def spec_l6Join.l0 (x0 : List Member) (x1 : Member) : Nat → Int → Int → Option (((List Member) × Int) ⊕ Int)
  | 0, _, _ => none
  | k + 1, a2182, a2183 => (bif (decide (a2183 < (x0.length : Int))) then (chk (idxOk a2183 x0.length) (bif ((((gt x0 a2183).fRef.fTx) == x1.fRef.fTx) && (((gt x0 a2183).fRef.fAt) == x1.fRef.fAt)) then some (.inl (([] : List Member), 7)) else (chk (idxOk a2183 x0.length) (bif (decide (((gt x0 a2183).fKey) < x1.fKey)) then spec_l6Join.l0 x0 x1 k (wrap64 (a2183 + 1)) (wrap64 (a2183 + 1)) else spec_l6Join.l0 x0 x1 k a2182 (wrap64 (a2183 + 1)))))) else some (.inr a2182))
theorem spec_l6Join.l0_z (x0 : List Member) (x1 : Member) (a2182 : Int) (a2183 : Int) : spec_l6Join.l0 x0 x1 0 a2182 a2183 = none := rfl
theorem spec_l6Join.l0_s (x0 : List Member) (x1 : Member) (k : Nat) (a2182 : Int) (a2183 : Int) : spec_l6Join.l0 x0 x1 (k + 1) a2182 a2183 = (bif (decide (a2183 < (x0.length : Int))) then (chk (idxOk a2183 x0.length) (bif ((((gt x0 a2183).fRef.fTx) == x1.fRef.fTx) && (((gt x0 a2183).fRef.fAt) == x1.fRef.fAt)) then some (.inl (([] : List Member), 7)) else (chk (idxOk a2183 x0.length) (bif (decide (((gt x0 a2183).fKey) < x1.fKey)) then spec_l6Join.l0 x0 x1 k (wrap64 (a2183 + 1)) (wrap64 (a2183 + 1)) else spec_l6Join.l0 x0 x1 k a2182 (wrap64 (a2183 + 1)))))) else some (.inr a2182)) := rfl
def spec_l6Join.f (k : Nat) (x0 : List Member) (x1 : Member) : Option ((List Member) × Int) := ((spec_l6At.f k x0 x1.fKey).bind fun t2132 => (bif (decide (0 ≤ t2132)) then some (([] : List Member), 7) else ((spec_l6Join.l0 x0 x1 k 0 0).bind fun o2170 => thn o2170 (fun r => some r) (fun a2169 => (bif (decide (8 ≤ (x0.length : Int))) then some (([] : List Member), 2) else (chk (cutOk a2169 x0.length) (chk (leB ((([] : List Member).length + (x0.take (a2169).toNat).length) * 24) 140737488355328) (chk (cutOk a2169 x0.length) (chk (leB (((([] : List Member) ++ (x0.take (a2169).toNat)).length + ([x1] : List Member).length) * 24) 140737488355328) (chk (leB ((((([] : List Member) ++ (x0.take (a2169).toNat)) ++ ([x1] : List Member)).length + (x0.drop (a2169).toNat).length) * 24) 140737488355328) (some (((([] : List Member) ++ (x0.take (a2169).toNat)) ++ ([x1] : List Member)) ++ (x0.drop (a2169).toNat), 0))))))))))))
theorem spec_l6Join.calls {k : Nat} {x0 : List Member} {x1 : Member} {p0 : Value} {w : World} (hp0 : RdS kMember w p0 x0) {r : (List Member) × Int} (H : spec_l6Join.f k x0 x1 = some r) :
    Calls Try.prog 120 ([p0, .agg #[(.int .i64 x1.fKey), (.int .i64 x1.fRef.fTx), (.int .i64 x1.fRef.fAt)]] : List Value).toArray w (fun e w_ => ∃ v, e = .returned v ∧ ∃ u0 : Value, v = (.tuple #[u0, .int .i64 r.2]) ∧ Mem w [] w_ [own kMember 38 u0 r.1]) := by
  have HM := Mem.start w
  refine calls_run (N := 54) Try.func120 rfl rfl rfl rfl ?_
  unfold spec_l6Join.f at H
  refine run_seq ?_
  refine run_region rfl ?_
  refine od rfl rfl rfl rfl (does_box (cs := [.int .i64 x1.fKey, .int .i64 x1.fRef.fTx, .int .i64 x1.fRef.fAt]) rfl rfl rfl HM) ?_
  rintro _ w2128 ⟨b2125, rfl, HM⟩
  refine ox rfl rfl rfl rfl (ex_assign rfl rfl) ?_
  refine ox rfl rfl rfl rfl (ex_assign rfl rfl) ?_
  refine ops_nil (at_then (run_seq ?_))
  refine run_seq ?_
  obtain ⟨t2132, h2133, H⟩ := bind_some H
  refine run_region rfl ?_
  refine ox rfl rfl rfl rfl (ex_move rfl rfl) ?_
  refine ox rfl rfl rfl rfl (ex_fieldAddr (off' := 0) rfl rfl Try.underlying38 rfl tsz2 rfl) ?_
  refine ox rfl rfl rfl rfl (ex_load1 rfl rfl Try.underlying2 rfl ((HM.box_at 0 rfl) 0 _ rfl)) ?_
  refine od rfl rfl rfl rfl (does_callk rfl callok119 rfl (spec_l6At.calls (x0 := x0) (x1 := x1.fKey) (HM.rd hp0) h2133)) ?_
  rintro _ w2134 ⟨rfl, hn⟩
  replace HM : Mem w [] w2134 [box b2125 38 [.int .i64 x1.fKey, .int .i64 x1.fRef.fTx, .int .i64 x1.fRef.fAt]] := HM.call hn
  refine ox rfl rfl rfl rfl (ex_geq rfl rfl rfl) ?_
  refine ops_nil (at_then ?_)
  refine run_cond (b := (decide (0 ≤ t2132))) rfl (fun hb2135 => ?_) (fun hb2135 => ?_)
  · replace H := cond_t hb2135 H
    refine run_seq ?_
    refine run_region rfl ?_
    refine ox rfl rfl rfl rfl (ex_assign rfl rfl) ?_
    refine ox rfl rfl rfl rfl (ex_assign rfl rfl) ?_
    refine ops_nil (at_then ?_)
    refine run_ret ?_
    refine at_then_ret ?_
    replace HM := HM.empty kMember 38 none
    replace HM := (HM.front 1 rfl rfl).drop
    have hR := Option.some.inj H
    subst hR
    exact at_ret2 rfl rfl rfl ⟨_, rfl, _, rfl, HM⟩
  · replace H := cond_f hb2135 H
    refine run_skip ?_
    refine at_then ?_
    refine run_seq ?_
    refine run_region rfl ?_
    refine ox rfl rfl rfl rfl (ex_assign rfl rfl) ?_
    refine ops_nil (at_then ?_)
    obtain ⟨o2170, ho2171, H⟩ := bind_some H
    refine run_mid (fun ρ_ w_ => ∃ a2169 : Int, Sum.inr a2169 = o2170 ∧ ρ_ = [(0, p0), (3, .pointer (some ⟨b2125, 0, none⟩)), (6, .int .i64 a2169)] ∧ Mem w [] w_ [box b2125 38 [.int .i64 x1.fKey, .int .i64 x1.fRef.fTx, .int .i64 x1.fRef.fAt]]) ?_ ?_
    · skip
      refine run_seq ?_
      refine run_region rfl ?_
      refine ox rfl rfl rfl rfl (ex_assign rfl rfl) ?_
      refine ops_nil (at_then ?_)
      refine run_block ?_
      refine run_loop (fun k_ ρ_ w_ => ∃ a2182 : Int, ∃ a2183 : Int, spec_l6Join.l0 x0 x1 k_ a2182 a2183 = some o2170 ∧ ρ_ = [(0, p0), (3, .pointer (some ⟨b2125, 0, none⟩)), (6, .int .i64 a2182), (7, .int .i64 a2183)] ∧ Mem w [] w_ [box b2125 38 [.int .i64 x1.fKey, .int .i64 x1.fRef.fTx, .int .i64 x1.fRef.fAt]]) k (ρ1 := [(0, p0), (3, .pointer (some ⟨b2125, 0, none⟩)), (6, .int .i64 0), (7, .int .i64 0)]) ⟨_, _, ho2171, rfl, HM⟩ (Sub.cons rfl (Sub.cons rfl (Sub.cons rfl (Sub.cons rfl Sub.nil)))) ?_
      clear HM ho2171
      rintro k2194 _ w2195 ⟨a2182, a2183, ho2171, rfl, HM⟩
      obtain _ | k2194 := k2194
      · exact nomatch ((spec_l6Join.l0_z x0 x1 a2182 a2183).symm.trans ho2171)
      replace ho2171 := (spec_l6Join.l0_s x0 x1 k2194 a2182 a2183).symm.trans ho2171
      refine run_seq ?_
      refine run_seq ?_
      refine run_region rfl ?_
      refine ox rfl rfl rfl rfl (ex_move rfl rfl) ?_
      refine ox rfl rfl rfl rfl (ex_move rfl rfl) ?_
      refine ox rfl rfl rfl rfl (ex_len (d := kMember) (xs := x0) rfl rfl Try.underlying24 hp0) ?_
      refine ox rfl rfl rfl rfl (ex_lss rfl rfl rfl) ?_
      refine ops_nil (at_then ?_)
      refine run_cond (b := (decide (a2183 < (x0.length : Int)))) rfl (fun hb2196 => ?_) (fun hb2196 => ?_)
      · replace ho2171 := cond_t hb2196 ho2171
        refine run_skip ?_
        refine at_then ?_
        refine run_seq ?_
        refine run_block ?_
        refine run_seq ?_
        refine run_seq ?_
        obtain ⟨e2200, ho2171⟩ := chk_some ho2171
        refine run_drawf (fun w_ => Mem w [] w_ [box b2125 38 [.int .i64 x1.fKey, .int .i64 x1.fRef.fTx, .int .i64 x1.fRef.fAt]]) [(0, true), (1, true), (2, true), (3, true), (4, true), (5, true), (6, true), (7, true)] mixed rfl rfl (by kernel_rfl) ?_
        replace HM := HM.grow (fr_drew _)
        have hS := Mem.suf (M := []) HM
        refine dp rfl rfl rfl rfl (ex_move rfl rfl) hS ?_
        refine dp rfl rfl rfl rfl (ex_move rfl rfl) hS ?_
        have hc2201 : CellsAt _ (sb p0) (so p0 + (a2183).toNat * 3) [(.int .i64 ((gt x0 a2183).fKey)), (.int .i64 ((gt x0 a2183).fRef.fTx)), (.int .i64 ((gt x0 a2183).fRef.fAt))] := rd_plain hp0 e2200
        refine dp rfl rfl rfl rfl (ex_indexAddr (d := kMember) rfl rfl rfl Try.underlying24 tsz38 hp0 (idx_lo e2200) (idx_hi e2200)) hS ?_
        refine dp rfl rfl rfl rfl (ex_fieldAddr (off' := so p0 + (a2183).toNat * 3 + 1) rfl rfl Try.underlying38 rfl tsz36 rfl) hS ?_
        refine drwp_take rfl (guard_none rfl) rfl rfl (fun w_ hS_ => (ex_loadN (cs := [(.int .i64 ((gt x0 a2183).fRef.fTx)), (.int .i64 ((gt x0 a2183).fRef.fAt))]) rfl rfl Try.underlying36 rfl tsz36 rfl ((hS_.at_ hc2201).sub 1 2 rfl))) hS ?_
        refine dp rfl rfl rfl rfl (ex_fieldAddr (off' := 1) rfl rfl Try.underlying38 rfl tsz36 rfl) hS ?_
        refine drwp_take rfl (guard_none rfl) rfl rfl (fun w_ hS_ => (ex_loadN (cs := [(.int .i64 x1.fRef.fTx), (.int .i64 x1.fRef.fAt)]) rfl rfl Try.underlying36 rfl tsz36 rfl ((hS_.box_at 0 rfl).sub 1 2 rfl))) hS ?_
        refine dp rfl rfl rfl rfl (ex_aeql rfl rfl rfl (by kernel_rfl) (eqs36 _ _ _ _ _)) hS ?_
        refine drwp_done ?_
        refine at_then ?_
        refine run_cond (b := ((((gt x0 a2183).fRef.fTx) == x1.fRef.fTx) && (((gt x0 a2183).fRef.fAt) == x1.fRef.fAt))) rfl (fun hb2202 => ?_) (fun hb2202 => ?_)
        · replace ho2171 := cond_t hb2202 ho2171
          refine run_seq ?_
          refine run_region rfl ?_
          refine ox rfl rfl rfl rfl (ex_assign rfl rfl) ?_
          refine ox rfl rfl rfl rfl (ex_assign rfl rfl) ?_
          refine ops_nil (at_then ?_)
          refine run_ret ?_
          refine at_then_ret ?_
          refine at_block_ret ?_
          refine at_then_ret ?_
          refine at_then_ret ?_
          refine at_block_ret ?_
          refine at_then_ret ?_
          replace HM := HM.empty kMember 38 none
          replace HM := (HM.front 1 rfl rfl).drop
          have hR := Option.some.inj ho2171
          subst hR
          have hT := thn_inl H
          have hR := Option.some.inj hT
          subst hR
          exact at_ret2 rfl rfl rfl ⟨_, rfl, _, rfl, HM⟩
        · replace ho2171 := cond_f hb2202 ho2171
          refine run_skip ?_
          refine at_then ?_
          refine run_seq ?_
          obtain ⟨e2204, ho2171⟩ := chk_some ho2171
          refine run_drawf (fun w_ => Mem w [] w_ [box b2125 38 [.int .i64 x1.fKey, .int .i64 x1.fRef.fTx, .int .i64 x1.fRef.fAt]]) [(0, true), (1, true), (2, true), (3, true), (4, true), (5, true), (6, true), (7, true)] mixed rfl rfl (by kernel_rfl) ?_
          replace HM := HM.grow (fr_drew _)
          have hS := Mem.suf (M := []) HM
          refine dp rfl rfl rfl rfl (ex_move rfl rfl) hS ?_
          refine dp rfl rfl rfl rfl (ex_move rfl rfl) hS ?_
          have hc2205 : CellsAt _ (sb p0) (so p0 + (a2183).toNat * 3) [(.int .i64 ((gt x0 a2183).fKey)), (.int .i64 ((gt x0 a2183).fRef.fTx)), (.int .i64 ((gt x0 a2183).fRef.fAt))] := rd_plain hp0 e2204
          refine dp rfl rfl rfl rfl (ex_indexAddr (d := kMember) rfl rfl rfl Try.underlying24 tsz38 hp0 (idx_lo e2204) (idx_hi e2204)) hS ?_
          refine dp rfl rfl rfl rfl (ex_fieldAddr (off' := so p0 + (a2183).toNat * 3) rfl rfl Try.underlying38 rfl tsz2 rfl) hS ?_
          refine drwp_take rfl (guard_none rfl) rfl rfl (fun w_ hS_ => (ex_load1 rfl rfl Try.underlying2 rfl ((hS_.at_ hc2205) 0 _ rfl))) hS ?_
          refine dp rfl rfl rfl rfl (ex_fieldAddr (off' := 0) rfl rfl Try.underlying38 rfl tsz2 rfl) hS ?_
          refine drwp_take rfl (guard_none rfl) rfl rfl (fun w_ hS_ => (ex_load1 rfl rfl Try.underlying2 rfl ((hS_.box_at 0 rfl) 0 _ rfl))) hS ?_
          refine dp rfl rfl rfl rfl (ex_lss rfl rfl rfl) hS ?_
          refine drwp_done ?_
          refine at_then ?_
          refine run_cond (b := (decide (((gt x0 a2183).fKey) < x1.fKey))) rfl (fun hb2206 => ?_) (fun hb2206 => ?_)
          · replace ho2171 := cond_t hb2206 ho2171
            refine run_region rfl ?_
            refine ox rfl rfl rfl rfl (ex_move rfl rfl) ?_
            refine ox rfl rfl rfl rfl (ex_add rfl rfl rfl) ?_
            refine ox rfl rfl rfl rfl (ex_assign rfl rfl) ?_
            refine ops_nil ?_
            refine at_block ?_
            refine at_then ?_
            refine run_region rfl ?_
            refine ox rfl rfl rfl rfl (ex_move rfl rfl) ?_
            refine ox rfl rfl rfl rfl (ex_add rfl rfl rfl) ?_
            refine ox rfl rfl rfl rfl (ex_assign rfl rfl) ?_
            refine ops_nil ?_
            exact at_again k2194 (ρ1 := [(0, p0), (3, .pointer (some ⟨b2125, 0, none⟩)), (6, .int .i64 (wrap64 (a2183 + 1))), (7, .int .i64 (wrap64 (a2183 + 1)))]) (Nat.lt_succ_self _) ⟨_, _, ho2171, rfl, HM⟩ (Sub.cons rfl (Sub.cons rfl (Sub.cons rfl (Sub.cons rfl Sub.nil))))
          · replace ho2171 := cond_f hb2206 ho2171
            refine run_skip ?_
            refine at_block ?_
            refine at_then ?_
            refine run_region rfl ?_
            refine ox rfl rfl rfl rfl (ex_move rfl rfl) ?_
            refine ox rfl rfl rfl rfl (ex_add rfl rfl rfl) ?_
            refine ox rfl rfl rfl rfl (ex_assign rfl rfl) ?_
            refine ops_nil ?_
            exact at_again k2194 (ρ1 := [(0, p0), (3, .pointer (some ⟨b2125, 0, none⟩)), (6, .int .i64 a2182), (7, .int .i64 (wrap64 (a2183 + 1)))]) (Nat.lt_succ_self _) ⟨_, _, ho2171, rfl, HM⟩ (Sub.cons rfl (Sub.cons rfl (Sub.cons rfl (Sub.cons rfl Sub.nil))))
      · replace ho2171 := cond_f hb2196 ho2171
        refine run_exit ?_
        refine at_then_exit ?_
        refine at_then_exit ?_
        refine at_block_exit ?_
        exact at_mid (ρ' := [(0, p0), (3, .pointer (some ⟨b2125, 0, none⟩)), (6, .int .i64 a2182)]) ⟨_, (Option.some.inj ho2171), rfl, HM⟩ (Sub.cons rfl (Sub.cons rfl (Sub.cons rfl Sub.nil)))
    · rintro _ w2207 ⟨a2169, rfl, rfl, HM⟩
      replace H := (thn_inr H)
      refine run_seq ?_
      refine run_seq ?_
      refine run_region rfl ?_
      refine ox rfl rfl rfl rfl (ex_move rfl rfl) ?_
      refine ox rfl rfl rfl rfl (ex_len (d := kMember) (xs := x0) rfl rfl Try.underlying24 hp0) ?_
      refine ox rfl rfl rfl rfl (ex_geq rfl rfl rfl) ?_
      refine ops_nil (at_then ?_)
      refine run_cond (b := (decide (8 ≤ (x0.length : Int)))) rfl (fun hb2209 => ?_) (fun hb2209 => ?_)
      · replace H := cond_t hb2209 H
        refine run_seq ?_
        refine run_region rfl ?_
        refine ox rfl rfl rfl rfl (ex_assign rfl rfl) ?_
        refine ox rfl rfl rfl rfl (ex_assign rfl rfl) ?_
        refine ops_nil (at_then ?_)
        refine run_ret ?_
        refine at_then_ret ?_
        replace HM := HM.empty kMember 38 none
        replace HM := (HM.front 1 rfl rfl).drop
        have hR := Option.some.inj H
        subst hR
        exact at_ret2 rfl rfl rfl ⟨_, rfl, _, rfl, HM⟩
      · replace H := cond_f hb2209 H
        refine run_skip ?_
        refine at_then ?_
        refine run_seq ?_
        obtain ⟨e2214, H⟩ := chk_some H
        obtain ⟨e2218, H⟩ := chk_some H
        refine run_region rfl ?_
        refine od rfl rfl rfl rfl (does_lit (e := 38) (cs := []) (xs := ([] : List Member)) kMember rfl rfl (fun _ => by kernel_rfl) rfl rfl (fun _ _ h => by have h' : _ = [] := h; subst h'; exact .nil) HM.emp) ?_
        rintro v2211 w2221 HM
        refine ox rfl rfl rfl rfl (ex_move rfl rfl) ?_
        refine ox rfl rfl rfl rfl (ex_move rfl rfl) ?_
        refine ops_exE rfl (guard_none rfl) rfl rfl (ex_cutH kMember rfl rfl rfl Try.underlying24 tsz38 hp0 e2214) ?_
        rintro u2215 hr2217
        refine od rfl rfl rfl rfl (does_appendR kMember flat_plain rfl rfl rfl Try.underlying24 tsz38 rfl tby38 tz38 rfl rfl (leB_le e2218) (HM.rd hr2217) HM) ?_
        rintro v2219 w2222 HM
        refine ox rfl rfl rfl rfl (ex_assign rfl rfl) ?_
        refine ops_nil (at_then (run_seq ?_))
        obtain ⟨e2223, H⟩ := chk_some H
        obtain ⟨e2230, H⟩ := chk_some H
        obtain ⟨e2233, H⟩ := chk_some H
        refine run_drawf (fun w_ => Mem w [] w_ [box b2125 38 [.int .i64 x1.fKey, .int .i64 x1.fRef.fTx, .int .i64 x1.fRef.fAt]]) [(0, true), (1, true), (4, true), (5, true), (6, true), (2, false), (3, false), (7, false), (8, true), (9, true)] mixed rfl rfl (by kernel_rfl) ?_
        replace HM := HM.grow (fr_drew _)
        have hS := Mem.suf (M := [own kMember 38 v2219 (([] : List Member) ++ (x0.take (a2169).toNat))]) HM
        refine dp rfl rfl rfl rfl (ex_move rfl rfl) hS ?_
        refine drwp_take rfl (guard_none rfl) rfl rfl (fun w_ hS_ => (ex_loadN (cs := [(.int .i64 x1.fKey), (.int .i64 x1.fRef.fTx), (.int .i64 x1.fRef.fAt)]) rfl rfl Try.underlying38 rfl tsz38 rfl ((hS_.box_at 0 rfl).sub 0 3 rfl))) hS ?_
        refine dp rfl rfl rfl rfl (ex_move rfl rfl) hS ?_
        refine dp rfl rfl rfl rfl (ex_move rfl rfl) hS ?_
        refine drwp_takeE rfl (guard_none rfl) rfl rfl (ex_cutL kMember rfl rfl rfl Try.underlying24 tsz38 hp0 e2223) hS ?_
        rintro u2224 hr2226
        refine drwp_one rfl (guard_none rfl) rfl rfl (does_lit (e := 38) (cs := [.int .i64 x1.fKey, .int .i64 x1.fRef.fTx, .int .i64 x1.fRef.fAt]) (xs := ([x1] : List Member)) kMember rfl rfl (fun _ => by kernel_rfl) rfl rfl (fun _ _ h => by have h' : _ = [] := h; subst h'; exact (Elems.cons (d := kMember) (x := x1) (f := []) ⟨rfl, rfl⟩ .nil)) HM.emp) ?_
        rintro v2227 w2236 HM
        have hS := Mem.suf (M := [own kMember 38 v2227 ([x1] : List Member), own kMember 38 v2219 (([] : List Member) ++ (x0.take (a2169).toNat))]) HM
        refine ⟨hS, ?_⟩
        replace HM := HM.front 1 rfl rfl
        refine drwp_one rfl (guard_none rfl) rfl rfl (does_appendR kMember flat_plain rfl rfl rfl Try.underlying24 tsz38 rfl tby38 tz38 rfl rfl (leB_le e2230) (HM.own_rd 1 rfl) HM) ?_
        rintro v2231 w2237 HM
        have hS := Mem.suf (M := [own kMember 38 v2231 ((([] : List Member) ++ (x0.take (a2169).toNat)) ++ ([x1] : List Member)), own kMember 38 v2227 ([x1] : List Member)]) HM
        refine ⟨hS, ?_⟩
        refine drwp_one rfl (guard_none rfl) rfl rfl (does_appendR kMember flat_plain rfl rfl rfl Try.underlying24 tsz38 rfl tby38 tz38 rfl rfl (leB_le e2233) (HM.rd hr2226) HM) ?_
        rintro v2234 w2238 HM
        have hS := Mem.suf (M := [own kMember 38 v2234 (((([] : List Member) ++ (x0.take (a2169).toNat)) ++ ([x1] : List Member)) ++ (x0.drop (a2169).toNat)), own kMember 38 v2227 ([x1] : List Member)]) HM
        refine ⟨hS, ?_⟩
        refine dp rfl rfl rfl rfl (ex_assign rfl rfl) hS ?_
        refine dp rfl rfl rfl rfl (ex_assign rfl rfl) hS ?_
        refine drwp_done ?_
        refine at_then ?_
        refine run_ret ?_
        replace HM := (HM.front 1 rfl rfl).drop
        replace HM := (HM.front 1 rfl rfl).drop
        have hR := Option.some.inj H
        subst hR
        exact at_ret2 rfl rfl rfl ⟨_, rfl, _, rfl, HM⟩
end Go.Proofs.Ytbbcabpnkdilgaa.Zk
