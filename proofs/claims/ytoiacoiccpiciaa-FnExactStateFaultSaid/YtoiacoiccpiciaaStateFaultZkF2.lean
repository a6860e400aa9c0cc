/- What functions of the program compute, each as a plain function, and that they do. Conditions: as each theorem states them. -/
import Derived.Test.YtoiacoiccpiciaaStateFaultZkF1
namespace Go.Proofs.Ytoiacoiccpiciaa.Zk
open Go Go.RowKit Go.IntWalk Go.Proofs
set_option linter.unusedVariables false
set_option linter.unusedSimpArgs false
set_option maxRecDepth 100000
set_option maxHeartbeats 4000000
def spec_l6Fault.l0 (x0 : List Member) : Nat → Int → Option (Int ⊕ Unit)
  | 0, _ => none
  | k + 1, a1668 => (bif (decide (a1668 < (x0.length : Int))) then (chk (idxOk a1668 x0.length) ((spec_l1Key.f k ((gt x0 a1668).fKey)).bind fun t1707 => (chk (!(!(!t1707)) || (idxOk a1668 x0.length)) ((bif (!(!t1707)) then spec_l3Ref.f k ((gt x0 a1668).fRef) else some default).bind fun t1711 => (bif ((!t1707) || (!t1711)) then some (.inl 3) else (chk (!(decide (0 < a1668)) || (idxOk a1668 x0.length)) (chk (!(decide (0 < a1668)) || (idxOk (wrap64 (a1668 - 1)) x0.length)) (bif ((decide (0 < a1668)) && (decide (((gt x0 a1668).fKey) ≤ ((gt x0 (wrap64 (a1668 - 1))).fKey)))) then some (.inl 1) else spec_l6Fault.l0 x0 k (wrap64 (a1668 + 1)))))))))) else some (.inr ()))
theorem spec_l6Fault.l0_z (x0 : List Member) (a1668 : Int) : spec_l6Fault.l0 x0 0 a1668 = none := rfl
theorem spec_l6Fault.l0_s (x0 : List Member) (k : Nat) (a1668 : Int) : spec_l6Fault.l0 x0 (k + 1) a1668 = (bif (decide (a1668 < (x0.length : Int))) then (chk (idxOk a1668 x0.length) ((spec_l1Key.f k ((gt x0 a1668).fKey)).bind fun t1707 => (chk (!(!(!t1707)) || (idxOk a1668 x0.length)) ((bif (!(!t1707)) then spec_l3Ref.f k ((gt x0 a1668).fRef) else some default).bind fun t1711 => (bif ((!t1707) || (!t1711)) then some (.inl 3) else (chk (!(decide (0 < a1668)) || (idxOk a1668 x0.length)) (chk (!(decide (0 < a1668)) || (idxOk (wrap64 (a1668 - 1)) x0.length)) (bif ((decide (0 < a1668)) && (decide (((gt x0 a1668).fKey) ≤ ((gt x0 (wrap64 (a1668 - 1))).fKey)))) then some (.inl 1) else spec_l6Fault.l0 x0 k (wrap64 (a1668 + 1)))))))))) else some (.inr ())) := rfl
def spec_l6Fault.l2 (x0 : List Member) (a1819 : Int) : Nat → Int → Option (Int ⊕ Unit)
  | 0, _ => none
  | k + 1, a1872 => (bif (decide (a1872 < a1819)) then (chk (idxOk a1872 x0.length) (chk (idxOk a1819 x0.length) (bif ((((gt x0 a1872).fRef.fTx) == ((gt x0 a1819).fRef.fTx)) && (((gt x0 a1872).fRef.fAt) == ((gt x0 a1819).fRef.fAt))) then some (.inl 7) else spec_l6Fault.l2 x0 a1819 k (wrap64 (a1872 + 1))))) else some (.inr ()))
theorem spec_l6Fault.l2_z (x0 : List Member) (a1819 : Int) (a1872 : Int) : spec_l6Fault.l2 x0 a1819 0 a1872 = none := rfl
theorem spec_l6Fault.l2_s (x0 : List Member) (a1819 : Int) (k : Nat) (a1872 : Int) : spec_l6Fault.l2 x0 a1819 (k + 1) a1872 = (bif (decide (a1872 < a1819)) then (chk (idxOk a1872 x0.length) (chk (idxOk a1819 x0.length) (bif ((((gt x0 a1872).fRef.fTx) == ((gt x0 a1819).fRef.fTx)) && (((gt x0 a1872).fRef.fAt) == ((gt x0 a1819).fRef.fAt))) then some (.inl 7) else spec_l6Fault.l2 x0 a1819 k (wrap64 (a1872 + 1))))) else some (.inr ())) := rfl
def spec_l6Fault.l1 (x0 : List Member) : Nat → Int → Option (Int ⊕ Unit)
  | 0, _ => none
  | k + 1, a1819 => (bif (decide (a1819 < (x0.length : Int))) then ((spec_l6Fault.l2 x0 a1819 k 0).bind fun o1864 => thn o1864 (fun r => some (.inl r)) (fun _ => spec_l6Fault.l1 x0 k (wrap64 (a1819 + 1)))) else some (.inr ()))
theorem spec_l6Fault.l1_z (x0 : List Member) (a1819 : Int) : spec_l6Fault.l1 x0 0 a1819 = none := rfl
theorem spec_l6Fault.l1_s (x0 : List Member) (k : Nat) (a1819 : Int) : spec_l6Fault.l1 x0 (k + 1) a1819 = (bif (decide (a1819 < (x0.length : Int))) then ((spec_l6Fault.l2 x0 a1819 k 0).bind fun o1864 => thn o1864 (fun r => some (.inl r)) (fun _ => spec_l6Fault.l1 x0 k (wrap64 (a1819 + 1)))) else some (.inr ())) := rfl
def spec_l6Fault.f (k : Nat) (x0 : List Member) : Option Int := (bif (decide (8 < (x0.length : Int))) then some 2 else ((spec_l6Fault.l0 x0 k 0).bind fun o1642 => thn o1642 (fun r => some r) (fun _ => ((spec_l6Fault.l1 x0 k 0).bind fun o1795 => thn o1795 (fun r => some r) (fun _ => some 0)))))
theorem spec_l6Fault.calls {k : Nat} {x0 : List Member} {p0 : Value} {w : World} (hp0 : RdS kMember w p0 x0) {r : Int} (H : spec_l6Fault.f k x0 = some r) :
    Calls Try.prog 109 ([p0] : List Value).toArray w (fun e w_ => ∃ v, e = .returned v ∧ v = (.int .i64 r) ∧ Mem w [] w_ []) := by
  have HM := Mem.start w
  refine calls_run (N := 69) Try.func109 rfl rfl rfl rfl ?_
  unfold spec_l6Fault.f at H
  refine run_seq ?_
  refine run_region rfl ?_
  refine ops_ex rfl (guard_none rfl) rfl rfl (ex_assign rfl rfl) ?_
  refine ops_nil ?_
  refine at_then ?_
  refine run_seq ?_
  refine run_seq ?_
  refine run_region rfl ?_
  refine ops_ex rfl (guard_none rfl) rfl rfl (ex_move rfl rfl) ?_
  refine ops_ex rfl (guard_none rfl) rfl rfl (ex_len (d := kMember) (xs := x0) rfl rfl Try.underlying49 hp0) ?_
  refine ops_ex rfl (guard_none rfl) rfl rfl (ex_gtr rfl rfl rfl) ?_
  refine ops_nil ?_
  refine at_then ?_
  refine run_cond (b := (decide (8 < (x0.length : Int)))) rfl (fun hb1568 => ?_) (fun hb1568 => ?_)
  · replace H := cond_t hb1568 H
    refine run_seq ?_
    refine run_region rfl ?_
    refine ops_ex rfl (guard_none rfl) rfl rfl (ex_assign rfl rfl) ?_
    refine ops_nil ?_
    refine at_then ?_
    refine run_ret ?_
    refine at_then_ret ?_
    have hR := Option.some.inj H
    subst hR
    exact at_ret1 rfl rfl ⟨_, rfl, rfl, HM⟩
  · replace H := cond_f hb1568 H
    refine run_skip ?_
    refine at_then ?_
    obtain ⟨o1642, ho1643, H⟩ := bind_some H
    refine run_mid (fun ρ_ w_ => Sum.inr () = o1642 ∧ ρ_ = [(0, p0)] ∧ Mem w [] w_ []) ?_ ?_
    · skip
      refine run_seq ?_
      refine run_region rfl ?_
      refine ops_ex rfl (guard_none rfl) rfl rfl (ex_assign rfl rfl) ?_
      refine ops_nil ?_
      refine at_then ?_
      refine run_block ?_
      refine run_loop (fun k_ ρ_ w_ => ∃ a1668 : Int, spec_l6Fault.l0 x0 k_ a1668 = some o1642 ∧ ρ_ = [(0, p0), (3, .int .i64 a1668)] ∧ Mem w [] w_ []) k (ρ1 := [(0, p0), (3, .int .i64 0)]) ⟨_, ho1643, rfl, HM⟩ (Sub.cons rfl (Sub.cons rfl Sub.nil)) ?_
      clear HM ho1643
      rintro k1693 _ w1694 ⟨a1668, ho1643, rfl, HM⟩
      obtain _ | k1693 := k1693
      · exact nomatch ((spec_l6Fault.l0_z x0 a1668).symm.trans ho1643)
      replace ho1643 := (spec_l6Fault.l0_s x0 k1693 a1668).symm.trans ho1643
      refine run_seq ?_
      refine run_seq ?_
      refine run_region rfl ?_
      refine ops_ex rfl (guard_none rfl) rfl rfl (ex_move rfl rfl) ?_
      refine ops_ex rfl (guard_none rfl) rfl rfl (ex_move rfl rfl) ?_
      refine ops_ex rfl (guard_none rfl) rfl rfl (ex_len (d := kMember) (xs := x0) rfl rfl Try.underlying49 hp0) ?_
      refine ops_ex rfl (guard_none rfl) rfl rfl (ex_lss rfl rfl rfl) ?_
      refine ops_nil ?_
      refine at_then ?_
      refine run_cond (b := (decide (a1668 < (x0.length : Int)))) rfl (fun hb1695 => ?_) (fun hb1695 => ?_)
      · replace ho1643 := cond_t hb1695 ho1643
        refine run_skip ?_
        refine at_then ?_
        refine run_seq ?_
        refine run_block ?_
        refine run_seq ?_
        refine run_seq ?_
        obtain ⟨e1705, ho1643⟩ := chk_some ho1643
        obtain ⟨t1707, h1708, ho1643⟩ := bind_some ho1643
        obtain ⟨e1709, ho1643⟩ := chk_some ho1643
        obtain ⟨t1711, h1712, ho1643⟩ := bind_some ho1643
        refine run_meet (fun ρ_ w_ => ρ_ = [(0, p0), (3, .int .i64 a1668), (30, .bool ((!t1707) || (!t1711)))] ∧ Mem w [] w_ []) ?_ ?_
        · skip
          refine run_region rfl ?_
          refine ops_ex rfl (guard_none rfl) rfl rfl (ex_move rfl rfl) ?_
          refine ops_ex rfl (guard_none rfl) rfl rfl (ex_move rfl rfl) ?_
          have hc1706 : CellsAt _ (sb p0) (so p0 + (a1668).toNat * 3) [(.int .i64 ((gt x0 a1668).fKey)), (.int .i64 ((gt x0 a1668).fRef.fTx)), (.int .i64 ((gt x0 a1668).fRef.fAt))] := rd_plain hp0 e1705
          refine ops_ex rfl (guard_none rfl) rfl rfl (ex_indexAddr (d := kMember) rfl rfl rfl Try.underlying49 tsz144 hp0 (idx_lo e1705) (idx_hi e1705)) ?_
          refine ops_ex rfl (guard_none rfl) rfl rfl (ex_fieldAddr (off' := so p0 + (a1668).toNat * 3) rfl rfl Try.underlying144 rfl tsz2 rfl) ?_
          refine ops_ex rfl (guard_none rfl) rfl rfl (ex_load1 rfl rfl Try.underlying2 rfl ((HM.at_ hc1706) 0 _ rfl)) ?_
          refine ops_does rfl (guard_none rfl) rfl rfl (does_callk rfl callok137 rfl (spec_l1Key.calls (x0 := (gt x0 a1668).fKey) h1708)) ?_
          rintro _ w1713 ⟨rfl, hn⟩
          replace HM : Mem w [] w1713 [] := HM.call hn
          refine ops_ex rfl (guard_none rfl) rfl rfl (ex_not rfl rfl) ?_
          refine ops_ex rfl (guard_none rfl) rfl rfl (ex_move rfl rfl) ?_
          refine bool_cases (!t1707) (fun hg1714 => ?_) (fun hg1714 => ?_)
          · skip
            refine ops_off rfl (guard_off rfl rfl rfl hg1714) rfl rfl ?_
            refine ops_off rfl (guard_off rfl rfl rfl hg1714) rfl rfl ?_
            refine ops_off rfl (guard_off rfl rfl rfl hg1714) rfl rfl ?_
            refine ops_off rfl (guard_off rfl rfl rfl hg1714) rfl rfl ?_
            refine ops_off rfl (guard_off rfl rfl rfl hg1714) rfl rfl ?_
            refine ops_off rfl (guard_off rfl rfl rfl hg1714) rfl rfl ?_
            refine ops_off rfl (guard_off rfl rfl rfl hg1714) rfl rfl ?_
            have hg1715 : ((!t1707) || (!t1711)) = true := by simp only [hg1714, Bool.and_true, Bool.true_and, Bool.and_false, Bool.false_and, Bool.or_true, Bool.true_or, Bool.or_false, Bool.false_or, Bool.not_true, Bool.not_false, Bool.not_not]
            refine ops_ex (v := .bool ((!t1707) || (!t1711))) rfl (guard_none rfl) rfl rfl (ex_por_t rfl rfl hg1714) ?_
            refine ops_nil ?_
            exact at_meet [(0, p0), (3, .int .i64 a1668), (30, .bool ((!t1707) || (!t1711)))] ⟨rfl, HM⟩ (Sub.cons rfl (Sub.cons rfl (Sub.cons rfl Sub.nil)))
          · skip
            refine ops_ex rfl (guard_on rfl rfl rfl hg1714) rfl rfl (ex_move rfl rfl) ?_
            refine ops_ex rfl (guard_on rfl rfl rfl hg1714) rfl rfl (ex_move rfl rfl) ?_
            have hc1710 : CellsAt _ (sb p0) (so p0 + (a1668).toNat * 3) [(.int .i64 ((gt x0 a1668).fKey)), (.int .i64 ((gt x0 a1668).fRef.fTx)), (.int .i64 ((gt x0 a1668).fRef.fAt))] := rd_plain hp0 (or_t e1709 (not_mk hg1714))
            refine ops_ex rfl (guard_on rfl rfl rfl hg1714) rfl rfl (ex_indexAddr (d := kMember) rfl rfl rfl Try.underlying49 tsz144 hp0 (idx_lo (or_t e1709 (not_mk hg1714))) (idx_hi (or_t e1709 (not_mk hg1714)))) ?_
            refine ops_ex rfl (guard_on rfl rfl rfl hg1714) rfl rfl (ex_fieldAddr (off' := so p0 + (a1668).toNat * 3 + 1) rfl rfl Try.underlying144 rfl tsz99 rfl) ?_
            refine ops_ex rfl (guard_on rfl rfl rfl hg1714) rfl rfl (ex_loadN (cs := [(.int .i64 ((gt x0 a1668).fRef.fTx)), (.int .i64 ((gt x0 a1668).fRef.fAt))]) rfl rfl Try.underlying99 rfl tsz99 rfl ((HM.at_ hc1710).sub 1 2 rfl)) ?_
            refine ops_does rfl (guard_on rfl rfl rfl hg1714) rfl rfl (does_callk rfl callok127 rfl (spec_l3Ref.calls (x0 := (gt x0 a1668).fRef) (cond_t (not_mk hg1714) h1712))) ?_
            rintro _ w1716 ⟨rfl, hn⟩
            replace HM : Mem w [] w1716 [] := HM.call hn
            refine ops_ex rfl (guard_on rfl rfl rfl hg1714) rfl rfl (ex_not rfl rfl) ?_
            refine ops_ex (v := .bool ((!t1707) || (!t1711))) rfl (guard_none rfl) rfl rfl (ex_por_f rfl rfl hg1714 rfl) ?_
            refine ops_nil ?_
            exact at_meet [(0, p0), (3, .int .i64 a1668), (30, .bool ((!t1707) || (!t1711)))] ⟨rfl, HM⟩ (Sub.cons rfl (Sub.cons rfl (Sub.cons rfl Sub.nil)))
        · rintro _ w1717 ⟨rfl, HM⟩
          refine at_then ?_
          refine run_cond (b := ((!t1707) || (!t1711))) rfl (fun hb1718 => ?_) (fun hb1718 => ?_)
          · replace ho1643 := cond_t hb1718 ho1643
            refine run_seq ?_
            refine run_region rfl ?_
            refine ops_ex rfl (guard_none rfl) rfl rfl (ex_assign rfl rfl) ?_
            refine ops_nil ?_
            refine at_then ?_
            refine run_ret ?_
            refine at_then_ret ?_
            refine at_block_ret ?_
            refine at_then_ret ?_
            refine at_then_ret ?_
            refine at_block_ret ?_
            refine at_then_ret ?_
            have hR := Option.some.inj ho1643
            subst hR
            have hT := thn_inl H
            have hR := Option.some.inj hT
            subst hR
            exact at_ret1 rfl rfl ⟨_, rfl, rfl, HM⟩
          · replace ho1643 := cond_f hb1718 ho1643
            refine run_skip ?_
            refine at_then ?_
            refine run_seq ?_
            obtain ⟨e1719, ho1643⟩ := chk_some ho1643
            obtain ⟨e1721, ho1643⟩ := chk_some ho1643
            refine run_meet (fun ρ_ w_ => ρ_ = [(0, p0), (3, .int .i64 a1668), (46, .bool ((decide (0 < a1668)) && (decide (((gt x0 a1668).fKey) ≤ ((gt x0 (wrap64 (a1668 - 1))).fKey)))))] ∧ Mem w [] w_ []) ?_ ?_
            · skip
              refine run_drawf (fun w_ => Mem w [] w_ []) [(0, true), (1, true), (2, true), (3, true), (4, true), (5, true), (6, true), (7, true), (8, true), (9, true), (10, true), (11, true), (12, true), (13, true), (14, true), (15, true)] mixed rfl rfl (by kernel_rfl) ?_
              replace HM := HM.grow (fr_drew _)
              have hS := Mem.suf (M := []) HM
              refine drwp_take rfl (guard_none rfl) rfl rfl (fun w_ hS_ => (ex_move rfl rfl)) hS ?_
              refine drwp_take rfl (guard_none rfl) rfl rfl (fun w_ hS_ => (ex_gtr rfl rfl rfl)) hS ?_
              refine drwp_take rfl (guard_none rfl) rfl rfl (fun w_ hS_ => (ex_move rfl rfl)) hS ?_
              refine bool_cases (decide (0 < a1668)) (fun hg1723 => ?_) (fun hg1723 => ?_)
              · skip
                refine drwp_take rfl (guard_on rfl rfl rfl hg1723) rfl rfl (fun w_ hS_ => (ex_move rfl rfl)) hS ?_
                refine drwp_take rfl (guard_on rfl rfl rfl hg1723) rfl rfl (fun w_ hS_ => (ex_move rfl rfl)) hS ?_
                have hc1720 : CellsAt _ (sb p0) (so p0 + (a1668).toNat * 3) [(.int .i64 ((gt x0 a1668).fKey)), (.int .i64 ((gt x0 a1668).fRef.fTx)), (.int .i64 ((gt x0 a1668).fRef.fAt))] := rd_plain hp0 (or_t e1719 hg1723)
                refine drwp_take rfl (guard_on rfl rfl rfl hg1723) rfl rfl (fun w_ hS_ => (ex_indexAddr (d := kMember) rfl rfl rfl Try.underlying49 tsz144 hp0 (idx_lo (or_t e1719 hg1723)) (idx_hi (or_t e1719 hg1723)))) hS ?_
                refine drwp_take rfl (guard_on rfl rfl rfl hg1723) rfl rfl (fun w_ hS_ => (ex_fieldAddr (off' := so p0 + (a1668).toNat * 3) rfl rfl Try.underlying144 rfl tsz2 rfl)) hS ?_
                refine drwp_take rfl (guard_on rfl rfl rfl hg1723) rfl rfl (fun w_ hS_ => (ex_load1 rfl rfl Try.underlying2 rfl ((hS_.at_ hc1720) 0 _ rfl))) hS ?_
                refine drwp_take rfl (guard_on rfl rfl rfl hg1723) rfl rfl (fun w_ hS_ => (ex_move rfl rfl)) hS ?_
                refine drwp_take rfl (guard_on rfl rfl rfl hg1723) rfl rfl (fun w_ hS_ => (ex_move rfl rfl)) hS ?_
                refine drwp_take rfl (guard_on rfl rfl rfl hg1723) rfl rfl (fun w_ hS_ => (ex_sub rfl rfl rfl)) hS ?_
                have hc1722 : CellsAt _ (sb p0) (so p0 + (wrap64 (a1668 - 1)).toNat * 3) [(.int .i64 ((gt x0 (wrap64 (a1668 - 1))).fKey)), (.int .i64 ((gt x0 (wrap64 (a1668 - 1))).fRef.fTx)), (.int .i64 ((gt x0 (wrap64 (a1668 - 1))).fRef.fAt))] := rd_plain hp0 (or_t e1721 hg1723)
                refine drwp_take rfl (guard_on rfl rfl rfl hg1723) rfl rfl (fun w_ hS_ => (ex_indexAddr (d := kMember) rfl rfl rfl Try.underlying49 tsz144 hp0 (idx_lo (or_t e1721 hg1723)) (idx_hi (or_t e1721 hg1723)))) hS ?_
                refine drwp_take rfl (guard_on rfl rfl rfl hg1723) rfl rfl (fun w_ hS_ => (ex_fieldAddr (off' := so p0 + (wrap64 (a1668 - 1)).toNat * 3) rfl rfl Try.underlying144 rfl tsz2 rfl)) hS ?_
                refine drwp_take rfl (guard_on rfl rfl rfl hg1723) rfl rfl (fun w_ hS_ => (ex_load1 rfl rfl Try.underlying2 rfl ((hS_.at_ hc1722) 0 _ rfl))) hS ?_
                refine drwp_take rfl (guard_on rfl rfl rfl hg1723) rfl rfl (fun w_ hS_ => (ex_leq rfl rfl rfl)) hS ?_
                refine drwp_take (v := .bool ((decide (0 < a1668)) && (decide (((gt x0 a1668).fKey) ≤ ((gt x0 (wrap64 (a1668 - 1))).fKey))))) rfl (guard_none rfl) rfl rfl (fun w_ hS_ => (ex_pand_t rfl rfl hg1723 rfl)) hS ?_
                refine drwp_done ?_
                exact at_meet [(0, p0), (3, .int .i64 a1668), (46, .bool ((decide (0 < a1668)) && (decide (((gt x0 a1668).fKey) ≤ ((gt x0 (wrap64 (a1668 - 1))).fKey)))))] ⟨rfl, HM⟩ (Sub.cons rfl (Sub.cons rfl (Sub.cons rfl Sub.nil)))
              · skip
                refine drwp_off rfl (guard_off rfl rfl rfl hg1723) rfl rfl hS ?_
                refine drwp_off rfl (guard_off rfl rfl rfl hg1723) rfl rfl hS ?_
                refine drwp_off rfl (guard_off rfl rfl rfl hg1723) rfl rfl hS ?_
                refine drwp_off rfl (guard_off rfl rfl rfl hg1723) rfl rfl hS ?_
                refine drwp_off rfl (guard_off rfl rfl rfl hg1723) rfl rfl hS ?_
                refine drwp_off rfl (guard_off rfl rfl rfl hg1723) rfl rfl hS ?_
                refine drwp_off rfl (guard_off rfl rfl rfl hg1723) rfl rfl hS ?_
                refine drwp_off rfl (guard_off rfl rfl rfl hg1723) rfl rfl hS ?_
                refine drwp_off rfl (guard_off rfl rfl rfl hg1723) rfl rfl hS ?_
                refine drwp_off rfl (guard_off rfl rfl rfl hg1723) rfl rfl hS ?_
                refine drwp_off rfl (guard_off rfl rfl rfl hg1723) rfl rfl hS ?_
                refine drwp_off rfl (guard_off rfl rfl rfl hg1723) rfl rfl hS ?_
                have hg1724 : ((decide (0 < a1668)) && (decide (((gt x0 a1668).fKey) ≤ ((gt x0 (wrap64 (a1668 - 1))).fKey)))) = false := by simp only [hg1723, Bool.and_true, Bool.true_and, Bool.and_false, Bool.false_and, Bool.or_true, Bool.true_or, Bool.or_false, Bool.false_or, Bool.not_true, Bool.not_false, Bool.not_not]
                refine drwp_take (v := .bool ((decide (0 < a1668)) && (decide (((gt x0 a1668).fKey) ≤ ((gt x0 (wrap64 (a1668 - 1))).fKey))))) rfl (guard_none rfl) rfl rfl (fun w_ hS_ => (ex_pand_f rfl rfl hg1723)) hS ?_
                refine drwp_done ?_
                exact at_meet [(0, p0), (3, .int .i64 a1668), (46, .bool ((decide (0 < a1668)) && (decide (((gt x0 a1668).fKey) ≤ ((gt x0 (wrap64 (a1668 - 1))).fKey)))))] ⟨rfl, HM⟩ (Sub.cons rfl (Sub.cons rfl (Sub.cons rfl Sub.nil)))
            · rintro _ w1725 ⟨rfl, HM⟩
              refine at_then ?_
              refine run_cond (b := ((decide (0 < a1668)) && (decide (((gt x0 a1668).fKey) ≤ ((gt x0 (wrap64 (a1668 - 1))).fKey))))) rfl (fun hb1726 => ?_) (fun hb1726 => ?_)
              · replace ho1643 := cond_t hb1726 ho1643
                refine run_seq ?_
                refine run_region rfl ?_
                refine ops_ex rfl (guard_none rfl) rfl rfl (ex_assign rfl rfl) ?_
                refine ops_nil ?_
                refine at_then ?_
                refine run_ret ?_
                refine at_block_ret ?_
                refine at_then_ret ?_
                refine at_then_ret ?_
                refine at_block_ret ?_
                refine at_then_ret ?_
                have hR := Option.some.inj ho1643
                subst hR
                have hT := thn_inl H
                have hR := Option.some.inj hT
                subst hR
                exact at_ret1 rfl rfl ⟨_, rfl, rfl, HM⟩
              · replace ho1643 := cond_f hb1726 ho1643
                refine run_skip ?_
                refine at_block ?_
                refine at_then ?_
                refine run_region rfl ?_
                refine ops_ex rfl (guard_none rfl) rfl rfl (ex_move rfl rfl) ?_
                refine ops_ex rfl (guard_none rfl) rfl rfl (ex_add rfl rfl rfl) ?_
                refine ops_ex rfl (guard_none rfl) rfl rfl (ex_assign rfl rfl) ?_
                refine ops_nil ?_
                exact at_again k1693 (ρ1 := [(0, p0), (3, .int .i64 (wrap64 (a1668 + 1)))]) (Nat.lt_succ_self _) ⟨_, ho1643, rfl, HM⟩ (Sub.cons rfl (Sub.cons rfl Sub.nil))
      · replace ho1643 := cond_f hb1695 ho1643
        refine run_exit ?_
        refine at_then_exit ?_
        refine at_then_exit ?_
        refine at_block_exit ?_
        exact at_mid (ρ' := [(0, p0)]) ⟨(Option.some.inj ho1643), rfl, HM⟩ (Sub.cons rfl Sub.nil)
    · rintro _ w1727 ⟨rfl, rfl, HM⟩
      replace H := (thn_inr H)
      obtain ⟨o1795, ho1796, H⟩ := bind_some H
      refine run_mid (fun ρ_ w_ => Sum.inr () = o1795 ∧ ρ_ = [] ∧ Mem w [] w_ []) ?_ ?_
      · skip
        refine run_seq ?_
        refine run_region rfl ?_
        refine ops_ex rfl (guard_none rfl) rfl rfl (ex_assign rfl rfl) ?_
        refine ops_nil ?_
        refine at_then ?_
        refine run_block ?_
        refine run_loop (fun k_ ρ_ w_ => ∃ a1819 : Int, spec_l6Fault.l1 x0 k_ a1819 = some o1795 ∧ ρ_ = [(0, p0), (4, .int .i64 a1819)] ∧ Mem w [] w_ []) k (ρ1 := [(0, p0), (4, .int .i64 0)]) ⟨_, ho1796, rfl, HM⟩ (Sub.cons rfl (Sub.cons rfl Sub.nil)) ?_
        clear HM ho1796
        rintro k1842 _ w1843 ⟨a1819, ho1796, rfl, HM⟩
        obtain _ | k1842 := k1842
        · exact nomatch ((spec_l6Fault.l1_z x0 a1819).symm.trans ho1796)
        replace ho1796 := (spec_l6Fault.l1_s x0 k1842 a1819).symm.trans ho1796
        refine run_seq ?_
        refine run_seq ?_
        refine run_region rfl ?_
        refine ops_ex rfl (guard_none rfl) rfl rfl (ex_move rfl rfl) ?_
        refine ops_ex rfl (guard_none rfl) rfl rfl (ex_move rfl rfl) ?_
        refine ops_ex rfl (guard_none rfl) rfl rfl (ex_len (d := kMember) (xs := x0) rfl rfl Try.underlying49 hp0) ?_
        refine ops_ex rfl (guard_none rfl) rfl rfl (ex_lss rfl rfl rfl) ?_
        refine ops_nil ?_
        refine at_then ?_
        refine run_cond (b := (decide (a1819 < (x0.length : Int)))) rfl (fun hb1844 => ?_) (fun hb1844 => ?_)
        · replace ho1796 := cond_t hb1844 ho1796
          refine run_skip ?_
          refine at_then ?_
          obtain ⟨o1864, ho1865, ho1796⟩ := bind_some ho1796
          refine run_mid (fun ρ_ w_ => Sum.inr () = o1864 ∧ ρ_ = [(0, p0), (4, .int .i64 a1819)] ∧ Mem w [] w_ []) ?_ ?_
          · skip
            refine run_block ?_
            refine run_seq ?_
            refine run_region rfl ?_
            refine ops_ex rfl (guard_none rfl) rfl rfl (ex_assign rfl rfl) ?_
            refine ops_nil ?_
            refine at_then ?_
            refine run_block ?_
            refine run_loop (fun k_ ρ_ w_ => ∃ a1872 : Int, spec_l6Fault.l2 x0 a1819 k_ a1872 = some o1864 ∧ ρ_ = [(0, p0), (4, .int .i64 a1819), (5, .int .i64 a1872)] ∧ Mem w [] w_ []) k1842 (ρ1 := [(0, p0), (4, .int .i64 a1819), (5, .int .i64 0)]) ⟨_, ho1865, rfl, HM⟩ (Sub.cons rfl (Sub.cons rfl (Sub.cons rfl Sub.nil))) ?_
            clear HM ho1865
            rintro k1879 _ w1880 ⟨a1872, ho1865, rfl, HM⟩
            obtain _ | k1879 := k1879
            · exact nomatch ((spec_l6Fault.l2_z x0 a1819 a1872).symm.trans ho1865)
            replace ho1865 := (spec_l6Fault.l2_s x0 a1819 k1879 a1872).symm.trans ho1865
            refine run_seq ?_
            refine run_seq ?_
            refine run_region rfl ?_
            refine ops_ex rfl (guard_none rfl) rfl rfl (ex_move rfl rfl) ?_
            refine ops_ex rfl (guard_none rfl) rfl rfl (ex_move rfl rfl) ?_
            refine ops_ex rfl (guard_none rfl) rfl rfl (ex_lss rfl rfl rfl) ?_
            refine ops_nil ?_
            refine at_then ?_
            refine run_cond (b := (decide (a1872 < a1819))) rfl (fun hb1881 => ?_) (fun hb1881 => ?_)
            · replace ho1865 := cond_t hb1881 ho1865
              refine run_skip ?_
              refine at_then ?_
              refine run_seq ?_
              refine run_block ?_
              refine run_seq ?_
              obtain ⟨e1882, ho1865⟩ := chk_some ho1865
              obtain ⟨e1884, ho1865⟩ := chk_some ho1865
              refine run_drawf (fun w_ => Mem w [] w_ []) [(0, true), (1, true), (2, true), (3, true), (4, true), (5, true), (6, true), (7, true), (8, true), (9, true), (10, true)] mixed rfl rfl (by kernel_rfl) ?_
              replace HM := HM.grow (fr_drew _)
              have hS := Mem.suf (M := []) HM
              refine drwp_take rfl (guard_none rfl) rfl rfl (fun w_ hS_ => (ex_move rfl rfl)) hS ?_
              refine drwp_take rfl (guard_none rfl) rfl rfl (fun w_ hS_ => (ex_move rfl rfl)) hS ?_
              have hc1883 : CellsAt _ (sb p0) (so p0 + (a1872).toNat * 3) [(.int .i64 ((gt x0 a1872).fKey)), (.int .i64 ((gt x0 a1872).fRef.fTx)), (.int .i64 ((gt x0 a1872).fRef.fAt))] := rd_plain hp0 e1882
              refine drwp_take rfl (guard_none rfl) rfl rfl (fun w_ hS_ => (ex_indexAddr (d := kMember) rfl rfl rfl Try.underlying49 tsz144 hp0 (idx_lo e1882) (idx_hi e1882))) hS ?_
              refine drwp_take rfl (guard_none rfl) rfl rfl (fun w_ hS_ => (ex_fieldAddr (off' := so p0 + (a1872).toNat * 3 + 1) rfl rfl Try.underlying144 rfl tsz99 rfl)) hS ?_
              refine drwp_take rfl (guard_none rfl) rfl rfl (fun w_ hS_ => (ex_loadN (cs := [(.int .i64 ((gt x0 a1872).fRef.fTx)), (.int .i64 ((gt x0 a1872).fRef.fAt))]) rfl rfl Try.underlying99 rfl tsz99 rfl ((hS_.at_ hc1883).sub 1 2 rfl))) hS ?_
              refine drwp_take rfl (guard_none rfl) rfl rfl (fun w_ hS_ => (ex_move rfl rfl)) hS ?_
              refine drwp_take rfl (guard_none rfl) rfl rfl (fun w_ hS_ => (ex_move rfl rfl)) hS ?_
              have hc1885 : CellsAt _ (sb p0) (so p0 + (a1819).toNat * 3) [(.int .i64 ((gt x0 a1819).fKey)), (.int .i64 ((gt x0 a1819).fRef.fTx)), (.int .i64 ((gt x0 a1819).fRef.fAt))] := rd_plain hp0 e1884
              refine drwp_take rfl (guard_none rfl) rfl rfl (fun w_ hS_ => (ex_indexAddr (d := kMember) rfl rfl rfl Try.underlying49 tsz144 hp0 (idx_lo e1884) (idx_hi e1884))) hS ?_
              refine drwp_take rfl (guard_none rfl) rfl rfl (fun w_ hS_ => (ex_fieldAddr (off' := so p0 + (a1819).toNat * 3 + 1) rfl rfl Try.underlying144 rfl tsz99 rfl)) hS ?_
              refine drwp_take rfl (guard_none rfl) rfl rfl (fun w_ hS_ => (ex_loadN (cs := [(.int .i64 ((gt x0 a1819).fRef.fTx)), (.int .i64 ((gt x0 a1819).fRef.fAt))]) rfl rfl Try.underlying99 rfl tsz99 rfl ((hS_.at_ hc1885).sub 1 2 rfl))) hS ?_
              refine drwp_take rfl (guard_none rfl) rfl rfl (fun w_ hS_ => (ex_aeql rfl rfl rfl (by kernel_rfl) (eqs99 _ _ _ _ _))) hS ?_
              refine drwp_done ?_
              refine at_then ?_
              refine run_cond (b := ((((gt x0 a1872).fRef.fTx) == ((gt x0 a1819).fRef.fTx)) && (((gt x0 a1872).fRef.fAt) == ((gt x0 a1819).fRef.fAt)))) rfl (fun hb1886 => ?_) (fun hb1886 => ?_)
              · replace ho1865 := cond_t hb1886 ho1865
                refine run_seq ?_
                refine run_region rfl ?_
                refine ops_ex rfl (guard_none rfl) rfl rfl (ex_assign rfl rfl) ?_
                refine ops_nil ?_
                refine at_then ?_
                refine run_ret ?_
                refine at_block_ret ?_
                refine at_then_ret ?_
                refine at_then_ret ?_
                refine at_block_ret ?_
                refine at_block_ret ?_
                refine at_then_ret ?_
                refine at_then_ret ?_
                refine at_block_ret ?_
                refine at_then_ret ?_
                have hR := Option.some.inj ho1865
                subst hR
                have hT := thn_inl ho1796
                have hR := Option.some.inj hT
                subst hR
                have hT := thn_inl H
                have hR := Option.some.inj hT
                subst hR
                exact at_ret1 rfl rfl ⟨_, rfl, rfl, HM⟩
              · replace ho1865 := cond_f hb1886 ho1865
                refine run_skip ?_
                refine at_block ?_
                refine at_then ?_
                refine run_region rfl ?_
                refine ops_ex rfl (guard_none rfl) rfl rfl (ex_move rfl rfl) ?_
                refine ops_ex rfl (guard_none rfl) rfl rfl (ex_add rfl rfl rfl) ?_
                refine ops_ex rfl (guard_none rfl) rfl rfl (ex_assign rfl rfl) ?_
                refine ops_nil ?_
                exact at_again k1879 (ρ1 := [(0, p0), (4, .int .i64 a1819), (5, .int .i64 (wrap64 (a1872 + 1)))]) (Nat.lt_succ_self _) ⟨_, ho1865, rfl, HM⟩ (Sub.cons rfl (Sub.cons rfl (Sub.cons rfl Sub.nil)))
            · replace ho1865 := cond_f hb1881 ho1865
              refine run_exit ?_
              refine at_then_exit ?_
              refine at_then_exit ?_
              refine at_block_exit ?_
              refine at_block ?_
              exact at_mid (ρ' := [(0, p0), (4, .int .i64 a1819)]) ⟨(Option.some.inj ho1865), rfl, HM⟩ (Sub.cons rfl (Sub.cons rfl Sub.nil))
          · rintro _ w1887 ⟨rfl, rfl, HM⟩
            replace ho1796 := (thn_inr ho1796)
            refine run_region rfl ?_
            refine ops_ex rfl (guard_none rfl) rfl rfl (ex_move rfl rfl) ?_
            refine ops_ex rfl (guard_none rfl) rfl rfl (ex_add rfl rfl rfl) ?_
            refine ops_ex rfl (guard_none rfl) rfl rfl (ex_assign rfl rfl) ?_
            refine ops_nil ?_
            exact at_again k1842 (ρ1 := [(0, p0), (4, .int .i64 (wrap64 (a1819 + 1)))]) (Nat.lt_succ_self _) ⟨_, ho1796, rfl, HM⟩ (Sub.cons rfl (Sub.cons rfl Sub.nil))
        · replace ho1796 := cond_f hb1844 ho1796
          refine run_exit ?_
          refine at_then_exit ?_
          refine at_then_exit ?_
          refine at_block_exit ?_
          exact at_mid (ρ' := []) ⟨(Option.some.inj ho1796), rfl, HM⟩ Sub.nil
      · rintro _ w1888 ⟨rfl, rfl, HM⟩
        replace H := (thn_inr H)
        refine run_seq ?_
        refine run_region rfl ?_
        refine ops_ex rfl (guard_none rfl) rfl rfl (ex_assign rfl rfl) ?_
        refine ops_nil ?_
        refine at_then ?_
        refine run_ret ?_
        have hR := Option.some.inj H
        subst hR
        exact at_ret1 rfl rfl ⟨_, rfl, rfl, HM⟩

def spec_l8Fault.f (k : Nat) (x0 : State) : Option Int := ((spec_l1In.f k x0.fTip 0 60).bind fun t1896 => ((bif (!(!t1896)) then spec_l1In.f k x0.fHeight 0 40 else some default).bind fun t1898 => (bif ((!t1896) || (!t1898)) then some 3 else (bif ((x0.fTip == 0) != (x0.fHeight == 0)) then some 1 else ((spec_l4Fault.f k x0.fCoins).bind fun t1911 => (bif (t1911 != 0) then some t1911 else ((spec_l6Fault.f k x0.fMembers).bind fun t1915 => some t1915)))))))
theorem spec_l8Fault.calls {k : Nat} {x0 : State} {b0 f0 : Nat} {p0_0 : Value} {p0_1 : Value} {w : World} (hc0 : CellsAt w b0 f0 [.int .i64 x0.fTip, .int .i64 x0.fHeight, p0_0, p0_1]) (hp0_0 : RdS kCoin w p0_0 x0.fCoins) (hp0_1 : RdS kMember w p0_1 x0.fMembers) {r : Int} (H : spec_l8Fault.f k x0 = some r) :
    Calls Try.prog 97 ([.pointer (some ⟨b0, f0, none⟩)] : List Value).toArray w (fun e w_ => ∃ v, e = .returned v ∧ v = (.int .i64 r) ∧ Mem w [] w_ []) := by
  have HM := Mem.start w
  refine calls_run (N := 42) Try.func97 rfl rfl rfl rfl ?_
  unfold spec_l8Fault.f at H
  refine run_seq ?_
  refine run_region rfl ?_
  refine ops_ex rfl (guard_none rfl) rfl rfl (ex_assign rfl rfl) ?_
  refine ops_nil ?_
  refine at_then ?_
  refine run_seq ?_
  refine run_seq ?_
  obtain ⟨t1896, h1897, H⟩ := bind_some H
  obtain ⟨t1898, h1899, H⟩ := bind_some H
  refine run_meet (fun ρ_ w_ => ρ_ = [(0, .pointer (some ⟨b0, f0, none⟩)), (17, .bool ((!t1896) || (!t1898)))] ∧ Mem w [] w_ []) ?_ ?_
  · skip
    refine run_region rfl ?_
    refine ops_ex rfl (guard_none rfl) rfl rfl (ex_move rfl rfl) ?_
    refine ops_ex rfl (guard_none rfl) rfl rfl (ex_nilCheck rfl rfl) ?_
    refine ops_ex rfl (guard_none rfl) rfl rfl (ex_fieldAddr (off' := f0) rfl rfl Try.underlying51 rfl tsz2 rfl) ?_
    refine ops_ex rfl (guard_none rfl) rfl rfl (ex_load1 rfl rfl Try.underlying2 rfl ((HM.at_ hc0) 0 _ rfl)) ?_
    refine ops_does rfl (guard_none rfl) rfl rfl (does_callk rfl callok136 rfl (spec_l1In.calls (x0 := x0.fTip) (x1 := 0) (x2 := 60) h1897)) ?_
    rintro _ w1900 ⟨rfl, hn⟩
    replace HM : Mem w [] w1900 [] := HM.call hn
    refine ops_ex rfl (guard_none rfl) rfl rfl (ex_not rfl rfl) ?_
    refine ops_ex rfl (guard_none rfl) rfl rfl (ex_move rfl rfl) ?_
    refine bool_cases (!t1896) (fun hg1901 => ?_) (fun hg1901 => ?_)
    · skip
      refine ops_off rfl (guard_off rfl rfl rfl hg1901) rfl rfl ?_
      refine ops_off rfl (guard_off rfl rfl rfl hg1901) rfl rfl ?_
      refine ops_off rfl (guard_off rfl rfl rfl hg1901) rfl rfl ?_
      refine ops_off rfl (guard_off rfl rfl rfl hg1901) rfl rfl ?_
      refine ops_off rfl (guard_off rfl rfl rfl hg1901) rfl rfl ?_
      refine ops_off rfl (guard_off rfl rfl rfl hg1901) rfl rfl ?_
      have hg1902 : ((!t1896) || (!t1898)) = true := by simp only [hg1901, Bool.and_true, Bool.true_and, Bool.and_false, Bool.false_and, Bool.or_true, Bool.true_or, Bool.or_false, Bool.false_or, Bool.not_true, Bool.not_false, Bool.not_not]
      refine ops_ex (v := .bool ((!t1896) || (!t1898))) rfl (guard_none rfl) rfl rfl (ex_por_t rfl rfl hg1901) ?_
      refine ops_nil ?_
      exact at_meet [(0, .pointer (some ⟨b0, f0, none⟩)), (17, .bool ((!t1896) || (!t1898)))] ⟨rfl, HM⟩ (Sub.cons rfl (Sub.cons rfl Sub.nil))
    · skip
      refine ops_ex rfl (guard_on rfl rfl rfl hg1901) rfl rfl (ex_move rfl rfl) ?_
      refine ops_ex rfl (guard_on rfl rfl rfl hg1901) rfl rfl (ex_nilCheck rfl rfl) ?_
      refine ops_ex rfl (guard_on rfl rfl rfl hg1901) rfl rfl (ex_fieldAddr (off' := f0 + 1) rfl rfl Try.underlying51 rfl tsz2 rfl) ?_
      refine ops_ex rfl (guard_on rfl rfl rfl hg1901) rfl rfl (ex_load1 rfl rfl Try.underlying2 rfl ((HM.at_ hc0) 1 _ rfl)) ?_
      refine ops_does rfl (guard_on rfl rfl rfl hg1901) rfl rfl (does_callk rfl callok136 rfl (spec_l1In.calls (x0 := x0.fHeight) (x1 := 0) (x2 := 40) (cond_t (not_mk hg1901) h1899))) ?_
      rintro _ w1903 ⟨rfl, hn⟩
      replace HM : Mem w [] w1903 [] := HM.call hn
      refine ops_ex rfl (guard_on rfl rfl rfl hg1901) rfl rfl (ex_not rfl rfl) ?_
      refine ops_ex (v := .bool ((!t1896) || (!t1898))) rfl (guard_none rfl) rfl rfl (ex_por_f rfl rfl hg1901 rfl) ?_
      refine ops_nil ?_
      exact at_meet [(0, .pointer (some ⟨b0, f0, none⟩)), (17, .bool ((!t1896) || (!t1898)))] ⟨rfl, HM⟩ (Sub.cons rfl (Sub.cons rfl Sub.nil))
  · rintro _ w1904 ⟨rfl, HM⟩
    refine at_then ?_
    refine run_cond (b := ((!t1896) || (!t1898))) rfl (fun hb1905 => ?_) (fun hb1905 => ?_)
    · replace H := cond_t hb1905 H
      refine run_seq ?_
      refine run_region rfl ?_
      refine ops_ex rfl (guard_none rfl) rfl rfl (ex_assign rfl rfl) ?_
      refine ops_nil ?_
      refine at_then ?_
      refine run_ret ?_
      refine at_then_ret ?_
      have hR := Option.some.inj H
      subst hR
      exact at_ret1 rfl rfl ⟨_, rfl, rfl, HM⟩
    · replace H := cond_f hb1905 H
      refine run_skip ?_
      refine at_then ?_
      refine run_seq ?_
      refine run_seq ?_
      refine run_drawf (fun w_ => Mem w [] w_ []) [(0, true), (1, true), (2, true), (3, true), (4, true), (5, true), (6, true), (7, true), (8, true), (9, true), (10, true)] mixed rfl rfl (by kernel_rfl) ?_
      replace HM := HM.grow (fr_drew _)
      have hS := Mem.suf (M := []) HM
      refine drwp_take rfl (guard_none rfl) rfl rfl (fun w_ hS_ => (ex_move rfl rfl)) hS ?_
      refine drwp_take rfl (guard_none rfl) rfl rfl (fun w_ hS_ => (ex_nilCheck rfl rfl)) hS ?_
      refine drwp_take rfl (guard_none rfl) rfl rfl (fun w_ hS_ => (ex_fieldAddr (off' := f0) rfl rfl Try.underlying51 rfl tsz2 rfl)) hS ?_
      refine drwp_take rfl (guard_none rfl) rfl rfl (fun w_ hS_ => (ex_load1 rfl rfl Try.underlying2 rfl ((hS_.at_ hc0) 0 _ rfl))) hS ?_
      refine drwp_take rfl (guard_none rfl) rfl rfl (fun w_ hS_ => (ex_eql rfl rfl rfl)) hS ?_
      refine drwp_take rfl (guard_none rfl) rfl rfl (fun w_ hS_ => (ex_move rfl rfl)) hS ?_
      refine drwp_take rfl (guard_none rfl) rfl rfl (fun w_ hS_ => (ex_nilCheck rfl rfl)) hS ?_
      refine drwp_take rfl (guard_none rfl) rfl rfl (fun w_ hS_ => (ex_fieldAddr (off' := f0 + 1) rfl rfl Try.underlying51 rfl tsz2 rfl)) hS ?_
      refine drwp_take rfl (guard_none rfl) rfl rfl (fun w_ hS_ => (ex_load1 rfl rfl Try.underlying2 rfl ((hS_.at_ hc0) 1 _ rfl))) hS ?_
      refine drwp_take rfl (guard_none rfl) rfl rfl (fun w_ hS_ => (ex_eql rfl rfl rfl)) hS ?_
      refine drwp_take rfl (guard_none rfl) rfl rfl (fun w_ hS_ => (ex_bneq rfl rfl rfl Try.underlying4)) hS ?_
      refine drwp_done ?_
      refine at_then ?_
      refine run_cond (b := ((x0.fTip == 0) != (x0.fHeight == 0))) rfl (fun hb1907 => ?_) (fun hb1907 => ?_)
      · replace H := cond_t hb1907 H
        refine run_seq ?_
        refine run_region rfl ?_
        refine ops_ex rfl (guard_none rfl) rfl rfl (ex_assign rfl rfl) ?_
        refine ops_nil ?_
        refine at_then ?_
        refine run_ret ?_
        refine at_then_ret ?_
        have hR := Option.some.inj H
        subst hR
        exact at_ret1 rfl rfl ⟨_, rfl, rfl, HM⟩
      · replace H := cond_f hb1907 H
        refine run_skip ?_
        refine at_then ?_
        refine run_seq ?_
        refine run_seq ?_
        obtain ⟨t1911, h1912, H⟩ := bind_some H
        refine run_region rfl ?_
        refine ops_ex rfl (guard_none rfl) rfl rfl (ex_move rfl rfl) ?_
        refine ops_ex rfl (guard_none rfl) rfl rfl (ex_nilCheck rfl rfl) ?_
        refine ops_ex rfl (guard_none rfl) rfl rfl (ex_fieldAddr (off' := f0 + 2) rfl rfl Try.underlying51 rfl tsz25 rfl) ?_
        refine ops_ex rfl (guard_none rfl) rfl rfl (ex_load1 rfl rfl Try.underlying25 rfl ((HM.at_ hc0) 2 _ rfl)) ?_
        refine ops_does rfl (guard_none rfl) rfl rfl (does_callk rfl callok78 rfl (spec_l4Fault.calls (x0 := x0.fCoins) (HM.rd hp0_0) h1912)) ?_
        rintro _ w1913 ⟨rfl, hn⟩
        replace HM : Mem w [] w1913 [] := HM.call hn
        refine ops_ex rfl (guard_none rfl) rfl rfl (ex_assign rfl rfl) ?_
        refine ops_nil ?_
        refine at_then ?_
        refine run_seq ?_
        refine run_region rfl ?_
        refine ops_ex rfl (guard_none rfl) rfl rfl (ex_move rfl rfl) ?_
        refine ops_ex rfl (guard_none rfl) rfl rfl (ex_neq rfl rfl rfl) ?_
        refine ops_nil ?_
        refine at_then ?_
        refine run_cond (b := (t1911 != 0)) rfl (fun hb1914 => ?_) (fun hb1914 => ?_)
        · replace H := cond_t hb1914 H
          refine run_seq ?_
          refine run_region rfl ?_
          refine ops_ex rfl (guard_none rfl) rfl rfl (ex_move rfl rfl) ?_
          refine ops_ex rfl (guard_none rfl) rfl rfl (ex_assign rfl rfl) ?_
          refine ops_nil ?_
          refine at_then ?_
          refine run_ret ?_
          refine at_then_ret ?_
          have hR := Option.some.inj H
          subst hR
          exact at_ret1 rfl rfl ⟨_, rfl, rfl, HM⟩
        · replace H := cond_f hb1914 H
          refine run_skip ?_
          refine at_then ?_
          refine run_seq ?_
          obtain ⟨t1915, h1916, H⟩ := bind_some H
          refine run_region rfl ?_
          refine ops_ex rfl (guard_none rfl) rfl rfl (ex_move rfl rfl) ?_
          refine ops_ex rfl (guard_none rfl) rfl rfl (ex_nilCheck rfl rfl) ?_
          refine ops_ex rfl (guard_none rfl) rfl rfl (ex_fieldAddr (off' := f0 + 3) rfl rfl Try.underlying51 rfl tsz49 rfl) ?_
          refine ops_ex rfl (guard_none rfl) rfl rfl (ex_load1 rfl rfl Try.underlying49 rfl ((HM.at_ hc0) 3 _ rfl)) ?_
          refine ops_does rfl (guard_none rfl) rfl rfl (does_callk rfl callok109 rfl (spec_l6Fault.calls (x0 := x0.fMembers) (HM.rd hp0_1) h1916)) ?_
          rintro _ w1917 ⟨rfl, hn⟩
          replace HM : Mem w [] w1917 [] := HM.call hn
          refine ops_ex rfl (guard_none rfl) rfl rfl (ex_assign rfl rfl) ?_
          refine ops_nil ?_
          refine at_then ?_
          refine run_ret ?_
          have hR := Option.some.inj H
          subst hR
          exact at_ret1 rfl rfl ⟨_, rfl, rfl, HM⟩

def spec_StateFault.f (k : Nat) (x0 : State) : Option Int := ((spec_l8Fault.f k x0).bind fun t1924 => some t1924)
theorem spec_StateFault.calls {k : Nat} {x0 : State} {p0_0 : Value} {p0_1 : Value} {w : World} (hp0_0 : RdS kCoin w p0_0 x0.fCoins) (hp0_1 : RdS kMember w p0_1 x0.fMembers) {r : Int} (H : spec_StateFault.f k x0 = some r) :
    Calls Try.prog 41 ([.agg #[(.int .i64 x0.fTip), (.int .i64 x0.fHeight), p0_0, p0_1]] : List Value).toArray w (fun e w_ => ∃ v, e = .returned v ∧ v = (.int .i64 r) ∧ Mem w [] w_ []) := by
  have HM := Mem.start w
  refine calls_run (N := 4) Try.func41 rfl rfl rfl rfl ?_
  unfold spec_StateFault.f at H
  refine run_seq ?_
  refine run_region rfl ?_
  refine ops_does rfl (guard_none rfl) rfl rfl (does_box (cs := [.int .i64 x0.fTip, .int .i64 x0.fHeight, p0_0, p0_1]) rfl rfl rfl HM) ?_
  rintro _ w1923 ⟨b1920, rfl, HM⟩
  refine ops_ex rfl (guard_none rfl) rfl rfl (ex_assign rfl rfl) ?_
  refine ops_nil ?_
  refine at_then ?_
  refine run_seq ?_
  obtain ⟨t1924, h1925, H⟩ := bind_some H
  refine run_region rfl ?_
  refine ops_does rfl (guard_none rfl) rfl rfl (does_callk rfl callok97 rfl (spec_l8Fault.calls (x0 := x0) (HM.box_at 0 rfl) (HM.rd hp0_0) (HM.rd hp0_1) h1925)) ?_
  rintro _ w1926 ⟨rfl, hn⟩
  replace HM : Mem w [] w1926 [box b1920 51 [.int .i64 x0.fTip, .int .i64 x0.fHeight, p0_0, p0_1]] := HM.call hn
  refine ops_ex rfl (guard_none rfl) rfl rfl (ex_assign rfl rfl) ?_
  refine ops_nil ?_
  refine at_then ?_
  refine run_ret ?_
  replace HM := (HM.front 0 rfl rfl).drop
  have hR := Option.some.inj H
  subst hR
  exact at_ret1 rfl rfl ⟨_, rfl, rfl, HM⟩

def impl_within.f (k : Nat) (x0 : Int) (x1 : Int) (x2 : Int) : Option Bool := some ((decide (x1 ≤ x0)) && (decide (x0 ≤ x2)))
theorem impl_within.calls {k : Nat} {x0 : Int} {x1 : Int} {x2 : Int}  {w : World}  {r : Bool} (H : impl_within.f k x0 x1 x2 = some r) :
    Calls Try.prog 81 ([.int .i64 x0, .int .i64 x1, .int .i64 x2] : List Value).toArray w (fun e w_ => ∃ v, e = .returned v ∧ v = (.bool r) ∧ Mem w [] w_ []) := by
  have HM := Mem.start w
  refine calls_run (N := 15) Try.func81 rfl rfl rfl rfl ?_
  unfold impl_within.f at H
  refine run_seq ?_
  refine run_region rfl ?_
  refine ops_ex rfl (guard_none rfl) rfl rfl (ex_assign rfl rfl) ?_
  refine ops_nil ?_
  refine at_then ?_
  refine run_seq ?_
  refine run_meet (fun ρ_ w_ => ρ_ = [(6, .bool ((decide (x1 ≤ x0)) && (decide (x0 ≤ x2))))] ∧ Mem w [] w_ []) ?_ ?_
  · skip
    refine run_region rfl ?_
    refine ops_ex rfl (guard_none rfl) rfl rfl (ex_move rfl rfl) ?_
    refine ops_ex rfl (guard_none rfl) rfl rfl (ex_move rfl rfl) ?_
    refine ops_ex rfl (guard_none rfl) rfl rfl (ex_geq rfl rfl rfl) ?_
    refine ops_ex rfl (guard_none rfl) rfl rfl (ex_move rfl rfl) ?_
    refine bool_cases (decide (x1 ≤ x0)) (fun hg1941 => ?_) (fun hg1941 => ?_)
    · skip
      refine ops_ex rfl (guard_on rfl rfl rfl hg1941) rfl rfl (ex_move rfl rfl) ?_
      refine ops_ex rfl (guard_on rfl rfl rfl hg1941) rfl rfl (ex_move rfl rfl) ?_
      refine ops_ex rfl (guard_on rfl rfl rfl hg1941) rfl rfl (ex_leq rfl rfl rfl) ?_
      refine ops_ex (v := .bool ((decide (x1 ≤ x0)) && (decide (x0 ≤ x2)))) rfl (guard_none rfl) rfl rfl (ex_pand_t rfl rfl hg1941 rfl) ?_
      refine ops_ex rfl (guard_none rfl) rfl rfl (ex_assign rfl rfl) ?_
      refine ops_nil ?_
      exact at_meet [(6, .bool ((decide (x1 ≤ x0)) && (decide (x0 ≤ x2))))] ⟨rfl, HM⟩ (Sub.cons rfl Sub.nil)
    · skip
      refine ops_off rfl (guard_off rfl rfl rfl hg1941) rfl rfl ?_
      refine ops_off rfl (guard_off rfl rfl rfl hg1941) rfl rfl ?_
      refine ops_off rfl (guard_off rfl rfl rfl hg1941) rfl rfl ?_
      have hg1942 : ((decide (x1 ≤ x0)) && (decide (x0 ≤ x2))) = false := by simp only [hg1941, Bool.and_true, Bool.true_and, Bool.and_false, Bool.false_and, Bool.or_true, Bool.true_or, Bool.or_false, Bool.false_or, Bool.not_true, Bool.not_false, Bool.not_not]
      refine ops_ex (v := .bool ((decide (x1 ≤ x0)) && (decide (x0 ≤ x2)))) rfl (guard_none rfl) rfl rfl (ex_pand_f rfl rfl hg1941) ?_
      refine ops_ex rfl (guard_none rfl) rfl rfl (ex_assign rfl rfl) ?_
      refine ops_nil ?_
      exact at_meet [(6, .bool ((decide (x1 ≤ x0)) && (decide (x0 ≤ x2))))] ⟨rfl, HM⟩ (Sub.cons rfl Sub.nil)
  · rintro _ w1943 ⟨rfl, HM⟩
    refine at_then ?_
    refine run_ret ?_
    have hR := Option.some.inj H
    subst hR
    exact at_ret1 rfl rfl ⟨_, rfl, rfl, HM⟩

def impl_isId.f (k : Nat) (x0 : Int) : Option Bool := ((impl_within.f k x0 1 60).bind fun t1971 => some t1971)
theorem impl_isId.calls {k : Nat} {x0 : Int}  {w : World}  {r : Bool} (H : impl_isId.f k x0 = some r) :
    Calls Try.prog 131 ([.int .i64 x0] : List Value).toArray w (fun e w_ => ∃ v, e = .returned v ∧ v = (.bool r) ∧ Mem w [] w_ []) := by
  have HM := Mem.start w
  refine calls_run (N := 5) Try.func131 rfl rfl rfl rfl ?_
  unfold impl_isId.f at H
  refine run_seq ?_
  refine run_region rfl ?_
  refine ops_ex rfl (guard_none rfl) rfl rfl (ex_assign rfl rfl) ?_
  refine ops_nil ?_
  refine at_then ?_
  refine run_seq ?_
  obtain ⟨t1971, h1972, H⟩ := bind_some H
  refine run_region rfl ?_
  refine ops_ex rfl (guard_none rfl) rfl rfl (ex_move rfl rfl) ?_
  refine ops_does rfl (guard_none rfl) rfl rfl (does_callk rfl callok81 rfl (impl_within.calls (x0 := x0) (x1 := 1) (x2 := 60) h1972)) ?_
  rintro _ w1973 ⟨rfl, hn⟩
  replace HM : Mem w [] w1973 [] := HM.call hn
  refine ops_ex rfl (guard_none rfl) rfl rfl (ex_assign rfl rfl) ?_
  refine ops_nil ?_
  refine at_then ?_
  refine run_ret ?_
  have hR := Option.some.inj H
  subst hR
  exact at_ret1 rfl rfl ⟨_, rfl, rfl, HM⟩

def impl_isRef.f (k : Nat) (x0 : Ref) : Option Bool := ((impl_isId.f k x0.fTx).bind fun t1982 => ((bif t1982 then impl_within.f k x0.fAt 0 3 else some default).bind fun t1984 => some (t1982 && t1984)))
theorem impl_isRef.calls {k : Nat} {x0 : Ref}  {w : World}  {r : Bool} (H : impl_isRef.f k x0 = some r) :
    Calls Try.prog 79 ([.agg #[(.int .i64 x0.fTx), (.int .i64 x0.fAt)]] : List Value).toArray w (fun e w_ => ∃ v, e = .returned v ∧ v = (.bool r) ∧ Mem w [] w_ []) := by
  have HM := Mem.start w
  refine calls_run (N := 11) Try.func79 rfl rfl rfl rfl ?_
  unfold impl_isRef.f at H
  refine run_seq ?_
  refine run_region rfl ?_
  refine ops_does rfl (guard_none rfl) rfl rfl (does_box (cs := [.int .i64 x0.fTx, .int .i64 x0.fAt]) rfl rfl rfl HM) ?_
  rintro _ w1981 ⟨b1978, rfl, HM⟩
  refine ops_ex rfl (guard_none rfl) rfl rfl (ex_assign rfl rfl) ?_
  refine ops_nil ?_
  refine at_then ?_
  refine run_seq ?_
  obtain ⟨t1982, h1983, H⟩ := bind_some H
  obtain ⟨t1984, h1985, H⟩ := bind_some H
  refine run_meet (fun ρ_ w_ => ρ_ = [(2, .bool (t1982 && t1984))] ∧ Mem w [] w_ []) ?_ ?_
  · skip
    refine run_region rfl ?_
    refine ops_ex rfl (guard_none rfl) rfl rfl (ex_fieldAddr (off' := 0) rfl rfl Try.underlying99 rfl tsz2 rfl) ?_
    refine ops_ex rfl (guard_none rfl) rfl rfl (ex_load1 rfl rfl Try.underlying2 rfl ((HM.box_at 0 rfl) 0 _ rfl)) ?_
    refine ops_does rfl (guard_none rfl) rfl rfl (does_callk rfl callok131 rfl (impl_isId.calls (x0 := x0.fTx) h1983)) ?_
    rintro _ w1986 ⟨rfl, hn⟩
    replace HM : Mem w [] w1986 [box b1978 99 [.int .i64 x0.fTx, .int .i64 x0.fAt]] := HM.call hn
    refine ops_ex rfl (guard_none rfl) rfl rfl (ex_move rfl rfl) ?_
    refine bool_cases t1982 (fun hg1987 => ?_) (fun hg1987 => ?_)
    · skip
      refine ops_ex rfl (guard_on rfl rfl rfl hg1987) rfl rfl (ex_fieldAddr (off' := 1) rfl rfl Try.underlying99 rfl tsz2 rfl) ?_
      refine ops_ex rfl (guard_on rfl rfl rfl hg1987) rfl rfl (ex_load1 rfl rfl Try.underlying2 rfl ((HM.box_at 0 rfl) 1 _ rfl)) ?_
      refine ops_does rfl (guard_on rfl rfl rfl hg1987) rfl rfl (does_callk rfl callok81 rfl (impl_within.calls (x0 := x0.fAt) (x1 := 0) (x2 := 3) (cond_t hg1987 h1985))) ?_
      rintro _ w1988 ⟨rfl, hn⟩
      replace HM : Mem w [] w1988 [box b1978 99 [.int .i64 x0.fTx, .int .i64 x0.fAt]] := HM.call hn
      refine ops_ex (v := .bool (t1982 && t1984)) rfl (guard_none rfl) rfl rfl (ex_pand_t rfl rfl hg1987 rfl) ?_
      refine ops_ex rfl (guard_none rfl) rfl rfl (ex_assign rfl rfl) ?_
      refine ops_nil ?_
      replace HM := (HM.front 0 rfl rfl).drop
      exact at_meet [(2, .bool (t1982 && t1984))] ⟨rfl, HM⟩ (Sub.cons rfl Sub.nil)
    · skip
      refine ops_off rfl (guard_off rfl rfl rfl hg1987) rfl rfl ?_
      refine ops_off rfl (guard_off rfl rfl rfl hg1987) rfl rfl ?_
      refine ops_off rfl (guard_off rfl rfl rfl hg1987) rfl rfl ?_
      have hg1989 : (t1982 && t1984) = false := by simp only [hg1987, Bool.and_true, Bool.true_and, Bool.and_false, Bool.false_and, Bool.or_true, Bool.true_or, Bool.or_false, Bool.false_or, Bool.not_true, Bool.not_false, Bool.not_not]
      refine ops_ex (v := .bool (t1982 && t1984)) rfl (guard_none rfl) rfl rfl (ex_pand_f rfl rfl hg1987) ?_
      refine ops_ex rfl (guard_none rfl) rfl rfl (ex_assign rfl rfl) ?_
      refine ops_nil ?_
      replace HM := (HM.front 0 rfl rfl).drop
      exact at_meet [(2, .bool (t1982 && t1984))] ⟨rfl, HM⟩ (Sub.cons rfl Sub.nil)
  · rintro _ w1990 ⟨rfl, HM⟩
    refine at_then ?_
    refine run_ret ?_
    have hR := Option.some.inj H
    subst hR
    exact at_ret1 rfl rfl ⟨_, rfl, rfl, HM⟩

def impl_isHeight.f (k : Nat) (x0 : Int) : Option Bool := ((impl_within.f k x0 0 999).bind fun t1995 => some t1995)
theorem impl_isHeight.calls {k : Nat} {x0 : Int}  {w : World}  {r : Bool} (H : impl_isHeight.f k x0 = some r) :
    Calls Try.prog 80 ([.int .i64 x0] : List Value).toArray w (fun e w_ => ∃ v, e = .returned v ∧ v = (.bool r) ∧ Mem w [] w_ []) := by
  have HM := Mem.start w
  refine calls_run (N := 5) Try.func80 rfl rfl rfl rfl ?_
  unfold impl_isHeight.f at H
  refine run_seq ?_
  refine run_region rfl ?_
  refine ops_ex rfl (guard_none rfl) rfl rfl (ex_assign rfl rfl) ?_
  refine ops_nil ?_
  refine at_then ?_
  refine run_seq ?_
  obtain ⟨t1995, h1996, H⟩ := bind_some H
  refine run_region rfl ?_
  refine ops_ex rfl (guard_none rfl) rfl rfl (ex_move rfl rfl) ?_
  refine ops_does rfl (guard_none rfl) rfl rfl (does_callk rfl callok81 rfl (impl_within.calls (x0 := x0) (x1 := 0) (x2 := 999) h1996)) ?_
  rintro _ w1997 ⟨rfl, hn⟩
  replace HM : Mem w [] w1997 [] := HM.call hn
  refine ops_ex rfl (guard_none rfl) rfl rfl (ex_assign rfl rfl) ?_
  refine ops_nil ?_
  refine at_then ?_
  refine run_ret ?_
  have hR := Option.some.inj H
  subst hR
  exact at_ret1 rfl rfl ⟨_, rfl, rfl, HM⟩

def impl_isKey.f (k : Nat) (x0 : Int) : Option Bool := ((impl_within.f k x0 1 999).bind fun t2021 => some t2021)
theorem impl_isKey.calls {k : Nat} {x0 : Int}  {w : World}  {r : Bool} (H : impl_isKey.f k x0 = some r) :
    Calls Try.prog 86 ([.int .i64 x0] : List Value).toArray w (fun e w_ => ∃ v, e = .returned v ∧ v = (.bool r) ∧ Mem w [] w_ []) := by
  have HM := Mem.start w
  refine calls_run (N := 5) Try.func86 rfl rfl rfl rfl ?_
  unfold impl_isKey.f at H
  refine run_seq ?_
  refine run_region rfl ?_
  refine ops_ex rfl (guard_none rfl) rfl rfl (ex_assign rfl rfl) ?_
  refine ops_nil ?_
  refine at_then ?_
  refine run_seq ?_
  obtain ⟨t2021, h2022, H⟩ := bind_some H
  refine run_region rfl ?_
  refine ops_ex rfl (guard_none rfl) rfl rfl (ex_move rfl rfl) ?_
  refine ops_does rfl (guard_none rfl) rfl rfl (does_callk rfl callok81 rfl (impl_within.calls (x0 := x0) (x1 := 1) (x2 := 999) h2022)) ?_
  rintro _ w2023 ⟨rfl, hn⟩
  replace HM : Mem w [] w2023 [] := HM.call hn
  refine ops_ex rfl (guard_none rfl) rfl rfl (ex_assign rfl rfl) ?_
  refine ops_nil ?_
  refine at_then ?_
  refine run_ret ?_
  have hR := Option.some.inj H
  subst hR
  exact at_ret1 rfl rfl ⟨_, rfl, rfl, HM⟩

def impl_areKeys_1.f (k : Nat) (x0 : Int) : Option Bool := ((impl_isKey.f k x0).bind fun t2026 => some (!t2026))
theorem impl_areKeys_1.calls {k : Nat} {x0 : Int}  {w : World}  {r : Bool} (H : impl_areKeys_1.f k x0 = some r) :
    Calls Try.prog 163 ([.int .i64 x0] : List Value).toArray w (fun e w_ => ∃ v, e = .returned v ∧ v = (.bool r) ∧ Mem w [] w_ []) := by
  have HM := Mem.start w
  refine calls_run (N := 6) Try.func163 rfl rfl rfl rfl ?_
  unfold impl_areKeys_1.f at H
  refine run_seq ?_
  refine run_region rfl ?_
  refine ops_ex rfl (guard_none rfl) rfl rfl (ex_assign rfl rfl) ?_
  refine ops_nil ?_
  refine at_then ?_
  refine run_seq ?_
  obtain ⟨t2026, h2027, H⟩ := bind_some H
  refine run_region rfl ?_
  refine ops_ex rfl (guard_none rfl) rfl rfl (ex_move rfl rfl) ?_
  refine ops_does rfl (guard_none rfl) rfl rfl (does_callk rfl callok86 rfl (impl_isKey.calls (x0 := x0) h2027)) ?_
  rintro _ w2028 ⟨rfl, hn⟩
  replace HM : Mem w [] w2028 [] := HM.call hn
  refine ops_ex rfl (guard_none rfl) rfl rfl (ex_not rfl rfl) ?_
  refine ops_ex rfl (guard_none rfl) rfl rfl (ex_assign rfl rfl) ?_
  refine ops_nil ?_
  refine at_then ?_
  refine run_ret ?_
  have hR := Option.some.inj H
  subst hR
  exact at_ret1 rfl rfl ⟨_, rfl, rfl, HM⟩

def slices_IndexFunc_int64.l0 (x0 : List Int) : Nat → Int → Option (Int ⊕ Unit)
  | 0, _ => none
  | k + 1, a2074 => (bif (decide (a2074 < (x0.length : Int))) then (chk (idxOk a2074 x0.length) ((impl_areKeys_1.f k (gt x0 a2074)).bind fun t2086 => (bif t2086 then some (.inl a2074) else slices_IndexFunc_int64.l0 x0 k (wrap64 (a2074 + 1))))) else some (.inr ()))
theorem slices_IndexFunc_int64.l0_z (x0 : List Int) (a2074 : Int) : slices_IndexFunc_int64.l0 x0 0 a2074 = none := rfl
theorem slices_IndexFunc_int64.l0_s (x0 : List Int) (k : Nat) (a2074 : Int) : slices_IndexFunc_int64.l0 x0 (k + 1) a2074 = (bif (decide (a2074 < (x0.length : Int))) then (chk (idxOk a2074 x0.length) ((impl_areKeys_1.f k (gt x0 a2074)).bind fun t2086 => (bif t2086 then some (.inl a2074) else slices_IndexFunc_int64.l0 x0 k (wrap64 (a2074 + 1))))) else some (.inr ())) := rfl
def slices_IndexFunc_int64.f (k : Nat) (x0 : List Int) : Option Int := ((slices_IndexFunc_int64.l0 x0 k 0).bind fun o2066 => thn o2066 (fun r => some r) (fun _ => some (-1)))
theorem slices_IndexFunc_int64.calls {k : Nat} {x0 : List Int} {p0 : Value} {w : World} (hp0 : RdS kInt w p0 x0) {r : Int} (H : slices_IndexFunc_int64.f k x0 = some r) :
    Calls Try.prog 170 ([p0, .func (.func 163) #[] #[]] : List Value).toArray w (fun e w_ => ∃ v, e = .returned v ∧ v = (.int .i64 r) ∧ Mem w [] w_ []) := by
  have HM := Mem.start w
  refine calls_run (N := 19) Try.func170 rfl rfl rfl rfl ?_
  unfold slices_IndexFunc_int64.f at H
  refine run_seq ?_
  refine run_region rfl ?_
  refine ops_ex rfl (guard_none rfl) rfl rfl (ex_assign rfl rfl) ?_
  refine ops_nil ?_
  refine at_then ?_
  obtain ⟨o2066, ho2067, H⟩ := bind_some H
  refine run_mid (fun ρ_ w_ => Sum.inr () = o2066 ∧ ρ_ = [] ∧ Mem w [] w_ []) ?_ ?_
  · skip
    refine run_seq ?_
    refine run_region rfl ?_
    refine ops_ex rfl (guard_none rfl) rfl rfl (ex_move rfl rfl) ?_
    refine ops_ex rfl (guard_none rfl) rfl rfl (ex_len (d := kInt) (xs := x0) rfl rfl Try.underlying74 hp0) ?_
    refine ops_ex rfl (guard_none rfl) rfl rfl (ex_move rfl rfl) ?_
    refine ops_nil ?_
    refine at_then ?_
    refine run_block ?_
    refine run_loop (fun k_ ρ_ w_ => ∃ a2074 : Int, slices_IndexFunc_int64.l0 x0 k_ a2074 = some o2066 ∧ ρ_ = [(0, p0), (1, .func (.func 163) #[] #[]), (7, .int .i64 (x0.length : Int)), (8, .int .i64 a2074)] ∧ Mem w [] w_ []) k (ρ1 := [(0, p0), (1, .func (.func 163) #[] #[]), (7, .int .i64 (x0.length : Int)), (8, .int .i64 0)]) ⟨_, ho2067, rfl, HM⟩ (Sub.cons rfl (Sub.cons rfl (Sub.cons rfl (Sub.cons rfl Sub.nil)))) ?_
    clear HM ho2067
    rintro k2081 _ w2082 ⟨a2074, ho2067, rfl, HM⟩
    obtain _ | k2081 := k2081
    · exact nomatch ((slices_IndexFunc_int64.l0_z x0 a2074).symm.trans ho2067)
    replace ho2067 := (slices_IndexFunc_int64.l0_s x0 k2081 a2074).symm.trans ho2067
    refine run_seq ?_
    refine run_region rfl ?_
    refine ops_ex rfl (guard_none rfl) rfl rfl (ex_lss rfl rfl rfl) ?_
    refine ops_nil ?_
    refine at_then ?_
    refine run_seq ?_
    refine run_cond (b := (decide (a2074 < (x0.length : Int)))) rfl (fun hb2083 => ?_) (fun hb2083 => ?_)
    · replace ho2067 := cond_t hb2083 ho2067
      refine run_skip ?_
      refine at_then ?_
      refine run_seq ?_
      refine run_block ?_
      refine run_seq ?_
      refine run_region rfl ?_
      refine ops_ex rfl (guard_none rfl) rfl rfl (ex_move rfl rfl) ?_
      refine ops_ex rfl (guard_none rfl) rfl rfl (ex_assign rfl rfl) ?_
      refine ops_nil ?_
      refine at_then ?_
      refine run_seq ?_
      obtain ⟨e2084, ho2067⟩ := chk_some ho2067
      obtain ⟨t2086, h2087, ho2067⟩ := bind_some ho2067
      refine run_region rfl ?_
      refine ops_ex rfl (guard_none rfl) rfl rfl (ex_move rfl rfl) ?_
      refine ops_ex rfl (guard_none rfl) rfl rfl (ex_move rfl rfl) ?_
      refine ops_ex rfl (guard_none rfl) rfl rfl (ex_move rfl rfl) ?_
      have hc2085 : CellsAt _ (sb p0) (so p0 + (a2074).toNat * 1) [(.int .i64 (gt x0 a2074))] := rd_plain hp0 e2084
      refine ops_ex rfl (guard_none rfl) rfl rfl (ex_indexAddr (d := kInt) rfl rfl rfl Try.underlying74 tsz2 hp0 (idx_lo e2084) (idx_hi e2084)) ?_
      refine ops_ex rfl (guard_none rfl) rfl rfl (ex_load1 rfl rfl Try.underlying2 rfl ((HM.at_ hc2085) 0 _ rfl)) ?_
      refine ops_does rfl (guard_none rfl) rfl rfl (does_callvk rfl callok163 rfl rfl rfl (impl_areKeys_1.calls (x0 := (gt x0 a2074)) h2087)) ?_
      rintro _ w2088 ⟨rfl, hn⟩
      replace HM : Mem w [] w2088 [] := HM.call hn
      refine ops_nil ?_
      refine at_then ?_
      refine run_cond (b := t2086) rfl (fun hb2089 => ?_) (fun hb2089 => ?_)
      · replace ho2067 := cond_t hb2089 ho2067
        refine run_seq ?_
        refine run_region rfl ?_
        refine ops_ex rfl (guard_none rfl) rfl rfl (ex_move rfl rfl) ?_
        refine ops_ex rfl (guard_none rfl) rfl rfl (ex_assign rfl rfl) ?_
        refine ops_nil ?_
        refine at_then ?_
        refine run_ret ?_
        refine at_block_ret ?_
        refine at_then_ret ?_
        refine at_then_ret ?_
        refine at_block_ret ?_
        refine at_then_ret ?_
        have hR := Option.some.inj ho2067
        subst hR
        have hT := thn_inl H
        have hR := Option.some.inj hT
        subst hR
        exact at_ret1 rfl rfl ⟨_, rfl, rfl, HM⟩
      · replace ho2067 := cond_f hb2089 ho2067
        refine run_skip ?_
        refine at_block ?_
        refine at_then ?_
        refine run_region rfl ?_
        refine ops_ex rfl (guard_none rfl) rfl rfl (ex_add rfl rfl rfl) ?_
        refine ops_ex rfl (guard_none rfl) rfl rfl (ex_move rfl rfl) ?_
        refine ops_nil ?_
        exact at_again k2081 (ρ1 := [(0, p0), (1, .func (.func 163) #[] #[]), (7, .int .i64 (x0.length : Int)), (8, .int .i64 (wrap64 (a2074 + 1)))]) (Nat.lt_succ_self _) ⟨_, ho2067, rfl, HM⟩ (Sub.cons rfl (Sub.cons rfl (Sub.cons rfl (Sub.cons rfl Sub.nil))))
    · replace ho2067 := cond_f hb2083 ho2067
      refine run_exit ?_
      refine at_then_exit ?_
      refine at_then_exit ?_
      refine at_block_exit ?_
      exact at_mid (ρ' := []) ⟨(Option.some.inj ho2067), rfl, HM⟩ Sub.nil
  · rintro _ w2090 ⟨rfl, rfl, HM⟩
    replace H := (thn_inr H)
    refine run_seq ?_
    refine run_region rfl ?_
    refine ops_ex rfl (guard_none rfl) rfl rfl (ex_assign rfl rfl) ?_
    refine ops_nil ?_
    refine at_then ?_
    refine run_ret ?_
    have hR := Option.some.inj H
    subst hR
    exact at_ret1 rfl rfl ⟨_, rfl, rfl, HM⟩

def slices_ContainsFunc_int64.f (k : Nat) (x0 : List Int) : Option Bool := ((slices_IndexFunc_int64.f k x0).bind fun t2093 => some (decide (0 ≤ t2093)))
theorem slices_ContainsFunc_int64.calls {k : Nat} {x0 : List Int} {p0 : Value} {w : World} (hp0 : RdS kInt w p0 x0) {r : Bool} (H : slices_ContainsFunc_int64.f k x0 = some r) :
    Calls Try.prog 162 ([p0, .func (.func 163) #[] #[]] : List Value).toArray w (fun e w_ => ∃ v, e = .returned v ∧ v = (.bool r) ∧ Mem w [] w_ []) := by
  have HM := Mem.start w
  refine calls_run (N := 9) Try.func162 rfl rfl rfl rfl ?_
  unfold slices_ContainsFunc_int64.f at H
  refine run_seq ?_
  refine run_region rfl ?_
  refine ops_ex rfl (guard_none rfl) rfl rfl (ex_assign rfl rfl) ?_
  refine ops_nil ?_
  refine at_then ?_
  refine run_seq ?_
  obtain ⟨t2093, h2094, H⟩ := bind_some H
  refine run_region rfl ?_
  refine ops_ex rfl (guard_none rfl) rfl rfl (ex_move rfl rfl) ?_
  refine ops_ex rfl (guard_none rfl) rfl rfl (ex_move rfl rfl) ?_
  refine ops_does rfl (guard_none rfl) rfl rfl (does_callk rfl callok170 rfl (slices_IndexFunc_int64.calls (x0 := x0) (HM.rd hp0) h2094)) ?_
  rintro _ w2095 ⟨rfl, hn⟩
  replace HM : Mem w [] w2095 [] := HM.call hn
  refine ops_ex rfl (guard_none rfl) rfl rfl (ex_geq rfl rfl rfl) ?_
  refine ops_ex rfl (guard_none rfl) rfl rfl (ex_assign rfl rfl) ?_
  refine ops_nil ?_
  refine at_then ?_
  refine run_ret ?_
  have hR := Option.some.inj H
  subst hR
  exact at_ret1 rfl rfl ⟨_, rfl, rfl, HM⟩
end Go.Proofs.Ytoiacoiccpiciaa.Zk
