/- What functions of the program compute, each as a plain function, and that they do. Conditions: as each theorem states them. -/
import Derived.Test.YtcpacdbdehphkaaDoorFnBlocksZkF2
namespace Go.Proofs.YtcpacdbdehphkaaDoor.Zk
open Go Go.RowKit Go.IntWalk Go.Proofs
set_option linter.unusedVariables false
set_option linter.unusedSimpArgs false
set_option maxRecDepth 100000
set_option maxHeartbeats 4000000
def spec_l2Cut.l0 (x0 : ByteArray) (x1 : Int) : Nat → (List ByteArray) → Int → Int → Option ((List ByteArray))
  | 0, _, _, _ => none
  | k + 1, a1764, a1766, a1767 => (bif (decide (a1767 ≤ (x0.size : Int))) then (chk (!(!(a1767 == (x0.size : Int))) || (idxOk a1767 x0.size)) (bif ((a1767 == (x0.size : Int)) || ((bt x0 a1767) == x1)) then (chk (cutOk a1767 x0.size) (chk (cutOk a1766 (a1767).toNat) (chk (leB ((a1764.length + ([x0.extract (a1766).toNat (a1767).toNat] : List ByteArray).length) * 16) 140737488355328) (spec_l2Cut.l0 x0 x1 k (a1764 ++ ([x0.extract (a1766).toNat (a1767).toNat] : List ByteArray)) (wrap64 (a1767 + 1)) (wrap64 (a1767 + 1)))))) else spec_l2Cut.l0 x0 x1 k a1764 a1766 (wrap64 (a1767 + 1)))) else some a1764)
theorem spec_l2Cut.l0_z (x0 : ByteArray) (x1 : Int) (a1764 : List ByteArray) (a1766 : Int) (a1767 : Int) : spec_l2Cut.l0 x0 x1 0 a1764 a1766 a1767 = none := rfl
theorem spec_l2Cut.l0_s (x0 : ByteArray) (x1 : Int) (k : Nat) (a1764 : List ByteArray) (a1766 : Int) (a1767 : Int) : spec_l2Cut.l0 x0 x1 (k + 1) a1764 a1766 a1767 = (bif (decide (a1767 ≤ (x0.size : Int))) then (chk (!(!(a1767 == (x0.size : Int))) || (idxOk a1767 x0.size)) (bif ((a1767 == (x0.size : Int)) || ((bt x0 a1767) == x1)) then (chk (cutOk a1767 x0.size) (chk (cutOk a1766 (a1767).toNat) (chk (leB ((a1764.length + ([x0.extract (a1766).toNat (a1767).toNat] : List ByteArray).length) * 16) 140737488355328) (spec_l2Cut.l0 x0 x1 k (a1764 ++ ([x0.extract (a1766).toNat (a1767).toNat] : List ByteArray)) (wrap64 (a1767 + 1)) (wrap64 (a1767 + 1)))))) else spec_l2Cut.l0 x0 x1 k a1764 a1766 (wrap64 (a1767 + 1)))) else some a1764) := rfl
def spec_l2Cut.f (k : Nat) (x0 : ByteArray) (x1 : Int) : Option ((List ByteArray)) := ((spec_l2Cut.l0 x0 x1 k ([] : List ByteArray) 0 0).bind (fun a1748 => some a1748))
theorem spec_l2Cut.calls {k : Nat} {x0 : ByteArray} {x1 : Int}  {w : World}  {r : (List ByteArray)} (H : spec_l2Cut.f k x0 x1 = some r) :
    Calls Tryd.prog 81 ([.string x0, .int .u8 x1] : List Value).toArray w (fun e w_ => ∃ v, e = .returned v ∧ ∃ u0 : Value, v = u0 ∧ Mem w [] w_ [own kStr 9 u0 r]) := by
  have HM := Mem.start w
  refine calls_run (N := 36) Tryd.func81 rfl rfl rfl rfl ?_
  unfold spec_l2Cut.f at H
  refine run_seq ?_
  refine run_region rfl ?_
  refine ops_ex rfl (guard_none rfl) rfl rfl (ex_assign rfl rfl) ?_
  refine ops_nil ?_
  refine at_then ?_
  refine run_seq ?_
  refine run_region rfl ?_
  refine ops_does rfl (guard_none rfl) rfl rfl (does_lit (e := 9) (cs := []) (xs := ([] : List ByteArray)) kStr rfl rfl (fun _ => by kernel_rfl) rfl rfl (fun _ _ h => by have h' : _ = [] := h; subst h'; exact .nil) HM.emp) ?_
  rintro v1705 w1708 HM
  refine ops_ex rfl (guard_none rfl) rfl rfl (ex_assign rfl rfl) ?_
  refine ops_nil ?_
  refine at_then ?_
  refine run_seq ?_
  refine run_region rfl ?_
  refine ops_ex rfl (guard_none rfl) rfl rfl (ex_assign rfl rfl) ?_
  refine ops_nil ?_
  refine at_then ?_
  obtain ⟨o1750, ho1751, H⟩ := bind_some H
  refine run_mid (fun ρ_ w_ => ∃ v1747 : Value, ∃ a1748 : List ByteArray, a1748 = o1750 ∧ ρ_ = [(5, v1747)] ∧ Mem w [] w_ [own kStr 9 v1747 a1748]) ?_ ?_
  · clear H
    refine run_seq ?_
    refine run_region rfl ?_
    refine ops_ex rfl (guard_none rfl) rfl rfl (ex_assign rfl rfl) ?_
    refine ops_nil ?_
    refine at_then ?_
    refine run_block ?_
    refine run_loop (fun k_ ρ_ w_ => ∃ v1763 : Value, ∃ a1764 : List ByteArray, ∃ a1766 : Int, ∃ a1767 : Int, spec_l2Cut.l0 x0 x1 k_ a1764 a1766 a1767 = some o1750 ∧ ρ_ = [(0, .string x0), (1, .int .u8 x1), (5, v1763), (6, .int .i64 a1766), (7, .int .i64 a1767)] ∧ Mem w [] w_ [own kStr 9 v1763 a1764]) k (ρ1 := [(0, .string x0), (1, .int .u8 x1), (5, v1705), (6, .int .i64 0), (7, .int .i64 0)]) ⟨_, _, _, _, ho1751, rfl, HM⟩ (Sub.cons rfl (Sub.cons rfl (Sub.cons rfl (Sub.cons rfl (Sub.cons rfl Sub.nil))))) ?_
    clear HM ho1751
    rintro k1779 _ w1780 ⟨v1763, a1764, a1766, a1767, ho1751, rfl, HM⟩
    obtain _ | k1779 := k1779
    · exact nomatch ((spec_l2Cut.l0_z x0 x1 a1764 a1766 a1767).symm.trans ho1751)
    replace ho1751 := (spec_l2Cut.l0_s x0 x1 k1779 a1764 a1766 a1767).symm.trans ho1751
    refine run_seq ?_
    refine run_seq ?_
    refine run_region rfl ?_
    refine ops_ex rfl (guard_none rfl) rfl rfl (ex_move rfl rfl) ?_
    refine ops_ex rfl (guard_none rfl) rfl rfl (ex_move rfl rfl) ?_
    refine ops_ex rfl (guard_none rfl) rfl rfl (ex_strlen rfl rfl Tryd.underlying9) ?_
    refine ops_ex rfl (guard_none rfl) rfl rfl (ex_leq rfl rfl rfl) ?_
    refine ops_nil ?_
    refine at_then ?_
    refine run_cond (b := (decide (a1767 ≤ (x0.size : Int)))) rfl (fun hb1781 => ?_) (fun hb1781 => ?_)
    · replace ho1751 := cond_t hb1781 ho1751
      refine run_skip ?_
      refine at_then ?_
      refine run_seq ?_
      refine run_block ?_
      refine run_seq ?_
      obtain ⟨e1782, ho1751⟩ := chk_some ho1751
      refine run_meet (fun ρ_ w_ => ρ_ = [(0, .string x0), (1, .int .u8 x1), (5, v1763), (6, .int .i64 a1766), (7, .int .i64 a1767), (25, .bool ((a1767 == (x0.size : Int)) || ((bt x0 a1767) == x1)))] ∧ Mem w [] w_ [own kStr 9 v1763 a1764]) ?_ ?_
      · skip
        refine run_region rfl ?_
        refine ops_ex rfl (guard_none rfl) rfl rfl (ex_move rfl rfl) ?_
        refine ops_ex rfl (guard_none rfl) rfl rfl (ex_move rfl rfl) ?_
        refine ops_ex rfl (guard_none rfl) rfl rfl (ex_strlen rfl rfl Tryd.underlying9) ?_
        refine ops_ex rfl (guard_none rfl) rfl rfl (ex_eql rfl rfl rfl) ?_
        refine ops_ex rfl (guard_none rfl) rfl rfl (ex_move rfl rfl) ?_
        refine bool_cases (a1767 == (x0.size : Int)) (fun hg1783 => ?_) (fun hg1783 => ?_)
        · skip
          refine ops_off rfl (guard_off rfl rfl rfl hg1783) rfl rfl ?_
          refine ops_off rfl (guard_off rfl rfl rfl hg1783) rfl rfl ?_
          refine ops_off rfl (guard_off rfl rfl rfl hg1783) rfl rfl ?_
          refine ops_off rfl (guard_off rfl rfl rfl hg1783) rfl rfl ?_
          refine ops_off rfl (guard_off rfl rfl rfl hg1783) rfl rfl ?_
          have hg1784 : ((a1767 == (x0.size : Int)) || ((bt x0 a1767) == x1)) = true := by simp only [hg1783, Bool.and_true, Bool.true_and, Bool.and_false, Bool.false_and, Bool.or_true, Bool.true_or, Bool.or_false, Bool.false_or, Bool.not_true, Bool.not_false, Bool.not_not]
          refine ops_ex (v := .bool ((a1767 == (x0.size : Int)) || ((bt x0 a1767) == x1))) rfl (guard_none rfl) rfl rfl (ex_por_t rfl rfl hg1783) ?_
          refine ops_nil ?_
          exact at_meet [(0, .string x0), (1, .int .u8 x1), (5, v1763), (6, .int .i64 a1766), (7, .int .i64 a1767), (25, .bool ((a1767 == (x0.size : Int)) || ((bt x0 a1767) == x1)))] ⟨rfl, HM⟩ (Sub.cons rfl (Sub.cons rfl (Sub.cons rfl (Sub.cons rfl (Sub.cons rfl (Sub.cons rfl Sub.nil))))))
        · skip
          refine ops_ex rfl (guard_on rfl rfl rfl hg1783) rfl rfl (ex_move rfl rfl) ?_
          refine ops_ex rfl (guard_on rfl rfl rfl hg1783) rfl rfl (ex_move rfl rfl) ?_
          refine ops_ex rfl (guard_on rfl rfl rfl hg1783) rfl rfl (ex_sindex rfl rfl rfl Tryd.underlying9 (idx_lo (or_t e1782 (not_mk hg1783))) (idx_hi (or_t e1782 (not_mk hg1783)))) ?_
          refine ops_ex rfl (guard_on rfl rfl rfl hg1783) rfl rfl (ex_move rfl rfl) ?_
          refine ops_ex rfl (guard_on rfl rfl rfl hg1783) rfl rfl (ex_eql rfl rfl rfl) ?_
          refine ops_ex (v := .bool ((a1767 == (x0.size : Int)) || ((bt x0 a1767) == x1))) rfl (guard_none rfl) rfl rfl (ex_por_f rfl rfl hg1783 rfl) ?_
          refine ops_nil ?_
          exact at_meet [(0, .string x0), (1, .int .u8 x1), (5, v1763), (6, .int .i64 a1766), (7, .int .i64 a1767), (25, .bool ((a1767 == (x0.size : Int)) || ((bt x0 a1767) == x1)))] ⟨rfl, HM⟩ (Sub.cons rfl (Sub.cons rfl (Sub.cons rfl (Sub.cons rfl (Sub.cons rfl (Sub.cons rfl Sub.nil))))))
      · rintro _ w1785 ⟨rfl, HM⟩
        refine at_then ?_
        refine run_cond (b := ((a1767 == (x0.size : Int)) || ((bt x0 a1767) == x1))) rfl (fun hb1786 => ?_) (fun hb1786 => ?_)
        · replace ho1751 := cond_t hb1786 ho1751
          refine run_seq ?_
          obtain ⟨e1787, ho1751⟩ := chk_some ho1751
          obtain ⟨e1788, ho1751⟩ := chk_some ho1751
          obtain ⟨e1792, ho1751⟩ := chk_some ho1751
          refine run_region rfl ?_
          refine ops_ex rfl (guard_none rfl) rfl rfl (ex_move rfl rfl) ?_
          refine ops_ex rfl (guard_none rfl) rfl rfl (ex_move rfl rfl) ?_
          refine ops_ex rfl (guard_none rfl) rfl rfl (ex_move rfl rfl) ?_
          refine ops_ex rfl (guard_none rfl) rfl rfl (ex_move rfl rfl) ?_
          refine ops_ex rfl (guard_none rfl) rfl rfl (ex_scutLH rfl rfl rfl rfl Tryd.underlying9 e1788 e1787) ?_
          refine ops_does rfl (guard_none rfl) rfl rfl (does_lit (e := 9) (cs := [.string (x0.extract (a1766).toNat (a1767).toNat)]) (xs := ([x0.extract (a1766).toNat (a1767).toNat] : List ByteArray)) kStr rfl rfl (fun _ => by kernel_rfl) rfl rfl (fun _ _ h => by have h' : _ = [] := h; subst h'; exact (Elems.cons (d := kStr) (x := x0.extract (a1766).toNat (a1767).toNat) (f := []) ⟨rfl, rfl⟩ .nil)) HM.emp) ?_
          rintro v1789 w1795 HM
          replace HM := HM.front 1 rfl rfl
          refine ops_does rfl (guard_none rfl) rfl rfl (does_appendR kStr flat_plain rfl rfl rfl Tryd.underlying103 tsz9 rfl tby9 tz9 rfl rfl (leB_le e1792) (HM.own_rd 1 rfl) HM) ?_
          rintro v1793 w1796 HM
          refine ops_ex rfl (guard_none rfl) rfl rfl (ex_assign rfl rfl) ?_
          refine ops_nil ?_
          refine at_then ?_
          refine run_region rfl ?_
          refine ops_ex rfl (guard_none rfl) rfl rfl (ex_move rfl rfl) ?_
          refine ops_ex rfl (guard_none rfl) rfl rfl (ex_add rfl rfl rfl) ?_
          refine ops_ex rfl (guard_none rfl) rfl rfl (ex_assign rfl rfl) ?_
          refine ops_nil ?_
          refine at_block ?_
          refine at_then ?_
          refine run_region rfl ?_
          refine ops_ex rfl (guard_none rfl) rfl rfl (ex_move rfl rfl) ?_
          refine ops_ex rfl (guard_none rfl) rfl rfl (ex_add rfl rfl rfl) ?_
          refine ops_ex rfl (guard_none rfl) rfl rfl (ex_assign rfl rfl) ?_
          refine ops_nil ?_
          replace HM := (HM.front 1 rfl rfl).drop
          exact at_again k1779 (ρ1 := [(0, .string x0), (1, .int .u8 x1), (5, v1793), (6, .int .i64 (wrap64 (a1767 + 1))), (7, .int .i64 (wrap64 (a1767 + 1)))]) (Nat.lt_succ_self _) ⟨_, _, _, _, ho1751, rfl, HM⟩ (Sub.cons rfl (Sub.cons rfl (Sub.cons rfl (Sub.cons rfl (Sub.cons rfl Sub.nil)))))
        · replace ho1751 := cond_f hb1786 ho1751
          refine run_skip ?_
          refine at_block ?_
          refine at_then ?_
          refine run_region rfl ?_
          refine ops_ex rfl (guard_none rfl) rfl rfl (ex_move rfl rfl) ?_
          refine ops_ex rfl (guard_none rfl) rfl rfl (ex_add rfl rfl rfl) ?_
          refine ops_ex rfl (guard_none rfl) rfl rfl (ex_assign rfl rfl) ?_
          refine ops_nil ?_
          exact at_again k1779 (ρ1 := [(0, .string x0), (1, .int .u8 x1), (5, v1763), (6, .int .i64 a1766), (7, .int .i64 (wrap64 (a1767 + 1)))]) (Nat.lt_succ_self _) ⟨_, _, _, _, ho1751, rfl, HM⟩ (Sub.cons rfl (Sub.cons rfl (Sub.cons rfl (Sub.cons rfl (Sub.cons rfl Sub.nil)))))
    · replace ho1751 := cond_f hb1781 ho1751
      refine run_exit ?_
      refine at_then_exit ?_
      refine at_then_exit ?_
      refine at_block_exit ?_
      exact at_mid (ρ' := [(5, v1763)]) ⟨_, _, (Option.some.inj ho1751), rfl, HM⟩ (Sub.cons rfl Sub.nil)
  · rintro _ w1797 ⟨v1747, a1748, rfl, rfl, HM⟩
    refine run_seq ?_
    refine run_region rfl ?_
    refine ops_ex rfl (guard_none rfl) rfl rfl (ex_move rfl rfl) ?_
    refine ops_ex rfl (guard_none rfl) rfl rfl (ex_assign rfl rfl) ?_
    refine ops_nil ?_
    refine at_then ?_
    refine run_ret ?_
    have hR := Option.some.inj H
    subst hR
    exact at_ret1 rfl rfl ⟨_, rfl, _, rfl, HM⟩

def spec_l2Number.l0 (x0 : ByteArray) : Nat → Int → Int → Option ((Int × Bool) ⊕ Int)
  | 0, _, _ => none
  | k + 1, a1889, a1890 => (bif (decide (a1890 < (x0.size : Int))) then (chk (idxOk a1890 x0.size) (chk (!(!(decide ((bt x0 a1890) < 48))) || (idxOk a1890 x0.size)) (bif ((decide ((bt x0 a1890) < 48)) || (decide (57 < (bt x0 a1890)))) then some (.inl (0, false)) else (chk (idxOk a1890 x0.size) (spec_l2Number.l0 x0 k (wrap64 ((wrap64 (a1889 * 10)) + (wrap64 (IntKind.u8.wrap ((bt x0 a1890) - 48))))) (wrap64 (a1890 + 1))))))) else some (.inr a1889))
theorem spec_l2Number.l0_z (x0 : ByteArray) (a1889 : Int) (a1890 : Int) : spec_l2Number.l0 x0 0 a1889 a1890 = none := rfl
theorem spec_l2Number.l0_s (x0 : ByteArray) (k : Nat) (a1889 : Int) (a1890 : Int) : spec_l2Number.l0 x0 (k + 1) a1889 a1890 = (bif (decide (a1890 < (x0.size : Int))) then (chk (idxOk a1890 x0.size) (chk (!(!(decide ((bt x0 a1890) < 48))) || (idxOk a1890 x0.size)) (bif ((decide ((bt x0 a1890) < 48)) || (decide (57 < (bt x0 a1890)))) then some (.inl (0, false)) else (chk (idxOk a1890 x0.size) (spec_l2Number.l0 x0 k (wrap64 ((wrap64 (a1889 * 10)) + (wrap64 (IntKind.u8.wrap ((bt x0 a1890) - 48))))) (wrap64 (a1890 + 1))))))) else some (.inr a1889)) := rfl
def spec_l2Number.f (k : Nat) (x0 : ByteArray) (x1 : Int) : Option (Int × Bool) := (chk (!((!((decide ((x0.size : Int) < 1)) || (decide (x1 < (x0.size : Int))))) && (decide (1 < (x0.size : Int)))) || (idxOk 0 x0.size)) (bif (((decide ((x0.size : Int) < 1)) || (decide (x1 < (x0.size : Int)))) || ((decide (1 < (x0.size : Int))) && ((bt x0 0) == 48))) then some (0, false) else ((spec_l2Number.l0 x0 k 0 0).bind fun o1879 => thn o1879 (fun r => some r) (fun a1878 => some (a1878, true)))))
theorem spec_l2Number.calls {k : Nat} {x0 : ByteArray} {x1 : Int}  {w : World}  {r : Int × Bool} (H : spec_l2Number.f k x0 x1 = some r) :
    Calls Tryd.prog 82 ([.string x0, .int .i64 x1] : List Value).toArray w (fun e w_ => ∃ v, e = .returned v ∧ v = (.tuple #[.int .i64 r.1, .bool r.2]) ∧ Mem w [] w_ []) := by
  have HM := Mem.start w
  refine calls_run (N := 52) Tryd.func82 rfl rfl rfl rfl ?_
  unfold spec_l2Number.f at H
  refine run_seq ?_
  refine run_region rfl ?_
  refine ops_ex rfl (guard_none rfl) rfl rfl (ex_assign rfl rfl) ?_
  refine ops_ex rfl (guard_none rfl) rfl rfl (ex_assign rfl rfl) ?_
  refine ops_nil ?_
  refine at_then ?_
  refine run_seq ?_
  refine run_seq ?_
  obtain ⟨e1842, H⟩ := chk_some H
  refine run_meet (fun ρ_ w_ => ρ_ = [(0, .string x0), (26, .bool (((decide ((x0.size : Int) < 1)) || (decide (x1 < (x0.size : Int)))) || ((decide (1 < (x0.size : Int))) && ((bt x0 0) == 48))))] ∧ Mem w [] w_ []) ?_ ?_
  · skip
    refine run_region rfl ?_
    refine ops_ex rfl (guard_none rfl) rfl rfl (ex_move rfl rfl) ?_
    refine ops_ex rfl (guard_none rfl) rfl rfl (ex_strlen rfl rfl Tryd.underlying9) ?_
    refine ops_ex rfl (guard_none rfl) rfl rfl (ex_lss rfl rfl rfl) ?_
    refine ops_ex rfl (guard_none rfl) rfl rfl (ex_move rfl rfl) ?_
    refine bool_cases (decide ((x0.size : Int) < 1)) (fun hg1843 => ?_) (fun hg1843 => ?_)
    · skip
      refine ops_off rfl (guard_off rfl rfl rfl hg1843) rfl rfl ?_
      refine ops_off rfl (guard_off rfl rfl rfl hg1843) rfl rfl ?_
      refine ops_off rfl (guard_off rfl rfl rfl hg1843) rfl rfl ?_
      refine ops_off rfl (guard_off rfl rfl rfl hg1843) rfl rfl ?_
      have hg1844 : ((decide ((x0.size : Int) < 1)) || (decide (x1 < (x0.size : Int)))) = true := by simp only [hg1843, Bool.and_true, Bool.true_and, Bool.and_false, Bool.false_and, Bool.or_true, Bool.true_or, Bool.or_false, Bool.false_or, Bool.not_true, Bool.not_false, Bool.not_not]
      refine ops_ex (v := .bool ((decide ((x0.size : Int) < 1)) || (decide (x1 < (x0.size : Int))))) rfl (guard_none rfl) rfl rfl (ex_por_t rfl rfl hg1843) ?_
      refine ops_ex rfl (guard_none rfl) rfl rfl (ex_move rfl rfl) ?_
      refine ops_off rfl (guard_off rfl rfl rfl hg1844) rfl rfl ?_
      refine ops_off rfl (guard_off rfl rfl rfl hg1844) rfl rfl ?_
      refine ops_off rfl (guard_off rfl rfl rfl hg1844) rfl rfl ?_
      refine ops_off rfl (guard_off rfl rfl rfl hg1844) rfl rfl ?_
      refine ops_off rfl (guard_undef rfl rfl rfl) rfl rfl ?_
      refine ops_off rfl (guard_undef rfl rfl rfl) rfl rfl ?_
      refine ops_off rfl (guard_undef rfl rfl rfl) rfl rfl ?_
      refine ops_off rfl (guard_off rfl rfl rfl hg1844) rfl rfl ?_
      have hg1845 : (((decide ((x0.size : Int) < 1)) || (decide (x1 < (x0.size : Int)))) || ((decide (1 < (x0.size : Int))) && ((bt x0 0) == 48))) = true := by simp only [hg1844, Bool.and_true, Bool.true_and, Bool.and_false, Bool.false_and, Bool.or_true, Bool.true_or, Bool.or_false, Bool.false_or, Bool.not_true, Bool.not_false, Bool.not_not]
      refine ops_ex (v := .bool (((decide ((x0.size : Int) < 1)) || (decide (x1 < (x0.size : Int)))) || ((decide (1 < (x0.size : Int))) && ((bt x0 0) == 48)))) rfl (guard_none rfl) rfl rfl (ex_por_t rfl rfl hg1844) ?_
      refine ops_nil ?_
      exact at_meet [(0, .string x0), (26, .bool (((decide ((x0.size : Int) < 1)) || (decide (x1 < (x0.size : Int)))) || ((decide (1 < (x0.size : Int))) && ((bt x0 0) == 48))))] ⟨rfl, HM⟩ (Sub.cons rfl (Sub.cons rfl Sub.nil))
    · skip
      refine ops_ex rfl (guard_on rfl rfl rfl hg1843) rfl rfl (ex_move rfl rfl) ?_
      refine ops_ex rfl (guard_on rfl rfl rfl hg1843) rfl rfl (ex_strlen rfl rfl Tryd.underlying9) ?_
      refine ops_ex rfl (guard_on rfl rfl rfl hg1843) rfl rfl (ex_move rfl rfl) ?_
      refine ops_ex rfl (guard_on rfl rfl rfl hg1843) rfl rfl (ex_gtr rfl rfl rfl) ?_
      refine ops_ex (v := .bool ((decide ((x0.size : Int) < 1)) || (decide (x1 < (x0.size : Int))))) rfl (guard_none rfl) rfl rfl (ex_por_f rfl rfl hg1843 rfl) ?_
      refine ops_ex rfl (guard_none rfl) rfl rfl (ex_move rfl rfl) ?_
      refine bool_cases ((decide ((x0.size : Int) < 1)) || (decide (x1 < (x0.size : Int)))) (fun hg1846 => ?_) (fun hg1846 => ?_)
      · skip
        refine ops_off rfl (guard_off rfl rfl rfl hg1846) rfl rfl ?_
        refine ops_off rfl (guard_off rfl rfl rfl hg1846) rfl rfl ?_
        refine ops_off rfl (guard_off rfl rfl rfl hg1846) rfl rfl ?_
        refine ops_off rfl (guard_off rfl rfl rfl hg1846) rfl rfl ?_
        refine ops_off rfl (guard_undef rfl rfl rfl) rfl rfl ?_
        refine ops_off rfl (guard_undef rfl rfl rfl) rfl rfl ?_
        refine ops_off rfl (guard_undef rfl rfl rfl) rfl rfl ?_
        refine ops_off rfl (guard_off rfl rfl rfl hg1846) rfl rfl ?_
        have hg1847 : (((decide ((x0.size : Int) < 1)) || (decide (x1 < (x0.size : Int)))) || ((decide (1 < (x0.size : Int))) && ((bt x0 0) == 48))) = true := by simp only [hg1846, Bool.and_true, Bool.true_and, Bool.and_false, Bool.false_and, Bool.or_true, Bool.true_or, Bool.or_false, Bool.false_or, Bool.not_true, Bool.not_false, Bool.not_not]
        refine ops_ex (v := .bool (((decide ((x0.size : Int) < 1)) || (decide (x1 < (x0.size : Int)))) || ((decide (1 < (x0.size : Int))) && ((bt x0 0) == 48)))) rfl (guard_none rfl) rfl rfl (ex_por_t rfl rfl hg1846) ?_
        refine ops_nil ?_
        exact at_meet [(0, .string x0), (26, .bool (((decide ((x0.size : Int) < 1)) || (decide (x1 < (x0.size : Int)))) || ((decide (1 < (x0.size : Int))) && ((bt x0 0) == 48))))] ⟨rfl, HM⟩ (Sub.cons rfl (Sub.cons rfl Sub.nil))
      · skip
        refine ops_ex rfl (guard_on rfl rfl rfl hg1846) rfl rfl (ex_move rfl rfl) ?_
        refine ops_ex rfl (guard_on rfl rfl rfl hg1846) rfl rfl (ex_strlen rfl rfl Tryd.underlying9) ?_
        refine ops_ex rfl (guard_on rfl rfl rfl hg1846) rfl rfl (ex_gtr rfl rfl rfl) ?_
        refine ops_ex rfl (guard_on rfl rfl rfl hg1846) rfl rfl (ex_move rfl rfl) ?_
        refine bool_cases (decide (1 < (x0.size : Int))) (fun hg1848 => ?_) (fun hg1848 => ?_)
        · skip
          refine ops_ex rfl (guard_on rfl rfl rfl hg1848) rfl rfl (ex_move rfl rfl) ?_
          refine ops_ex rfl (guard_on rfl rfl rfl hg1848) rfl rfl (ex_sindex rfl rfl rfl Tryd.underlying9 (idx_lo (or_t e1842 (and_mk (not_mk hg1846) hg1848))) (idx_hi (or_t e1842 (and_mk (not_mk hg1846) hg1848)))) ?_
          refine ops_ex rfl (guard_on rfl rfl rfl hg1848) rfl rfl (ex_eql rfl rfl rfl) ?_
          refine ops_ex (v := .bool ((decide (1 < (x0.size : Int))) && ((bt x0 0) == 48))) rfl (guard_on rfl rfl rfl hg1846) rfl rfl (ex_pand_t rfl rfl hg1848 rfl) ?_
          refine ops_ex (v := .bool (((decide ((x0.size : Int) < 1)) || (decide (x1 < (x0.size : Int)))) || ((decide (1 < (x0.size : Int))) && ((bt x0 0) == 48)))) rfl (guard_none rfl) rfl rfl (ex_por_f rfl rfl hg1846 rfl) ?_
          refine ops_nil ?_
          exact at_meet [(0, .string x0), (26, .bool (((decide ((x0.size : Int) < 1)) || (decide (x1 < (x0.size : Int)))) || ((decide (1 < (x0.size : Int))) && ((bt x0 0) == 48))))] ⟨rfl, HM⟩ (Sub.cons rfl (Sub.cons rfl Sub.nil))
        · skip
          refine ops_off rfl (guard_off rfl rfl rfl hg1848) rfl rfl ?_
          refine ops_off rfl (guard_off rfl rfl rfl hg1848) rfl rfl ?_
          refine ops_off rfl (guard_off rfl rfl rfl hg1848) rfl rfl ?_
          have hg1849 : ((decide (1 < (x0.size : Int))) && ((bt x0 0) == 48)) = false := by simp only [hg1848, Bool.and_true, Bool.true_and, Bool.and_false, Bool.false_and, Bool.or_true, Bool.true_or, Bool.or_false, Bool.false_or, Bool.not_true, Bool.not_false, Bool.not_not]
          refine ops_ex (v := .bool ((decide (1 < (x0.size : Int))) && ((bt x0 0) == 48))) rfl (guard_on rfl rfl rfl hg1846) rfl rfl (ex_pand_f rfl rfl hg1848) ?_
          refine ops_ex (v := .bool (((decide ((x0.size : Int) < 1)) || (decide (x1 < (x0.size : Int)))) || ((decide (1 < (x0.size : Int))) && ((bt x0 0) == 48)))) rfl (guard_none rfl) rfl rfl (ex_por_f rfl rfl hg1846 rfl) ?_
          refine ops_nil ?_
          exact at_meet [(0, .string x0), (26, .bool (((decide ((x0.size : Int) < 1)) || (decide (x1 < (x0.size : Int)))) || ((decide (1 < (x0.size : Int))) && ((bt x0 0) == 48))))] ⟨rfl, HM⟩ (Sub.cons rfl (Sub.cons rfl Sub.nil))
  · rintro _ w1850 ⟨rfl, HM⟩
    refine at_then ?_
    refine run_cond (b := (((decide ((x0.size : Int) < 1)) || (decide (x1 < (x0.size : Int)))) || ((decide (1 < (x0.size : Int))) && ((bt x0 0) == 48)))) rfl (fun hb1851 => ?_) (fun hb1851 => ?_)
    · replace H := cond_t hb1851 H
      refine run_seq ?_
      refine run_region rfl ?_
      refine ops_ex rfl (guard_none rfl) rfl rfl (ex_assign rfl rfl) ?_
      refine ops_ex rfl (guard_none rfl) rfl rfl (ex_assign rfl rfl) ?_
      refine ops_nil ?_
      refine at_then ?_
      refine run_ret ?_
      refine at_then_ret ?_
      have hR := Option.some.inj H
      subst hR
      exact at_ret2 rfl rfl rfl ⟨_, rfl, rfl, HM⟩
    · replace H := cond_f hb1851 H
      refine run_skip ?_
      refine at_then ?_
      refine run_seq ?_
      refine run_region rfl ?_
      refine ops_ex rfl (guard_none rfl) rfl rfl (ex_assign rfl rfl) ?_
      refine ops_nil ?_
      refine at_then ?_
      obtain ⟨o1879, ho1880, H⟩ := bind_some H
      refine run_mid (fun ρ_ w_ => ∃ a1878 : Int, Sum.inr a1878 = o1879 ∧ ρ_ = [(6, .int .i64 a1878)] ∧ Mem w [] w_ []) ?_ ?_
      · skip
        refine run_seq ?_
        refine run_region rfl ?_
        refine ops_ex rfl (guard_none rfl) rfl rfl (ex_assign rfl rfl) ?_
        refine ops_nil ?_
        refine at_then ?_
        refine run_block ?_
        refine run_loop (fun k_ ρ_ w_ => ∃ a1889 : Int, ∃ a1890 : Int, spec_l2Number.l0 x0 k_ a1889 a1890 = some o1879 ∧ ρ_ = [(0, .string x0), (6, .int .i64 a1889), (7, .int .i64 a1890)] ∧ Mem w [] w_ []) k (ρ1 := [(0, .string x0), (6, .int .i64 0), (7, .int .i64 0)]) ⟨_, _, ho1880, rfl, HM⟩ (Sub.cons rfl (Sub.cons rfl (Sub.cons rfl Sub.nil))) ?_
        clear HM ho1880
        rintro k1899 _ w1900 ⟨a1889, a1890, ho1880, rfl, HM⟩
        obtain _ | k1899 := k1899
        · exact nomatch ((spec_l2Number.l0_z x0 a1889 a1890).symm.trans ho1880)
        replace ho1880 := (spec_l2Number.l0_s x0 k1899 a1889 a1890).symm.trans ho1880
        refine run_seq ?_
        refine run_seq ?_
        refine run_region rfl ?_
        refine ops_ex rfl (guard_none rfl) rfl rfl (ex_move rfl rfl) ?_
        refine ops_ex rfl (guard_none rfl) rfl rfl (ex_move rfl rfl) ?_
        refine ops_ex rfl (guard_none rfl) rfl rfl (ex_strlen rfl rfl Tryd.underlying9) ?_
        refine ops_ex rfl (guard_none rfl) rfl rfl (ex_lss rfl rfl rfl) ?_
        refine ops_nil ?_
        refine at_then ?_
        refine run_cond (b := (decide (a1890 < (x0.size : Int)))) rfl (fun hb1901 => ?_) (fun hb1901 => ?_)
        · replace ho1880 := cond_t hb1901 ho1880
          refine run_skip ?_
          refine at_then ?_
          refine run_seq ?_
          refine run_block ?_
          refine run_seq ?_
          refine run_seq ?_
          obtain ⟨e1905, ho1880⟩ := chk_some ho1880
          obtain ⟨e1906, ho1880⟩ := chk_some ho1880
          refine run_meet (fun ρ_ w_ => ρ_ = [(0, .string x0), (6, .int .i64 a1889), (7, .int .i64 a1890), (42, .bool ((decide ((bt x0 a1890) < 48)) || (decide (57 < (bt x0 a1890)))))] ∧ Mem w [] w_ []) ?_ ?_
          · skip
            refine run_region rfl ?_
            refine ops_ex rfl (guard_none rfl) rfl rfl (ex_move rfl rfl) ?_
            refine ops_ex rfl (guard_none rfl) rfl rfl (ex_move rfl rfl) ?_
            refine ops_ex rfl (guard_none rfl) rfl rfl (ex_sindex rfl rfl rfl Tryd.underlying9 (idx_lo e1905) (idx_hi e1905)) ?_
            refine ops_ex rfl (guard_none rfl) rfl rfl (ex_lss rfl rfl rfl) ?_
            refine ops_ex rfl (guard_none rfl) rfl rfl (ex_move rfl rfl) ?_
            refine bool_cases (decide ((bt x0 a1890) < 48)) (fun hg1907 => ?_) (fun hg1907 => ?_)
            · skip
              refine ops_off rfl (guard_off rfl rfl rfl hg1907) rfl rfl ?_
              refine ops_off rfl (guard_off rfl rfl rfl hg1907) rfl rfl ?_
              refine ops_off rfl (guard_off rfl rfl rfl hg1907) rfl rfl ?_
              refine ops_off rfl (guard_off rfl rfl rfl hg1907) rfl rfl ?_
              have hg1908 : ((decide ((bt x0 a1890) < 48)) || (decide (57 < (bt x0 a1890)))) = true := by simp only [hg1907, Bool.and_true, Bool.true_and, Bool.and_false, Bool.false_and, Bool.or_true, Bool.true_or, Bool.or_false, Bool.false_or, Bool.not_true, Bool.not_false, Bool.not_not]
              refine ops_ex (v := .bool ((decide ((bt x0 a1890) < 48)) || (decide (57 < (bt x0 a1890))))) rfl (guard_none rfl) rfl rfl (ex_por_t rfl rfl hg1907) ?_
              refine ops_nil ?_
              exact at_meet [(0, .string x0), (6, .int .i64 a1889), (7, .int .i64 a1890), (42, .bool ((decide ((bt x0 a1890) < 48)) || (decide (57 < (bt x0 a1890)))))] ⟨rfl, HM⟩ (Sub.cons rfl (Sub.cons rfl (Sub.cons rfl (Sub.cons rfl Sub.nil))))
            · skip
              refine ops_ex rfl (guard_on rfl rfl rfl hg1907) rfl rfl (ex_move rfl rfl) ?_
              refine ops_ex rfl (guard_on rfl rfl rfl hg1907) rfl rfl (ex_move rfl rfl) ?_
              refine ops_ex rfl (guard_on rfl rfl rfl hg1907) rfl rfl (ex_sindex rfl rfl rfl Tryd.underlying9 (idx_lo (or_t e1906 (not_mk hg1907))) (idx_hi (or_t e1906 (not_mk hg1907)))) ?_
              refine ops_ex rfl (guard_on rfl rfl rfl hg1907) rfl rfl (ex_gtr rfl rfl rfl) ?_
              refine ops_ex (v := .bool ((decide ((bt x0 a1890) < 48)) || (decide (57 < (bt x0 a1890))))) rfl (guard_none rfl) rfl rfl (ex_por_f rfl rfl hg1907 rfl) ?_
              refine ops_nil ?_
              exact at_meet [(0, .string x0), (6, .int .i64 a1889), (7, .int .i64 a1890), (42, .bool ((decide ((bt x0 a1890) < 48)) || (decide (57 < (bt x0 a1890)))))] ⟨rfl, HM⟩ (Sub.cons rfl (Sub.cons rfl (Sub.cons rfl (Sub.cons rfl Sub.nil))))
          · rintro _ w1909 ⟨rfl, HM⟩
            refine at_then ?_
            refine run_cond (b := ((decide ((bt x0 a1890) < 48)) || (decide (57 < (bt x0 a1890))))) rfl (fun hb1910 => ?_) (fun hb1910 => ?_)
            · replace ho1880 := cond_t hb1910 ho1880
              refine run_seq ?_
              refine run_region rfl ?_
              refine ops_ex rfl (guard_none rfl) rfl rfl (ex_assign rfl rfl) ?_
              refine ops_ex rfl (guard_none rfl) rfl rfl (ex_assign rfl rfl) ?_
              refine ops_nil ?_
              refine at_then ?_
              refine run_ret ?_
              refine at_then_ret ?_
              refine at_block_ret ?_
              refine at_then_ret ?_
              refine at_then_ret ?_
              refine at_block_ret ?_
              refine at_then_ret ?_
              have hR := Option.some.inj ho1880
              subst hR
              have hT := thn_inl H
              have hR := Option.some.inj hT
              subst hR
              exact at_ret2 rfl rfl rfl ⟨_, rfl, rfl, HM⟩
            · replace ho1880 := cond_f hb1910 ho1880
              refine run_skip ?_
              refine at_then ?_
              obtain ⟨e1911, ho1880⟩ := chk_some ho1880
              refine run_region rfl ?_
              refine ops_ex rfl (guard_none rfl) rfl rfl (ex_move rfl rfl) ?_
              refine ops_ex rfl (guard_none rfl) rfl rfl (ex_mul rfl rfl rfl) ?_
              refine ops_ex rfl (guard_none rfl) rfl rfl (ex_move rfl rfl) ?_
              refine ops_ex rfl (guard_none rfl) rfl rfl (ex_move rfl rfl) ?_
              refine ops_ex rfl (guard_none rfl) rfl rfl (ex_sindex rfl rfl rfl Tryd.underlying9 (idx_lo e1911) (idx_hi e1911)) ?_
              refine ops_ex rfl (guard_none rfl) rfl rfl (ex_subk rfl rfl rfl) ?_
              refine ops_ex rfl (guard_none rfl) rfl rfl (ex_conv64 rfl rfl (by rw [Tryd.underlying5]; rfl) Tryd.underlying2) ?_
              refine ops_ex rfl (guard_none rfl) rfl rfl (ex_add rfl rfl rfl) ?_
              refine ops_ex rfl (guard_none rfl) rfl rfl (ex_assign rfl rfl) ?_
              refine ops_nil ?_
              refine at_block ?_
              refine at_then ?_
              refine run_region rfl ?_
              refine ops_ex rfl (guard_none rfl) rfl rfl (ex_move rfl rfl) ?_
              refine ops_ex rfl (guard_none rfl) rfl rfl (ex_add rfl rfl rfl) ?_
              refine ops_ex rfl (guard_none rfl) rfl rfl (ex_assign rfl rfl) ?_
              refine ops_nil ?_
              exact at_again k1899 (ρ1 := [(0, .string x0), (6, .int .i64 (wrap64 ((wrap64 (a1889 * 10)) + (wrap64 (IntKind.u8.wrap ((bt x0 a1890) - 48)))))), (7, .int .i64 (wrap64 (a1890 + 1)))]) (Nat.lt_succ_self _) ⟨_, _, ho1880, rfl, HM⟩ (Sub.cons rfl (Sub.cons rfl (Sub.cons rfl Sub.nil)))
        · replace ho1880 := cond_f hb1901 ho1880
          refine run_exit ?_
          refine at_then_exit ?_
          refine at_then_exit ?_
          refine at_block_exit ?_
          exact at_mid (ρ' := [(6, .int .i64 a1889)]) ⟨_, (Option.some.inj ho1880), rfl, HM⟩ (Sub.cons rfl Sub.nil)
      · rintro _ w1912 ⟨a1878, rfl, rfl, HM⟩
        replace H := (thn_inr H)
        refine run_seq ?_
        refine run_region rfl ?_
        refine ops_ex rfl (guard_none rfl) rfl rfl (ex_move rfl rfl) ?_
        refine ops_ex rfl (guard_none rfl) rfl rfl (ex_assign rfl rfl) ?_
        refine ops_ex rfl (guard_none rfl) rfl rfl (ex_assign rfl rfl) ?_
        refine ops_nil ?_
        refine at_then ?_
        refine run_ret ?_
        have hR := Option.some.inj H
        subst hR
        exact at_ret2 rfl rfl rfl ⟨_, rfl, rfl, HM⟩

def spec_l1In.f (k : Nat) (x0 : Int) (x1 : Int) (x2 : Int) : Option Bool := some ((decide (x1 ≤ x0)) && (decide (x0 ≤ x2)))
theorem spec_l1In.calls {k : Nat} {x0 : Int} {x1 : Int} {x2 : Int}  {w : World}  {r : Bool} (H : spec_l1In.f k x0 x1 x2 = some r) :
    Calls Tryd.prog 59 ([.int .i64 x0, .int .i64 x1, .int .i64 x2] : List Value).toArray w (fun e w_ => ∃ v, e = .returned v ∧ v = (.bool r) ∧ Mem w [] w_ []) := by
  have HM := Mem.start w
  refine calls_run (N := 15) Tryd.func59 rfl rfl rfl rfl ?_
  unfold spec_l1In.f at H
  refine run_seq ?_
  refine run_region rfl ?_
  refine ops_ex rfl (guard_none rfl) rfl rfl (ex_assign rfl rfl) ?_
  refine ops_nil ?_
  refine at_then ?_
  refine run_seq ?_
  refine run_meet (fun ρ_ w_ => ρ_ = [(6, .bool ((decide (x1 ≤ x0)) && (decide (x0 ≤ x2))))] ∧ Mem w [] w_ []) ?_ ?_
  · skip
    refine run_region rfl ?_
    refine ops_ex rfl (guard_none rfl) rfl rfl (ex_move rfl rfl) ?_
    refine ops_ex rfl (guard_none rfl) rfl rfl (ex_move rfl rfl) ?_
    refine ops_ex rfl (guard_none rfl) rfl rfl (ex_geq rfl rfl rfl) ?_
    refine ops_ex rfl (guard_none rfl) rfl rfl (ex_move rfl rfl) ?_
    refine bool_cases (decide (x1 ≤ x0)) (fun hg1973 => ?_) (fun hg1973 => ?_)
    · skip
      refine ops_ex rfl (guard_on rfl rfl rfl hg1973) rfl rfl (ex_move rfl rfl) ?_
      refine ops_ex rfl (guard_on rfl rfl rfl hg1973) rfl rfl (ex_move rfl rfl) ?_
      refine ops_ex rfl (guard_on rfl rfl rfl hg1973) rfl rfl (ex_leq rfl rfl rfl) ?_
      refine ops_ex (v := .bool ((decide (x1 ≤ x0)) && (decide (x0 ≤ x2)))) rfl (guard_none rfl) rfl rfl (ex_pand_t rfl rfl hg1973 rfl) ?_
      refine ops_ex rfl (guard_none rfl) rfl rfl (ex_assign rfl rfl) ?_
      refine ops_nil ?_
      exact at_meet [(6, .bool ((decide (x1 ≤ x0)) && (decide (x0 ≤ x2))))] ⟨rfl, HM⟩ (Sub.cons rfl Sub.nil)
    · skip
      refine ops_off rfl (guard_off rfl rfl rfl hg1973) rfl rfl ?_
      refine ops_off rfl (guard_off rfl rfl rfl hg1973) rfl rfl ?_
      refine ops_off rfl (guard_off rfl rfl rfl hg1973) rfl rfl ?_
      have hg1974 : ((decide (x1 ≤ x0)) && (decide (x0 ≤ x2))) = false := by simp only [hg1973, Bool.and_true, Bool.true_and, Bool.and_false, Bool.false_and, Bool.or_true, Bool.true_or, Bool.or_false, Bool.false_or, Bool.not_true, Bool.not_false, Bool.not_not]
      refine ops_ex (v := .bool ((decide (x1 ≤ x0)) && (decide (x0 ≤ x2)))) rfl (guard_none rfl) rfl rfl (ex_pand_f rfl rfl hg1973) ?_
      refine ops_ex rfl (guard_none rfl) rfl rfl (ex_assign rfl rfl) ?_
      refine ops_nil ?_
      exact at_meet [(6, .bool ((decide (x1 ≤ x0)) && (decide (x0 ≤ x2))))] ⟨rfl, HM⟩ (Sub.cons rfl Sub.nil)
  · rintro _ w1975 ⟨rfl, HM⟩
    refine at_then ?_
    refine run_ret ?_
    have hR := Option.some.inj H
    subst hR
    exact at_ret1 rfl rfl ⟨_, rfl, rfl, HM⟩

def spec_l1Key.f (k : Nat) (x0 : Int) : Option Bool := ((spec_l1In.f k x0 1 999).bind fun t1982 => some t1982)
theorem spec_l1Key.calls {k : Nat} {x0 : Int}  {w : World}  {r : Bool} (H : spec_l1Key.f k x0 = some r) :
    Calls Tryd.prog 62 ([.int .i64 x0] : List Value).toArray w (fun e w_ => ∃ v, e = .returned v ∧ v = (.bool r) ∧ Mem w [] w_ []) := by
  have HM := Mem.start w
  refine calls_run (N := 5) Tryd.func62 rfl rfl rfl rfl ?_
  unfold spec_l1Key.f at H
  refine run_seq ?_
  refine run_region rfl ?_
  refine ops_ex rfl (guard_none rfl) rfl rfl (ex_assign rfl rfl) ?_
  refine ops_nil ?_
  refine at_then ?_
  refine run_seq ?_
  obtain ⟨t1982, h1983, H⟩ := bind_some H
  refine run_region rfl ?_
  refine ops_ex rfl (guard_none rfl) rfl rfl (ex_move rfl rfl) ?_
  refine ops_does rfl (guard_none rfl) rfl rfl (does_callk rfl callok59 rfl (spec_l1In.calls (x0 := x0) (x1 := 1) (x2 := 999) h1983)) ?_
  rintro _ w1984 ⟨rfl, hn⟩
  replace HM : Mem w [] w1984 [] := HM.call hn
  refine ops_ex rfl (guard_none rfl) rfl rfl (ex_assign rfl rfl) ?_
  refine ops_nil ?_
  refine at_then ?_
  refine run_ret ?_
  have hR := Option.some.inj H
  subst hR
  exact at_ret1 rfl rfl ⟨_, rfl, rfl, HM⟩

def spec_l7Fault.l0 (x0 : Block) : Nat → Int → Option (Int ⊕ Unit)
  | 0, _ => none
  | k + 1, a2172 => (bif (decide (a2172 < (x0.fTxs.length : Int))) then (chk (idxOk a2172 x0.fTxs.length) ((spec_l1In.f k (gt x0.fTxs a2172) 1 60).bind fun t2203 => (bif !t2203 then some (.inl 3) else (chk (cutOk a2172 x0.fTxs.length) (chk (idxOk a2172 x0.fTxs.length) ((spec_l4Among.f k (x0.fTxs.take (a2172).toNat) (gt x0.fTxs a2172)).bind fun t2213 => (bif t2213 then some (.inl 7) else spec_l7Fault.l0 x0 k (wrap64 (a2172 + 1))))))))) else some (.inr ()))
theorem spec_l7Fault.l0_z (x0 : Block) (a2172 : Int) : spec_l7Fault.l0 x0 0 a2172 = none := rfl
theorem spec_l7Fault.l0_s (x0 : Block) (k : Nat) (a2172 : Int) : spec_l7Fault.l0 x0 (k + 1) a2172 = (bif (decide (a2172 < (x0.fTxs.length : Int))) then (chk (idxOk a2172 x0.fTxs.length) ((spec_l1In.f k (gt x0.fTxs a2172) 1 60).bind fun t2203 => (bif !t2203 then some (.inl 3) else (chk (cutOk a2172 x0.fTxs.length) (chk (idxOk a2172 x0.fTxs.length) ((spec_l4Among.f k (x0.fTxs.take (a2172).toNat) (gt x0.fTxs a2172)).bind fun t2213 => (bif t2213 then some (.inl 7) else spec_l7Fault.l0 x0 k (wrap64 (a2172 + 1))))))))) else some (.inr ())) := rfl
def spec_l7Fault.f (k : Nat) (x0 : Block) : Option Int := ((spec_l1In.f k x0.fPrev 0 60).bind fun t2069 => ((bif (!(!t2069)) then spec_l1In.f k x0.fHeight 1 40 else some default).bind fun t2071 => ((bif (!((!t2069) || (!t2071))) then spec_l1Key.f k x0.fMiner else some default).bind fun t2073 => (bif (((!t2069) || (!t2071)) || (!t2073)) then some 3 else (bif ((x0.fPrev == 0) != (x0.fHeight == 1)) then some 1 else (bif (decide (6 < (x0.fTxs.length : Int))) then some 2 else ((spec_l7Fault.l0 x0 k 0).bind fun o2150 => thn o2150 (fun r => some r) (fun _ => some 0))))))))
theorem spec_l7Fault.calls {k : Nat} {x0 : Block} {b0 f0 : Nat} {p0_0 : Value} {w : World} (hc0 : CellsAt w b0 f0 [.int .i64 x0.fPrev, .int .i64 x0.fHeight, .int .i64 x0.fMiner, p0_0]) (hp0_0 : RdS kInt w p0_0 x0.fTxs) {r : Int} (H : spec_l7Fault.f k x0 = some r) :
    Calls Tryd.prog 53 ([.pointer (some ⟨b0, f0, none⟩)] : List Value).toArray w (fun e w_ => ∃ v, e = .returned v ∧ v = (.int .i64 r) ∧ Mem w [] w_ []) := by
  have HM := Mem.start w
  refine calls_run (N := 75) Tryd.func53 rfl rfl rfl rfl ?_
  unfold spec_l7Fault.f at H
  refine run_seq ?_
  refine run_region rfl ?_
  refine ops_ex rfl (guard_none rfl) rfl rfl (ex_assign rfl rfl) ?_
  refine ops_nil ?_
  refine at_then ?_
  refine run_seq ?_
  refine run_seq ?_
  obtain ⟨t2069, h2070, H⟩ := bind_some H
  obtain ⟨t2071, h2072, H⟩ := bind_some H
  obtain ⟨t2073, h2074, H⟩ := bind_some H
  refine run_meet (fun ρ_ w_ => ρ_ = [(0, .pointer (some ⟨b0, f0, none⟩)), (25, .bool (((!t2069) || (!t2071)) || (!t2073)))] ∧ Mem w [] w_ []) ?_ ?_
  · skip
    refine run_region rfl ?_
    refine ops_ex rfl (guard_none rfl) rfl rfl (ex_move rfl rfl) ?_
    refine ops_ex rfl (guard_none rfl) rfl rfl (ex_nilCheck rfl rfl) ?_
    refine ops_ex rfl (guard_none rfl) rfl rfl (ex_fieldAddr (off' := f0) rfl rfl Tryd.underlying51 rfl tsz2 rfl) ?_
    refine ops_ex rfl (guard_none rfl) rfl rfl (ex_load1 rfl rfl Tryd.underlying2 rfl ((HM.at_ hc0) 0 _ rfl)) ?_
    refine ops_does rfl (guard_none rfl) rfl rfl (does_callk rfl callok59 rfl (spec_l1In.calls (x0 := x0.fPrev) (x1 := 0) (x2 := 60) h2070)) ?_
    rintro _ w2075 ⟨rfl, hn⟩
    replace HM : Mem w [] w2075 [] := HM.call hn
    refine ops_ex rfl (guard_none rfl) rfl rfl (ex_not rfl rfl) ?_
    refine ops_ex rfl (guard_none rfl) rfl rfl (ex_move rfl rfl) ?_
    refine bool_cases (!t2069) (fun hg2076 => ?_) (fun hg2076 => ?_)
    · skip
      refine ops_off rfl (guard_off rfl rfl rfl hg2076) rfl rfl ?_
      refine ops_off rfl (guard_off rfl rfl rfl hg2076) rfl rfl ?_
      refine ops_off rfl (guard_off rfl rfl rfl hg2076) rfl rfl ?_
      refine ops_off rfl (guard_off rfl rfl rfl hg2076) rfl rfl ?_
      refine ops_off rfl (guard_off rfl rfl rfl hg2076) rfl rfl ?_
      refine ops_off rfl (guard_off rfl rfl rfl hg2076) rfl rfl ?_
      have hg2077 : ((!t2069) || (!t2071)) = true := by simp only [hg2076, Bool.and_true, Bool.true_and, Bool.and_false, Bool.false_and, Bool.or_true, Bool.true_or, Bool.or_false, Bool.false_or, Bool.not_true, Bool.not_false, Bool.not_not]
      refine ops_ex (v := .bool ((!t2069) || (!t2071))) rfl (guard_none rfl) rfl rfl (ex_por_t rfl rfl hg2076) ?_
      refine ops_ex rfl (guard_none rfl) rfl rfl (ex_move rfl rfl) ?_
      refine ops_off rfl (guard_off rfl rfl rfl hg2077) rfl rfl ?_
      refine ops_off rfl (guard_off rfl rfl rfl hg2077) rfl rfl ?_
      refine ops_off rfl (guard_off rfl rfl rfl hg2077) rfl rfl ?_
      refine ops_off rfl (guard_off rfl rfl rfl hg2077) rfl rfl ?_
      refine ops_off rfl (guard_off rfl rfl rfl hg2077) rfl rfl ?_
      refine ops_off rfl (guard_off rfl rfl rfl hg2077) rfl rfl ?_
      have hg2078 : (((!t2069) || (!t2071)) || (!t2073)) = true := by simp only [hg2077, Bool.and_true, Bool.true_and, Bool.and_false, Bool.false_and, Bool.or_true, Bool.true_or, Bool.or_false, Bool.false_or, Bool.not_true, Bool.not_false, Bool.not_not]
      refine ops_ex (v := .bool (((!t2069) || (!t2071)) || (!t2073))) rfl (guard_none rfl) rfl rfl (ex_por_t rfl rfl hg2077) ?_
      refine ops_nil ?_
      exact at_meet [(0, .pointer (some ⟨b0, f0, none⟩)), (25, .bool (((!t2069) || (!t2071)) || (!t2073)))] ⟨rfl, HM⟩ (Sub.cons rfl (Sub.cons rfl Sub.nil))
    · skip
      refine ops_ex rfl (guard_on rfl rfl rfl hg2076) rfl rfl (ex_move rfl rfl) ?_
      refine ops_ex rfl (guard_on rfl rfl rfl hg2076) rfl rfl (ex_nilCheck rfl rfl) ?_
      refine ops_ex rfl (guard_on rfl rfl rfl hg2076) rfl rfl (ex_fieldAddr (off' := f0 + 1) rfl rfl Tryd.underlying51 rfl tsz2 rfl) ?_
      refine ops_ex rfl (guard_on rfl rfl rfl hg2076) rfl rfl (ex_load1 rfl rfl Tryd.underlying2 rfl ((HM.at_ hc0) 1 _ rfl)) ?_
      refine ops_does rfl (guard_on rfl rfl rfl hg2076) rfl rfl (does_callk rfl callok59 rfl (spec_l1In.calls (x0 := x0.fHeight) (x1 := 1) (x2 := 40) (cond_t (not_mk hg2076) h2072))) ?_
      rintro _ w2079 ⟨rfl, hn⟩
      replace HM : Mem w [] w2079 [] := HM.call hn
      refine ops_ex rfl (guard_on rfl rfl rfl hg2076) rfl rfl (ex_not rfl rfl) ?_
      refine ops_ex (v := .bool ((!t2069) || (!t2071))) rfl (guard_none rfl) rfl rfl (ex_por_f rfl rfl hg2076 rfl) ?_
      refine ops_ex rfl (guard_none rfl) rfl rfl (ex_move rfl rfl) ?_
      refine bool_cases ((!t2069) || (!t2071)) (fun hg2080 => ?_) (fun hg2080 => ?_)
      · skip
        refine ops_off rfl (guard_off rfl rfl rfl hg2080) rfl rfl ?_
        refine ops_off rfl (guard_off rfl rfl rfl hg2080) rfl rfl ?_
        refine ops_off rfl (guard_off rfl rfl rfl hg2080) rfl rfl ?_
        refine ops_off rfl (guard_off rfl rfl rfl hg2080) rfl rfl ?_
        refine ops_off rfl (guard_off rfl rfl rfl hg2080) rfl rfl ?_
        refine ops_off rfl (guard_off rfl rfl rfl hg2080) rfl rfl ?_
        have hg2081 : (((!t2069) || (!t2071)) || (!t2073)) = true := by simp only [hg2080, Bool.and_true, Bool.true_and, Bool.and_false, Bool.false_and, Bool.or_true, Bool.true_or, Bool.or_false, Bool.false_or, Bool.not_true, Bool.not_false, Bool.not_not]
        refine ops_ex (v := .bool (((!t2069) || (!t2071)) || (!t2073))) rfl (guard_none rfl) rfl rfl (ex_por_t rfl rfl hg2080) ?_
        refine ops_nil ?_
        exact at_meet [(0, .pointer (some ⟨b0, f0, none⟩)), (25, .bool (((!t2069) || (!t2071)) || (!t2073)))] ⟨rfl, HM⟩ (Sub.cons rfl (Sub.cons rfl Sub.nil))
      · skip
        refine ops_ex rfl (guard_on rfl rfl rfl hg2080) rfl rfl (ex_move rfl rfl) ?_
        refine ops_ex rfl (guard_on rfl rfl rfl hg2080) rfl rfl (ex_nilCheck rfl rfl) ?_
        refine ops_ex rfl (guard_on rfl rfl rfl hg2080) rfl rfl (ex_fieldAddr (off' := f0 + 2) rfl rfl Tryd.underlying51 rfl tsz2 rfl) ?_
        refine ops_ex rfl (guard_on rfl rfl rfl hg2080) rfl rfl (ex_load1 rfl rfl Tryd.underlying2 rfl ((HM.at_ hc0) 2 _ rfl)) ?_
        refine ops_does rfl (guard_on rfl rfl rfl hg2080) rfl rfl (does_callk rfl callok62 rfl (spec_l1Key.calls (x0 := x0.fMiner) (cond_t (not_mk hg2080) h2074))) ?_
        rintro _ w2082 ⟨rfl, hn⟩
        replace HM : Mem w [] w2082 [] := HM.call hn
        refine ops_ex rfl (guard_on rfl rfl rfl hg2080) rfl rfl (ex_not rfl rfl) ?_
        refine ops_ex (v := .bool (((!t2069) || (!t2071)) || (!t2073))) rfl (guard_none rfl) rfl rfl (ex_por_f rfl rfl hg2080 rfl) ?_
        refine ops_nil ?_
        exact at_meet [(0, .pointer (some ⟨b0, f0, none⟩)), (25, .bool (((!t2069) || (!t2071)) || (!t2073)))] ⟨rfl, HM⟩ (Sub.cons rfl (Sub.cons rfl Sub.nil))
  · rintro _ w2083 ⟨rfl, HM⟩
    refine at_then ?_
    refine run_cond (b := (((!t2069) || (!t2071)) || (!t2073))) rfl (fun hb2084 => ?_) (fun hb2084 => ?_)
    · replace H := cond_t hb2084 H
      refine run_seq ?_
      refine run_region rfl ?_
      refine ops_ex rfl (guard_none rfl) rfl rfl (ex_assign rfl rfl) ?_
      refine ops_nil ?_
      refine at_then ?_
      refine run_ret ?_
      refine at_then_ret ?_
      have hR := Option.some.inj H
      subst hR
      exact at_ret1 rfl rfl ⟨_, rfl, rfl, HM⟩
    · replace H := cond_f hb2084 H
      refine run_skip ?_
      refine at_then ?_
      refine run_seq ?_
      refine run_seq ?_
      refine run_drawf (fun w_ => Mem w [] w_ []) [(0, true), (1, true), (2, true), (3, true), (4, true), (5, true), (6, true), (7, true), (8, true), (9, true), (10, true)] mixed rfl rfl (by kernel_rfl) ?_
      replace HM := HM.grow (fr_drew _)
      have hS := Mem.suf (M := []) HM
      refine drwp_take rfl (guard_none rfl) rfl rfl (fun w_ hS_ => (ex_move rfl rfl)) hS ?_
      refine drwp_take rfl (guard_none rfl) rfl rfl (fun w_ hS_ => (ex_nilCheck rfl rfl)) hS ?_
      refine drwp_take rfl (guard_none rfl) rfl rfl (fun w_ hS_ => (ex_fieldAddr (off' := f0) rfl rfl Tryd.underlying51 rfl tsz2 rfl)) hS ?_
      refine drwp_take rfl (guard_none rfl) rfl rfl (fun w_ hS_ => (ex_load1 rfl rfl Tryd.underlying2 rfl ((hS_.at_ hc0) 0 _ rfl))) hS ?_
      refine drwp_take rfl (guard_none rfl) rfl rfl (fun w_ hS_ => (ex_eql rfl rfl rfl)) hS ?_
      refine drwp_take rfl (guard_none rfl) rfl rfl (fun w_ hS_ => (ex_move rfl rfl)) hS ?_
      refine drwp_take rfl (guard_none rfl) rfl rfl (fun w_ hS_ => (ex_nilCheck rfl rfl)) hS ?_
      refine drwp_take rfl (guard_none rfl) rfl rfl (fun w_ hS_ => (ex_fieldAddr (off' := f0 + 1) rfl rfl Tryd.underlying51 rfl tsz2 rfl)) hS ?_
      refine drwp_take rfl (guard_none rfl) rfl rfl (fun w_ hS_ => (ex_load1 rfl rfl Tryd.underlying2 rfl ((hS_.at_ hc0) 1 _ rfl))) hS ?_
      refine drwp_take rfl (guard_none rfl) rfl rfl (fun w_ hS_ => (ex_eql rfl rfl rfl)) hS ?_
      refine drwp_take rfl (guard_none rfl) rfl rfl (fun w_ hS_ => (ex_bneq rfl rfl rfl Tryd.underlying4)) hS ?_
      refine drwp_done ?_
      refine at_then ?_
      refine run_cond (b := ((x0.fPrev == 0) != (x0.fHeight == 1))) rfl (fun hb2086 => ?_) (fun hb2086 => ?_)
      · replace H := cond_t hb2086 H
        refine run_seq ?_
        refine run_region rfl ?_
        refine ops_ex rfl (guard_none rfl) rfl rfl (ex_assign rfl rfl) ?_
        refine ops_nil ?_
        refine at_then ?_
        refine run_ret ?_
        refine at_then_ret ?_
        have hR := Option.some.inj H
        subst hR
        exact at_ret1 rfl rfl ⟨_, rfl, rfl, HM⟩
      · replace H := cond_f hb2086 H
        refine run_skip ?_
        refine at_then ?_
        refine run_seq ?_
        refine run_seq ?_
        refine run_region rfl ?_
        refine ops_ex rfl (guard_none rfl) rfl rfl (ex_move rfl rfl) ?_
        refine ops_ex rfl (guard_none rfl) rfl rfl (ex_nilCheck rfl rfl) ?_
        refine ops_ex rfl (guard_none rfl) rfl rfl (ex_fieldAddr (off' := f0 + 3) rfl rfl Tryd.underlying51 rfl tsz38 rfl) ?_
        refine ops_ex rfl (guard_none rfl) rfl rfl (ex_load1 rfl rfl Tryd.underlying38 rfl ((HM.at_ hc0) 3 _ rfl)) ?_
        refine ops_ex rfl (guard_none rfl) rfl rfl (ex_len (d := kInt) (xs := x0.fTxs) rfl rfl Tryd.underlying38 hp0_0) ?_
        refine ops_ex rfl (guard_none rfl) rfl rfl (ex_gtr rfl rfl rfl) ?_
        refine ops_nil ?_
        refine at_then ?_
        refine run_cond (b := (decide (6 < (x0.fTxs.length : Int)))) rfl (fun hb2088 => ?_) (fun hb2088 => ?_)
        · replace H := cond_t hb2088 H
          refine run_seq ?_
          refine run_region rfl ?_
          refine ops_ex rfl (guard_none rfl) rfl rfl (ex_assign rfl rfl) ?_
          refine ops_nil ?_
          refine at_then ?_
          refine run_ret ?_
          refine at_then_ret ?_
          have hR := Option.some.inj H
          subst hR
          exact at_ret1 rfl rfl ⟨_, rfl, rfl, HM⟩
        · replace H := cond_f hb2088 H
          refine run_skip ?_
          refine at_then ?_
          obtain ⟨o2150, ho2151, H⟩ := bind_some H
          refine run_mid (fun ρ_ w_ => Sum.inr () = o2150 ∧ ρ_ = [] ∧ Mem w [] w_ []) ?_ ?_
          · skip
            refine run_seq ?_
            refine run_region rfl ?_
            refine ops_ex rfl (guard_none rfl) rfl rfl (ex_assign rfl rfl) ?_
            refine ops_nil ?_
            refine at_then ?_
            refine run_block ?_
            refine run_loop (fun k_ ρ_ w_ => ∃ a2172 : Int, spec_l7Fault.l0 x0 k_ a2172 = some o2150 ∧ ρ_ = [(0, .pointer (some ⟨b0, f0, none⟩)), (3, .int .i64 a2172)] ∧ Mem w [] w_ []) k (ρ1 := [(0, .pointer (some ⟨b0, f0, none⟩)), (3, .int .i64 0)]) ⟨_, ho2151, rfl, HM⟩ (Sub.cons rfl (Sub.cons rfl Sub.nil)) ?_
            clear HM ho2151
            rintro k2193 _ w2194 ⟨a2172, ho2151, rfl, HM⟩
            obtain _ | k2193 := k2193
            · exact nomatch ((spec_l7Fault.l0_z x0 a2172).symm.trans ho2151)
            replace ho2151 := (spec_l7Fault.l0_s x0 k2193 a2172).symm.trans ho2151
            refine run_seq ?_
            refine run_seq ?_
            refine run_region rfl ?_
            refine ops_ex rfl (guard_none rfl) rfl rfl (ex_move rfl rfl) ?_
            refine ops_ex rfl (guard_none rfl) rfl rfl (ex_move rfl rfl) ?_
            refine ops_ex rfl (guard_none rfl) rfl rfl (ex_nilCheck rfl rfl) ?_
            refine ops_ex rfl (guard_none rfl) rfl rfl (ex_fieldAddr (off' := f0 + 3) rfl rfl Tryd.underlying51 rfl tsz38 rfl) ?_
            refine ops_ex rfl (guard_none rfl) rfl rfl (ex_load1 rfl rfl Tryd.underlying38 rfl ((HM.at_ hc0) 3 _ rfl)) ?_
            refine ops_ex rfl (guard_none rfl) rfl rfl (ex_len (d := kInt) (xs := x0.fTxs) rfl rfl Tryd.underlying38 hp0_0) ?_
            refine ops_ex rfl (guard_none rfl) rfl rfl (ex_lss rfl rfl rfl) ?_
            refine ops_nil ?_
            refine at_then ?_
            refine run_cond (b := (decide (a2172 < (x0.fTxs.length : Int)))) rfl (fun hb2195 => ?_) (fun hb2195 => ?_)
            · replace ho2151 := cond_t hb2195 ho2151
              refine run_skip ?_
              refine at_then ?_
              refine run_seq ?_
              refine run_block ?_
              refine run_seq ?_
              refine run_seq ?_
              obtain ⟨e2201, ho2151⟩ := chk_some ho2151
              obtain ⟨t2203, h2204, ho2151⟩ := bind_some ho2151
              refine run_region rfl ?_
              refine ops_ex rfl (guard_none rfl) rfl rfl (ex_move rfl rfl) ?_
              refine ops_ex rfl (guard_none rfl) rfl rfl (ex_nilCheck rfl rfl) ?_
              refine ops_ex rfl (guard_none rfl) rfl rfl (ex_fieldAddr (off' := f0 + 3) rfl rfl Tryd.underlying51 rfl tsz38 rfl) ?_
              refine ops_ex rfl (guard_none rfl) rfl rfl (ex_load1 rfl rfl Tryd.underlying38 rfl ((HM.at_ hc0) 3 _ rfl)) ?_
              refine ops_ex rfl (guard_none rfl) rfl rfl (ex_move rfl rfl) ?_
              have hc2202 : CellsAt _ (sb p0_0) (so p0_0 + (a2172).toNat * 1) [(.int .i64 (gt x0.fTxs a2172))] := rd_plain hp0_0 e2201
              refine ops_ex rfl (guard_none rfl) rfl rfl (ex_indexAddr (d := kInt) rfl rfl rfl Tryd.underlying38 tsz2 hp0_0 (idx_lo e2201) (idx_hi e2201)) ?_
              refine ops_ex rfl (guard_none rfl) rfl rfl (ex_load1 rfl rfl Tryd.underlying2 rfl ((HM.at_ hc2202) 0 _ rfl)) ?_
              refine ops_does rfl (guard_none rfl) rfl rfl (does_callk rfl callok59 rfl (spec_l1In.calls (x0 := (gt x0.fTxs a2172)) (x1 := 1) (x2 := 60) h2204)) ?_
              rintro _ w2205 ⟨rfl, hn⟩
              replace HM : Mem w [] w2205 [] := HM.call hn
              refine ops_ex rfl (guard_none rfl) rfl rfl (ex_not rfl rfl) ?_
              refine ops_nil ?_
              refine at_then ?_
              refine run_cond (b := !t2203) rfl (fun hb2206 => ?_) (fun hb2206 => ?_)
              · replace ho2151 := cond_t hb2206 ho2151
                refine run_seq ?_
                refine run_region rfl ?_
                refine ops_ex rfl (guard_none rfl) rfl rfl (ex_assign rfl rfl) ?_
                refine ops_nil ?_
                refine at_then ?_
                refine run_ret ?_
                refine at_then_ret ?_
                refine at_block_ret ?_
                refine at_then_ret ?_
                refine at_then_ret ?_
                refine at_block_ret ?_
                refine at_then_ret ?_
                have hR := Option.some.inj ho2151
                subst hR
                have hT := thn_inl H
                have hR := Option.some.inj hT
                subst hR
                exact at_ret1 rfl rfl ⟨_, rfl, rfl, HM⟩
              · replace ho2151 := cond_f hb2206 ho2151
                refine run_skip ?_
                refine at_then ?_
                refine run_seq ?_
                obtain ⟨e2207, ho2151⟩ := chk_some ho2151
                obtain ⟨e2211, ho2151⟩ := chk_some ho2151
                obtain ⟨t2213, h2214, ho2151⟩ := bind_some ho2151
                refine run_drawf (fun w_ => Mem w [] w_ []) [(0, true), (1, true), (2, true), (3, true), (4, true), (5, true), (6, true), (7, true), (8, true), (9, true), (10, true), (11, true), (12, true), (13, false)] mixed rfl rfl (by kernel_rfl) ?_
                replace HM := HM.grow (fr_drew _)
                have hS := Mem.suf (M := []) HM
                refine drwp_take rfl (guard_none rfl) rfl rfl (fun w_ hS_ => (ex_move rfl rfl)) hS ?_
                refine drwp_take rfl (guard_none rfl) rfl rfl (fun w_ hS_ => (ex_nilCheck rfl rfl)) hS ?_
                refine drwp_take rfl (guard_none rfl) rfl rfl (fun w_ hS_ => (ex_fieldAddr (off' := f0 + 3) rfl rfl Tryd.underlying51 rfl tsz38 rfl)) hS ?_
                refine drwp_take rfl (guard_none rfl) rfl rfl (fun w_ hS_ => (ex_load1 rfl rfl Tryd.underlying38 rfl ((hS_.at_ hc0) 3 _ rfl))) hS ?_
                refine drwp_take rfl (guard_none rfl) rfl rfl (fun w_ hS_ => (ex_move rfl rfl)) hS ?_
                refine drwp_takeE rfl (guard_none rfl) rfl rfl (ex_cutH kInt rfl rfl rfl Tryd.underlying38 tsz2 hp0_0 e2207) hS ?_
                rintro u2208 hr2210
                refine drwp_take rfl (guard_none rfl) rfl rfl (fun w_ hS_ => (ex_move rfl rfl)) hS ?_
                refine drwp_take rfl (guard_none rfl) rfl rfl (fun w_ hS_ => (ex_nilCheck rfl rfl)) hS ?_
                refine drwp_take rfl (guard_none rfl) rfl rfl (fun w_ hS_ => (ex_fieldAddr (off' := f0 + 3) rfl rfl Tryd.underlying51 rfl tsz38 rfl)) hS ?_
                refine drwp_take rfl (guard_none rfl) rfl rfl (fun w_ hS_ => (ex_load1 rfl rfl Tryd.underlying38 rfl ((hS_.at_ hc0) 3 _ rfl))) hS ?_
                refine drwp_take rfl (guard_none rfl) rfl rfl (fun w_ hS_ => (ex_move rfl rfl)) hS ?_
                have hc2212 : CellsAt _ (sb p0_0) (so p0_0 + (a2172).toNat * 1) [(.int .i64 (gt x0.fTxs a2172))] := rd_plain hp0_0 e2211
                refine drwp_take rfl (guard_none rfl) rfl rfl (fun w_ hS_ => (ex_indexAddr (d := kInt) rfl rfl rfl Tryd.underlying38 tsz2 hp0_0 (idx_lo e2211) (idx_hi e2211))) hS ?_
                refine drwp_take rfl (guard_none rfl) rfl rfl (fun w_ hS_ => (ex_load1 rfl rfl Tryd.underlying2 rfl ((hS_.at_ hc2212) 0 _ rfl))) hS ?_
                refine drwp_one rfl (guard_none rfl) rfl rfl (does_callk rfl callok91 rfl (spec_l4Among.calls (x0 := x0.fTxs.take (a2172).toNat) (x1 := (gt x0.fTxs a2172)) (HM.rd hr2210) h2214)) ?_
                rintro _ w2215 ⟨rfl, hn⟩
                replace HM : Mem w [] w2215 [] := HM.call hn
                refine ⟨Mem.suf (M := []) HM, ?_⟩
                have hS := Mem.suf (M := []) HM
                refine drwp_done ?_
                refine at_then ?_
                refine run_cond (b := t2213) rfl (fun hb2216 => ?_) (fun hb2216 => ?_)
                · replace ho2151 := cond_t hb2216 ho2151
                  refine run_seq ?_
                  refine run_region rfl ?_
                  refine ops_ex rfl (guard_none rfl) rfl rfl (ex_assign rfl rfl) ?_
                  refine ops_nil ?_
                  refine at_then ?_
                  refine run_ret ?_
                  refine at_block_ret ?_
                  refine at_then_ret ?_
                  refine at_then_ret ?_
                  refine at_block_ret ?_
                  refine at_then_ret ?_
                  have hR := Option.some.inj ho2151
                  subst hR
                  have hT := thn_inl H
                  have hR := Option.some.inj hT
                  subst hR
                  exact at_ret1 rfl rfl ⟨_, rfl, rfl, HM⟩
                · replace ho2151 := cond_f hb2216 ho2151
                  refine run_skip ?_
                  refine at_block ?_
                  refine at_then ?_
                  refine run_region rfl ?_
                  refine ops_ex rfl (guard_none rfl) rfl rfl (ex_move rfl rfl) ?_
                  refine ops_ex rfl (guard_none rfl) rfl rfl (ex_add rfl rfl rfl) ?_
                  refine ops_ex rfl (guard_none rfl) rfl rfl (ex_assign rfl rfl) ?_
                  refine ops_nil ?_
                  exact at_again k2193 (ρ1 := [(0, .pointer (some ⟨b0, f0, none⟩)), (3, .int .i64 (wrap64 (a2172 + 1)))]) (Nat.lt_succ_self _) ⟨_, ho2151, rfl, HM⟩ (Sub.cons rfl (Sub.cons rfl Sub.nil))
            · replace ho2151 := cond_f hb2195 ho2151
              refine run_exit ?_
              refine at_then_exit ?_
              refine at_then_exit ?_
              refine at_block_exit ?_
              exact at_mid (ρ' := []) ⟨(Option.some.inj ho2151), rfl, HM⟩ Sub.nil
          · rintro _ w2217 ⟨rfl, rfl, HM⟩
            replace H := (thn_inr H)
            refine run_seq ?_
            refine run_region rfl ?_
            refine ops_ex rfl (guard_none rfl) rfl rfl (ex_assign rfl rfl) ?_
            refine ops_nil ?_
            refine at_then ?_
            refine run_ret ?_
            have hR := Option.some.inj H
            subst hR
            exact at_ret1 rfl rfl ⟨_, rfl, rfl, HM⟩

def spec_l7Parse.l0 (t2224 : (List ByteArray)) (t2262 : (List ByteArray)) : Nat → (List Int) → Bool → Int → Option ((List Int) × Bool)
  | 0, _, _, _ => none
  | k + 1, a2323, a2325, a2326 => (chk (!(decide (a2326 < (t2262.length : Int))) || (idxOk (4 : Int) t2224.length)) (bif ((decide (a2326 < (t2262.length : Int))) && (!sEq (gt t2224 (4 : Int)) (⟨#[45]⟩ : ByteArray))) then (chk (idxOk a2326 t2262.length) ((spec_l2Number.f k (gt t2262 a2326) 2).bind fun t2347 => (chk (leB ((a2323.length + ([t2347.1] : List Int).length) * 8) 140737488355328) (spec_l7Parse.l0 t2224 t2262 k (a2323 ++ ([t2347.1] : List Int)) (a2325 && t2347.2) (wrap64 (a2326 + 1)))))) else some (a2323, a2325)))
theorem spec_l7Parse.l0_z (t2224 : (List ByteArray)) (t2262 : (List ByteArray)) (a2323 : List Int) (a2325 : Bool) (a2326 : Int) : spec_l7Parse.l0 t2224 t2262 0 a2323 a2325 a2326 = none := rfl
theorem spec_l7Parse.l0_s (t2224 : (List ByteArray)) (t2262 : (List ByteArray)) (k : Nat) (a2323 : List Int) (a2325 : Bool) (a2326 : Int) : spec_l7Parse.l0 t2224 t2262 (k + 1) a2323 a2325 a2326 = (chk (!(decide (a2326 < (t2262.length : Int))) || (idxOk (4 : Int) t2224.length)) (bif ((decide (a2326 < (t2262.length : Int))) && (!sEq (gt t2224 (4 : Int)) (⟨#[45]⟩ : ByteArray))) then (chk (idxOk a2326 t2262.length) ((spec_l2Number.f k (gt t2262 a2326) 2).bind fun t2347 => (chk (leB ((a2323.length + ([t2347.1] : List Int).length) * 8) 140737488355328) (spec_l7Parse.l0 t2224 t2262 k (a2323 ++ ([t2347.1] : List Int)) (a2325 && t2347.2) (wrap64 (a2326 + 1)))))) else some (a2323, a2325))) := rfl
def spec_l7Parse.f (k : Nat) (x0 : ByteArray) : Option (Block × Bool) := ((spec_l2Cut.f k x0 32).bind fun t2224 => (chk (!(!((t2224.length : Int) != 5)) || (idxOk (0 : Int) t2224.length)) (bif (((t2224.length : Int) != 5) || (!sEq (gt t2224 (0 : Int)) (⟨#[98, 108, 111, 99, 107]⟩ : ByteArray))) then some ((⟨0, 0, 0, ([] : List Int)⟩ : Block), false) else (chk (idxOk (1 : Int) t2224.length) ((spec_l2Number.f k (gt t2224 (1 : Int)) 2).bind fun t2239 => (chk (idxOk (2 : Int) t2224.length) ((spec_l2Number.f k (gt t2224 (2 : Int)) 2).bind fun t2243 => (chk (idxOk (3 : Int) t2224.length) ((spec_l2Number.f k (gt t2224 (3 : Int)) 3).bind fun t2247 => (chk (idxOk (4 : Int) t2224.length) ((spec_l2Cut.f k (gt t2224 (4 : Int)) 43).bind fun t2262 => ((spec_l7Parse.l0 t2224 t2262 k ([] : List Int) ((t2239.2 && t2243.2) && t2247.2) 0).bind (cur2 (fun a2306 a2308 => ((bif a2308 then spec_l7Fault.f k (⟨t2239.1, t2243.1, t2247.1, a2306⟩ : Block) else some default).bind fun t2363 => some ((⟨t2239.1, t2243.1, t2247.1, a2306⟩ : Block), (a2308 && (t2363 == 0))))))))))))))))))
theorem spec_l7Parse.calls {k : Nat} {x0 : ByteArray}  {w : World}  {r : Block × Bool} (H : spec_l7Parse.f k x0 = some r) :
    Calls Tryd.prog 51 ([.string x0] : List Value).toArray w (fun e w_ => ∃ v, e = .returned v ∧ ∃ u0 : Value, v = (.tuple #[.agg #[.int .i64 r.1.fPrev, .int .i64 r.1.fHeight, .int .i64 r.1.fMiner, u0], .bool r.2]) ∧ Mem w [] w_ [own kInt 2 u0 r.1.fTxs]) := by
  have HM := Mem.start w
  refine calls_run (N := 101) Tryd.func51 rfl rfl rfl rfl ?_
  unfold spec_l7Parse.f at H
  refine run_seq ?_
  refine run_region rfl ?_
  refine ops_does rfl (guard_none rfl) rfl rfl (does_alloc (cs := [.int .i64 0, .int .i64 0, .int .i64 0, .slice none 0 0]) rfl tz51 rfl HM) ?_
  rintro _ w2223 ⟨b2220, rfl, HM⟩
  refine ops_ex rfl (guard_none rfl) rfl rfl (ex_assign rfl rfl) ?_
  refine ops_nil ?_
  refine at_then ?_
  refine run_seq ?_
  obtain ⟨t2224, h2225, H⟩ := bind_some H
  refine run_region rfl ?_
  refine ops_ex rfl (guard_none rfl) rfl rfl (ex_move rfl rfl) ?_
  refine ops_does rfl (guard_none rfl) rfl rfl (does_callk rfl callok81 rfl (spec_l2Cut.calls (x0 := x0) (x1 := 32) h2225)) ?_
  rintro u2226 w2228 ⟨_, rfl, hn⟩
  replace HM : Mem w [] w2228 [own kStr 9 u2226 t2224, box b2220 51 [.int .i64 0, .int .i64 0, .int .i64 0, .slice none 0 0]] := HM.call hn
  refine ops_ex rfl (guard_none rfl) rfl rfl (ex_assign rfl rfl) ?_
  refine ops_nil ?_
  refine at_then ?_
  refine run_seq ?_
  refine run_seq ?_
  obtain ⟨e2231, H⟩ := chk_some H
  refine run_meet (fun ρ_ w_ => ρ_ = [(2, .pointer (some ⟨b2220, 0, none⟩)), (4, u2226), (27, .bool (((t2224.length : Int) != 5) || (!sEq (gt t2224 (0 : Int)) (⟨#[98, 108, 111, 99, 107]⟩ : ByteArray))))] ∧ Mem w [] w_ [box b2220 51 [.int .i64 0, .int .i64 0, .int .i64 0, .slice none 0 0], own kStr 9 u2226 t2224]) ?_ ?_
  · skip
    refine run_region rfl ?_
    refine ops_ex rfl (guard_none rfl) rfl rfl (ex_move rfl rfl) ?_
    refine ops_ex rfl (guard_none rfl) rfl rfl (ex_len (d := kStr) (xs := t2224) rfl rfl Tryd.underlying103 (HM.own_rd 0 rfl)) ?_
    refine ops_ex rfl (guard_none rfl) rfl rfl (ex_neq rfl rfl rfl) ?_
    refine ops_ex rfl (guard_none rfl) rfl rfl (ex_move rfl rfl) ?_
    refine bool_cases ((t2224.length : Int) != 5) (fun hg2232 => ?_) (fun hg2232 => ?_)
    · skip
      refine ops_off rfl (guard_off rfl rfl rfl hg2232) rfl rfl ?_
      refine ops_off rfl (guard_off rfl rfl rfl hg2232) rfl rfl ?_
      refine ops_off rfl (guard_off rfl rfl rfl hg2232) rfl rfl ?_
      refine ops_off rfl (guard_off rfl rfl rfl hg2232) rfl rfl ?_
      have hg2233 : (((t2224.length : Int) != 5) || (!sEq (gt t2224 (0 : Int)) (⟨#[98, 108, 111, 99, 107]⟩ : ByteArray))) = true := by simp only [hg2232, Bool.and_true, Bool.true_and, Bool.and_false, Bool.false_and, Bool.or_true, Bool.true_or, Bool.or_false, Bool.false_or, Bool.not_true, Bool.not_false, Bool.not_not]
      refine ops_ex (v := .bool (((t2224.length : Int) != 5) || (!sEq (gt t2224 (0 : Int)) (⟨#[98, 108, 111, 99, 107]⟩ : ByteArray)))) rfl (guard_none rfl) rfl rfl (ex_por_t rfl rfl hg2232) ?_
      refine ops_nil ?_
      replace HM := HM.front 1 rfl rfl
      exact at_meet [(2, .pointer (some ⟨b2220, 0, none⟩)), (4, u2226), (27, .bool (((t2224.length : Int) != 5) || (!sEq (gt t2224 (0 : Int)) (⟨#[98, 108, 111, 99, 107]⟩ : ByteArray))))] ⟨rfl, HM⟩ (Sub.cons rfl (Sub.cons rfl (Sub.cons rfl Sub.nil)))
    · skip
      refine ops_ex rfl (guard_on rfl rfl rfl hg2232) rfl rfl (ex_move rfl rfl) ?_
      refine ops_ex rfl (guard_on rfl rfl rfl hg2232) rfl rfl (ex_indexAddr (d := kStr) rfl rfl rfl Tryd.underlying103 tsz9 (HM.own_rd 0 rfl) (idx_lo (or_t e2231 (not_mk hg2232))) (idx_hi (or_t e2231 (not_mk hg2232)))) ?_
      refine ops_ex rfl (guard_on rfl rfl rfl hg2232) rfl rfl (ex_load1 rfl rfl Tryd.underlying9 rfl ((rd_plain (HM.own_rd 0 rfl) (or_t e2231 (not_mk hg2232))) 0 _ rfl)) ?_
      refine ops_ex rfl (guard_on rfl rfl rfl hg2232) rfl rfl (ex_sneq rfl rfl rfl) ?_
      refine ops_ex (v := .bool (((t2224.length : Int) != 5) || (!sEq (gt t2224 (0 : Int)) (⟨#[98, 108, 111, 99, 107]⟩ : ByteArray)))) rfl (guard_none rfl) rfl rfl (ex_por_f rfl rfl hg2232 rfl) ?_
      refine ops_nil ?_
      replace HM := HM.front 1 rfl rfl
      exact at_meet [(2, .pointer (some ⟨b2220, 0, none⟩)), (4, u2226), (27, .bool (((t2224.length : Int) != 5) || (!sEq (gt t2224 (0 : Int)) (⟨#[98, 108, 111, 99, 107]⟩ : ByteArray))))] ⟨rfl, HM⟩ (Sub.cons rfl (Sub.cons rfl (Sub.cons rfl Sub.nil)))
  · rintro _ w2234 ⟨rfl, HM⟩
    refine at_then ?_
    refine run_cond (b := (((t2224.length : Int) != 5) || (!sEq (gt t2224 (0 : Int)) (⟨#[98, 108, 111, 99, 107]⟩ : ByteArray)))) rfl (fun hb2235 => ?_) (fun hb2235 => ?_)
    · replace H := cond_t hb2235 H
      refine run_seq ?_
      refine run_region rfl ?_
      refine ops_ex rfl (guard_none rfl) rfl rfl (ex_build (cells := #[(.int .i64 0), (.int .i64 0), (.int .i64 0), (.slice none 0 0)]) rfl rfl (by kernel_rfl)) ?_
      refine ops_doesS rfl (guard_none rfl) rfl (does_store (vs := [.int .i64 0, .int .i64 0, .int .i64 0, .slice none 0 0]) (cs' := [.int .i64 0, .int .i64 0, .int .i64 0, .slice none 0 0]) rfl rfl rfl rfl tsz51 (Ones.int (Ones.int (Ones.int (Ones.sl Ones.nil)))) rfl rfl HM) ?_
      rintro w2236 HM
      refine ops_ex rfl (guard_none rfl) rfl rfl (ex_assign rfl rfl) ?_
      refine ops_nil ?_
      refine at_then ?_
      refine run_ret ?_
      refine at_then_ret ?_
      replace HM := HM.empty kInt 2 none
      replace HM := (HM.front 2 rfl rfl).drop
      replace HM := HM.front 1 rfl rfl
      have hcb0 := HM.box_at 0 rfl
      replace HM := (HM.front 0 rfl rfl).drop
      have hR := Option.some.inj H
      subst hR
      exact at_retN1 rfl rfl rfl Tryd.underlying51 rfl tsz51 rfl hcb0 ⟨_, rfl, _, rfl, HM⟩
    · replace H := cond_f hb2235 H
      refine run_skip ?_
      refine at_then ?_
      refine run_seq ?_
      obtain ⟨e2238, H⟩ := chk_some H
      obtain ⟨t2239, h2240, H⟩ := bind_some H
      refine run_region rfl ?_
      refine ops_ex rfl (guard_none rfl) rfl rfl (ex_move rfl rfl) ?_
      refine ops_ex rfl (guard_none rfl) rfl rfl (ex_indexAddr (d := kStr) rfl rfl rfl Tryd.underlying103 tsz9 (HM.own_rd 1 rfl) (idx_lo e2238) (idx_hi e2238)) ?_
      refine ops_ex rfl (guard_none rfl) rfl rfl (ex_load1 rfl rfl Tryd.underlying9 rfl ((rd_plain (HM.own_rd 1 rfl) e2238) 0 _ rfl)) ?_
      refine ops_does rfl (guard_none rfl) rfl rfl (does_callk rfl callok82 rfl (spec_l2Number.calls (x0 := (gt t2224 (1 : Int))) (x1 := 2) h2240)) ?_
      rintro _ w2241 ⟨rfl, hn⟩
      replace HM : Mem w [] w2241 [box b2220 51 [.int .i64 0, .int .i64 0, .int .i64 0, .slice none 0 0], own kStr 9 u2226 t2224] := HM.call hn
      refine ops_ex rfl (guard_none rfl) rfl rfl (ex_move rfl rfl) ?_
      refine ops_ex rfl (guard_none rfl) rfl rfl (ex_extract rfl rfl rfl) ?_
      refine ops_ex rfl (guard_none rfl) rfl rfl (ex_extract rfl rfl rfl) ?_
      refine ops_ex rfl (guard_none rfl) rfl rfl (ex_assign rfl rfl) ?_
      refine ops_ex rfl (guard_none rfl) rfl rfl (ex_assign rfl rfl) ?_
      refine ops_nil ?_
      refine at_then ?_
      refine run_seq ?_
      obtain ⟨e2242, H⟩ := chk_some H
      obtain ⟨t2243, h2244, H⟩ := bind_some H
      refine run_region rfl ?_
      refine ops_ex rfl (guard_none rfl) rfl rfl (ex_move rfl rfl) ?_
      refine ops_ex rfl (guard_none rfl) rfl rfl (ex_indexAddr (d := kStr) rfl rfl rfl Tryd.underlying103 tsz9 (HM.own_rd 1 rfl) (idx_lo e2242) (idx_hi e2242)) ?_
      refine ops_ex rfl (guard_none rfl) rfl rfl (ex_load1 rfl rfl Tryd.underlying9 rfl ((rd_plain (HM.own_rd 1 rfl) e2242) 0 _ rfl)) ?_
      refine ops_does rfl (guard_none rfl) rfl rfl (does_callk rfl callok82 rfl (spec_l2Number.calls (x0 := (gt t2224 (2 : Int))) (x1 := 2) h2244)) ?_
      rintro _ w2245 ⟨rfl, hn⟩
      replace HM : Mem w [] w2245 [box b2220 51 [.int .i64 0, .int .i64 0, .int .i64 0, .slice none 0 0], own kStr 9 u2226 t2224] := HM.call hn
      refine ops_ex rfl (guard_none rfl) rfl rfl (ex_move rfl rfl) ?_
      refine ops_ex rfl (guard_none rfl) rfl rfl (ex_extract rfl rfl rfl) ?_
      refine ops_ex rfl (guard_none rfl) rfl rfl (ex_extract rfl rfl rfl) ?_
      refine ops_ex rfl (guard_none rfl) rfl rfl (ex_assign rfl rfl) ?_
      refine ops_ex rfl (guard_none rfl) rfl rfl (ex_assign rfl rfl) ?_
      refine ops_nil ?_
      refine at_then ?_
      refine run_seq ?_
      obtain ⟨e2246, H⟩ := chk_some H
      obtain ⟨t2247, h2248, H⟩ := bind_some H
      refine run_region rfl ?_
      refine ops_ex rfl (guard_none rfl) rfl rfl (ex_move rfl rfl) ?_
      refine ops_ex rfl (guard_none rfl) rfl rfl (ex_indexAddr (d := kStr) rfl rfl rfl Tryd.underlying103 tsz9 (HM.own_rd 1 rfl) (idx_lo e2246) (idx_hi e2246)) ?_
      refine ops_ex rfl (guard_none rfl) rfl rfl (ex_load1 rfl rfl Tryd.underlying9 rfl ((rd_plain (HM.own_rd 1 rfl) e2246) 0 _ rfl)) ?_
      refine ops_does rfl (guard_none rfl) rfl rfl (does_callk rfl callok82 rfl (spec_l2Number.calls (x0 := (gt t2224 (3 : Int))) (x1 := 3) h2248)) ?_
      rintro _ w2249 ⟨rfl, hn⟩
      replace HM : Mem w [] w2249 [box b2220 51 [.int .i64 0, .int .i64 0, .int .i64 0, .slice none 0 0], own kStr 9 u2226 t2224] := HM.call hn
      refine ops_ex rfl (guard_none rfl) rfl rfl (ex_move rfl rfl) ?_
      refine ops_ex rfl (guard_none rfl) rfl rfl (ex_extract rfl rfl rfl) ?_
      refine ops_ex rfl (guard_none rfl) rfl rfl (ex_extract rfl rfl rfl) ?_
      refine ops_ex rfl (guard_none rfl) rfl rfl (ex_assign rfl rfl) ?_
      refine ops_ex rfl (guard_none rfl) rfl rfl (ex_assign rfl rfl) ?_
      refine ops_nil ?_
      refine at_then ?_
      refine run_seq ?_
      refine run_region rfl ?_
      refine ops_ex rfl (guard_none rfl) rfl rfl (ex_move rfl rfl) ?_
      refine ops_ex rfl (guard_none rfl) rfl rfl (ex_move rfl rfl) ?_
      refine ops_ex rfl (guard_none rfl) rfl rfl (ex_move rfl rfl) ?_
      refine ops_ex rfl (guard_none rfl) rfl rfl (ex_build (cells := #[(.int .i64 t2239.1), (.int .i64 t2243.1), (.int .i64 t2247.1), (.slice none 0 0)]) rfl rfl (by kernel_rfl)) ?_
      refine ops_does rfl (guard_none rfl) rfl rfl (does_alloc (cs := [.int .i64 0, .int .i64 0, .int .i64 0, .slice none 0 0]) rfl tz51 rfl HM) ?_
      rintro _ w2253 ⟨b2250, rfl, HM⟩
      refine ops_doesS rfl (guard_none rfl) rfl (does_store (vs := [.int .i64 t2239.1, .int .i64 t2243.1, .int .i64 t2247.1, .slice none 0 0]) (cs' := [.int .i64 t2239.1, .int .i64 t2243.1, .int .i64 t2247.1, .slice none 0 0]) rfl rfl rfl rfl tsz51 (Ones.int (Ones.int (Ones.int (Ones.sl Ones.nil)))) rfl rfl HM) ?_
      rintro w2254 HM
      refine ops_nil ?_
      refine at_then ?_
      refine run_seq ?_
      refine run_meet (fun ρ_ w_ => ρ_ = [(2, .pointer (some ⟨b2220, 0, none⟩)), (4, u2226), (11, .pointer (some ⟨b2250, 0, none⟩)), (12, .bool ((t2239.2 && t2243.2) && t2247.2))] ∧ Mem w [] w_ [box b2220 51 [.int .i64 0, .int .i64 0, .int .i64 0, .slice none 0 0], own kStr 9 u2226 t2224, box b2250 51 [.int .i64 t2239.1, .int .i64 t2243.1, .int .i64 t2247.1, .slice none 0 0]]) ?_ ?_
      · skip
        refine run_region rfl ?_
        refine ops_ex rfl (guard_none rfl) rfl rfl (ex_move rfl rfl) ?_
        refine ops_ex rfl (guard_none rfl) rfl rfl (ex_move rfl rfl) ?_
        refine bool_cases t2239.2 (fun hg2255 => ?_) (fun hg2255 => ?_)
        · skip
          refine ops_ex rfl (guard_on rfl rfl rfl hg2255) rfl rfl (ex_move rfl rfl) ?_
          refine ops_ex (v := .bool (t2239.2 && t2243.2)) rfl (guard_none rfl) rfl rfl (ex_pand_t rfl rfl hg2255 rfl) ?_
          refine ops_ex rfl (guard_none rfl) rfl rfl (ex_move rfl rfl) ?_
          refine bool_cases (t2239.2 && t2243.2) (fun hg2256 => ?_) (fun hg2256 => ?_)
          · skip
            refine ops_ex rfl (guard_on rfl rfl rfl hg2256) rfl rfl (ex_move rfl rfl) ?_
            refine ops_ex (v := .bool ((t2239.2 && t2243.2) && t2247.2)) rfl (guard_none rfl) rfl rfl (ex_pand_t rfl rfl hg2256 rfl) ?_
            refine ops_ex rfl (guard_none rfl) rfl rfl (ex_assign rfl rfl) ?_
            refine ops_nil ?_
            replace HM := HM.front 2 rfl rfl
            replace HM := HM.front 2 rfl rfl
            exact at_meet [(2, .pointer (some ⟨b2220, 0, none⟩)), (4, u2226), (11, .pointer (some ⟨b2250, 0, none⟩)), (12, .bool ((t2239.2 && t2243.2) && t2247.2))] ⟨rfl, HM⟩ (Sub.cons rfl (Sub.cons rfl (Sub.cons rfl (Sub.cons rfl Sub.nil))))
          · skip
            refine ops_off rfl (guard_off rfl rfl rfl hg2256) rfl rfl ?_
            have hg2257 : ((t2239.2 && t2243.2) && t2247.2) = false := by simp only [hg2256, Bool.and_true, Bool.true_and, Bool.and_false, Bool.false_and, Bool.or_true, Bool.true_or, Bool.or_false, Bool.false_or, Bool.not_true, Bool.not_false, Bool.not_not]
            refine ops_ex (v := .bool ((t2239.2 && t2243.2) && t2247.2)) rfl (guard_none rfl) rfl rfl (ex_pand_f rfl rfl hg2256) ?_
            refine ops_ex rfl (guard_none rfl) rfl rfl (ex_assign rfl rfl) ?_
            refine ops_nil ?_
            replace HM := HM.front 2 rfl rfl
            replace HM := HM.front 2 rfl rfl
            exact at_meet [(2, .pointer (some ⟨b2220, 0, none⟩)), (4, u2226), (11, .pointer (some ⟨b2250, 0, none⟩)), (12, .bool ((t2239.2 && t2243.2) && t2247.2))] ⟨rfl, HM⟩ (Sub.cons rfl (Sub.cons rfl (Sub.cons rfl (Sub.cons rfl Sub.nil))))
        · skip
          refine ops_off rfl (guard_off rfl rfl rfl hg2255) rfl rfl ?_
          have hg2258 : (t2239.2 && t2243.2) = false := by simp only [hg2255, Bool.and_true, Bool.true_and, Bool.and_false, Bool.false_and, Bool.or_true, Bool.true_or, Bool.or_false, Bool.false_or, Bool.not_true, Bool.not_false, Bool.not_not]
          refine ops_ex (v := .bool (t2239.2 && t2243.2)) rfl (guard_none rfl) rfl rfl (ex_pand_f rfl rfl hg2255) ?_
          refine ops_ex rfl (guard_none rfl) rfl rfl (ex_move rfl rfl) ?_
          refine ops_off rfl (guard_off rfl rfl rfl hg2258) rfl rfl ?_
          have hg2259 : ((t2239.2 && t2243.2) && t2247.2) = false := by simp only [hg2258, Bool.and_true, Bool.true_and, Bool.and_false, Bool.false_and, Bool.or_true, Bool.true_or, Bool.or_false, Bool.false_or, Bool.not_true, Bool.not_false, Bool.not_not]
          refine ops_ex (v := .bool ((t2239.2 && t2243.2) && t2247.2)) rfl (guard_none rfl) rfl rfl (ex_pand_f rfl rfl hg2258) ?_
          refine ops_ex rfl (guard_none rfl) rfl rfl (ex_assign rfl rfl) ?_
          refine ops_nil ?_
          replace HM := HM.front 2 rfl rfl
          replace HM := HM.front 2 rfl rfl
          exact at_meet [(2, .pointer (some ⟨b2220, 0, none⟩)), (4, u2226), (11, .pointer (some ⟨b2250, 0, none⟩)), (12, .bool ((t2239.2 && t2243.2) && t2247.2))] ⟨rfl, HM⟩ (Sub.cons rfl (Sub.cons rfl (Sub.cons rfl (Sub.cons rfl Sub.nil))))
      · rintro _ w2260 ⟨rfl, HM⟩
        refine at_then ?_
        refine run_seq ?_
        obtain ⟨e2261, H⟩ := chk_some H
        obtain ⟨t2262, h2263, H⟩ := bind_some H
        refine run_region rfl ?_
        refine ops_ex rfl (guard_none rfl) rfl rfl (ex_move rfl rfl) ?_
        refine ops_ex rfl (guard_none rfl) rfl rfl (ex_indexAddr (d := kStr) rfl rfl rfl Tryd.underlying103 tsz9 (HM.own_rd 1 rfl) (idx_lo e2261) (idx_hi e2261)) ?_
        refine ops_ex rfl (guard_none rfl) rfl rfl (ex_load1 rfl rfl Tryd.underlying9 rfl ((rd_plain (HM.own_rd 1 rfl) e2261) 0 _ rfl)) ?_
        refine ops_does rfl (guard_none rfl) rfl rfl (does_callk rfl callok81 rfl (spec_l2Cut.calls (x0 := (gt t2224 (4 : Int))) (x1 := 43) h2263)) ?_
        rintro u2264 w2266 ⟨_, rfl, hn⟩
        replace HM : Mem w [] w2266 [own kStr 9 u2264 t2262, box b2220 51 [.int .i64 0, .int .i64 0, .int .i64 0, .slice none 0 0], own kStr 9 u2226 t2224, box b2250 51 [.int .i64 t2239.1, .int .i64 t2243.1, .int .i64 t2247.1, .slice none 0 0]] := HM.call hn
        refine ops_ex rfl (guard_none rfl) rfl rfl (ex_assign rfl rfl) ?_
        refine ops_nil ?_
        refine at_then ?_
        obtain ⟨o2309, ho2310, H⟩ := bind_some H
        refine run_mid (fun ρ_ w_ => ∃ v2305 : Value, ∃ a2306 : List Int, ∃ a2308 : Bool, (a2306, a2308) = o2309 ∧ ρ_ = [(2, .pointer (some ⟨b2220, 0, none⟩)), (11, .pointer (some ⟨b2250, 0, none⟩)), (12, .bool a2308)] ∧ Mem w [] w_ [box b2220 51 [.int .i64 0, .int .i64 0, .int .i64 0, .slice none 0 0], box b2250 51 [.int .i64 t2239.1, .int .i64 t2243.1, .int .i64 t2247.1, v2305], own kInt 2 v2305 a2306]) ?_ ?_
        · clear H
          refine run_seq ?_
          refine run_region rfl ?_
          refine ops_ex rfl (guard_none rfl) rfl rfl (ex_assign rfl rfl) ?_
          refine ops_nil ?_
          refine at_then ?_
          refine run_block ?_
          replace HM := HM.empty kInt 2 none
          replace HM := HM.front 1 rfl rfl
          replace HM := HM.front 1 rfl rfl
          replace HM := HM.front 4 rfl rfl
          replace HM := HM.front 4 rfl rfl
          replace HM := HM.front 4 rfl rfl
          refine run_loop (fun k_ ρ_ w_ => ∃ v2322 : Value, ∃ a2323 : List Int, ∃ a2325 : Bool, ∃ a2326 : Int, spec_l7Parse.l0 t2224 t2262 k_ a2323 a2325 a2326 = some o2309 ∧ ρ_ = [(2, .pointer (some ⟨b2220, 0, none⟩)), (4, u2226), (11, .pointer (some ⟨b2250, 0, none⟩)), (12, .bool a2325), (13, u2264), (14, .int .i64 a2326)] ∧ Mem w [] w_ [box b2220 51 [.int .i64 0, .int .i64 0, .int .i64 0, .slice none 0 0], own kStr 9 u2226 t2224, box b2250 51 [.int .i64 t2239.1, .int .i64 t2243.1, .int .i64 t2247.1, v2322], own kInt 2 v2322 a2323, own kStr 9 u2264 t2262]) k (ρ1 := [(2, .pointer (some ⟨b2220, 0, none⟩)), (4, u2226), (11, .pointer (some ⟨b2250, 0, none⟩)), (12, .bool ((t2239.2 && t2243.2) && t2247.2)), (13, u2264), (14, .int .i64 0)]) ⟨_, _, _, _, ho2310, rfl, HM⟩ (Sub.cons rfl (Sub.cons rfl (Sub.cons rfl (Sub.cons rfl (Sub.cons rfl (Sub.cons rfl Sub.nil)))))) ?_
          clear HM ho2310
          rintro k2339 _ w2340 ⟨v2322, a2323, a2325, a2326, ho2310, rfl, HM⟩
          obtain _ | k2339 := k2339
          · exact nomatch ((spec_l7Parse.l0_z t2224 t2262 a2323 a2325 a2326).symm.trans ho2310)
          replace ho2310 := (spec_l7Parse.l0_s t2224 t2262 k2339 a2323 a2325 a2326).symm.trans ho2310
          refine run_seq ?_
          refine run_seq ?_
          obtain ⟨e2341, ho2310⟩ := chk_some ho2310
          refine run_meet (fun ρ_ w_ => ρ_ = [(2, .pointer (some ⟨b2220, 0, none⟩)), (4, u2226), (11, .pointer (some ⟨b2250, 0, none⟩)), (12, .bool a2325), (13, u2264), (14, .int .i64 a2326), (74, .bool ((decide (a2326 < (t2262.length : Int))) && (!sEq (gt t2224 (4 : Int)) (⟨#[45]⟩ : ByteArray))))] ∧ Mem w [] w_ [box b2220 51 [.int .i64 0, .int .i64 0, .int .i64 0, .slice none 0 0], own kStr 9 u2226 t2224, box b2250 51 [.int .i64 t2239.1, .int .i64 t2243.1, .int .i64 t2247.1, v2322], own kInt 2 v2322 a2323, own kStr 9 u2264 t2262]) ?_ ?_
          · skip
            refine run_region rfl ?_
            refine ops_ex rfl (guard_none rfl) rfl rfl (ex_move rfl rfl) ?_
            refine ops_ex rfl (guard_none rfl) rfl rfl (ex_move rfl rfl) ?_
            refine ops_ex rfl (guard_none rfl) rfl rfl (ex_len (d := kStr) (xs := t2262) rfl rfl Tryd.underlying103 (HM.own_rd 4 rfl)) ?_
            refine ops_ex rfl (guard_none rfl) rfl rfl (ex_lss rfl rfl rfl) ?_
            refine ops_ex rfl (guard_none rfl) rfl rfl (ex_move rfl rfl) ?_
            refine bool_cases (decide (a2326 < (t2262.length : Int))) (fun hg2342 => ?_) (fun hg2342 => ?_)
            · skip
              refine ops_ex rfl (guard_on rfl rfl rfl hg2342) rfl rfl (ex_move rfl rfl) ?_
              refine ops_ex rfl (guard_on rfl rfl rfl hg2342) rfl rfl (ex_indexAddr (d := kStr) rfl rfl rfl Tryd.underlying103 tsz9 (HM.own_rd 1 rfl) (idx_lo (or_t e2341 hg2342)) (idx_hi (or_t e2341 hg2342))) ?_
              refine ops_ex rfl (guard_on rfl rfl rfl hg2342) rfl rfl (ex_load1 rfl rfl Tryd.underlying9 rfl ((rd_plain (HM.own_rd 1 rfl) (or_t e2341 hg2342)) 0 _ rfl)) ?_
              refine ops_ex rfl (guard_on rfl rfl rfl hg2342) rfl rfl (ex_sneq rfl rfl rfl) ?_
              refine ops_ex (v := .bool ((decide (a2326 < (t2262.length : Int))) && (!sEq (gt t2224 (4 : Int)) (⟨#[45]⟩ : ByteArray)))) rfl (guard_none rfl) rfl rfl (ex_pand_t rfl rfl hg2342 rfl) ?_
              refine ops_nil ?_
              exact at_meet [(2, .pointer (some ⟨b2220, 0, none⟩)), (4, u2226), (11, .pointer (some ⟨b2250, 0, none⟩)), (12, .bool a2325), (13, u2264), (14, .int .i64 a2326), (74, .bool ((decide (a2326 < (t2262.length : Int))) && (!sEq (gt t2224 (4 : Int)) (⟨#[45]⟩ : ByteArray))))] ⟨rfl, HM⟩ (Sub.cons rfl (Sub.cons rfl (Sub.cons rfl (Sub.cons rfl (Sub.cons rfl (Sub.cons rfl (Sub.cons rfl Sub.nil)))))))
            · skip
              refine ops_off rfl (guard_off rfl rfl rfl hg2342) rfl rfl ?_
              refine ops_off rfl (guard_off rfl rfl rfl hg2342) rfl rfl ?_
              refine ops_off rfl (guard_off rfl rfl rfl hg2342) rfl rfl ?_
              refine ops_off rfl (guard_off rfl rfl rfl hg2342) rfl rfl ?_
              have hg2343 : ((decide (a2326 < (t2262.length : Int))) && (!sEq (gt t2224 (4 : Int)) (⟨#[45]⟩ : ByteArray))) = false := by simp only [hg2342, Bool.and_true, Bool.true_and, Bool.and_false, Bool.false_and, Bool.or_true, Bool.true_or, Bool.or_false, Bool.false_or, Bool.not_true, Bool.not_false, Bool.not_not]
              refine ops_ex (v := .bool ((decide (a2326 < (t2262.length : Int))) && (!sEq (gt t2224 (4 : Int)) (⟨#[45]⟩ : ByteArray)))) rfl (guard_none rfl) rfl rfl (ex_pand_f rfl rfl hg2342) ?_
              refine ops_nil ?_
              exact at_meet [(2, .pointer (some ⟨b2220, 0, none⟩)), (4, u2226), (11, .pointer (some ⟨b2250, 0, none⟩)), (12, .bool a2325), (13, u2264), (14, .int .i64 a2326), (74, .bool ((decide (a2326 < (t2262.length : Int))) && (!sEq (gt t2224 (4 : Int)) (⟨#[45]⟩ : ByteArray))))] ⟨rfl, HM⟩ (Sub.cons rfl (Sub.cons rfl (Sub.cons rfl (Sub.cons rfl (Sub.cons rfl (Sub.cons rfl (Sub.cons rfl Sub.nil)))))))
          · rintro _ w2344 ⟨rfl, HM⟩
            refine at_then ?_
            refine run_cond (b := ((decide (a2326 < (t2262.length : Int))) && (!sEq (gt t2224 (4 : Int)) (⟨#[45]⟩ : ByteArray)))) rfl (fun hb2345 => ?_) (fun hb2345 => ?_)
            · replace ho2310 := cond_t hb2345 ho2310
              refine run_skip ?_
              refine at_then ?_
              refine run_seq ?_
              refine run_block ?_
              refine run_seq ?_
              obtain ⟨e2346, ho2310⟩ := chk_some ho2310
              obtain ⟨t2347, h2348, ho2310⟩ := bind_some ho2310
              refine run_region rfl ?_
              refine ops_ex rfl (guard_none rfl) rfl rfl (ex_move rfl rfl) ?_
              refine ops_ex rfl (guard_none rfl) rfl rfl (ex_move rfl rfl) ?_
              refine ops_ex rfl (guard_none rfl) rfl rfl (ex_indexAddr (d := kStr) rfl rfl rfl Tryd.underlying103 tsz9 (HM.own_rd 4 rfl) (idx_lo e2346) (idx_hi e2346)) ?_
              refine ops_ex rfl (guard_none rfl) rfl rfl (ex_load1 rfl rfl Tryd.underlying9 rfl ((rd_plain (HM.own_rd 4 rfl) e2346) 0 _ rfl)) ?_
              refine ops_does rfl (guard_none rfl) rfl rfl (does_callk rfl callok82 rfl (spec_l2Number.calls (x0 := (gt t2262 a2326)) (x1 := 2) h2348)) ?_
              rintro _ w2349 ⟨rfl, hn⟩
              replace HM : Mem w [] w2349 [box b2220 51 [.int .i64 0, .int .i64 0, .int .i64 0, .slice none 0 0], own kStr 9 u2226 t2224, box b2250 51 [.int .i64 t2239.1, .int .i64 t2243.1, .int .i64 t2247.1, v2322], own kInt 2 v2322 a2323, own kStr 9 u2264 t2262] := HM.call hn
              refine ops_ex rfl (guard_none rfl) rfl rfl (ex_move rfl rfl) ?_
              refine ops_ex rfl (guard_none rfl) rfl rfl (ex_extract rfl rfl rfl) ?_
              refine ops_ex rfl (guard_none rfl) rfl rfl (ex_extract rfl rfl rfl) ?_
              refine ops_ex rfl (guard_none rfl) rfl rfl (ex_assign rfl rfl) ?_
              refine ops_ex rfl (guard_none rfl) rfl rfl (ex_assign rfl rfl) ?_
              refine ops_nil ?_
              refine at_then ?_
              refine run_seq ?_
              refine run_meet (fun ρ_ w_ => ρ_ = [(2, .pointer (some ⟨b2220, 0, none⟩)), (4, u2226), (11, .pointer (some ⟨b2250, 0, none⟩)), (12, .bool (a2325 && t2347.2)), (13, u2264), (14, .int .i64 a2326), (15, .int .i64 t2347.1)] ∧ Mem w [] w_ [box b2220 51 [.int .i64 0, .int .i64 0, .int .i64 0, .slice none 0 0], own kStr 9 u2226 t2224, box b2250 51 [.int .i64 t2239.1, .int .i64 t2243.1, .int .i64 t2247.1, v2322], own kInt 2 v2322 a2323, own kStr 9 u2264 t2262]) ?_ ?_
              · skip
                refine run_region rfl ?_
                refine ops_ex rfl (guard_none rfl) rfl rfl (ex_move rfl rfl) ?_
                refine ops_ex rfl (guard_none rfl) rfl rfl (ex_move rfl rfl) ?_
                refine bool_cases a2325 (fun hg2350 => ?_) (fun hg2350 => ?_)
                · skip
                  refine ops_ex rfl (guard_on rfl rfl rfl hg2350) rfl rfl (ex_move rfl rfl) ?_
                  refine ops_ex (v := .bool (a2325 && t2347.2)) rfl (guard_none rfl) rfl rfl (ex_pand_t rfl rfl hg2350 rfl) ?_
                  refine ops_ex rfl (guard_none rfl) rfl rfl (ex_assign rfl rfl) ?_
                  refine ops_nil ?_
                  exact at_meet [(2, .pointer (some ⟨b2220, 0, none⟩)), (4, u2226), (11, .pointer (some ⟨b2250, 0, none⟩)), (12, .bool (a2325 && t2347.2)), (13, u2264), (14, .int .i64 a2326), (15, .int .i64 t2347.1)] ⟨rfl, HM⟩ (Sub.cons rfl (Sub.cons rfl (Sub.cons rfl (Sub.cons rfl (Sub.cons rfl (Sub.cons rfl (Sub.cons rfl Sub.nil)))))))
                · skip
                  refine ops_off rfl (guard_off rfl rfl rfl hg2350) rfl rfl ?_
                  have hg2351 : (a2325 && t2347.2) = false := by simp only [hg2350, Bool.and_true, Bool.true_and, Bool.and_false, Bool.false_and, Bool.or_true, Bool.true_or, Bool.or_false, Bool.false_or, Bool.not_true, Bool.not_false, Bool.not_not]
                  refine ops_ex (v := .bool (a2325 && t2347.2)) rfl (guard_none rfl) rfl rfl (ex_pand_f rfl rfl hg2350) ?_
                  refine ops_ex rfl (guard_none rfl) rfl rfl (ex_assign rfl rfl) ?_
                  refine ops_nil ?_
                  exact at_meet [(2, .pointer (some ⟨b2220, 0, none⟩)), (4, u2226), (11, .pointer (some ⟨b2250, 0, none⟩)), (12, .bool (a2325 && t2347.2)), (13, u2264), (14, .int .i64 a2326), (15, .int .i64 t2347.1)] ⟨rfl, HM⟩ (Sub.cons rfl (Sub.cons rfl (Sub.cons rfl (Sub.cons rfl (Sub.cons rfl (Sub.cons rfl (Sub.cons rfl Sub.nil)))))))
              · rintro _ w2352 ⟨rfl, HM⟩
                refine at_then ?_
                obtain ⟨e2356, ho2310⟩ := chk_some ho2310
                refine run_region rfl ?_
                refine ops_ex rfl (guard_none rfl) rfl rfl (ex_fieldAddr (off' := 3) rfl rfl Tryd.underlying51 rfl tsz38 rfl) ?_
                refine ops_ex rfl (guard_none rfl) rfl rfl (ex_load1 rfl rfl Tryd.underlying38 rfl ((HM.box_at 2 rfl) 3 _ rfl)) ?_
                refine ops_ex rfl (guard_none rfl) rfl rfl (ex_move rfl rfl) ?_
                refine ops_does rfl (guard_none rfl) rfl rfl (does_lit (e := 2) (cs := [.int .i64 t2347.1]) (xs := ([t2347.1] : List Int)) kInt rfl rfl (fun _ => by kernel_rfl) rfl rfl (fun _ _ h => by have h' : _ = [] := h; subst h'; exact (Elems.cons (d := kInt) (x := t2347.1) (f := []) ⟨rfl, rfl⟩ .nil)) HM.emp) ?_
                rintro v2353 w2359 HM
                replace HM := HM.front 4 rfl rfl
                refine ops_does rfl (guard_none rfl) rfl rfl (does_appendR kInt flat_plain rfl rfl rfl Tryd.underlying38 tsz2 rfl tby2 tz2 rfl rfl (leB_le e2356) (HM.own_rd 1 rfl) HM) ?_
                rintro v2357 w2360 HM
                refine ops_ex rfl (guard_none rfl) rfl rfl (ex_fieldAddr (off' := 3) rfl rfl Tryd.underlying51 rfl tsz38 rfl) ?_
                replace HM := HM.front 4 rfl rfl
                refine ops_doesS rfl (guard_none rfl) rfl (does_store (vs := [v2357]) (cs' := [.int .i64 t2239.1, .int .i64 t2243.1, .int .i64 t2247.1, v2357]) rfl rfl rfl (rd_cells (HM.own_rd 1 rfl)) tsz38 (Ones.rd (HM.own_rd 1 rfl) Ones.nil) rfl rfl HM) ?_
                rintro w2361 HM
                refine ops_nil ?_
                refine at_block ?_
                refine at_then ?_
                refine run_region rfl ?_
                refine ops_ex rfl (guard_none rfl) rfl rfl (ex_move rfl rfl) ?_
                refine ops_ex rfl (guard_none rfl) rfl rfl (ex_add rfl rfl rfl) ?_
                refine ops_ex rfl (guard_none rfl) rfl rfl (ex_assign rfl rfl) ?_
                refine ops_nil ?_
                replace HM := (HM.front 2 rfl rfl).drop
                replace HM := HM.front 4 rfl rfl
                replace HM := HM.front 2 rfl rfl
                replace HM := HM.front 2 rfl rfl
                replace HM := HM.front 4 rfl rfl
                replace HM := HM.front 4 rfl rfl
                exact at_again k2339 (ρ1 := [(2, .pointer (some ⟨b2220, 0, none⟩)), (4, u2226), (11, .pointer (some ⟨b2250, 0, none⟩)), (12, .bool (a2325 && t2347.2)), (13, u2264), (14, .int .i64 (wrap64 (a2326 + 1)))]) (Nat.lt_succ_self _) ⟨_, _, _, _, ho2310, rfl, HM⟩ (Sub.cons rfl (Sub.cons rfl (Sub.cons rfl (Sub.cons rfl (Sub.cons rfl (Sub.cons rfl Sub.nil))))))
            · replace ho2310 := cond_f hb2345 ho2310
              refine run_exit ?_
              refine at_then_exit ?_
              refine at_then_exit ?_
              refine at_block_exit ?_
              replace HM := (HM.front 1 rfl rfl).drop
              replace HM := (HM.front 3 rfl rfl).drop
              exact at_mid (ρ' := [(2, .pointer (some ⟨b2220, 0, none⟩)), (11, .pointer (some ⟨b2250, 0, none⟩)), (12, .bool a2325)]) ⟨_, _, _, (Option.some.inj ho2310), rfl, HM⟩ (Sub.cons rfl (Sub.cons rfl (Sub.cons rfl Sub.nil)))
        · rintro _ w2362 ⟨v2305, a2306, a2308, rfl, rfl, HM⟩
          replace H := cur2_mk H
          refine run_seq ?_
          obtain ⟨t2363, h2364, H⟩ := bind_some H
          refine run_meet (fun ρ_ w_ => ρ_ = [(2, .pointer (some ⟨b2220, 0, none⟩)), (3, .bool (a2308 && (t2363 == 0)))] ∧ Mem w [] w_ [box b2220 51 [.int .i64 t2239.1, .int .i64 t2243.1, .int .i64 t2247.1, v2305], own kInt 2 v2305 a2306]) ?_ ?_
          · skip
            refine run_drawf (fun w_ => Mem w [] w_ [box b2250 51 [.int .i64 t2239.1, .int .i64 t2243.1, .int .i64 t2247.1, v2305], own kInt 2 v2305 a2306]) [(0, true), (1, true), (2, true), (3, false), (4, true), (5, true), (6, false), (7, true)] mixed rfl rfl (by kernel_rfl) ?_
            replace HM := HM.grow (fr_drew _)
            have hS := Mem.suf (M := [box b2220 51 [.int .i64 0, .int .i64 0, .int .i64 0, .slice none 0 0]]) HM
            refine drwp_take rfl (guard_none rfl) rfl rfl (fun w_ hS_ => (ex_loadN (cs := [(.int .i64 t2239.1), (.int .i64 t2243.1), (.int .i64 t2247.1), v2305]) rfl rfl Tryd.underlying51 rfl tsz51 rfl ((hS_.box_at 0 rfl).sub 0 4 rfl))) hS ?_
            refine drwp_take rfl (guard_none rfl) rfl rfl (fun w_ hS_ => (ex_move rfl rfl)) hS ?_
            refine drwp_take rfl (guard_none rfl) rfl rfl (fun w_ hS_ => (ex_move rfl rfl)) hS ?_
            refine bool_cases a2308 (fun hg2365 => ?_) (fun hg2365 => ?_)
            · skip
              refine drwp_one rfl (guard_on rfl rfl rfl hg2365) rfl rfl (does_callk rfl callok53 rfl (spec_l7Fault.calls (x0 := (⟨t2239.1, t2243.1, t2247.1, a2306⟩ : Block)) (HM.box_at 1 rfl) (HM.own_rd 2 rfl) (cond_t hg2365 h2364))) ?_
              rintro _ w2366 ⟨rfl, hn⟩
              replace HM : Mem w [] w2366 [box b2220 51 [.int .i64 0, .int .i64 0, .int .i64 0, .slice none 0 0], box b2250 51 [.int .i64 t2239.1, .int .i64 t2243.1, .int .i64 t2247.1, v2305], own kInt 2 v2305 a2306] := HM.call hn
              refine ⟨Mem.suf (M := [box b2220 51 [.int .i64 0, .int .i64 0, .int .i64 0, .slice none 0 0]]) HM, ?_⟩
              have hS := Mem.suf (M := [box b2220 51 [.int .i64 0, .int .i64 0, .int .i64 0, .slice none 0 0]]) HM
              refine drwp_take rfl (guard_on rfl rfl rfl hg2365) rfl rfl (fun w_ hS_ => (ex_eql rfl rfl rfl)) hS ?_
              refine drwp_take (v := .bool (a2308 && (t2363 == 0))) rfl (guard_none rfl) rfl rfl (fun w_ hS_ => (ex_pand_t rfl rfl hg2365 rfl)) hS ?_
              refine drwp_oneS rfl (guard_none rfl) rfl (does_store (vs := [.int .i64 t2239.1, .int .i64 t2243.1, .int .i64 t2247.1, v2305]) (cs' := [.int .i64 t2239.1, .int .i64 t2243.1, .int .i64 t2247.1, v2305]) rfl rfl rfl rfl tsz51 (Ones.int (Ones.int (Ones.int (Ones.rd (HM.own_rd 2 rfl) Ones.nil)))) rfl rfl HM) ?_
              rintro w2367 HM
              refine ⟨Mem.suf (M := [box b2220 51 [.int .i64 t2239.1, .int .i64 t2243.1, .int .i64 t2247.1, v2305]]) HM, ?_⟩
              have hS := Mem.suf (M := [box b2220 51 [.int .i64 t2239.1, .int .i64 t2243.1, .int .i64 t2247.1, v2305]]) HM
              refine drwp_take rfl (guard_none rfl) rfl rfl (fun w_ hS_ => (ex_assign rfl rfl)) hS ?_
              refine drwp_done ?_
              replace HM := (HM.front 1 rfl rfl).drop
              exact at_meet [(2, .pointer (some ⟨b2220, 0, none⟩)), (3, .bool (a2308 && (t2363 == 0)))] ⟨rfl, HM⟩ (Sub.cons rfl (Sub.cons rfl Sub.nil))
            · skip
              refine drwp_off1 rfl (guard_off rfl rfl rfl hg2365) rfl rfl ⟨hS, ?_⟩
              refine drwp_off rfl (guard_off rfl rfl rfl hg2365) rfl rfl hS ?_
              have hg2368 : (a2308 && (t2363 == 0)) = false := by simp only [hg2365, Bool.and_true, Bool.true_and, Bool.and_false, Bool.false_and, Bool.or_true, Bool.true_or, Bool.or_false, Bool.false_or, Bool.not_true, Bool.not_false, Bool.not_not]
              refine drwp_take (v := .bool (a2308 && (t2363 == 0))) rfl (guard_none rfl) rfl rfl (fun w_ hS_ => (ex_pand_f rfl rfl hg2365)) hS ?_
              refine drwp_oneS rfl (guard_none rfl) rfl (does_store (vs := [.int .i64 t2239.1, .int .i64 t2243.1, .int .i64 t2247.1, v2305]) (cs' := [.int .i64 t2239.1, .int .i64 t2243.1, .int .i64 t2247.1, v2305]) rfl rfl rfl rfl tsz51 (Ones.int (Ones.int (Ones.int (Ones.rd (HM.own_rd 2 rfl) Ones.nil)))) rfl rfl HM) ?_
              rintro w2369 HM
              refine ⟨Mem.suf (M := [box b2220 51 [.int .i64 t2239.1, .int .i64 t2243.1, .int .i64 t2247.1, v2305]]) HM, ?_⟩
              have hS := Mem.suf (M := [box b2220 51 [.int .i64 t2239.1, .int .i64 t2243.1, .int .i64 t2247.1, v2305]]) HM
              refine drwp_take rfl (guard_none rfl) rfl rfl (fun w_ hS_ => (ex_assign rfl rfl)) hS ?_
              refine drwp_done ?_
              replace HM := (HM.front 1 rfl rfl).drop
              exact at_meet [(2, .pointer (some ⟨b2220, 0, none⟩)), (3, .bool (a2308 && (t2363 == 0)))] ⟨rfl, HM⟩ (Sub.cons rfl (Sub.cons rfl Sub.nil))
          · rintro _ w2370 ⟨rfl, HM⟩
            refine at_then ?_
            refine run_ret ?_
            have hcb0 := HM.box_at 0 rfl
            replace HM := (HM.front 0 rfl rfl).drop
            have hR := Option.some.inj H
            subst hR
            exact at_retN1 rfl rfl rfl Tryd.underlying51 rfl tsz51 rfl hcb0 ⟨_, rfl, _, rfl, HM⟩
end Go.Proofs.YtcpacdbdehphkaaDoor.Zk
