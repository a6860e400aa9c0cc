/- What functions of the program compute, each as a plain function, and that they do. Conditions: as each theorem states them. -/
import Derived.Test.YtcpacdbdehphkaaDoorParseRuleZkTy
namespace Go.Proofs.YtcpacdbdehphkaaDoor.Zk
open Go Go.RowKit Go.IntWalk Go.Proofs
set_option linter.unusedVariables false
set_option linter.unusedSimpArgs false
set_option maxRecDepth 100000
set_option maxHeartbeats 4000000
def spec_l2Cut.l0 (x0 : ByteArray) (x1 : Int) : Nat → (List ByteArray) → Int → Int → Option ((List ByteArray))
  | 0, _, _, _ => none
  | k + 1, a114, a116, a117 => (bif (decide (a117 ≤ (x0.size : Int))) then (chk (!(!(a117 == (x0.size : Int))) || (idxOk a117 x0.size)) (bif ((a117 == (x0.size : Int)) || ((bt x0 a117) == x1)) then (chk (cutOk a117 x0.size) (chk (cutOk a116 (a117).toNat) (chk (leB ((a114.length + ([x0.extract (a116).toNat (a117).toNat] : List ByteArray).length) * 16) 140737488355328) (spec_l2Cut.l0 x0 x1 k (a114 ++ ([x0.extract (a116).toNat (a117).toNat] : List ByteArray)) (wrap64 (a117 + 1)) (wrap64 (a117 + 1)))))) else spec_l2Cut.l0 x0 x1 k a114 a116 (wrap64 (a117 + 1)))) else some a114)
theorem spec_l2Cut.l0_z (x0 : ByteArray) (x1 : Int) (a114 : List ByteArray) (a116 : Int) (a117 : Int) : spec_l2Cut.l0 x0 x1 0 a114 a116 a117 = none := rfl
theorem spec_l2Cut.l0_s (x0 : ByteArray) (x1 : Int) (k : Nat) (a114 : List ByteArray) (a116 : Int) (a117 : Int) : spec_l2Cut.l0 x0 x1 (k + 1) a114 a116 a117 = (bif (decide (a117 ≤ (x0.size : Int))) then (chk (!(!(a117 == (x0.size : Int))) || (idxOk a117 x0.size)) (bif ((a117 == (x0.size : Int)) || ((bt x0 a117) == x1)) then (chk (cutOk a117 x0.size) (chk (cutOk a116 (a117).toNat) (chk (leB ((a114.length + ([x0.extract (a116).toNat (a117).toNat] : List ByteArray).length) * 16) 140737488355328) (spec_l2Cut.l0 x0 x1 k (a114 ++ ([x0.extract (a116).toNat (a117).toNat] : List ByteArray)) (wrap64 (a117 + 1)) (wrap64 (a117 + 1)))))) else spec_l2Cut.l0 x0 x1 k a114 a116 (wrap64 (a117 + 1)))) else some a114) := rfl
def spec_l2Cut.f (k : Nat) (x0 : ByteArray) (x1 : Int) : Option ((List ByteArray)) := ((spec_l2Cut.l0 x0 x1 k ([] : List ByteArray) 0 0).bind (fun a98 => some a98))
theorem spec_l2Cut.calls {k : Nat} {x0 : ByteArray} {x1 : Int}  {w : World}  {r : (List ByteArray)} (H : spec_l2Cut.f k x0 x1 = some r) :
    Calls Tryd.prog 81 ([.string x0, .int .u8 x1] : List Value).toArray w (fun e w_ => ∃ v, e = .returned v ∧ ∃ u0 : Value, v = u0 ∧ Mem w [] w_ [own kStr 9 u0 r]) := by
  have HM := Mem.start w
  refine calls_run (N := 36) Tryd.func81 rfl rfl rfl rfl ?_
  unfold spec_l2Cut.f at H
  refine run_seq ?_
  refine run_region rfl ?_
  refine ops_ex rfl (guard_none rfl) rfl rfl (ex_assign rfl rfl) ?_
  refine ops_nil ?_
  refine at_then ?_
  refine run_seq ?_
  refine run_region rfl ?_
  refine ops_does rfl (guard_none rfl) rfl rfl (does_lit (e := 9) (cs := []) (xs := ([] : List ByteArray)) kStr rfl rfl (fun _ => by kernel_rfl) rfl rfl (fun _ _ h => by have h' : _ = [] := h; subst h'; exact .nil) HM.emp) ?_
  rintro v55 w58 HM
  refine ops_ex rfl (guard_none rfl) rfl rfl (ex_assign rfl rfl) ?_
  refine ops_nil ?_
  refine at_then ?_
  refine run_seq ?_
  refine run_region rfl ?_
  refine ops_ex rfl (guard_none rfl) rfl rfl (ex_assign rfl rfl) ?_
  refine ops_nil ?_
  refine at_then ?_
  obtain ⟨o100, ho101, H⟩ := bind_some H
  refine run_mid (fun ρ_ w_ => ∃ v97 : Value, ∃ a98 : List ByteArray, a98 = o100 ∧ ρ_ = [(5, v97)] ∧ Mem w [] w_ [own kStr 9 v97 a98]) ?_ ?_
  · clear H
    refine run_seq ?_
    refine run_region rfl ?_
    refine ops_ex rfl (guard_none rfl) rfl rfl (ex_assign rfl rfl) ?_
    refine ops_nil ?_
    refine at_then ?_
    refine run_block ?_
    refine run_loop (fun k_ ρ_ w_ => ∃ v113 : Value, ∃ a114 : List ByteArray, ∃ a116 : Int, ∃ a117 : Int, spec_l2Cut.l0 x0 x1 k_ a114 a116 a117 = some o100 ∧ ρ_ = [(0, .string x0), (1, .int .u8 x1), (5, v113), (6, .int .i64 a116), (7, .int .i64 a117)] ∧ Mem w [] w_ [own kStr 9 v113 a114]) k (ρ1 := [(0, .string x0), (1, .int .u8 x1), (5, v55), (6, .int .i64 0), (7, .int .i64 0)]) ⟨_, _, _, _, ho101, rfl, HM⟩ (Sub.cons rfl (Sub.cons rfl (Sub.cons rfl (Sub.cons rfl (Sub.cons rfl Sub.nil))))) ?_
    clear HM ho101
    rintro k129 _ w130 ⟨v113, a114, a116, a117, ho101, rfl, HM⟩
    obtain _ | k129 := k129
    · exact nomatch ((spec_l2Cut.l0_z x0 x1 a114 a116 a117).symm.trans ho101)
    replace ho101 := (spec_l2Cut.l0_s x0 x1 k129 a114 a116 a117).symm.trans ho101
    refine run_seq ?_
    refine run_seq ?_
    refine run_region rfl ?_
    refine ops_ex rfl (guard_none rfl) rfl rfl (ex_move rfl rfl) ?_
    refine ops_ex rfl (guard_none rfl) rfl rfl (ex_move rfl rfl) ?_
    refine ops_ex rfl (guard_none rfl) rfl rfl (ex_strlen rfl rfl Tryd.underlying9) ?_
    refine ops_ex rfl (guard_none rfl) rfl rfl (ex_leq rfl rfl rfl) ?_
    refine ops_nil ?_
    refine at_then ?_
    refine run_cond (b := (decide (a117 ≤ (x0.size : Int)))) rfl (fun hb131 => ?_) (fun hb131 => ?_)
    · replace ho101 := cond_t hb131 ho101
      refine run_skip ?_
      refine at_then ?_
      refine run_seq ?_
      refine run_block ?_
      refine run_seq ?_
      obtain ⟨e132, ho101⟩ := chk_some ho101
      refine run_meet (fun ρ_ w_ => ρ_ = [(0, .string x0), (1, .int .u8 x1), (5, v113), (6, .int .i64 a116), (7, .int .i64 a117), (25, .bool ((a117 == (x0.size : Int)) || ((bt x0 a117) == x1)))] ∧ Mem w [] w_ [own kStr 9 v113 a114]) ?_ ?_
      · skip
        refine run_region rfl ?_
        refine ops_ex rfl (guard_none rfl) rfl rfl (ex_move rfl rfl) ?_
        refine ops_ex rfl (guard_none rfl) rfl rfl (ex_move rfl rfl) ?_
        refine ops_ex rfl (guard_none rfl) rfl rfl (ex_strlen rfl rfl Tryd.underlying9) ?_
        refine ops_ex rfl (guard_none rfl) rfl rfl (ex_eql rfl rfl rfl) ?_
        refine ops_ex rfl (guard_none rfl) rfl rfl (ex_move rfl rfl) ?_
        refine bool_cases (a117 == (x0.size : Int)) (fun hg133 => ?_) (fun hg133 => ?_)
        · skip
          refine ops_off rfl (guard_off rfl rfl rfl hg133) rfl rfl ?_
          refine ops_off rfl (guard_off rfl rfl rfl hg133) rfl rfl ?_
          refine ops_off rfl (guard_off rfl rfl rfl hg133) rfl rfl ?_
          refine ops_off rfl (guard_off rfl rfl rfl hg133) rfl rfl ?_
          refine ops_off rfl (guard_off rfl rfl rfl hg133) rfl rfl ?_
          have hg134 : ((a117 == (x0.size : Int)) || ((bt x0 a117) == x1)) = true := by simp only [hg133, Bool.and_true, Bool.true_and, Bool.and_false, Bool.false_and, Bool.or_true, Bool.true_or, Bool.or_false, Bool.false_or, Bool.not_true, Bool.not_false, Bool.not_not]
          refine ops_ex (v := .bool ((a117 == (x0.size : Int)) || ((bt x0 a117) == x1))) rfl (guard_none rfl) rfl rfl (ex_por_t rfl rfl hg133) ?_
          refine ops_nil ?_
          exact at_meet [(0, .string x0), (1, .int .u8 x1), (5, v113), (6, .int .i64 a116), (7, .int .i64 a117), (25, .bool ((a117 == (x0.size : Int)) || ((bt x0 a117) == x1)))] ⟨rfl, HM⟩ (Sub.cons rfl (Sub.cons rfl (Sub.cons rfl (Sub.cons rfl (Sub.cons rfl (Sub.cons rfl Sub.nil))))))
        · skip
          refine ops_ex rfl (guard_on rfl rfl rfl hg133) rfl rfl (ex_move rfl rfl) ?_
          refine ops_ex rfl (guard_on rfl rfl rfl hg133) rfl rfl (ex_move rfl rfl) ?_
          refine ops_ex rfl (guard_on rfl rfl rfl hg133) rfl rfl (ex_sindex rfl rfl rfl Tryd.underlying9 (idx_lo (or_t e132 (not_mk hg133))) (idx_hi (or_t e132 (not_mk hg133)))) ?_
          refine ops_ex rfl (guard_on rfl rfl rfl hg133) rfl rfl (ex_move rfl rfl) ?_
          refine ops_ex rfl (guard_on rfl rfl rfl hg133) rfl rfl (ex_eql rfl rfl rfl) ?_
          refine ops_ex (v := .bool ((a117 == (x0.size : Int)) || ((bt x0 a117) == x1))) rfl (guard_none rfl) rfl rfl (ex_por_f rfl rfl hg133 rfl) ?_
          refine ops_nil ?_
          exact at_meet [(0, .string x0), (1, .int .u8 x1), (5, v113), (6, .int .i64 a116), (7, .int .i64 a117), (25, .bool ((a117 == (x0.size : Int)) || ((bt x0 a117) == x1)))] ⟨rfl, HM⟩ (Sub.cons rfl (Sub.cons rfl (Sub.cons rfl (Sub.cons rfl (Sub.cons rfl (Sub.cons rfl Sub.nil))))))
      · rintro _ w135 ⟨rfl, HM⟩
        refine at_then ?_
        refine run_cond (b := ((a117 == (x0.size : Int)) || ((bt x0 a117) == x1))) rfl (fun hb136 => ?_) (fun hb136 => ?_)
        · replace ho101 := cond_t hb136 ho101
          refine run_seq ?_
          obtain ⟨e137, ho101⟩ := chk_some ho101
          obtain ⟨e138, ho101⟩ := chk_some ho101
          obtain ⟨e142, ho101⟩ := chk_some ho101
          refine run_region rfl ?_
          refine ops_ex rfl (guard_none rfl) rfl rfl (ex_move rfl rfl) ?_
          refine ops_ex rfl (guard_none rfl) rfl rfl (ex_move rfl rfl) ?_
          refine ops_ex rfl (guard_none rfl) rfl rfl (ex_move rfl rfl) ?_
          refine ops_ex rfl (guard_none rfl) rfl rfl (ex_move rfl rfl) ?_
          refine ops_ex rfl (guard_none rfl) rfl rfl (ex_scutLH rfl rfl rfl rfl Tryd.underlying9 e138 e137) ?_
          refine ops_does rfl (guard_none rfl) rfl rfl (does_lit (e := 9) (cs := [.string (x0.extract (a116).toNat (a117).toNat)]) (xs := ([x0.extract (a116).toNat (a117).toNat] : List ByteArray)) kStr rfl rfl (fun _ => by kernel_rfl) rfl rfl (fun _ _ h => by have h' : _ = [] := h; subst h'; exact (Elems.cons (d := kStr) (f := []) ⟨rfl, rfl⟩ .nil)) HM.emp) ?_
          rintro v139 w145 HM
          replace HM := HM.front 1 rfl rfl
          refine ops_does rfl (guard_none rfl) rfl rfl (does_appendR kStr flat_plain rfl rfl rfl Tryd.underlying103 tsz9 rfl tby9 tz9 rfl rfl (leB_le e142) (HM.own_rd 1 rfl) HM) ?_
          rintro v143 w146 HM
          refine ops_ex rfl (guard_none rfl) rfl rfl (ex_assign rfl rfl) ?_
          refine ops_nil ?_
          refine at_then ?_
          refine run_region rfl ?_
          refine ops_ex rfl (guard_none rfl) rfl rfl (ex_move rfl rfl) ?_
          refine ops_ex rfl (guard_none rfl) rfl rfl (ex_add rfl rfl rfl) ?_
          refine ops_ex rfl (guard_none rfl) rfl rfl (ex_assign rfl rfl) ?_
          refine ops_nil ?_
          refine at_block ?_
          refine at_then ?_
          refine run_region rfl ?_
          refine ops_ex rfl (guard_none rfl) rfl rfl (ex_move rfl rfl) ?_
          refine ops_ex rfl (guard_none rfl) rfl rfl (ex_add rfl rfl rfl) ?_
          refine ops_ex rfl (guard_none rfl) rfl rfl (ex_assign rfl rfl) ?_
          refine ops_nil ?_
          replace HM := (HM.front 1 rfl rfl).drop
          exact at_again k129 (ρ1 := [(0, .string x0), (1, .int .u8 x1), (5, v143), (6, .int .i64 (wrap64 (a117 + 1))), (7, .int .i64 (wrap64 (a117 + 1)))]) (Nat.lt_succ_self _) ⟨_, _, _, _, ho101, rfl, HM⟩ (Sub.cons rfl (Sub.cons rfl (Sub.cons rfl (Sub.cons rfl (Sub.cons rfl Sub.nil)))))
        · replace ho101 := cond_f hb136 ho101
          refine run_skip ?_
          refine at_block ?_
          refine at_then ?_
          refine run_region rfl ?_
          refine ops_ex rfl (guard_none rfl) rfl rfl (ex_move rfl rfl) ?_
          refine ops_ex rfl (guard_none rfl) rfl rfl (ex_add rfl rfl rfl) ?_
          refine ops_ex rfl (guard_none rfl) rfl rfl (ex_assign rfl rfl) ?_
          refine ops_nil ?_
          exact at_again k129 (ρ1 := [(0, .string x0), (1, .int .u8 x1), (5, v113), (6, .int .i64 a116), (7, .int .i64 (wrap64 (a117 + 1)))]) (Nat.lt_succ_self _) ⟨_, _, _, _, ho101, rfl, HM⟩ (Sub.cons rfl (Sub.cons rfl (Sub.cons rfl (Sub.cons rfl (Sub.cons rfl Sub.nil)))))
    · replace ho101 := cond_f hb131 ho101
      refine run_exit ?_
      refine at_then_exit ?_
      refine at_then_exit ?_
      refine at_block_exit ?_
      exact at_mid (ρ' := [(5, v113)]) ⟨_, _, (Option.some.inj ho101), rfl, HM⟩ (Sub.cons rfl Sub.nil)
  · rintro _ w147 ⟨v97, a98, rfl, rfl, HM⟩
    refine run_seq ?_
    refine run_region rfl ?_
    refine ops_ex rfl (guard_none rfl) rfl rfl (ex_move rfl rfl) ?_
    refine ops_ex rfl (guard_none rfl) rfl rfl (ex_assign rfl rfl) ?_
    refine ops_nil ?_
    refine at_then ?_
    refine run_ret ?_
    have hR := Option.some.inj H
    subst hR
    exact at_ret1 rfl rfl ⟨_, rfl, _, rfl, HM⟩

def spec_l2Number.l0 (x0 : ByteArray) : Nat → Int → Int → Option ((Int × Bool) ⊕ Int)
  | 0, _, _ => none
  | k + 1, a239, a240 => (bif (decide (a240 < (x0.size : Int))) then (chk (idxOk a240 x0.size) (chk (!(!(decide ((bt x0 a240) < 48))) || (idxOk a240 x0.size)) (bif ((decide ((bt x0 a240) < 48)) || (decide (57 < (bt x0 a240)))) then some (.inl (0, false)) else (chk (idxOk a240 x0.size) (spec_l2Number.l0 x0 k (wrap64 ((wrap64 (a239 * 10)) + (wrap64 (IntKind.u8.wrap ((bt x0 a240) - 48))))) (wrap64 (a240 + 1))))))) else some (.inr a239))
theorem spec_l2Number.l0_z (x0 : ByteArray) (a239 : Int) (a240 : Int) : spec_l2Number.l0 x0 0 a239 a240 = none := rfl
theorem spec_l2Number.l0_s (x0 : ByteArray) (k : Nat) (a239 : Int) (a240 : Int) : spec_l2Number.l0 x0 (k + 1) a239 a240 = (bif (decide (a240 < (x0.size : Int))) then (chk (idxOk a240 x0.size) (chk (!(!(decide ((bt x0 a240) < 48))) || (idxOk a240 x0.size)) (bif ((decide ((bt x0 a240) < 48)) || (decide (57 < (bt x0 a240)))) then some (.inl (0, false)) else (chk (idxOk a240 x0.size) (spec_l2Number.l0 x0 k (wrap64 ((wrap64 (a239 * 10)) + (wrap64 (IntKind.u8.wrap ((bt x0 a240) - 48))))) (wrap64 (a240 + 1))))))) else some (.inr a239)) := rfl
def spec_l2Number.f (k : Nat) (x0 : ByteArray) (x1 : Int) : Option (Int × Bool) := (chk (!((!((decide ((x0.size : Int) < 1)) || (decide (x1 < (x0.size : Int))))) && (decide (1 < (x0.size : Int)))) || (idxOk 0 x0.size)) (bif (((decide ((x0.size : Int) < 1)) || (decide (x1 < (x0.size : Int)))) || ((decide (1 < (x0.size : Int))) && ((bt x0 0) == 48))) then some (0, false) else ((spec_l2Number.l0 x0 k 0 0).bind fun o229 => thn o229 (fun r => some r) (fun a228 => some (a228, true)))))
theorem spec_l2Number.calls {k : Nat} {x0 : ByteArray} {x1 : Int}  {w : World}  {r : Int × Bool} (H : spec_l2Number.f k x0 x1 = some r) :
    Calls Tryd.prog 82 ([.string x0, .int .i64 x1] : List Value).toArray w (fun e w_ => ∃ v, e = .returned v ∧ v = (.tuple #[.int .i64 r.1, .bool r.2]) ∧ Mem w [] w_ []) := by
  have HM := Mem.start w
  refine calls_run (N := 52) Tryd.func82 rfl rfl rfl rfl ?_
  unfold spec_l2Number.f at H
  refine run_seq ?_
  refine run_region rfl ?_
  refine ops_ex rfl (guard_none rfl) rfl rfl (ex_assign rfl rfl) ?_
  refine ops_ex rfl (guard_none rfl) rfl rfl (ex_assign rfl rfl) ?_
  refine ops_nil ?_
  refine at_then ?_
  refine run_seq ?_
  refine run_seq ?_
  obtain ⟨e192, H⟩ := chk_some H
  refine run_meet (fun ρ_ w_ => ρ_ = [(0, .string x0), (26, .bool (((decide ((x0.size : Int) < 1)) || (decide (x1 < (x0.size : Int)))) || ((decide (1 < (x0.size : Int))) && ((bt x0 0) == 48))))] ∧ Mem w [] w_ []) ?_ ?_
  · skip
    refine run_region rfl ?_
    refine ops_ex rfl (guard_none rfl) rfl rfl (ex_move rfl rfl) ?_
    refine ops_ex rfl (guard_none rfl) rfl rfl (ex_strlen rfl rfl Tryd.underlying9) ?_
    refine ops_ex rfl (guard_none rfl) rfl rfl (ex_lss rfl rfl rfl) ?_
    refine ops_ex rfl (guard_none rfl) rfl rfl (ex_move rfl rfl) ?_
    refine bool_cases (decide ((x0.size : Int) < 1)) (fun hg193 => ?_) (fun hg193 => ?_)
    · skip
      refine ops_off rfl (guard_off rfl rfl rfl hg193) rfl rfl ?_
      refine ops_off rfl (guard_off rfl rfl rfl hg193) rfl rfl ?_
      refine ops_off rfl (guard_off rfl rfl rfl hg193) rfl rfl ?_
      refine ops_off rfl (guard_off rfl rfl rfl hg193) rfl rfl ?_
      have hg194 : ((decide ((x0.size : Int) < 1)) || (decide (x1 < (x0.size : Int)))) = true := by simp only [hg193, Bool.and_true, Bool.true_and, Bool.and_false, Bool.false_and, Bool.or_true, Bool.true_or, Bool.or_false, Bool.false_or, Bool.not_true, Bool.not_false, Bool.not_not]
      refine ops_ex (v := .bool ((decide ((x0.size : Int) < 1)) || (decide (x1 < (x0.size : Int))))) rfl (guard_none rfl) rfl rfl (ex_por_t rfl rfl hg193) ?_
      refine ops_ex rfl (guard_none rfl) rfl rfl (ex_move rfl rfl) ?_
      refine ops_off rfl (guard_off rfl rfl rfl hg194) rfl rfl ?_
      refine ops_off rfl (guard_off rfl rfl rfl hg194) rfl rfl ?_
      refine ops_off rfl (guard_off rfl rfl rfl hg194) rfl rfl ?_
      refine ops_off rfl (guard_off rfl rfl rfl hg194) rfl rfl ?_
      refine ops_off rfl (guard_undef rfl rfl rfl) rfl rfl ?_
      refine ops_off rfl (guard_undef rfl rfl rfl) rfl rfl ?_
      refine ops_off rfl (guard_undef rfl rfl rfl) rfl rfl ?_
      refine ops_off rfl (guard_off rfl rfl rfl hg194) rfl rfl ?_
      have hg195 : (((decide ((x0.size : Int) < 1)) || (decide (x1 < (x0.size : Int)))) || ((decide (1 < (x0.size : Int))) && ((bt x0 0) == 48))) = true := by simp only [hg194, Bool.and_true, Bool.true_and, Bool.and_false, Bool.false_and, Bool.or_true, Bool.true_or, Bool.or_false, Bool.false_or, Bool.not_true, Bool.not_false, Bool.not_not]
      refine ops_ex (v := .bool (((decide ((x0.size : Int) < 1)) || (decide (x1 < (x0.size : Int)))) || ((decide (1 < (x0.size : Int))) && ((bt x0 0) == 48)))) rfl (guard_none rfl) rfl rfl (ex_por_t rfl rfl hg194) ?_
      refine ops_nil ?_
      exact at_meet [(0, .string x0), (26, .bool (((decide ((x0.size : Int) < 1)) || (decide (x1 < (x0.size : Int)))) || ((decide (1 < (x0.size : Int))) && ((bt x0 0) == 48))))] ⟨rfl, HM⟩ (Sub.cons rfl (Sub.cons rfl Sub.nil))
    · skip
      refine ops_ex rfl (guard_on rfl rfl rfl hg193) rfl rfl (ex_move rfl rfl) ?_
      refine ops_ex rfl (guard_on rfl rfl rfl hg193) rfl rfl (ex_strlen rfl rfl Tryd.underlying9) ?_
      refine ops_ex rfl (guard_on rfl rfl rfl hg193) rfl rfl (ex_move rfl rfl) ?_
      refine ops_ex rfl (guard_on rfl rfl rfl hg193) rfl rfl (ex_gtr rfl rfl rfl) ?_
      refine ops_ex (v := .bool ((decide ((x0.size : Int) < 1)) || (decide (x1 < (x0.size : Int))))) rfl (guard_none rfl) rfl rfl (ex_por_f rfl rfl hg193 rfl) ?_
      refine ops_ex rfl (guard_none rfl) rfl rfl (ex_move rfl rfl) ?_
      refine bool_cases ((decide ((x0.size : Int) < 1)) || (decide (x1 < (x0.size : Int)))) (fun hg196 => ?_) (fun hg196 => ?_)
      · skip
        refine ops_off rfl (guard_off rfl rfl rfl hg196) rfl rfl ?_
        refine ops_off rfl (guard_off rfl rfl rfl hg196) rfl rfl ?_
        refine ops_off rfl (guard_off rfl rfl rfl hg196) rfl rfl ?_
        refine ops_off rfl (guard_off rfl rfl rfl hg196) rfl rfl ?_
        refine ops_off rfl (guard_undef rfl rfl rfl) rfl rfl ?_
        refine ops_off rfl (guard_undef rfl rfl rfl) rfl rfl ?_
        refine ops_off rfl (guard_undef rfl rfl rfl) rfl rfl ?_
        refine ops_off rfl (guard_off rfl rfl rfl hg196) rfl rfl ?_
        have hg197 : (((decide ((x0.size : Int) < 1)) || (decide (x1 < (x0.size : Int)))) || ((decide (1 < (x0.size : Int))) && ((bt x0 0) == 48))) = true := by simp only [hg196, Bool.and_true, Bool.true_and, Bool.and_false, Bool.false_and, Bool.or_true, Bool.true_or, Bool.or_false, Bool.false_or, Bool.not_true, Bool.not_false, Bool.not_not]
        refine ops_ex (v := .bool (((decide ((x0.size : Int) < 1)) || (decide (x1 < (x0.size : Int)))) || ((decide (1 < (x0.size : Int))) && ((bt x0 0) == 48)))) rfl (guard_none rfl) rfl rfl (ex_por_t rfl rfl hg196) ?_
        refine ops_nil ?_
        exact at_meet [(0, .string x0), (26, .bool (((decide ((x0.size : Int) < 1)) || (decide (x1 < (x0.size : Int)))) || ((decide (1 < (x0.size : Int))) && ((bt x0 0) == 48))))] ⟨rfl, HM⟩ (Sub.cons rfl (Sub.cons rfl Sub.nil))
      · skip
        refine ops_ex rfl (guard_on rfl rfl rfl hg196) rfl rfl (ex_move rfl rfl) ?_
        refine ops_ex rfl (guard_on rfl rfl rfl hg196) rfl rfl (ex_strlen rfl rfl Tryd.underlying9) ?_
        refine ops_ex rfl (guard_on rfl rfl rfl hg196) rfl rfl (ex_gtr rfl rfl rfl) ?_
        refine ops_ex rfl (guard_on rfl rfl rfl hg196) rfl rfl (ex_move rfl rfl) ?_
        refine bool_cases (decide (1 < (x0.size : Int))) (fun hg198 => ?_) (fun hg198 => ?_)
        · skip
          refine ops_ex rfl (guard_on rfl rfl rfl hg198) rfl rfl (ex_move rfl rfl) ?_
          refine ops_ex rfl (guard_on rfl rfl rfl hg198) rfl rfl (ex_sindex rfl rfl rfl Tryd.underlying9 (idx_lo (or_t e192 (and_mk (not_mk hg196) hg198))) (idx_hi (or_t e192 (and_mk (not_mk hg196) hg198)))) ?_
          refine ops_ex rfl (guard_on rfl rfl rfl hg198) rfl rfl (ex_eql rfl rfl rfl) ?_
          refine ops_ex (v := .bool ((decide (1 < (x0.size : Int))) && ((bt x0 0) == 48))) rfl (guard_on rfl rfl rfl hg196) rfl rfl (ex_pand_t rfl rfl hg198 rfl) ?_
          refine ops_ex (v := .bool (((decide ((x0.size : Int) < 1)) || (decide (x1 < (x0.size : Int)))) || ((decide (1 < (x0.size : Int))) && ((bt x0 0) == 48)))) rfl (guard_none rfl) rfl rfl (ex_por_f rfl rfl hg196 rfl) ?_
          refine ops_nil ?_
          exact at_meet [(0, .string x0), (26, .bool (((decide ((x0.size : Int) < 1)) || (decide (x1 < (x0.size : Int)))) || ((decide (1 < (x0.size : Int))) && ((bt x0 0) == 48))))] ⟨rfl, HM⟩ (Sub.cons rfl (Sub.cons rfl Sub.nil))
        · skip
          refine ops_off rfl (guard_off rfl rfl rfl hg198) rfl rfl ?_
          refine ops_off rfl (guard_off rfl rfl rfl hg198) rfl rfl ?_
          refine ops_off rfl (guard_off rfl rfl rfl hg198) rfl rfl ?_
          have hg199 : ((decide (1 < (x0.size : Int))) && ((bt x0 0) == 48)) = false := by simp only [hg198, Bool.and_true, Bool.true_and, Bool.and_false, Bool.false_and, Bool.or_true, Bool.true_or, Bool.or_false, Bool.false_or, Bool.not_true, Bool.not_false, Bool.not_not]
          refine ops_ex (v := .bool ((decide (1 < (x0.size : Int))) && ((bt x0 0) == 48))) rfl (guard_on rfl rfl rfl hg196) rfl rfl (ex_pand_f rfl rfl hg198) ?_
          refine ops_ex (v := .bool (((decide ((x0.size : Int) < 1)) || (decide (x1 < (x0.size : Int)))) || ((decide (1 < (x0.size : Int))) && ((bt x0 0) == 48)))) rfl (guard_none rfl) rfl rfl (ex_por_f rfl rfl hg196 rfl) ?_
          refine ops_nil ?_
          exact at_meet [(0, .string x0), (26, .bool (((decide ((x0.size : Int) < 1)) || (decide (x1 < (x0.size : Int)))) || ((decide (1 < (x0.size : Int))) && ((bt x0 0) == 48))))] ⟨rfl, HM⟩ (Sub.cons rfl (Sub.cons rfl Sub.nil))
  · rintro _ w200 ⟨rfl, HM⟩
    refine at_then ?_
    refine run_cond (b := (((decide ((x0.size : Int) < 1)) || (decide (x1 < (x0.size : Int)))) || ((decide (1 < (x0.size : Int))) && ((bt x0 0) == 48)))) rfl (fun hb201 => ?_) (fun hb201 => ?_)
    · replace H := cond_t hb201 H
      refine run_seq ?_
      refine run_region rfl ?_
      refine ops_ex rfl (guard_none rfl) rfl rfl (ex_assign rfl rfl) ?_
      refine ops_ex rfl (guard_none rfl) rfl rfl (ex_assign rfl rfl) ?_
      refine ops_nil ?_
      refine at_then ?_
      refine run_ret ?_
      refine at_then_ret ?_
      have hR := Option.some.inj H
      subst hR
      exact at_ret2 rfl rfl rfl ⟨_, rfl, rfl, HM⟩
    · replace H := cond_f hb201 H
      refine run_skip ?_
      refine at_then ?_
      refine run_seq ?_
      refine run_region rfl ?_
      refine ops_ex rfl (guard_none rfl) rfl rfl (ex_assign rfl rfl) ?_
      refine ops_nil ?_
      refine at_then ?_
      obtain ⟨o229, ho230, H⟩ := bind_some H
      refine run_mid (fun ρ_ w_ => ∃ a228 : Int, Sum.inr a228 = o229 ∧ ρ_ = [(6, .int .i64 a228)] ∧ Mem w [] w_ []) ?_ ?_
      · skip
        refine run_seq ?_
        refine run_region rfl ?_
        refine ops_ex rfl (guard_none rfl) rfl rfl (ex_assign rfl rfl) ?_
        refine ops_nil ?_
        refine at_then ?_
        refine run_block ?_
        refine run_loop (fun k_ ρ_ w_ => ∃ a239 : Int, ∃ a240 : Int, spec_l2Number.l0 x0 k_ a239 a240 = some o229 ∧ ρ_ = [(0, .string x0), (6, .int .i64 a239), (7, .int .i64 a240)] ∧ Mem w [] w_ []) k (ρ1 := [(0, .string x0), (6, .int .i64 0), (7, .int .i64 0)]) ⟨_, _, ho230, rfl, HM⟩ (Sub.cons rfl (Sub.cons rfl (Sub.cons rfl Sub.nil))) ?_
        clear HM ho230
        rintro k249 _ w250 ⟨a239, a240, ho230, rfl, HM⟩
        obtain _ | k249 := k249
        · exact nomatch ((spec_l2Number.l0_z x0 a239 a240).symm.trans ho230)
        replace ho230 := (spec_l2Number.l0_s x0 k249 a239 a240).symm.trans ho230
        refine run_seq ?_
        refine run_seq ?_
        refine run_region rfl ?_
        refine ops_ex rfl (guard_none rfl) rfl rfl (ex_move rfl rfl) ?_
        refine ops_ex rfl (guard_none rfl) rfl rfl (ex_move rfl rfl) ?_
        refine ops_ex rfl (guard_none rfl) rfl rfl (ex_strlen rfl rfl Tryd.underlying9) ?_
        refine ops_ex rfl (guard_none rfl) rfl rfl (ex_lss rfl rfl rfl) ?_
        refine ops_nil ?_
        refine at_then ?_
        refine run_cond (b := (decide (a240 < (x0.size : Int)))) rfl (fun hb251 => ?_) (fun hb251 => ?_)
        · replace ho230 := cond_t hb251 ho230
          refine run_skip ?_
          refine at_then ?_
          refine run_seq ?_
          refine run_block ?_
          refine run_seq ?_
          refine run_seq ?_
          obtain ⟨e255, ho230⟩ := chk_some ho230
          obtain ⟨e256, ho230⟩ := chk_some ho230
          refine run_meet (fun ρ_ w_ => ρ_ = [(0, .string x0), (6, .int .i64 a239), (7, .int .i64 a240), (42, .bool ((decide ((bt x0 a240) < 48)) || (decide (57 < (bt x0 a240)))))] ∧ Mem w [] w_ []) ?_ ?_
          · skip
            refine run_region rfl ?_
            refine ops_ex rfl (guard_none rfl) rfl rfl (ex_move rfl rfl) ?_
            refine ops_ex rfl (guard_none rfl) rfl rfl (ex_move rfl rfl) ?_
            refine ops_ex rfl (guard_none rfl) rfl rfl (ex_sindex rfl rfl rfl Tryd.underlying9 (idx_lo e255) (idx_hi e255)) ?_
            refine ops_ex rfl (guard_none rfl) rfl rfl (ex_lss rfl rfl rfl) ?_
            refine ops_ex rfl (guard_none rfl) rfl rfl (ex_move rfl rfl) ?_
            refine bool_cases (decide ((bt x0 a240) < 48)) (fun hg257 => ?_) (fun hg257 => ?_)
            · skip
              refine ops_off rfl (guard_off rfl rfl rfl hg257) rfl rfl ?_
              refine ops_off rfl (guard_off rfl rfl rfl hg257) rfl rfl ?_
              refine ops_off rfl (guard_off rfl rfl rfl hg257) rfl rfl ?_
              refine ops_off rfl (guard_off rfl rfl rfl hg257) rfl rfl ?_
              have hg258 : ((decide ((bt x0 a240) < 48)) || (decide (57 < (bt x0 a240)))) = true := by simp only [hg257, Bool.and_true, Bool.true_and, Bool.and_false, Bool.false_and, Bool.or_true, Bool.true_or, Bool.or_false, Bool.false_or, Bool.not_true, Bool.not_false, Bool.not_not]
              refine ops_ex (v := .bool ((decide ((bt x0 a240) < 48)) || (decide (57 < (bt x0 a240))))) rfl (guard_none rfl) rfl rfl (ex_por_t rfl rfl hg257) ?_
              refine ops_nil ?_
              exact at_meet [(0, .string x0), (6, .int .i64 a239), (7, .int .i64 a240), (42, .bool ((decide ((bt x0 a240) < 48)) || (decide (57 < (bt x0 a240)))))] ⟨rfl, HM⟩ (Sub.cons rfl (Sub.cons rfl (Sub.cons rfl (Sub.cons rfl Sub.nil))))
            · skip
              refine ops_ex rfl (guard_on rfl rfl rfl hg257) rfl rfl (ex_move rfl rfl) ?_
              refine ops_ex rfl (guard_on rfl rfl rfl hg257) rfl rfl (ex_move rfl rfl) ?_
              refine ops_ex rfl (guard_on rfl rfl rfl hg257) rfl rfl (ex_sindex rfl rfl rfl Tryd.underlying9 (idx_lo (or_t e256 (not_mk hg257))) (idx_hi (or_t e256 (not_mk hg257)))) ?_
              refine ops_ex rfl (guard_on rfl rfl rfl hg257) rfl rfl (ex_gtr rfl rfl rfl) ?_
              refine ops_ex (v := .bool ((decide ((bt x0 a240) < 48)) || (decide (57 < (bt x0 a240))))) rfl (guard_none rfl) rfl rfl (ex_por_f rfl rfl hg257 rfl) ?_
              refine ops_nil ?_
              exact at_meet [(0, .string x0), (6, .int .i64 a239), (7, .int .i64 a240), (42, .bool ((decide ((bt x0 a240) < 48)) || (decide (57 < (bt x0 a240)))))] ⟨rfl, HM⟩ (Sub.cons rfl (Sub.cons rfl (Sub.cons rfl (Sub.cons rfl Sub.nil))))
          · rintro _ w259 ⟨rfl, HM⟩
            refine at_then ?_
            refine run_cond (b := ((decide ((bt x0 a240) < 48)) || (decide (57 < (bt x0 a240))))) rfl (fun hb260 => ?_) (fun hb260 => ?_)
            · replace ho230 := cond_t hb260 ho230
              refine run_seq ?_
              refine run_region rfl ?_
              refine ops_ex rfl (guard_none rfl) rfl rfl (ex_assign rfl rfl) ?_
              refine ops_ex rfl (guard_none rfl) rfl rfl (ex_assign rfl rfl) ?_
              refine ops_nil ?_
              refine at_then ?_
              refine run_ret ?_
              refine at_then_ret ?_
              refine at_block_ret ?_
              refine at_then_ret ?_
              refine at_then_ret ?_
              refine at_block_ret ?_
              refine at_then_ret ?_
              have hR := Option.some.inj ho230
              subst hR
              have hT := thn_inl H
              have hR := Option.some.inj hT
              subst hR
              exact at_ret2 rfl rfl rfl ⟨_, rfl, rfl, HM⟩
            · replace ho230 := cond_f hb260 ho230
              refine run_skip ?_
              refine at_then ?_
              obtain ⟨e261, ho230⟩ := chk_some ho230
              refine run_region rfl ?_
              refine ops_ex rfl (guard_none rfl) rfl rfl (ex_move rfl rfl) ?_
              refine ops_ex rfl (guard_none rfl) rfl rfl (ex_mul rfl rfl rfl) ?_
              refine ops_ex rfl (guard_none rfl) rfl rfl (ex_move rfl rfl) ?_
              refine ops_ex rfl (guard_none rfl) rfl rfl (ex_move rfl rfl) ?_
              refine ops_ex rfl (guard_none rfl) rfl rfl (ex_sindex rfl rfl rfl Tryd.underlying9 (idx_lo e261) (idx_hi e261)) ?_
              refine ops_ex rfl (guard_none rfl) rfl rfl (ex_subk rfl rfl rfl) ?_
              refine ops_ex rfl (guard_none rfl) rfl rfl (ex_conv64 rfl rfl (by rw [Tryd.underlying5]; rfl) Tryd.underlying2) ?_
              refine ops_ex rfl (guard_none rfl) rfl rfl (ex_add rfl rfl rfl) ?_
              refine ops_ex rfl (guard_none rfl) rfl rfl (ex_assign rfl rfl) ?_
              refine ops_nil ?_
              refine at_block ?_
              refine at_then ?_
              refine run_region rfl ?_
              refine ops_ex rfl (guard_none rfl) rfl rfl (ex_move rfl rfl) ?_
              refine ops_ex rfl (guard_none rfl) rfl rfl (ex_add rfl rfl rfl) ?_
              refine ops_ex rfl (guard_none rfl) rfl rfl (ex_assign rfl rfl) ?_
              refine ops_nil ?_
              exact at_again k249 (ρ1 := [(0, .string x0), (6, .int .i64 (wrap64 ((wrap64 (a239 * 10)) + (wrap64 (IntKind.u8.wrap ((bt x0 a240) - 48)))))), (7, .int .i64 (wrap64 (a240 + 1)))]) (Nat.lt_succ_self _) ⟨_, _, ho230, rfl, HM⟩ (Sub.cons rfl (Sub.cons rfl (Sub.cons rfl Sub.nil)))
        · replace ho230 := cond_f hb251 ho230
          refine run_exit ?_
          refine at_then_exit ?_
          refine at_then_exit ?_
          refine at_block_exit ?_
          exact at_mid (ρ' := [(6, .int .i64 a239)]) ⟨_, (Option.some.inj ho230), rfl, HM⟩ (Sub.cons rfl Sub.nil)
      · rintro _ w262 ⟨a228, rfl, rfl, HM⟩
        replace H := (thn_inr H)
        refine run_seq ?_
        refine run_region rfl ?_
        refine ops_ex rfl (guard_none rfl) rfl rfl (ex_move rfl rfl) ?_
        refine ops_ex rfl (guard_none rfl) rfl rfl (ex_assign rfl rfl) ?_
        refine ops_ex rfl (guard_none rfl) rfl rfl (ex_assign rfl rfl) ?_
        refine ops_nil ?_
        refine at_then ?_
        refine run_ret ?_
        have hR := Option.some.inj H
        subst hR
        exact at_ret2 rfl rfl rfl ⟨_, rfl, rfl, HM⟩

def spec_l1In.f (k : Nat) (x0 : Int) (x1 : Int) (x2 : Int) : Option Bool := some ((decide (x1 ≤ x0)) && (decide (x0 ≤ x2)))
theorem spec_l1In.calls {k : Nat} {x0 : Int} {x1 : Int} {x2 : Int}  {w : World}  {r : Bool} (H : spec_l1In.f k x0 x1 x2 = some r) :
    Calls Tryd.prog 59 ([.int .i64 x0, .int .i64 x1, .int .i64 x2] : List Value).toArray w (fun e w_ => ∃ v, e = .returned v ∧ v = (.bool r) ∧ Mem w [] w_ []) := by
  have HM := Mem.start w
  refine calls_run (N := 15) Tryd.func59 rfl rfl rfl rfl ?_
  unfold spec_l1In.f at H
  refine run_seq ?_
  refine run_region rfl ?_
  refine ops_ex rfl (guard_none rfl) rfl rfl (ex_assign rfl rfl) ?_
  refine ops_nil ?_
  refine at_then ?_
  refine run_seq ?_
  refine run_meet (fun ρ_ w_ => ρ_ = [(6, .bool ((decide (x1 ≤ x0)) && (decide (x0 ≤ x2))))] ∧ Mem w [] w_ []) ?_ ?_
  · skip
    refine run_region rfl ?_
    refine ops_ex rfl (guard_none rfl) rfl rfl (ex_move rfl rfl) ?_
    refine ops_ex rfl (guard_none rfl) rfl rfl (ex_move rfl rfl) ?_
    refine ops_ex rfl (guard_none rfl) rfl rfl (ex_geq rfl rfl rfl) ?_
    refine ops_ex rfl (guard_none rfl) rfl rfl (ex_move rfl rfl) ?_
    refine bool_cases (decide (x1 ≤ x0)) (fun hg328 => ?_) (fun hg328 => ?_)
    · skip
      refine ops_ex rfl (guard_on rfl rfl rfl hg328) rfl rfl (ex_move rfl rfl) ?_
      refine ops_ex rfl (guard_on rfl rfl rfl hg328) rfl rfl (ex_move rfl rfl) ?_
      refine ops_ex rfl (guard_on rfl rfl rfl hg328) rfl rfl (ex_leq rfl rfl rfl) ?_
      refine ops_ex (v := .bool ((decide (x1 ≤ x0)) && (decide (x0 ≤ x2)))) rfl (guard_none rfl) rfl rfl (ex_pand_t rfl rfl hg328 rfl) ?_
      refine ops_ex rfl (guard_none rfl) rfl rfl (ex_assign rfl rfl) ?_
      refine ops_nil ?_
      exact at_meet [(6, .bool ((decide (x1 ≤ x0)) && (decide (x0 ≤ x2))))] ⟨rfl, HM⟩ (Sub.cons rfl Sub.nil)
    · skip
      refine ops_off rfl (guard_off rfl rfl rfl hg328) rfl rfl ?_
      refine ops_off rfl (guard_off rfl rfl rfl hg328) rfl rfl ?_
      refine ops_off rfl (guard_off rfl rfl rfl hg328) rfl rfl ?_
      have hg329 : ((decide (x1 ≤ x0)) && (decide (x0 ≤ x2))) = false := by simp only [hg328, Bool.and_true, Bool.true_and, Bool.and_false, Bool.false_and, Bool.or_true, Bool.true_or, Bool.or_false, Bool.false_or, Bool.not_true, Bool.not_false, Bool.not_not]
      refine ops_ex (v := .bool ((decide (x1 ≤ x0)) && (decide (x0 ≤ x2)))) rfl (guard_none rfl) rfl rfl (ex_pand_f rfl rfl hg328) ?_
      refine ops_ex rfl (guard_none rfl) rfl rfl (ex_assign rfl rfl) ?_
      refine ops_nil ?_
      exact at_meet [(6, .bool ((decide (x1 ≤ x0)) && (decide (x0 ≤ x2))))] ⟨rfl, HM⟩ (Sub.cons rfl Sub.nil)
  · rintro _ w330 ⟨rfl, HM⟩
    refine at_then ?_
    refine run_ret ?_
    have hR := Option.some.inj H
    subst hR
    exact at_ret1 rfl rfl ⟨_, rfl, rfl, HM⟩

def spec_l1Key.f (k : Nat) (x0 : Int) : Option Bool := ((spec_l1In.f k x0 1 999).bind fun t342 => some t342)
theorem spec_l1Key.calls {k : Nat} {x0 : Int}  {w : World}  {r : Bool} (H : spec_l1Key.f k x0 = some r) :
    Calls Tryd.prog 62 ([.int .i64 x0] : List Value).toArray w (fun e w_ => ∃ v, e = .returned v ∧ v = (.bool r) ∧ Mem w [] w_ []) := by
  have HM := Mem.start w
  refine calls_run (N := 5) Tryd.func62 rfl rfl rfl rfl ?_
  unfold spec_l1Key.f at H
  refine run_seq ?_
  refine run_region rfl ?_
  refine ops_ex rfl (guard_none rfl) rfl rfl (ex_assign rfl rfl) ?_
  refine ops_nil ?_
  refine at_then ?_
  refine run_seq ?_
  obtain ⟨t342, h343, H⟩ := bind_some H
  refine run_region rfl ?_
  refine ops_ex rfl (guard_none rfl) rfl rfl (ex_move rfl rfl) ?_
  refine ops_does rfl (guard_none rfl) rfl rfl (does_callk rfl callok59 rfl (spec_l1In.calls (x0 := x0) (x1 := 1) (x2 := 999) h343)) ?_
  rintro _ w344 ⟨rfl, hn⟩
  replace HM : Mem w [] w344 [] := HM.call hn
  refine ops_ex rfl (guard_none rfl) rfl rfl (ex_assign rfl rfl) ?_
  refine ops_nil ?_
  refine at_then ?_
  refine run_ret ?_
  have hR := Option.some.inj H
  subst hR
  exact at_ret1 rfl rfl ⟨_, rfl, rfl, HM⟩

def spec_l2Height.f (k : Nat) (x0 : Int) : Option Bool := ((spec_l1In.f k x0 0 999).bind fun t367 => some t367)
theorem spec_l2Height.calls {k : Nat} {x0 : Int}  {w : World}  {r : Bool} (H : spec_l2Height.f k x0 = some r) :
    Calls Tryd.prog 101 ([.int .i64 x0] : List Value).toArray w (fun e w_ => ∃ v, e = .returned v ∧ v = (.bool r) ∧ Mem w [] w_ []) := by
  have HM := Mem.start w
  refine calls_run (N := 5) Tryd.func101 rfl rfl rfl rfl ?_
  unfold spec_l2Height.f at H
  refine run_seq ?_
  refine run_region rfl ?_
  refine ops_ex rfl (guard_none rfl) rfl rfl (ex_assign rfl rfl) ?_
  refine ops_nil ?_
  refine at_then ?_
  refine run_seq ?_
  obtain ⟨t367, h368, H⟩ := bind_some H
  refine run_region rfl ?_
  refine ops_ex rfl (guard_none rfl) rfl rfl (ex_move rfl rfl) ?_
  refine ops_does rfl (guard_none rfl) rfl rfl (does_callk rfl callok59 rfl (spec_l1In.calls (x0 := x0) (x1 := 0) (x2 := 999) h368)) ?_
  rintro _ w369 ⟨rfl, hn⟩
  replace HM : Mem w [] w369 [] := HM.call hn
  refine ops_ex rfl (guard_none rfl) rfl rfl (ex_assign rfl rfl) ?_
  refine ops_nil ?_
  refine at_then ?_
  refine run_ret ?_
  have hR := Option.some.inj H
  subst hR
  exact at_ret1 rfl rfl ⟨_, rfl, rfl, HM⟩

def spec_l2Fault.l0 (x0 : Rule) : Nat → Int → Option (Int ⊕ Unit)
  | 0, _ => none
  | k + 1, a433 => (bif (decide (a433 < (x0.fKeys.length : Int))) then (chk (idxOk a433 x0.fKeys.length) ((spec_l1Key.f k (gt x0.fKeys a433)).bind fun t445 => (bif !t445 then some (.inl 3) else spec_l2Fault.l0 x0 k (wrap64 (a433 + 1))))) else some (.inr ()))
theorem spec_l2Fault.l0_z (x0 : Rule) (a433 : Int) : spec_l2Fault.l0 x0 0 a433 = none := rfl
theorem spec_l2Fault.l0_s (x0 : Rule) (k : Nat) (a433 : Int) : spec_l2Fault.l0 x0 (k + 1) a433 = (bif (decide (a433 < (x0.fKeys.length : Int))) then (chk (idxOk a433 x0.fKeys.length) ((spec_l1Key.f k (gt x0.fKeys a433)).bind fun t445 => (bif !t445 then some (.inl 3) else spec_l2Fault.l0 x0 k (wrap64 (a433 + 1))))) else some (.inr ())) := rfl
def spec_l2Fault.l1 (x0 : Rule) : Nat → Int → Option (Int ⊕ Unit)
  | 0, _ => none
  | k + 1, a492 => (bif (decide (a492 < (x0.fKeys.length : Int))) then (chk (idxOk a492 x0.fKeys.length) (chk (idxOk (wrap64 (a492 - 1)) x0.fKeys.length) (bif (decide ((gt x0.fKeys a492) ≤ (gt x0.fKeys (wrap64 (a492 - 1))))) then some (.inl 1) else spec_l2Fault.l1 x0 k (wrap64 (a492 + 1))))) else some (.inr ()))
theorem spec_l2Fault.l1_z (x0 : Rule) (a492 : Int) : spec_l2Fault.l1 x0 0 a492 = none := rfl
theorem spec_l2Fault.l1_s (x0 : Rule) (k : Nat) (a492 : Int) : spec_l2Fault.l1 x0 (k + 1) a492 = (bif (decide (a492 < (x0.fKeys.length : Int))) then (chk (idxOk a492 x0.fKeys.length) (chk (idxOk (wrap64 (a492 - 1)) x0.fKeys.length) (bif (decide ((gt x0.fKeys a492) ≤ (gt x0.fKeys (wrap64 (a492 - 1))))) then some (.inl 1) else spec_l2Fault.l1 x0 k (wrap64 (a492 + 1))))) else some (.inr ())) := rfl
def spec_l2Fault.f (k : Nat) (x0 : Rule) : Option Int := ((spec_l1In.f k (x0.fKeys.length : Int) 1 3).bind fun t402 => (bif !t402 then some 2 else ((spec_l2Fault.l0 x0 k 0).bind fun o425 => thn o425 (fun r => some r) (fun _ => ((spec_l1In.f k x0.fNeed 1 (x0.fKeys.length : Int)).bind fun t455 => ((bif (!(!t455)) then spec_l2Height.f k x0.fAfter else some default).bind fun t457 => (bif ((!t455) || (!t457)) then some 3 else ((spec_l2Fault.l1 x0 k 1).bind fun o484 => thn o484 (fun r => some r) (fun _ => some 0)))))))))
theorem spec_l2Fault.calls {k : Nat} {x0 : Rule} {b0 f0 : Nat} {p0_0 : Value} {w : World} (hc0 : CellsAt w b0 f0 [p0_0, .int .i64 x0.fNeed, .int .i64 x0.fAfter]) (hp0_0 : RdS kInt w p0_0 x0.fKeys) {r : Int} (H : spec_l2Fault.f k x0 = some r) :
    Calls Tryd.prog 83 ([.pointer (some ⟨b0, f0, none⟩)] : List Value).toArray w (fun e w_ => ∃ v, e = .returned v ∧ v = (.int .i64 r) ∧ Mem w [] w_ []) := by
  have HM := Mem.start w
  refine calls_run (N := 72) Tryd.func83 rfl rfl rfl rfl ?_
  unfold spec_l2Fault.f at H
  refine run_seq ?_
  refine run_region rfl ?_
  refine ops_ex rfl (guard_none rfl) rfl rfl (ex_assign rfl rfl) ?_
  refine ops_nil ?_
  refine at_then ?_
  refine run_seq ?_
  refine run_region rfl ?_
  refine ops_ex rfl (guard_none rfl) rfl rfl (ex_move rfl rfl) ?_
  refine ops_ex rfl (guard_none rfl) rfl rfl (ex_nilCheck rfl rfl) ?_
  refine ops_ex rfl (guard_none rfl) rfl rfl (ex_fieldAddr (off' := f0) rfl rfl Tryd.underlying40 rfl tsz38 rfl) ?_
  refine ops_ex rfl (guard_none rfl) rfl rfl (ex_load1 rfl rfl Tryd.underlying38 rfl ((HM.at_ hc0) 0 _ rfl)) ?_
  refine ops_ex rfl (guard_none rfl) rfl rfl (ex_len (d := kInt) (xs := x0.fKeys) rfl rfl Tryd.underlying38 hp0_0) ?_
  refine ops_ex rfl (guard_none rfl) rfl rfl (ex_assign rfl rfl) ?_
  refine ops_nil ?_
  refine at_then ?_
  refine run_seq ?_
  refine run_seq ?_
  obtain ⟨t402, h403, H⟩ := bind_some H
  refine run_region rfl ?_
  refine ops_ex rfl (guard_none rfl) rfl rfl (ex_move rfl rfl) ?_
  refine ops_does rfl (guard_none rfl) rfl rfl (does_callk rfl callok59 rfl (spec_l1In.calls (x0 := (x0.fKeys.length : Int)) (x1 := 1) (x2 := 3) h403)) ?_
  rintro _ w404 ⟨rfl, hn⟩
  replace HM : Mem w [] w404 [] := HM.call hn
  refine ops_ex rfl (guard_none rfl) rfl rfl (ex_not rfl rfl) ?_
  refine ops_nil ?_
  refine at_then ?_
  refine run_cond (b := !t402) rfl (fun hb405 => ?_) (fun hb405 => ?_)
  · replace H := cond_t hb405 H
    refine run_seq ?_
    refine run_region rfl ?_
    refine ops_ex rfl (guard_none rfl) rfl rfl (ex_assign rfl rfl) ?_
    refine ops_nil ?_
    refine at_then ?_
    refine run_ret ?_
    refine at_then_ret ?_
    have hR := Option.some.inj H
    subst hR
    exact at_ret1 rfl rfl ⟨_, rfl, rfl, HM⟩
  · replace H := cond_f hb405 H
    refine run_skip ?_
    refine at_then ?_
    obtain ⟨o425, ho426, H⟩ := bind_some H
    refine run_mid (fun ρ_ w_ => Sum.inr () = o425 ∧ ρ_ = [(0, .pointer (some ⟨b0, f0, none⟩)), (3, .int .i64 (x0.fKeys.length : Int))] ∧ Mem w [] w_ []) ?_ ?_
    · skip
      refine run_seq ?_
      refine run_region rfl ?_
      refine ops_ex rfl (guard_none rfl) rfl rfl (ex_assign rfl rfl) ?_
      refine ops_nil ?_
      refine at_then ?_
      refine run_block ?_
      refine run_loop (fun k_ ρ_ w_ => ∃ a433 : Int, spec_l2Fault.l0 x0 k_ a433 = some o425 ∧ ρ_ = [(0, .pointer (some ⟨b0, f0, none⟩)), (3, .int .i64 (x0.fKeys.length : Int)), (4, .int .i64 a433)] ∧ Mem w [] w_ []) k (ρ1 := [(0, .pointer (some ⟨b0, f0, none⟩)), (3, .int .i64 (x0.fKeys.length : Int)), (4, .int .i64 0)]) ⟨_, ho426, rfl, HM⟩ (Sub.cons rfl (Sub.cons rfl (Sub.cons rfl Sub.nil))) ?_
      clear HM ho426
      rintro k440 _ w441 ⟨a433, ho426, rfl, HM⟩
      obtain _ | k440 := k440
      · exact nomatch ((spec_l2Fault.l0_z x0 a433).symm.trans ho426)
      replace ho426 := (spec_l2Fault.l0_s x0 k440 a433).symm.trans ho426
      refine run_seq ?_
      refine run_seq ?_
      refine run_region rfl ?_
      refine ops_ex rfl (guard_none rfl) rfl rfl (ex_move rfl rfl) ?_
      refine ops_ex rfl (guard_none rfl) rfl rfl (ex_move rfl rfl) ?_
      refine ops_ex rfl (guard_none rfl) rfl rfl (ex_nilCheck rfl rfl) ?_
      refine ops_ex rfl (guard_none rfl) rfl rfl (ex_fieldAddr (off' := f0) rfl rfl Tryd.underlying40 rfl tsz38 rfl) ?_
      refine ops_ex rfl (guard_none rfl) rfl rfl (ex_load1 rfl rfl Tryd.underlying38 rfl ((HM.at_ hc0) 0 _ rfl)) ?_
      refine ops_ex rfl (guard_none rfl) rfl rfl (ex_len (d := kInt) (xs := x0.fKeys) rfl rfl Tryd.underlying38 hp0_0) ?_
      refine ops_ex rfl (guard_none rfl) rfl rfl (ex_lss rfl rfl rfl) ?_
      refine ops_nil ?_
      refine at_then ?_
      refine run_cond (b := (decide (a433 < (x0.fKeys.length : Int)))) rfl (fun hb442 => ?_) (fun hb442 => ?_)
      · replace ho426 := cond_t hb442 ho426
        refine run_skip ?_
        refine at_then ?_
        refine run_seq ?_
        refine run_block ?_
        refine run_seq ?_
        obtain ⟨e443, ho426⟩ := chk_some ho426
        obtain ⟨t445, h446, ho426⟩ := bind_some ho426
        refine run_region rfl ?_
        refine ops_ex rfl (guard_none rfl) rfl rfl (ex_move rfl rfl) ?_
        refine ops_ex rfl (guard_none rfl) rfl rfl (ex_nilCheck rfl rfl) ?_
        refine ops_ex rfl (guard_none rfl) rfl rfl (ex_fieldAddr (off' := f0) rfl rfl Tryd.underlying40 rfl tsz38 rfl) ?_
        refine ops_ex rfl (guard_none rfl) rfl rfl (ex_load1 rfl rfl Tryd.underlying38 rfl ((HM.at_ hc0) 0 _ rfl)) ?_
        refine ops_ex rfl (guard_none rfl) rfl rfl (ex_move rfl rfl) ?_
        have hc444 : CellsAt _ (sb p0_0) (so p0_0 + (a433).toNat * 1) [(.int .i64 (gt x0.fKeys a433))] := rd_plain hp0_0 e443
        refine ops_ex rfl (guard_none rfl) rfl rfl (ex_indexAddr (d := kInt) rfl rfl rfl Tryd.underlying38 tsz2 hp0_0 (idx_lo e443) (idx_hi e443)) ?_
        refine ops_ex rfl (guard_none rfl) rfl rfl (ex_load1 rfl rfl Tryd.underlying2 rfl ((HM.at_ hc444) 0 _ rfl)) ?_
        refine ops_does rfl (guard_none rfl) rfl rfl (does_callk rfl callok62 rfl (spec_l1Key.calls (x0 := (gt x0.fKeys a433)) h446)) ?_
        rintro _ w447 ⟨rfl, hn⟩
        replace HM : Mem w [] w447 [] := HM.call hn
        refine ops_ex rfl (guard_none rfl) rfl rfl (ex_not rfl rfl) ?_
        refine ops_nil ?_
        refine at_then ?_
        refine run_cond (b := !t445) rfl (fun hb448 => ?_) (fun hb448 => ?_)
        · replace ho426 := cond_t hb448 ho426
          refine run_seq ?_
          refine run_region rfl ?_
          refine ops_ex rfl (guard_none rfl) rfl rfl (ex_assign rfl rfl) ?_
          refine ops_nil ?_
          refine at_then ?_
          refine run_ret ?_
          refine at_block_ret ?_
          refine at_then_ret ?_
          refine at_then_ret ?_
          refine at_block_ret ?_
          refine at_then_ret ?_
          have hR := Option.some.inj ho426
          subst hR
          have hT := thn_inl H
          have hR := Option.some.inj hT
          subst hR
          exact at_ret1 rfl rfl ⟨_, rfl, rfl, HM⟩
        · replace ho426 := cond_f hb448 ho426
          refine run_skip ?_
          refine at_block ?_
          refine at_then ?_
          refine run_region rfl ?_
          refine ops_ex rfl (guard_none rfl) rfl rfl (ex_move rfl rfl) ?_
          refine ops_ex rfl (guard_none rfl) rfl rfl (ex_add rfl rfl rfl) ?_
          refine ops_ex rfl (guard_none rfl) rfl rfl (ex_assign rfl rfl) ?_
          refine ops_nil ?_
          exact at_again k440 (ρ1 := [(0, .pointer (some ⟨b0, f0, none⟩)), (3, .int .i64 (x0.fKeys.length : Int)), (4, .int .i64 (wrap64 (a433 + 1)))]) (Nat.lt_succ_self _) ⟨_, ho426, rfl, HM⟩ (Sub.cons rfl (Sub.cons rfl (Sub.cons rfl Sub.nil)))
      · replace ho426 := cond_f hb442 ho426
        refine run_exit ?_
        refine at_then_exit ?_
        refine at_then_exit ?_
        refine at_block_exit ?_
        exact at_mid (ρ' := [(0, .pointer (some ⟨b0, f0, none⟩)), (3, .int .i64 (x0.fKeys.length : Int))]) ⟨(Option.some.inj ho426), rfl, HM⟩ (Sub.cons rfl (Sub.cons rfl Sub.nil))
    · rintro _ w449 ⟨rfl, rfl, HM⟩
      replace H := (thn_inr H)
      refine run_seq ?_
      refine run_seq ?_
      obtain ⟨t455, h456, H⟩ := bind_some H
      obtain ⟨t457, h458, H⟩ := bind_some H
      refine run_meet (fun ρ_ w_ => ρ_ = [(0, .pointer (some ⟨b0, f0, none⟩)), (46, .bool ((!t455) || (!t457)))] ∧ Mem w [] w_ []) ?_ ?_
      · skip
        refine run_region rfl ?_
        refine ops_ex rfl (guard_none rfl) rfl rfl (ex_move rfl rfl) ?_
        refine ops_ex rfl (guard_none rfl) rfl rfl (ex_nilCheck rfl rfl) ?_
        refine ops_ex rfl (guard_none rfl) rfl rfl (ex_fieldAddr (off' := f0 + 1) rfl rfl Tryd.underlying40 rfl tsz2 rfl) ?_
        refine ops_ex rfl (guard_none rfl) rfl rfl (ex_load1 rfl rfl Tryd.underlying2 rfl ((HM.at_ hc0) 1 _ rfl)) ?_
        refine ops_ex rfl (guard_none rfl) rfl rfl (ex_move rfl rfl) ?_
        refine ops_does rfl (guard_none rfl) rfl rfl (does_callk rfl callok59 rfl (spec_l1In.calls (x0 := x0.fNeed) (x1 := 1) (x2 := (x0.fKeys.length : Int)) h456)) ?_
        rintro _ w459 ⟨rfl, hn⟩
        replace HM : Mem w [] w459 [] := HM.call hn
        refine ops_ex rfl (guard_none rfl) rfl rfl (ex_not rfl rfl) ?_
        refine ops_ex rfl (guard_none rfl) rfl rfl (ex_move rfl rfl) ?_
        refine bool_cases (!t455) (fun hg460 => ?_) (fun hg460 => ?_)
        · skip
          refine ops_off rfl (guard_off rfl rfl rfl hg460) rfl rfl ?_
          refine ops_off rfl (guard_off rfl rfl rfl hg460) rfl rfl ?_
          refine ops_off rfl (guard_off rfl rfl rfl hg460) rfl rfl ?_
          refine ops_off rfl (guard_off rfl rfl rfl hg460) rfl rfl ?_
          refine ops_off rfl (guard_off rfl rfl rfl hg460) rfl rfl ?_
          refine ops_off rfl (guard_off rfl rfl rfl hg460) rfl rfl ?_
          have hg461 : ((!t455) || (!t457)) = true := by simp only [hg460, Bool.and_true, Bool.true_and, Bool.and_false, Bool.false_and, Bool.or_true, Bool.true_or, Bool.or_false, Bool.false_or, Bool.not_true, Bool.not_false, Bool.not_not]
          refine ops_ex (v := .bool ((!t455) || (!t457))) rfl (guard_none rfl) rfl rfl (ex_por_t rfl rfl hg460) ?_
          refine ops_nil ?_
          exact at_meet [(0, .pointer (some ⟨b0, f0, none⟩)), (46, .bool ((!t455) || (!t457)))] ⟨rfl, HM⟩ (Sub.cons rfl (Sub.cons rfl Sub.nil))
        · skip
          refine ops_ex rfl (guard_on rfl rfl rfl hg460) rfl rfl (ex_move rfl rfl) ?_
          refine ops_ex rfl (guard_on rfl rfl rfl hg460) rfl rfl (ex_nilCheck rfl rfl) ?_
          refine ops_ex rfl (guard_on rfl rfl rfl hg460) rfl rfl (ex_fieldAddr (off' := f0 + 2) rfl rfl Tryd.underlying40 rfl tsz2 rfl) ?_
          refine ops_ex rfl (guard_on rfl rfl rfl hg460) rfl rfl (ex_load1 rfl rfl Tryd.underlying2 rfl ((HM.at_ hc0) 2 _ rfl)) ?_
          refine ops_does rfl (guard_on rfl rfl rfl hg460) rfl rfl (does_callk rfl callok101 rfl (spec_l2Height.calls (x0 := x0.fAfter) (cond_t (not_mk hg460) h458))) ?_
          rintro _ w462 ⟨rfl, hn⟩
          replace HM : Mem w [] w462 [] := HM.call hn
          refine ops_ex rfl (guard_on rfl rfl rfl hg460) rfl rfl (ex_not rfl rfl) ?_
          refine ops_ex (v := .bool ((!t455) || (!t457))) rfl (guard_none rfl) rfl rfl (ex_por_f rfl rfl hg460 rfl) ?_
          refine ops_nil ?_
          exact at_meet [(0, .pointer (some ⟨b0, f0, none⟩)), (46, .bool ((!t455) || (!t457)))] ⟨rfl, HM⟩ (Sub.cons rfl (Sub.cons rfl Sub.nil))
      · rintro _ w463 ⟨rfl, HM⟩
        refine at_then ?_
        refine run_cond (b := ((!t455) || (!t457))) rfl (fun hb464 => ?_) (fun hb464 => ?_)
        · replace H := cond_t hb464 H
          refine run_seq ?_
          refine run_region rfl ?_
          refine ops_ex rfl (guard_none rfl) rfl rfl (ex_assign rfl rfl) ?_
          refine ops_nil ?_
          refine at_then ?_
          refine run_ret ?_
          refine at_then_ret ?_
          have hR := Option.some.inj H
          subst hR
          exact at_ret1 rfl rfl ⟨_, rfl, rfl, HM⟩
        · replace H := cond_f hb464 H
          refine run_skip ?_
          refine at_then ?_
          obtain ⟨o484, ho485, H⟩ := bind_some H
          refine run_mid (fun ρ_ w_ => Sum.inr () = o484 ∧ ρ_ = [] ∧ Mem w [] w_ []) ?_ ?_
          · skip
            refine run_seq ?_
            refine run_region rfl ?_
            refine ops_ex rfl (guard_none rfl) rfl rfl (ex_assign rfl rfl) ?_
            refine ops_nil ?_
            refine at_then ?_
            refine run_block ?_
            refine run_loop (fun k_ ρ_ w_ => ∃ a492 : Int, spec_l2Fault.l1 x0 k_ a492 = some o484 ∧ ρ_ = [(0, .pointer (some ⟨b0, f0, none⟩)), (5, .int .i64 a492)] ∧ Mem w [] w_ []) k (ρ1 := [(0, .pointer (some ⟨b0, f0, none⟩)), (5, .int .i64 1)]) ⟨_, ho485, rfl, HM⟩ (Sub.cons rfl (Sub.cons rfl Sub.nil)) ?_
            clear HM ho485
            rintro k499 _ w500 ⟨a492, ho485, rfl, HM⟩
            obtain _ | k499 := k499
            · exact nomatch ((spec_l2Fault.l1_z x0 a492).symm.trans ho485)
            replace ho485 := (spec_l2Fault.l1_s x0 k499 a492).symm.trans ho485
            refine run_seq ?_
            refine run_seq ?_
            refine run_region rfl ?_
            refine ops_ex rfl (guard_none rfl) rfl rfl (ex_move rfl rfl) ?_
            refine ops_ex rfl (guard_none rfl) rfl rfl (ex_move rfl rfl) ?_
            refine ops_ex rfl (guard_none rfl) rfl rfl (ex_nilCheck rfl rfl) ?_
            refine ops_ex rfl (guard_none rfl) rfl rfl (ex_fieldAddr (off' := f0) rfl rfl Tryd.underlying40 rfl tsz38 rfl) ?_
            refine ops_ex rfl (guard_none rfl) rfl rfl (ex_load1 rfl rfl Tryd.underlying38 rfl ((HM.at_ hc0) 0 _ rfl)) ?_
            refine ops_ex rfl (guard_none rfl) rfl rfl (ex_len (d := kInt) (xs := x0.fKeys) rfl rfl Tryd.underlying38 hp0_0) ?_
            refine ops_ex rfl (guard_none rfl) rfl rfl (ex_lss rfl rfl rfl) ?_
            refine ops_nil ?_
            refine at_then ?_
            refine run_cond (b := (decide (a492 < (x0.fKeys.length : Int)))) rfl (fun hb501 => ?_) (fun hb501 => ?_)
            · replace ho485 := cond_t hb501 ho485
              refine run_skip ?_
              refine at_then ?_
              refine run_seq ?_
              refine run_block ?_
              refine run_seq ?_
              obtain ⟨e502, ho485⟩ := chk_some ho485
              obtain ⟨e504, ho485⟩ := chk_some ho485
              refine run_drawf (fun w_ => Mem w [] w_ []) [(0, true), (1, true), (2, true), (3, true), (4, true), (5, true), (6, true), (7, true), (8, true), (9, true), (10, true), (11, true), (12, true), (13, true), (14, true), (15, true)] mixed rfl rfl (by kernel_rfl) ?_
              replace HM := HM.grow (fr_drew _)
              have hS := Mem.suf (M := []) HM
              refine drwp_take rfl (guard_none rfl) rfl rfl (fun w_ hS_ => (ex_move rfl rfl)) hS ?_
              refine drwp_take rfl (guard_none rfl) rfl rfl (fun w_ hS_ => (ex_nilCheck rfl rfl)) hS ?_
              refine drwp_take rfl (guard_none rfl) rfl rfl (fun w_ hS_ => (ex_fieldAddr (off' := f0) rfl rfl Tryd.underlying40 rfl tsz38 rfl)) hS ?_
              refine drwp_take rfl (guard_none rfl) rfl rfl (fun w_ hS_ => (ex_load1 rfl rfl Tryd.underlying38 rfl ((hS_.at_ hc0) 0 _ rfl))) hS ?_
              refine drwp_take rfl (guard_none rfl) rfl rfl (fun w_ hS_ => (ex_move rfl rfl)) hS ?_
              have hc503 : CellsAt _ (sb p0_0) (so p0_0 + (a492).toNat * 1) [(.int .i64 (gt x0.fKeys a492))] := rd_plain hp0_0 e502
              refine drwp_take rfl (guard_none rfl) rfl rfl (fun w_ hS_ => (ex_indexAddr (d := kInt) rfl rfl rfl Tryd.underlying38 tsz2 hp0_0 (idx_lo e502) (idx_hi e502))) hS ?_
              refine drwp_take rfl (guard_none rfl) rfl rfl (fun w_ hS_ => (ex_load1 rfl rfl Tryd.underlying2 rfl ((hS_.at_ hc503) 0 _ rfl))) hS ?_
              refine drwp_take rfl (guard_none rfl) rfl rfl (fun w_ hS_ => (ex_move rfl rfl)) hS ?_
              refine drwp_take rfl (guard_none rfl) rfl rfl (fun w_ hS_ => (ex_nilCheck rfl rfl)) hS ?_
              refine drwp_take rfl (guard_none rfl) rfl rfl (fun w_ hS_ => (ex_fieldAddr (off' := f0) rfl rfl Tryd.underlying40 rfl tsz38 rfl)) hS ?_
              refine drwp_take rfl (guard_none rfl) rfl rfl (fun w_ hS_ => (ex_load1 rfl rfl Tryd.underlying38 rfl ((hS_.at_ hc0) 0 _ rfl))) hS ?_
              refine drwp_take rfl (guard_none rfl) rfl rfl (fun w_ hS_ => (ex_move rfl rfl)) hS ?_
              refine drwp_take rfl (guard_none rfl) rfl rfl (fun w_ hS_ => (ex_sub rfl rfl rfl)) hS ?_
              have hc505 : CellsAt _ (sb p0_0) (so p0_0 + (wrap64 (a492 - 1)).toNat * 1) [(.int .i64 (gt x0.fKeys (wrap64 (a492 - 1))))] := rd_plain hp0_0 e504
              refine drwp_take rfl (guard_none rfl) rfl rfl (fun w_ hS_ => (ex_indexAddr (d := kInt) rfl rfl rfl Tryd.underlying38 tsz2 hp0_0 (idx_lo e504) (idx_hi e504))) hS ?_
              refine drwp_take rfl (guard_none rfl) rfl rfl (fun w_ hS_ => (ex_load1 rfl rfl Tryd.underlying2 rfl ((hS_.at_ hc505) 0 _ rfl))) hS ?_
              refine drwp_take rfl (guard_none rfl) rfl rfl (fun w_ hS_ => (ex_leq rfl rfl rfl)) hS ?_
              refine drwp_done ?_
              refine at_then ?_
              refine run_cond (b := (decide ((gt x0.fKeys a492) ≤ (gt x0.fKeys (wrap64 (a492 - 1)))))) rfl (fun hb506 => ?_) (fun hb506 => ?_)
              · replace ho485 := cond_t hb506 ho485
                refine run_seq ?_
                refine run_region rfl ?_
                refine ops_ex rfl (guard_none rfl) rfl rfl (ex_assign rfl rfl) ?_
                refine ops_nil ?_
                refine at_then ?_
                refine run_ret ?_
                refine at_block_ret ?_
                refine at_then_ret ?_
                refine at_then_ret ?_
                refine at_block_ret ?_
                refine at_then_ret ?_
                have hR := Option.some.inj ho485
                subst hR
                have hT := thn_inl H
                have hR := Option.some.inj hT
                subst hR
                exact at_ret1 rfl rfl ⟨_, rfl, rfl, HM⟩
              · replace ho485 := cond_f hb506 ho485
                refine run_skip ?_
                refine at_block ?_
                refine at_then ?_
                refine run_region rfl ?_
                refine ops_ex rfl (guard_none rfl) rfl rfl (ex_move rfl rfl) ?_
                refine ops_ex rfl (guard_none rfl) rfl rfl (ex_add rfl rfl rfl) ?_
                refine ops_ex rfl (guard_none rfl) rfl rfl (ex_assign rfl rfl) ?_
                refine ops_nil ?_
                exact at_again k499 (ρ1 := [(0, .pointer (some ⟨b0, f0, none⟩)), (5, .int .i64 (wrap64 (a492 + 1)))]) (Nat.lt_succ_self _) ⟨_, ho485, rfl, HM⟩ (Sub.cons rfl (Sub.cons rfl Sub.nil))
            · replace ho485 := cond_f hb501 ho485
              refine run_exit ?_
              refine at_then_exit ?_
              refine at_then_exit ?_
              refine at_block_exit ?_
              exact at_mid (ρ' := []) ⟨(Option.some.inj ho485), rfl, HM⟩ Sub.nil
          · rintro _ w507 ⟨rfl, rfl, HM⟩
            replace H := (thn_inr H)
            refine run_seq ?_
            refine run_region rfl ?_
            refine ops_ex rfl (guard_none rfl) rfl rfl (ex_assign rfl rfl) ?_
            refine ops_nil ?_
            refine at_then ?_
            refine run_ret ?_
            have hR := Option.some.inj H
            subst hR
            exact at_ret1 rfl rfl ⟨_, rfl, rfl, HM⟩

def spec_l2Parse.l0 (t540 : (List ByteArray)) : Nat → Bool → (List Int) → Int → Option (Bool × (List Int))
  | 0, _, _, _ => none
  | k + 1, a596, a598, a600 => (bif (decide (a600 < (t540.length : Int))) then (chk (idxOk a600 t540.length) ((spec_l2Number.f k (gt t540 a600) 3).bind fun t616 => (chk (leB ((a598.length + ([t616.1] : List Int).length) * 8) 140737488355328) (spec_l2Parse.l0 t540 k (a596 && t616.2) (a598 ++ ([t616.1] : List Int)) (wrap64 (a600 + 1)))))) else some (a596, a598))
theorem spec_l2Parse.l0_z (t540 : (List ByteArray)) (a596 : Bool) (a598 : List Int) (a600 : Int) : spec_l2Parse.l0 t540 0 a596 a598 a600 = none := rfl
theorem spec_l2Parse.l0_s (t540 : (List ByteArray)) (k : Nat) (a596 : Bool) (a598 : List Int) (a600 : Int) : spec_l2Parse.l0 t540 (k + 1) a596 a598 a600 = (bif (decide (a600 < (t540.length : Int))) then (chk (idxOk a600 t540.length) ((spec_l2Number.f k (gt t540 a600) 3).bind fun t616 => (chk (leB ((a598.length + ([t616.1] : List Int).length) * 8) 140737488355328) (spec_l2Parse.l0 t540 k (a596 && t616.2) (a598 ++ ([t616.1] : List Int)) (wrap64 (a600 + 1)))))) else some (a596, a598)) := rfl
def spec_l2Parse.f (k : Nat) (x0 : ByteArray) : Option (Rule × Bool) := ((spec_l2Cut.f k x0 32).bind fun t514 => (chk (!(!(((t514.length : Int) != 3) && ((t514.length : Int) != 5))) || (idxOk (1 : Int) t514.length)) (bif ((((t514.length : Int) != 3) && ((t514.length : Int) != 5)) || (!sEq (gt t514 (1 : Int)) (⟨#[111, 102]⟩ : ByteArray))) then some ((⟨([] : List Int), 0, 0⟩ : Rule), false) else (chk (idxOk (0 : Int) t514.length) ((spec_l2Number.f k (gt t514 (0 : Int)) 1).bind fun t531 => (chk (idxOk (2 : Int) t514.length) ((spec_l2Cut.f k (gt t514 (2 : Int)) 44).bind fun t540 => ((spec_l2Parse.l0 t540 k t531.2 ([] : List Int) 0).bind (cur2 (fun a580 a582 => ((bif ((t514.length : Int) == 5) then (chk (idxOk (4 : Int) t514.length) ((spec_l2Number.f k (gt t514 (4 : Int)) 3).bind fun t648 => (chk (!(a580 && t648.2) || (idxOk (3 : Int) t514.length)) (some ((((a580 && t648.2) && (sEq (gt t514 (3 : Int)) (⟨#[97, 102, 116, 101, 114]⟩ : ByteArray))) && (decide (0 < t648.1))), t648.1))))) else some (a580, 0)).bind (cur2 (fun a642 a643 => ((bif a642 then spec_l2Fault.f k (⟨a582, t531.1, a643⟩ : Rule) else some default).bind fun t664 => some ((⟨a582, t531.1, a643⟩ : Rule), (a642 && (t664 == 0)))))))))))))))))
theorem spec_l2Parse.calls {k : Nat} {x0 : ByteArray}  {w : World}  {r : Rule × Bool} (H : spec_l2Parse.f k x0 = some r) :
    Calls Tryd.prog 39 ([.string x0] : List Value).toArray w (fun e w_ => ∃ v, e = .returned v ∧ ∃ u0 : Value, v = (.tuple #[.agg #[u0, .int .i64 r.1.fNeed, .int .i64 r.1.fAfter], .bool r.2]) ∧ Mem w [] w_ [own kInt 2 u0 r.1.fKeys]) := by
  have HM := Mem.start w
  refine calls_run (N := 100) Tryd.func39 rfl rfl rfl rfl ?_
  unfold spec_l2Parse.f at H
  refine run_seq ?_
  refine run_region rfl ?_
  refine ops_does rfl (guard_none rfl) rfl rfl (does_alloc (cs := [.slice none 0 0, .int .i64 0, .int .i64 0]) rfl tz40 rfl HM) ?_
  rintro _ w513 ⟨b510, rfl, HM⟩
  refine ops_ex rfl (guard_none rfl) rfl rfl (ex_assign rfl rfl) ?_
  refine ops_nil ?_
  refine at_then ?_
  refine run_seq ?_
  obtain ⟨t514, h515, H⟩ := bind_some H
  refine run_region rfl ?_
  refine ops_ex rfl (guard_none rfl) rfl rfl (ex_move rfl rfl) ?_
  refine ops_does rfl (guard_none rfl) rfl rfl (does_callk rfl callok81 rfl (spec_l2Cut.calls (x0 := x0) (x1 := 32) h515)) ?_
  rintro u516 w518 ⟨_, rfl, hn⟩
  replace HM : Mem w [] w518 [own kStr 9 u516 t514, box b510 40 [.slice none 0 0, .int .i64 0, .int .i64 0]] := HM.call hn
  refine ops_ex rfl (guard_none rfl) rfl rfl (ex_assign rfl rfl) ?_
  refine ops_nil ?_
  refine at_then ?_
  refine run_seq ?_
  refine run_seq ?_
  obtain ⟨e521, H⟩ := chk_some H
  refine run_meet (fun ρ_ w_ => ρ_ = [(2, .pointer (some ⟨b510, 0, none⟩)), (4, u516), (29, .bool ((((t514.length : Int) != 3) && ((t514.length : Int) != 5)) || (!sEq (gt t514 (1 : Int)) (⟨#[111, 102]⟩ : ByteArray))))] ∧ Mem w [] w_ [box b510 40 [.slice none 0 0, .int .i64 0, .int .i64 0], own kStr 9 u516 t514]) ?_ ?_
  · skip
    refine run_region rfl ?_
    refine ops_ex rfl (guard_none rfl) rfl rfl (ex_move rfl rfl) ?_
    refine ops_ex rfl (guard_none rfl) rfl rfl (ex_len (d := kStr) (xs := t514) rfl rfl Tryd.underlying103 (HM.own_rd 0 rfl)) ?_
    refine ops_ex rfl (guard_none rfl) rfl rfl (ex_neq rfl rfl rfl) ?_
    refine ops_ex rfl (guard_none rfl) rfl rfl (ex_move rfl rfl) ?_
    refine bool_cases ((t514.length : Int) != 3) (fun hg522 => ?_) (fun hg522 => ?_)
    · skip
      refine ops_ex rfl (guard_on rfl rfl rfl hg522) rfl rfl (ex_move rfl rfl) ?_
      refine ops_ex rfl (guard_on rfl rfl rfl hg522) rfl rfl (ex_len (d := kStr) (xs := t514) rfl rfl Tryd.underlying103 (HM.own_rd 0 rfl)) ?_
      refine ops_ex rfl (guard_on rfl rfl rfl hg522) rfl rfl (ex_neq rfl rfl rfl) ?_
      refine ops_ex (v := .bool (((t514.length : Int) != 3) && ((t514.length : Int) != 5))) rfl (guard_none rfl) rfl rfl (ex_pand_t rfl rfl hg522 rfl) ?_
      refine ops_ex rfl (guard_none rfl) rfl rfl (ex_move rfl rfl) ?_
      refine bool_cases (((t514.length : Int) != 3) && ((t514.length : Int) != 5)) (fun hg523 => ?_) (fun hg523 => ?_)
      · skip
        refine ops_off rfl (guard_off rfl rfl rfl hg523) rfl rfl ?_
        refine ops_off rfl (guard_off rfl rfl rfl hg523) rfl rfl ?_
        refine ops_off rfl (guard_off rfl rfl rfl hg523) rfl rfl ?_
        refine ops_off rfl (guard_off rfl rfl rfl hg523) rfl rfl ?_
        have hg524 : ((((t514.length : Int) != 3) && ((t514.length : Int) != 5)) || (!sEq (gt t514 (1 : Int)) (⟨#[111, 102]⟩ : ByteArray))) = true := by simp only [hg523, Bool.and_true, Bool.true_and, Bool.and_false, Bool.false_and, Bool.or_true, Bool.true_or, Bool.or_false, Bool.false_or, Bool.not_true, Bool.not_false, Bool.not_not]
        refine ops_ex (v := .bool ((((t514.length : Int) != 3) && ((t514.length : Int) != 5)) || (!sEq (gt t514 (1 : Int)) (⟨#[111, 102]⟩ : ByteArray)))) rfl (guard_none rfl) rfl rfl (ex_por_t rfl rfl hg523) ?_
        refine ops_nil ?_
        replace HM := HM.front 1 rfl rfl
        exact at_meet [(2, .pointer (some ⟨b510, 0, none⟩)), (4, u516), (29, .bool ((((t514.length : Int) != 3) && ((t514.length : Int) != 5)) || (!sEq (gt t514 (1 : Int)) (⟨#[111, 102]⟩ : ByteArray))))] ⟨rfl, HM⟩ (Sub.cons rfl (Sub.cons rfl (Sub.cons rfl Sub.nil)))
      · skip
        refine ops_ex rfl (guard_on rfl rfl rfl hg523) rfl rfl (ex_move rfl rfl) ?_
        refine ops_ex rfl (guard_on rfl rfl rfl hg523) rfl rfl (ex_indexAddr (d := kStr) rfl rfl rfl Tryd.underlying103 tsz9 (HM.own_rd 0 rfl) (idx_lo (or_t e521 (not_mk hg523))) (idx_hi (or_t e521 (not_mk hg523)))) ?_
        refine ops_ex rfl (guard_on rfl rfl rfl hg523) rfl rfl (ex_load1 rfl rfl Tryd.underlying9 rfl ((rd_plain (HM.own_rd 0 rfl) (or_t e521 (not_mk hg523))) 0 _ rfl)) ?_
        refine ops_ex rfl (guard_on rfl rfl rfl hg523) rfl rfl (ex_sneq rfl rfl rfl) ?_
        refine ops_ex (v := .bool ((((t514.length : Int) != 3) && ((t514.length : Int) != 5)) || (!sEq (gt t514 (1 : Int)) (⟨#[111, 102]⟩ : ByteArray)))) rfl (guard_none rfl) rfl rfl (ex_por_f rfl rfl hg523 rfl) ?_
        refine ops_nil ?_
        replace HM := HM.front 1 rfl rfl
        exact at_meet [(2, .pointer (some ⟨b510, 0, none⟩)), (4, u516), (29, .bool ((((t514.length : Int) != 3) && ((t514.length : Int) != 5)) || (!sEq (gt t514 (1 : Int)) (⟨#[111, 102]⟩ : ByteArray))))] ⟨rfl, HM⟩ (Sub.cons rfl (Sub.cons rfl (Sub.cons rfl Sub.nil)))
    · skip
      refine ops_off rfl (guard_off rfl rfl rfl hg522) rfl rfl ?_
      refine ops_off rfl (guard_off rfl rfl rfl hg522) rfl rfl ?_
      refine ops_off rfl (guard_off rfl rfl rfl hg522) rfl rfl ?_
      have hg525 : (((t514.length : Int) != 3) && ((t514.length : Int) != 5)) = false := by simp only [hg522, Bool.and_true, Bool.true_and, Bool.and_false, Bool.false_and, Bool.or_true, Bool.true_or, Bool.or_false, Bool.false_or, Bool.not_true, Bool.not_false, Bool.not_not]
      refine ops_ex (v := .bool (((t514.length : Int) != 3) && ((t514.length : Int) != 5))) rfl (guard_none rfl) rfl rfl (ex_pand_f rfl rfl hg522) ?_
      refine ops_ex rfl (guard_none rfl) rfl rfl (ex_move rfl rfl) ?_
      refine ops_ex rfl (guard_on rfl rfl rfl hg525) rfl rfl (ex_move rfl rfl) ?_
      refine ops_ex rfl (guard_on rfl rfl rfl hg525) rfl rfl (ex_indexAddr (d := kStr) rfl rfl rfl Tryd.underlying103 tsz9 (HM.own_rd 0 rfl) (idx_lo (or_t e521 (not_mk hg525))) (idx_hi (or_t e521 (not_mk hg525)))) ?_
      refine ops_ex rfl (guard_on rfl rfl rfl hg525) rfl rfl (ex_load1 rfl rfl Tryd.underlying9 rfl ((rd_plain (HM.own_rd 0 rfl) (or_t e521 (not_mk hg525))) 0 _ rfl)) ?_
      refine ops_ex rfl (guard_on rfl rfl rfl hg525) rfl rfl (ex_sneq rfl rfl rfl) ?_
      refine ops_ex (v := .bool ((((t514.length : Int) != 3) && ((t514.length : Int) != 5)) || (!sEq (gt t514 (1 : Int)) (⟨#[111, 102]⟩ : ByteArray)))) rfl (guard_none rfl) rfl rfl (ex_por_f rfl rfl hg525 rfl) ?_
      refine ops_nil ?_
      replace HM := HM.front 1 rfl rfl
      exact at_meet [(2, .pointer (some ⟨b510, 0, none⟩)), (4, u516), (29, .bool ((((t514.length : Int) != 3) && ((t514.length : Int) != 5)) || (!sEq (gt t514 (1 : Int)) (⟨#[111, 102]⟩ : ByteArray))))] ⟨rfl, HM⟩ (Sub.cons rfl (Sub.cons rfl (Sub.cons rfl Sub.nil)))
  · rintro _ w526 ⟨rfl, HM⟩
    refine at_then ?_
    refine run_cond (b := ((((t514.length : Int) != 3) && ((t514.length : Int) != 5)) || (!sEq (gt t514 (1 : Int)) (⟨#[111, 102]⟩ : ByteArray)))) rfl (fun hb527 => ?_) (fun hb527 => ?_)
    · replace H := cond_t hb527 H
      refine run_seq ?_
      refine run_region rfl ?_
      refine ops_ex rfl (guard_none rfl) rfl rfl (ex_build (cells := #[(.slice none 0 0), (.int .i64 0), (.int .i64 0)]) rfl rfl (by kernel_rfl)) ?_
      refine ops_doesS rfl (guard_none rfl) rfl (does_store (vs := [.slice none 0 0, .int .i64 0, .int .i64 0]) (cs' := [.slice none 0 0, .int .i64 0, .int .i64 0]) rfl rfl rfl rfl tsz40 (Ones.sl (Ones.int (Ones.int Ones.nil))) rfl rfl HM) ?_
      rintro w528 HM
      refine ops_ex rfl (guard_none rfl) rfl rfl (ex_assign rfl rfl) ?_
      refine ops_nil ?_
      refine at_then ?_
      refine run_ret ?_
      refine at_then_ret ?_
      replace HM := HM.empty kInt 2 none
      replace HM := (HM.front 2 rfl rfl).drop
      replace HM := HM.front 1 rfl rfl
      have hcb0 := HM.box_at 0 rfl
      replace HM := (HM.front 0 rfl rfl).drop
      have hR := Option.some.inj H
      subst hR
      exact at_retN1 rfl rfl rfl Tryd.underlying40 rfl tsz40 rfl hcb0 ⟨_, rfl, _, rfl, HM⟩
    · replace H := cond_f hb527 H
      refine run_skip ?_
      refine at_then ?_
      refine run_seq ?_
      obtain ⟨e530, H⟩ := chk_some H
      obtain ⟨t531, h532, H⟩ := bind_some H
      refine run_region rfl ?_
      refine ops_ex rfl (guard_none rfl) rfl rfl (ex_move rfl rfl) ?_
      refine ops_ex rfl (guard_none rfl) rfl rfl (ex_indexAddr (d := kStr) rfl rfl rfl Tryd.underlying103 tsz9 (HM.own_rd 1 rfl) (idx_lo e530) (idx_hi e530)) ?_
      refine ops_ex rfl (guard_none rfl) rfl rfl (ex_load1 rfl rfl Tryd.underlying9 rfl ((rd_plain (HM.own_rd 1 rfl) e530) 0 _ rfl)) ?_
      refine ops_does rfl (guard_none rfl) rfl rfl (does_callk rfl callok82 rfl (spec_l2Number.calls (x0 := (gt t514 (0 : Int))) (x1 := 1) h532)) ?_
      rintro _ w533 ⟨rfl, hn⟩
      replace HM : Mem w [] w533 [box b510 40 [.slice none 0 0, .int .i64 0, .int .i64 0], own kStr 9 u516 t514] := HM.call hn
      refine ops_ex rfl (guard_none rfl) rfl rfl (ex_move rfl rfl) ?_
      refine ops_ex rfl (guard_none rfl) rfl rfl (ex_extract rfl rfl rfl) ?_
      refine ops_ex rfl (guard_none rfl) rfl rfl (ex_extract rfl rfl rfl) ?_
      refine ops_ex rfl (guard_none rfl) rfl rfl (ex_assign rfl rfl) ?_
      refine ops_ex rfl (guard_none rfl) rfl rfl (ex_assign rfl rfl) ?_
      refine ops_nil ?_
      refine at_then ?_
      refine run_seq ?_
      refine run_region rfl ?_
      refine ops_ex rfl (guard_none rfl) rfl rfl (ex_move rfl rfl) ?_
      refine ops_ex rfl (guard_none rfl) rfl rfl (ex_build (cells := #[(.slice none 0 0), (.int .i64 t531.1), (.int .i64 0)]) rfl rfl (by kernel_rfl)) ?_
      refine ops_does rfl (guard_none rfl) rfl rfl (does_alloc (cs := [.slice none 0 0, .int .i64 0, .int .i64 0]) rfl tz40 rfl HM) ?_
      rintro _ w537 ⟨b534, rfl, HM⟩
      refine ops_doesS rfl (guard_none rfl) rfl (does_store (vs := [.slice none 0 0, .int .i64 t531.1, .int .i64 0]) (cs' := [.slice none 0 0, .int .i64 t531.1, .int .i64 0]) rfl rfl rfl rfl tsz40 (Ones.sl (Ones.int (Ones.int Ones.nil))) rfl rfl HM) ?_
      rintro w538 HM
      refine ops_nil ?_
      refine at_then ?_
      refine run_seq ?_
      obtain ⟨e539, H⟩ := chk_some H
      obtain ⟨t540, h541, H⟩ := bind_some H
      refine run_region rfl ?_
      refine ops_ex rfl (guard_none rfl) rfl rfl (ex_move rfl rfl) ?_
      refine ops_ex rfl (guard_none rfl) rfl rfl (ex_indexAddr (d := kStr) rfl rfl rfl Tryd.underlying103 tsz9 (HM.own_rd 2 rfl) (idx_lo e539) (idx_hi e539)) ?_
      refine ops_ex rfl (guard_none rfl) rfl rfl (ex_load1 rfl rfl Tryd.underlying9 rfl ((rd_plain (HM.own_rd 2 rfl) e539) 0 _ rfl)) ?_
      refine ops_does rfl (guard_none rfl) rfl rfl (does_callk rfl callok81 rfl (spec_l2Cut.calls (x0 := (gt t514 (2 : Int))) (x1 := 44) h541)) ?_
      rintro u542 w544 ⟨_, rfl, hn⟩
      replace HM : Mem w [] w544 [own kStr 9 u542 t540, box b534 40 [.slice none 0 0, .int .i64 t531.1, .int .i64 0], box b510 40 [.slice none 0 0, .int .i64 0, .int .i64 0], own kStr 9 u516 t514] := HM.call hn
      refine ops_ex rfl (guard_none rfl) rfl rfl (ex_assign rfl rfl) ?_
      refine ops_nil ?_
      refine at_then ?_
      obtain ⟨o584, ho585, H⟩ := bind_some H
      refine run_mid (fun ρ_ w_ => ∃ a580 : Bool, ∃ v581 : Value, ∃ a582 : List Int, (a580, a582) = o584 ∧ ρ_ = [(2, .pointer (some ⟨b510, 0, none⟩)), (4, u516), (6, .bool a580), (7, .pointer (some ⟨b534, 0, none⟩))] ∧ Mem w [] w_ [box b510 40 [.slice none 0 0, .int .i64 0, .int .i64 0], own kStr 9 u516 t514, box b534 40 [v581, .int .i64 t531.1, .int .i64 0], own kInt 2 v581 a582]) ?_ ?_
      · clear H
        refine run_seq ?_
        refine run_region rfl ?_
        refine ops_ex rfl (guard_none rfl) rfl rfl (ex_assign rfl rfl) ?_
        refine ops_nil ?_
        refine at_then ?_
        refine run_block ?_
        replace HM := HM.empty kInt 2 none
        replace HM := HM.front 1 rfl rfl
        replace HM := HM.front 1 rfl rfl
        replace HM := HM.front 2 rfl rfl
        replace HM := HM.front 4 rfl rfl
        replace HM := HM.front 4 rfl rfl
        refine run_loop (fun k_ ρ_ w_ => ∃ a596 : Bool, ∃ v597 : Value, ∃ a598 : List Int, ∃ a600 : Int, spec_l2Parse.l0 t540 k_ a596 a598 a600 = some o584 ∧ ρ_ = [(2, .pointer (some ⟨b510, 0, none⟩)), (4, u516), (6, .bool a596), (7, .pointer (some ⟨b534, 0, none⟩)), (8, u542), (9, .int .i64 a600)] ∧ Mem w [] w_ [box b510 40 [.slice none 0 0, .int .i64 0, .int .i64 0], own kStr 9 u516 t514, box b534 40 [v597, .int .i64 t531.1, .int .i64 0], own kInt 2 v597 a598, own kStr 9 u542 t540]) k (ρ1 := [(2, .pointer (some ⟨b510, 0, none⟩)), (4, u516), (6, .bool t531.2), (7, .pointer (some ⟨b534, 0, none⟩)), (8, u542), (9, .int .i64 0)]) ⟨_, _, _, _, ho585, rfl, HM⟩ (Sub.cons rfl (Sub.cons rfl (Sub.cons rfl (Sub.cons rfl (Sub.cons rfl (Sub.cons rfl Sub.nil)))))) ?_
        clear HM ho585
        rintro k612 _ w613 ⟨a596, v597, a598, a600, ho585, rfl, HM⟩
        obtain _ | k612 := k612
        · exact nomatch ((spec_l2Parse.l0_z t540 a596 a598 a600).symm.trans ho585)
        replace ho585 := (spec_l2Parse.l0_s t540 k612 a596 a598 a600).symm.trans ho585
        refine run_seq ?_
        refine run_seq ?_
        refine run_region rfl ?_
        refine ops_ex rfl (guard_none rfl) rfl rfl (ex_move rfl rfl) ?_
        refine ops_ex rfl (guard_none rfl) rfl rfl (ex_move rfl rfl) ?_
        refine ops_ex rfl (guard_none rfl) rfl rfl (ex_len (d := kStr) (xs := t540) rfl rfl Tryd.underlying103 (HM.own_rd 4 rfl)) ?_
        refine ops_ex rfl (guard_none rfl) rfl rfl (ex_lss rfl rfl rfl) ?_
        refine ops_nil ?_
        refine at_then ?_
        refine run_cond (b := (decide (a600 < (t540.length : Int)))) rfl (fun hb614 => ?_) (fun hb614 => ?_)
        · replace ho585 := cond_t hb614 ho585
          refine run_skip ?_
          refine at_then ?_
          refine run_seq ?_
          refine run_block ?_
          refine run_seq ?_
          obtain ⟨e615, ho585⟩ := chk_some ho585
          obtain ⟨t616, h617, ho585⟩ := bind_some ho585
          refine run_region rfl ?_
          refine ops_ex rfl (guard_none rfl) rfl rfl (ex_move rfl rfl) ?_
          refine ops_ex rfl (guard_none rfl) rfl rfl (ex_move rfl rfl) ?_
          refine ops_ex rfl (guard_none rfl) rfl rfl (ex_indexAddr (d := kStr) rfl rfl rfl Tryd.underlying103 tsz9 (HM.own_rd 4 rfl) (idx_lo e615) (idx_hi e615)) ?_
          refine ops_ex rfl (guard_none rfl) rfl rfl (ex_load1 rfl rfl Tryd.underlying9 rfl ((rd_plain (HM.own_rd 4 rfl) e615) 0 _ rfl)) ?_
          refine ops_does rfl (guard_none rfl) rfl rfl (does_callk rfl callok82 rfl (spec_l2Number.calls (x0 := (gt t540 a600)) (x1 := 3) h617)) ?_
          rintro _ w618 ⟨rfl, hn⟩
          replace HM : Mem w [] w618 [box b510 40 [.slice none 0 0, .int .i64 0, .int .i64 0], own kStr 9 u516 t514, box b534 40 [v597, .int .i64 t531.1, .int .i64 0], own kInt 2 v597 a598, own kStr 9 u542 t540] := HM.call hn
          refine ops_ex rfl (guard_none rfl) rfl rfl (ex_move rfl rfl) ?_
          refine ops_ex rfl (guard_none rfl) rfl rfl (ex_extract rfl rfl rfl) ?_
          refine ops_ex rfl (guard_none rfl) rfl rfl (ex_extract rfl rfl rfl) ?_
          refine ops_ex rfl (guard_none rfl) rfl rfl (ex_assign rfl rfl) ?_
          refine ops_ex rfl (guard_none rfl) rfl rfl (ex_assign rfl rfl) ?_
          refine ops_nil ?_
          refine at_then ?_
          refine run_seq ?_
          refine run_meet (fun ρ_ w_ => ρ_ = [(2, .pointer (some ⟨b510, 0, none⟩)), (4, u516), (6, .bool (a596 && t616.2)), (7, .pointer (some ⟨b534, 0, none⟩)), (8, u542), (9, .int .i64 a600), (10, .int .i64 t616.1)] ∧ Mem w [] w_ [box b510 40 [.slice none 0 0, .int .i64 0, .int .i64 0], own kStr 9 u516 t514, box b534 40 [v597, .int .i64 t531.1, .int .i64 0], own kInt 2 v597 a598, own kStr 9 u542 t540]) ?_ ?_
          · skip
            refine run_region rfl ?_
            refine ops_ex rfl (guard_none rfl) rfl rfl (ex_move rfl rfl) ?_
            refine ops_ex rfl (guard_none rfl) rfl rfl (ex_move rfl rfl) ?_
            refine bool_cases a596 (fun hg619 => ?_) (fun hg619 => ?_)
            · skip
              refine ops_ex rfl (guard_on rfl rfl rfl hg619) rfl rfl (ex_move rfl rfl) ?_
              refine ops_ex (v := .bool (a596 && t616.2)) rfl (guard_none rfl) rfl rfl (ex_pand_t rfl rfl hg619 rfl) ?_
              refine ops_ex rfl (guard_none rfl) rfl rfl (ex_assign rfl rfl) ?_
              refine ops_nil ?_
              exact at_meet [(2, .pointer (some ⟨b510, 0, none⟩)), (4, u516), (6, .bool (a596 && t616.2)), (7, .pointer (some ⟨b534, 0, none⟩)), (8, u542), (9, .int .i64 a600), (10, .int .i64 t616.1)] ⟨rfl, HM⟩ (Sub.cons rfl (Sub.cons rfl (Sub.cons rfl (Sub.cons rfl (Sub.cons rfl (Sub.cons rfl (Sub.cons rfl Sub.nil)))))))
            · skip
              refine ops_off rfl (guard_off rfl rfl rfl hg619) rfl rfl ?_
              have hg620 : (a596 && t616.2) = false := by simp only [hg619, Bool.and_true, Bool.true_and, Bool.and_false, Bool.false_and, Bool.or_true, Bool.true_or, Bool.or_false, Bool.false_or, Bool.not_true, Bool.not_false, Bool.not_not]
              refine ops_ex (v := .bool (a596 && t616.2)) rfl (guard_none rfl) rfl rfl (ex_pand_f rfl rfl hg619) ?_
              refine ops_ex rfl (guard_none rfl) rfl rfl (ex_assign rfl rfl) ?_
              refine ops_nil ?_
              exact at_meet [(2, .pointer (some ⟨b510, 0, none⟩)), (4, u516), (6, .bool (a596 && t616.2)), (7, .pointer (some ⟨b534, 0, none⟩)), (8, u542), (9, .int .i64 a600), (10, .int .i64 t616.1)] ⟨rfl, HM⟩ (Sub.cons rfl (Sub.cons rfl (Sub.cons rfl (Sub.cons rfl (Sub.cons rfl (Sub.cons rfl (Sub.cons rfl Sub.nil)))))))
          · rintro _ w621 ⟨rfl, HM⟩
            refine at_then ?_
            obtain ⟨e625, ho585⟩ := chk_some ho585
            refine run_region rfl ?_
            refine ops_ex rfl (guard_none rfl) rfl rfl (ex_fieldAddr (off' := 0) rfl rfl Tryd.underlying40 rfl tsz38 rfl) ?_
            refine ops_ex rfl (guard_none rfl) rfl rfl (ex_load1 rfl rfl Tryd.underlying38 rfl ((HM.box_at 2 rfl) 0 _ rfl)) ?_
            refine ops_ex rfl (guard_none rfl) rfl rfl (ex_move rfl rfl) ?_
            refine ops_does rfl (guard_none rfl) rfl rfl (does_lit (e := 2) (cs := [.int .i64 t616.1]) (xs := ([t616.1] : List Int)) kInt rfl rfl (fun _ => by kernel_rfl) rfl rfl (fun _ _ h => by have h' : _ = [] := h; subst h'; exact (Elems.cons (d := kInt) (f := []) ⟨rfl, rfl⟩ .nil)) HM.emp) ?_
            rintro v622 w628 HM
            replace HM := HM.front 4 rfl rfl
            refine ops_does rfl (guard_none rfl) rfl rfl (does_appendR kInt flat_plain rfl rfl rfl Tryd.underlying38 tsz2 rfl tby2 tz2 rfl rfl (leB_le e625) (HM.own_rd 1 rfl) HM) ?_
            rintro v626 w629 HM
            refine ops_ex rfl (guard_none rfl) rfl rfl (ex_fieldAddr (off' := 0) rfl rfl Tryd.underlying40 rfl tsz38 rfl) ?_
            replace HM := HM.front 4 rfl rfl
            refine ops_doesS rfl (guard_none rfl) rfl (does_store (vs := [v626]) (cs' := [v626, .int .i64 t531.1, .int .i64 0]) rfl rfl rfl (rd_cells (HM.own_rd 1 rfl)) tsz38 (Ones.rd (HM.own_rd 1 rfl) Ones.nil) rfl rfl HM) ?_
            rintro w630 HM
            refine ops_nil ?_
            refine at_block ?_
            refine at_then ?_
            refine run_region rfl ?_
            refine ops_ex rfl (guard_none rfl) rfl rfl (ex_move rfl rfl) ?_
            refine ops_ex rfl (guard_none rfl) rfl rfl (ex_add rfl rfl rfl) ?_
            refine ops_ex rfl (guard_none rfl) rfl rfl (ex_assign rfl rfl) ?_
            refine ops_nil ?_
            replace HM := (HM.front 2 rfl rfl).drop
            replace HM := HM.front 4 rfl rfl
            replace HM := HM.front 2 rfl rfl
            replace HM := HM.front 2 rfl rfl
            replace HM := HM.front 4 rfl rfl
            replace HM := HM.front 4 rfl rfl
            exact at_again k612 (ρ1 := [(2, .pointer (some ⟨b510, 0, none⟩)), (4, u516), (6, .bool (a596 && t616.2)), (7, .pointer (some ⟨b534, 0, none⟩)), (8, u542), (9, .int .i64 (wrap64 (a600 + 1)))]) (Nat.lt_succ_self _) ⟨_, _, _, _, ho585, rfl, HM⟩ (Sub.cons rfl (Sub.cons rfl (Sub.cons rfl (Sub.cons rfl (Sub.cons rfl (Sub.cons rfl Sub.nil))))))
        · replace ho585 := cond_f hb614 ho585
          refine run_exit ?_
          refine at_then_exit ?_
          refine at_then_exit ?_
          refine at_block_exit ?_
          replace HM := (HM.front 4 rfl rfl).drop
          exact at_mid (ρ' := [(2, .pointer (some ⟨b510, 0, none⟩)), (4, u516), (6, .bool a596), (7, .pointer (some ⟨b534, 0, none⟩))]) ⟨_, _, _, (Option.some.inj ho585), rfl, HM⟩ (Sub.cons rfl (Sub.cons rfl (Sub.cons rfl (Sub.cons rfl Sub.nil))))
      · rintro _ w631 ⟨a580, v581, a582, rfl, rfl, HM⟩
        replace H := cur2_mk H
        obtain ⟨o644, ho645, H⟩ := bind_some H
        refine run_mid (fun ρ_ w_ => ∃ a642 : Bool, ∃ a643 : Int, (a642, a643) = o644 ∧ ρ_ = [(2, .pointer (some ⟨b510, 0, none⟩)), (6, .bool a642), (7, .pointer (some ⟨b534, 0, none⟩))] ∧ Mem w [] w_ [box b510 40 [.slice none 0 0, .int .i64 0, .int .i64 0], box b534 40 [v581, .int .i64 t531.1, .int .i64 a643], own kInt 2 v581 a582]) ?_ ?_
        · clear H
          refine run_seq ?_
          refine run_region rfl ?_
          refine ops_ex rfl (guard_none rfl) rfl rfl (ex_move rfl rfl) ?_
          refine ops_ex rfl (guard_none rfl) rfl rfl (ex_len (d := kStr) (xs := t514) rfl rfl Tryd.underlying103 (HM.own_rd 1 rfl)) ?_
          refine ops_ex rfl (guard_none rfl) rfl rfl (ex_eql rfl rfl rfl) ?_
          refine ops_nil ?_
          refine at_then ?_
          refine run_cond (b := ((t514.length : Int) == 5)) rfl (fun hb646 => ?_) (fun hb646 => ?_)
          · replace ho645 := cond_t hb646 ho645
            refine run_seq ?_
            obtain ⟨e647, ho645⟩ := chk_some ho645
            obtain ⟨t648, h649, ho645⟩ := bind_some ho645
            refine run_region rfl ?_
            refine ops_ex rfl (guard_none rfl) rfl rfl (ex_move rfl rfl) ?_
            refine ops_ex rfl (guard_none rfl) rfl rfl (ex_indexAddr (d := kStr) rfl rfl rfl Tryd.underlying103 tsz9 (HM.own_rd 1 rfl) (idx_lo e647) (idx_hi e647)) ?_
            refine ops_ex rfl (guard_none rfl) rfl rfl (ex_load1 rfl rfl Tryd.underlying9 rfl ((rd_plain (HM.own_rd 1 rfl) e647) 0 _ rfl)) ?_
            refine ops_does rfl (guard_none rfl) rfl rfl (does_callk rfl callok82 rfl (spec_l2Number.calls (x0 := (gt t514 (4 : Int))) (x1 := 3) h649)) ?_
            rintro _ w650 ⟨rfl, hn⟩
            replace HM : Mem w [] w650 [box b510 40 [.slice none 0 0, .int .i64 0, .int .i64 0], own kStr 9 u516 t514, box b534 40 [v581, .int .i64 t531.1, .int .i64 0], own kInt 2 v581 a582] := HM.call hn
            refine ops_ex rfl (guard_none rfl) rfl rfl (ex_move rfl rfl) ?_
            refine ops_ex rfl (guard_none rfl) rfl rfl (ex_extract rfl rfl rfl) ?_
            refine ops_ex rfl (guard_none rfl) rfl rfl (ex_extract rfl rfl rfl) ?_
            refine ops_ex rfl (guard_none rfl) rfl rfl (ex_assign rfl rfl) ?_
            refine ops_ex rfl (guard_none rfl) rfl rfl (ex_assign rfl rfl) ?_
            refine ops_nil ?_
            refine at_then ?_
            refine run_seq ?_
            obtain ⟨e651, ho645⟩ := chk_some ho645
            refine run_meet (fun ρ_ w_ => ρ_ = [(2, .pointer (some ⟨b510, 0, none⟩)), (6, .bool (((a580 && t648.2) && (sEq (gt t514 (3 : Int)) (⟨#[97, 102, 116, 101, 114]⟩ : ByteArray))) && (decide (0 < t648.1)))), (7, .pointer (some ⟨b534, 0, none⟩)), (12, .int .i64 t648.1)] ∧ Mem w [] w_ [box b510 40 [.slice none 0 0, .int .i64 0, .int .i64 0], box b534 40 [v581, .int .i64 t531.1, .int .i64 0], own kInt 2 v581 a582]) ?_ ?_
            · skip
              refine run_region rfl ?_
              refine ops_ex rfl (guard_none rfl) rfl rfl (ex_move rfl rfl) ?_
              refine ops_ex rfl (guard_none rfl) rfl rfl (ex_move rfl rfl) ?_
              refine bool_cases a580 (fun hg652 => ?_) (fun hg652 => ?_)
              · skip
                refine ops_ex rfl (guard_on rfl rfl rfl hg652) rfl rfl (ex_move rfl rfl) ?_
                refine ops_ex (v := .bool (a580 && t648.2)) rfl (guard_none rfl) rfl rfl (ex_pand_t rfl rfl hg652 rfl) ?_
                refine ops_ex rfl (guard_none rfl) rfl rfl (ex_move rfl rfl) ?_
                refine bool_cases (a580 && t648.2) (fun hg653 => ?_) (fun hg653 => ?_)
                · skip
                  refine ops_ex rfl (guard_on rfl rfl rfl hg653) rfl rfl (ex_move rfl rfl) ?_
                  refine ops_ex rfl (guard_on rfl rfl rfl hg653) rfl rfl (ex_indexAddr (d := kStr) rfl rfl rfl Tryd.underlying103 tsz9 (HM.own_rd 1 rfl) (idx_lo (or_t e651 hg653)) (idx_hi (or_t e651 hg653))) ?_
                  refine ops_ex rfl (guard_on rfl rfl rfl hg653) rfl rfl (ex_load1 rfl rfl Tryd.underlying9 rfl ((rd_plain (HM.own_rd 1 rfl) (or_t e651 hg653)) 0 _ rfl)) ?_
                  refine ops_ex rfl (guard_on rfl rfl rfl hg653) rfl rfl (ex_seql rfl rfl rfl) ?_
                  refine ops_ex (v := .bool ((a580 && t648.2) && (sEq (gt t514 (3 : Int)) (⟨#[97, 102, 116, 101, 114]⟩ : ByteArray)))) rfl (guard_none rfl) rfl rfl (ex_pand_t rfl rfl hg653 rfl) ?_
                  refine ops_ex rfl (guard_none rfl) rfl rfl (ex_move rfl rfl) ?_
                  refine bool_cases ((a580 && t648.2) && (sEq (gt t514 (3 : Int)) (⟨#[97, 102, 116, 101, 114]⟩ : ByteArray))) (fun hg654 => ?_) (fun hg654 => ?_)
                  · skip
                    refine ops_ex rfl (guard_on rfl rfl rfl hg654) rfl rfl (ex_move rfl rfl) ?_
                    refine ops_ex rfl (guard_on rfl rfl rfl hg654) rfl rfl (ex_gtr rfl rfl rfl) ?_
                    refine ops_ex (v := .bool (((a580 && t648.2) && (sEq (gt t514 (3 : Int)) (⟨#[97, 102, 116, 101, 114]⟩ : ByteArray))) && (decide (0 < t648.1)))) rfl (guard_none rfl) rfl rfl (ex_pand_t rfl rfl hg654 rfl) ?_
                    refine ops_ex rfl (guard_none rfl) rfl rfl (ex_assign rfl rfl) ?_
                    refine ops_nil ?_
                    replace HM := (HM.front 1 rfl rfl).drop
                    exact at_meet [(2, .pointer (some ⟨b510, 0, none⟩)), (6, .bool (((a580 && t648.2) && (sEq (gt t514 (3 : Int)) (⟨#[97, 102, 116, 101, 114]⟩ : ByteArray))) && (decide (0 < t648.1)))), (7, .pointer (some ⟨b534, 0, none⟩)), (12, .int .i64 t648.1)] ⟨rfl, HM⟩ (Sub.cons rfl (Sub.cons rfl (Sub.cons rfl (Sub.cons rfl Sub.nil))))
                  · skip
                    refine ops_off rfl (guard_off rfl rfl rfl hg654) rfl rfl ?_
                    refine ops_off rfl (guard_off rfl rfl rfl hg654) rfl rfl ?_
                    have hg655 : (((a580 && t648.2) && (sEq (gt t514 (3 : Int)) (⟨#[97, 102, 116, 101, 114]⟩ : ByteArray))) && (decide (0 < t648.1))) = false := by simp only [hg654, Bool.and_true, Bool.true_and, Bool.and_false, Bool.false_and, Bool.or_true, Bool.true_or, Bool.or_false, Bool.false_or, Bool.not_true, Bool.not_false, Bool.not_not]
                    refine ops_ex (v := .bool (((a580 && t648.2) && (sEq (gt t514 (3 : Int)) (⟨#[97, 102, 116, 101, 114]⟩ : ByteArray))) && (decide (0 < t648.1)))) rfl (guard_none rfl) rfl rfl (ex_pand_f rfl rfl hg654) ?_
                    refine ops_ex rfl (guard_none rfl) rfl rfl (ex_assign rfl rfl) ?_
                    refine ops_nil ?_
                    replace HM := (HM.front 1 rfl rfl).drop
                    exact at_meet [(2, .pointer (some ⟨b510, 0, none⟩)), (6, .bool (((a580 && t648.2) && (sEq (gt t514 (3 : Int)) (⟨#[97, 102, 116, 101, 114]⟩ : ByteArray))) && (decide (0 < t648.1)))), (7, .pointer (some ⟨b534, 0, none⟩)), (12, .int .i64 t648.1)] ⟨rfl, HM⟩ (Sub.cons rfl (Sub.cons rfl (Sub.cons rfl (Sub.cons rfl Sub.nil))))
                · skip
                  refine ops_off rfl (guard_off rfl rfl rfl hg653) rfl rfl ?_
                  refine ops_off rfl (guard_off rfl rfl rfl hg653) rfl rfl ?_
                  refine ops_off rfl (guard_off rfl rfl rfl hg653) rfl rfl ?_
                  refine ops_off rfl (guard_off rfl rfl rfl hg653) rfl rfl ?_
                  have hg656 : ((a580 && t648.2) && (sEq (gt t514 (3 : Int)) (⟨#[97, 102, 116, 101, 114]⟩ : ByteArray))) = false := by simp only [hg653, Bool.and_true, Bool.true_and, Bool.and_false, Bool.false_and, Bool.or_true, Bool.true_or, Bool.or_false, Bool.false_or, Bool.not_true, Bool.not_false, Bool.not_not]
                  refine ops_ex (v := .bool ((a580 && t648.2) && (sEq (gt t514 (3 : Int)) (⟨#[97, 102, 116, 101, 114]⟩ : ByteArray)))) rfl (guard_none rfl) rfl rfl (ex_pand_f rfl rfl hg653) ?_
                  refine ops_ex rfl (guard_none rfl) rfl rfl (ex_move rfl rfl) ?_
                  refine ops_off rfl (guard_off rfl rfl rfl hg656) rfl rfl ?_
                  refine ops_off rfl (guard_off rfl rfl rfl hg656) rfl rfl ?_
                  have hg657 : (((a580 && t648.2) && (sEq (gt t514 (3 : Int)) (⟨#[97, 102, 116, 101, 114]⟩ : ByteArray))) && (decide (0 < t648.1))) = false := by simp only [hg656, Bool.and_true, Bool.true_and, Bool.and_false, Bool.false_and, Bool.or_true, Bool.true_or, Bool.or_false, Bool.false_or, Bool.not_true, Bool.not_false, Bool.not_not]
                  refine ops_ex (v := .bool (((a580 && t648.2) && (sEq (gt t514 (3 : Int)) (⟨#[97, 102, 116, 101, 114]⟩ : ByteArray))) && (decide (0 < t648.1)))) rfl (guard_none rfl) rfl rfl (ex_pand_f rfl rfl hg656) ?_
                  refine ops_ex rfl (guard_none rfl) rfl rfl (ex_assign rfl rfl) ?_
                  refine ops_nil ?_
                  replace HM := (HM.front 1 rfl rfl).drop
                  exact at_meet [(2, .pointer (some ⟨b510, 0, none⟩)), (6, .bool (((a580 && t648.2) && (sEq (gt t514 (3 : Int)) (⟨#[97, 102, 116, 101, 114]⟩ : ByteArray))) && (decide (0 < t648.1)))), (7, .pointer (some ⟨b534, 0, none⟩)), (12, .int .i64 t648.1)] ⟨rfl, HM⟩ (Sub.cons rfl (Sub.cons rfl (Sub.cons rfl (Sub.cons rfl Sub.nil))))
              · skip
                refine ops_off rfl (guard_off rfl rfl rfl hg652) rfl rfl ?_
                have hg658 : (a580 && t648.2) = false := by simp only [hg652, Bool.and_true, Bool.true_and, Bool.and_false, Bool.false_and, Bool.or_true, Bool.true_or, Bool.or_false, Bool.false_or, Bool.not_true, Bool.not_false, Bool.not_not]
                refine ops_ex (v := .bool (a580 && t648.2)) rfl (guard_none rfl) rfl rfl (ex_pand_f rfl rfl hg652) ?_
                refine ops_ex rfl (guard_none rfl) rfl rfl (ex_move rfl rfl) ?_
                refine ops_off rfl (guard_off rfl rfl rfl hg658) rfl rfl ?_
                refine ops_off rfl (guard_off rfl rfl rfl hg658) rfl rfl ?_
                refine ops_off rfl (guard_off rfl rfl rfl hg658) rfl rfl ?_
                refine ops_off rfl (guard_off rfl rfl rfl hg658) rfl rfl ?_
                have hg659 : ((a580 && t648.2) && (sEq (gt t514 (3 : Int)) (⟨#[97, 102, 116, 101, 114]⟩ : ByteArray))) = false := by simp only [hg658, Bool.and_true, Bool.true_and, Bool.and_false, Bool.false_and, Bool.or_true, Bool.true_or, Bool.or_false, Bool.false_or, Bool.not_true, Bool.not_false, Bool.not_not]
                refine ops_ex (v := .bool ((a580 && t648.2) && (sEq (gt t514 (3 : Int)) (⟨#[97, 102, 116, 101, 114]⟩ : ByteArray)))) rfl (guard_none rfl) rfl rfl (ex_pand_f rfl rfl hg658) ?_
                refine ops_ex rfl (guard_none rfl) rfl rfl (ex_move rfl rfl) ?_
                refine ops_off rfl (guard_off rfl rfl rfl hg659) rfl rfl ?_
                refine ops_off rfl (guard_off rfl rfl rfl hg659) rfl rfl ?_
                have hg660 : (((a580 && t648.2) && (sEq (gt t514 (3 : Int)) (⟨#[97, 102, 116, 101, 114]⟩ : ByteArray))) && (decide (0 < t648.1))) = false := by simp only [hg659, Bool.and_true, Bool.true_and, Bool.and_false, Bool.false_and, Bool.or_true, Bool.true_or, Bool.or_false, Bool.false_or, Bool.not_true, Bool.not_false, Bool.not_not]
                refine ops_ex (v := .bool (((a580 && t648.2) && (sEq (gt t514 (3 : Int)) (⟨#[97, 102, 116, 101, 114]⟩ : ByteArray))) && (decide (0 < t648.1)))) rfl (guard_none rfl) rfl rfl (ex_pand_f rfl rfl hg659) ?_
                refine ops_ex rfl (guard_none rfl) rfl rfl (ex_assign rfl rfl) ?_
                refine ops_nil ?_
                replace HM := (HM.front 1 rfl rfl).drop
                exact at_meet [(2, .pointer (some ⟨b510, 0, none⟩)), (6, .bool (((a580 && t648.2) && (sEq (gt t514 (3 : Int)) (⟨#[97, 102, 116, 101, 114]⟩ : ByteArray))) && (decide (0 < t648.1)))), (7, .pointer (some ⟨b534, 0, none⟩)), (12, .int .i64 t648.1)] ⟨rfl, HM⟩ (Sub.cons rfl (Sub.cons rfl (Sub.cons rfl (Sub.cons rfl Sub.nil))))
            · rintro _ w661 ⟨rfl, HM⟩
              refine at_then ?_
              refine run_region rfl ?_
              refine ops_ex rfl (guard_none rfl) rfl rfl (ex_move rfl rfl) ?_
              refine ops_ex rfl (guard_none rfl) rfl rfl (ex_fieldAddr (off' := 2) rfl rfl Tryd.underlying40 rfl tsz2 rfl) ?_
              replace HM := HM.front 1 rfl rfl
              refine ops_doesS rfl (guard_none rfl) rfl (does_store (vs := [.int .i64 t648.1]) (cs' := [v581, .int .i64 t531.1, .int .i64 t648.1]) rfl rfl rfl rfl tsz2 (Ones.int Ones.nil) rfl rfl HM) ?_
              rintro w662 HM
              refine ops_nil ?_
              replace HM := HM.front 2 rfl rfl
              replace HM := HM.front 1 rfl rfl
              replace HM := HM.front 2 rfl rfl
              exact at_mid (ρ' := [(2, .pointer (some ⟨b510, 0, none⟩)), (6, .bool (((a580 && t648.2) && (sEq (gt t514 (3 : Int)) (⟨#[97, 102, 116, 101, 114]⟩ : ByteArray))) && (decide (0 < t648.1)))), (7, .pointer (some ⟨b534, 0, none⟩))]) ⟨_, _, (Option.some.inj ho645), rfl, HM⟩ (Sub.cons rfl (Sub.cons rfl (Sub.cons rfl Sub.nil)))
          · replace ho645 := cond_f hb646 ho645
            refine run_skip ?_
            replace HM := (HM.front 1 rfl rfl).drop
            exact at_mid (ρ' := [(2, .pointer (some ⟨b510, 0, none⟩)), (6, .bool a580), (7, .pointer (some ⟨b534, 0, none⟩))]) ⟨_, _, (Option.some.inj ho645), rfl, HM⟩ (Sub.cons rfl (Sub.cons rfl (Sub.cons rfl Sub.nil)))
        · rintro _ w663 ⟨a642, a643, rfl, rfl, HM⟩
          replace H := cur2_mk H
          refine run_seq ?_
          obtain ⟨t664, h665, H⟩ := bind_some H
          refine run_meet (fun ρ_ w_ => ρ_ = [(2, .pointer (some ⟨b510, 0, none⟩)), (3, .bool (a642 && (t664 == 0)))] ∧ Mem w [] w_ [box b510 40 [v581, .int .i64 t531.1, .int .i64 a643], own kInt 2 v581 a582]) ?_ ?_
          · skip
            refine run_drawf (fun w_ => Mem w [] w_ [box b534 40 [v581, .int .i64 t531.1, .int .i64 a643], own kInt 2 v581 a582]) [(0, true), (1, true), (2, true), (3, false), (4, true), (5, true), (6, false), (7, true)] mixed rfl rfl (by kernel_rfl) ?_
            replace HM := HM.grow (fr_drew _)
            have hS := Mem.suf (M := [box b510 40 [.slice none 0 0, .int .i64 0, .int .i64 0]]) HM
            refine drwp_take rfl (guard_none rfl) rfl rfl (fun w_ hS_ => (ex_loadN (cs := [v581, (.int .i64 t531.1), (.int .i64 a643)]) rfl rfl Tryd.underlying40 rfl tsz40 rfl ((hS_.box_at 0 rfl).sub 0 3 rfl))) hS ?_
            refine drwp_take rfl (guard_none rfl) rfl rfl (fun w_ hS_ => (ex_move rfl rfl)) hS ?_
            refine drwp_take rfl (guard_none rfl) rfl rfl (fun w_ hS_ => (ex_move rfl rfl)) hS ?_
            refine bool_cases a642 (fun hg666 => ?_) (fun hg666 => ?_)
            · skip
              refine drwp_one rfl (guard_on rfl rfl rfl hg666) rfl rfl (does_callk rfl callok83 rfl (spec_l2Fault.calls (x0 := (⟨a582, t531.1, a643⟩ : Rule)) (HM.box_at 1 rfl) (HM.own_rd 2 rfl) (cond_t hg666 h665))) ?_
              rintro _ w667 ⟨rfl, hn⟩
              replace HM : Mem w [] w667 [box b510 40 [.slice none 0 0, .int .i64 0, .int .i64 0], box b534 40 [v581, .int .i64 t531.1, .int .i64 a643], own kInt 2 v581 a582] := HM.call hn
              refine ⟨Mem.suf (M := [box b510 40 [.slice none 0 0, .int .i64 0, .int .i64 0]]) HM, ?_⟩
              have hS := Mem.suf (M := [box b510 40 [.slice none 0 0, .int .i64 0, .int .i64 0]]) HM
              refine drwp_take rfl (guard_on rfl rfl rfl hg666) rfl rfl (fun w_ hS_ => (ex_eql rfl rfl rfl)) hS ?_
              refine drwp_take (v := .bool (a642 && (t664 == 0))) rfl (guard_none rfl) rfl rfl (fun w_ hS_ => (ex_pand_t rfl rfl hg666 rfl)) hS ?_
              refine drwp_oneS rfl (guard_none rfl) rfl (does_store (vs := [v581, .int .i64 t531.1, .int .i64 a643]) (cs' := [v581, .int .i64 t531.1, .int .i64 a643]) rfl rfl rfl rfl tsz40 (Ones.rd (HM.own_rd 2 rfl) (Ones.int (Ones.int Ones.nil))) rfl rfl HM) ?_
              rintro w668 HM
              refine ⟨Mem.suf (M := [box b510 40 [v581, .int .i64 t531.1, .int .i64 a643]]) HM, ?_⟩
              have hS := Mem.suf (M := [box b510 40 [v581, .int .i64 t531.1, .int .i64 a643]]) HM
              refine drwp_take rfl (guard_none rfl) rfl rfl (fun w_ hS_ => (ex_assign rfl rfl)) hS ?_
              refine drwp_done ?_
              replace HM := (HM.front 1 rfl rfl).drop
              exact at_meet [(2, .pointer (some ⟨b510, 0, none⟩)), (3, .bool (a642 && (t664 == 0)))] ⟨rfl, HM⟩ (Sub.cons rfl (Sub.cons rfl Sub.nil))
            · skip
              refine drwp_off1 rfl (guard_off rfl rfl rfl hg666) rfl rfl ⟨hS, ?_⟩
              refine drwp_off rfl (guard_off rfl rfl rfl hg666) rfl rfl hS ?_
              have hg669 : (a642 && (t664 == 0)) = false := by simp only [hg666, Bool.and_true, Bool.true_and, Bool.and_false, Bool.false_and, Bool.or_true, Bool.true_or, Bool.or_false, Bool.false_or, Bool.not_true, Bool.not_false, Bool.not_not]
              refine drwp_take (v := .bool (a642 && (t664 == 0))) rfl (guard_none rfl) rfl rfl (fun w_ hS_ => (ex_pand_f rfl rfl hg666)) hS ?_
              refine drwp_oneS rfl (guard_none rfl) rfl (does_store (vs := [v581, .int .i64 t531.1, .int .i64 a643]) (cs' := [v581, .int .i64 t531.1, .int .i64 a643]) rfl rfl rfl rfl tsz40 (Ones.rd (HM.own_rd 2 rfl) (Ones.int (Ones.int Ones.nil))) rfl rfl HM) ?_
              rintro w670 HM
              refine ⟨Mem.suf (M := [box b510 40 [v581, .int .i64 t531.1, .int .i64 a643]]) HM, ?_⟩
              have hS := Mem.suf (M := [box b510 40 [v581, .int .i64 t531.1, .int .i64 a643]]) HM
              refine drwp_take rfl (guard_none rfl) rfl rfl (fun w_ hS_ => (ex_assign rfl rfl)) hS ?_
              refine drwp_done ?_
              replace HM := (HM.front 1 rfl rfl).drop
              exact at_meet [(2, .pointer (some ⟨b510, 0, none⟩)), (3, .bool (a642 && (t664 == 0)))] ⟨rfl, HM⟩ (Sub.cons rfl (Sub.cons rfl Sub.nil))
          · rintro _ w671 ⟨rfl, HM⟩
            refine at_then ?_
            refine run_ret ?_
            have hcb0 := HM.box_at 0 rfl
            replace HM := (HM.front 0 rfl rfl).drop
            have hR := Option.some.inj H
            subst hR
            exact at_retN1 rfl rfl rfl Tryd.underlying40 rfl tsz40 rfl hcb0 ⟨_, rfl, _, rfl, HM⟩
end Go.Proofs.YtcpacdbdehphkaaDoor.Zk
