/- What functions of the program compute, each as a plain function, and that they do. Conditions: as each theorem states them. -/
import Derived.Test.YtiiimifniobfhaaDoorParseBlockZkTy
namespace Go.Proofs.YtiiimifniobfhaaDoor.Zk
open Go Go.RowKit Go.IntWalk Go.Proofs
set_option linter.unusedVariables false
set_option linter.unusedSimpArgs false
set_option maxRecDepth 100000
set_option maxHeartbeats 4000000
def spec_l2Cut.l0 (x0 : ByteArray) (x1 : Int) : Nat → (List ByteArray) → Int → Int → Option ((List ByteArray))
  | 0, _, _, _ => none
  | k + 1, a114, a116, a117 => (bif (decide (a117 ≤ (x0.size : Int))) then (chk (!(!(a117 == (x0.size : Int))) || (idxOk a117 x0.size)) (bif ((a117 == (x0.size : Int)) || ((bt x0 a117) == x1)) then (chk (cutOk a117 x0.size) (chk (cutOk a116 (a117).toNat) (chk (leB ((a114.length + ([x0.extract (a116).toNat (a117).toNat] : List ByteArray).length) * 16) 140737488355328) (spec_l2Cut.l0 x0 x1 k (a114 ++ ([x0.extract (a116).toNat (a117).toNat] : List ByteArray)) (wrap64 (a117 + 1)) (wrap64 (a117 + 1)))))) else spec_l2Cut.l0 x0 x1 k a114 a116 (wrap64 (a117 + 1)))) else some a114)
theorem spec_l2Cut.l0_z (x0 : ByteArray) (x1 : Int) (a114 : List ByteArray) (a116 : Int) (a117 : Int) : spec_l2Cut.l0 x0 x1 0 a114 a116 a117 = none := rfl
theorem spec_l2Cut.l0_s (x0 : ByteArray) (x1 : Int) (k : Nat) (a114 : List ByteArray) (a116 : Int) (a117 : Int) : spec_l2Cut.l0 x0 x1 (k + 1) a114 a116 a117 = (bif (decide (a117 ≤ (x0.size : Int))) then (chk (!(!(a117 == (x0.size : Int))) || (idxOk a117 x0.size)) (bif ((a117 == (x0.size : Int)) || ((bt x0 a117) == x1)) then (chk (cutOk a117 x0.size) (chk (cutOk a116 (a117).toNat) (chk (leB ((a114.length + ([x0.extract (a116).toNat (a117).toNat] : List ByteArray).length) * 16) 140737488355328) (spec_l2Cut.l0 x0 x1 k (a114 ++ ([x0.extract (a116).toNat (a117).toNat] : List ByteArray)) (wrap64 (a117 + 1)) (wrap64 (a117 + 1)))))) else spec_l2Cut.l0 x0 x1 k a114 a116 (wrap64 (a117 + 1)))) else some a114) := rfl
def spec_l2Cut.f (k : Nat) (x0 : ByteArray) (x1 : Int) : Option ((List ByteArray)) := ((spec_l2Cut.l0 x0 x1 k ([] : List ByteArray) 0 0).bind (fun a98 => some a98))
theorem spec_l2Cut.calls {k : Nat} {x0 : ByteArray} {x1 : Int}  {w : World}  {r : (List ByteArray)} (H : spec_l2Cut.f k x0 x1 = some r) :
    Calls Tryd.prog 88 ([.string x0, .int .u8 x1] : List Value).toArray w (fun e w_ => ∃ v, e = .returned v ∧ ∃ u0 : Value, v = u0 ∧ Mem w [] w_ [own kStr 9 u0 r]) := by
  have HM := Mem.start w
  refine calls_run (N := 36) Tryd.func88 rfl rfl rfl rfl ?_
  unfold spec_l2Cut.f at H
  refine run_seq ?_
  refine run_region rfl ?_
  refine ops_ex rfl (guard_none rfl) rfl rfl (ex_assign rfl rfl) ?_
  refine ops_nil ?_
  refine at_then ?_
  refine run_seq ?_
  refine run_region rfl ?_
  refine ops_does rfl (guard_none rfl) rfl rfl (does_lit (e := 9) (cs := []) (xs := ([] : List ByteArray)) kStr rfl rfl (fun _ => by kernel_rfl) rfl rfl (fun _ _ h => by have h' : _ = [] := h; subst h'; exact .nil) HM.emp) ?_
  rintro v55 w58 HM
  refine ops_ex rfl (guard_none rfl) rfl rfl (ex_assign rfl rfl) ?_
  refine ops_nil ?_
  refine at_then ?_
  refine run_seq ?_
  refine run_region rfl ?_
  refine ops_ex rfl (guard_none rfl) rfl rfl (ex_assign rfl rfl) ?_
  refine ops_nil ?_
  refine at_then ?_
  obtain ⟨o100, ho101, H⟩ := bind_some H
  refine run_mid (fun ρ_ w_ => ∃ v97 : Value, ∃ a98 : List ByteArray, a98 = o100 ∧ ρ_ = [(5, v97)] ∧ Mem w [] w_ [own kStr 9 v97 a98]) ?_ ?_
  · clear H
    refine run_seq ?_
    refine run_region rfl ?_
    refine ops_ex rfl (guard_none rfl) rfl rfl (ex_assign rfl rfl) ?_
    refine ops_nil ?_
    refine at_then ?_
    refine run_block ?_
    refine run_loop (fun k_ ρ_ w_ => ∃ v113 : Value, ∃ a114 : List ByteArray, ∃ a116 : Int, ∃ a117 : Int, spec_l2Cut.l0 x0 x1 k_ a114 a116 a117 = some o100 ∧ ρ_ = [(0, .string x0), (1, .int .u8 x1), (5, v113), (6, .int .i64 a116), (7, .int .i64 a117)] ∧ Mem w [] w_ [own kStr 9 v113 a114]) k (ρ1 := [(0, .string x0), (1, .int .u8 x1), (5, v55), (6, .int .i64 0), (7, .int .i64 0)]) ⟨_, _, _, _, ho101, rfl, HM⟩ (Sub.cons rfl (Sub.cons rfl (Sub.cons rfl (Sub.cons rfl (Sub.cons rfl Sub.nil))))) ?_
    clear HM ho101
    rintro k129 _ w130 ⟨v113, a114, a116, a117, ho101, rfl, HM⟩
    obtain _ | k129 := k129
    · exact nomatch ((spec_l2Cut.l0_z x0 x1 a114 a116 a117).symm.trans ho101)
    replace ho101 := (spec_l2Cut.l0_s x0 x1 k129 a114 a116 a117).symm.trans ho101
    refine run_seq ?_
    refine run_seq ?_
    refine run_region rfl ?_
    refine ops_ex rfl (guard_none rfl) rfl rfl (ex_move rfl rfl) ?_
    refine ops_ex rfl (guard_none rfl) rfl rfl (ex_move rfl rfl) ?_
    refine ops_ex rfl (guard_none rfl) rfl rfl (ex_strlen rfl rfl Tryd.underlying9) ?_
    refine ops_ex rfl (guard_none rfl) rfl rfl (ex_leq rfl rfl rfl) ?_
    refine ops_nil ?_
    refine at_then ?_
    refine run_cond (b := (decide (a117 ≤ (x0.size : Int)))) rfl (fun hb131 => ?_) (fun hb131 => ?_)
    · replace ho101 := cond_t hb131 ho101
      refine run_skip ?_
      refine at_then ?_
      refine run_seq ?_
      refine run_block ?_
      refine run_seq ?_
      obtain ⟨e132, ho101⟩ := chk_some ho101
      refine run_meet (fun ρ_ w_ => ρ_ = [(0, .string x0), (1, .int .u8 x1), (5, v113), (6, .int .i64 a116), (7, .int .i64 a117), (25, .bool ((a117 == (x0.size : Int)) || ((bt x0 a117) == x1)))] ∧ Mem w [] w_ [own kStr 9 v113 a114]) ?_ ?_
      · skip
        refine run_region rfl ?_
        refine ops_ex rfl (guard_none rfl) rfl rfl (ex_move rfl rfl) ?_
        refine ops_ex rfl (guard_none rfl) rfl rfl (ex_move rfl rfl) ?_
        refine ops_ex rfl (guard_none rfl) rfl rfl (ex_strlen rfl rfl Tryd.underlying9) ?_
        refine ops_ex rfl (guard_none rfl) rfl rfl (ex_eql rfl rfl rfl) ?_
        refine ops_ex rfl (guard_none rfl) rfl rfl (ex_move rfl rfl) ?_
        refine bool_cases (a117 == (x0.size : Int)) (fun hg133 => ?_) (fun hg133 => ?_)
        · skip
          refine ops_off rfl (guard_off rfl rfl rfl hg133) rfl rfl ?_
          refine ops_off rfl (guard_off rfl rfl rfl hg133) rfl rfl ?_
          refine ops_off rfl (guard_off rfl rfl rfl hg133) rfl rfl ?_
          refine ops_off rfl (guard_off rfl rfl rfl hg133) rfl rfl ?_
          refine ops_off rfl (guard_off rfl rfl rfl hg133) rfl rfl ?_
          have hg134 : ((a117 == (x0.size : Int)) || ((bt x0 a117) == x1)) = true := by simp only [hg133, Bool.and_true, Bool.true_and, Bool.and_false, Bool.false_and, Bool.or_true, Bool.true_or, Bool.or_false, Bool.false_or, Bool.not_true, Bool.not_false, Bool.not_not]
          refine ops_ex (v := .bool ((a117 == (x0.size : Int)) || ((bt x0 a117) == x1))) rfl (guard_none rfl) rfl rfl (ex_por_t rfl rfl hg133) ?_
          refine ops_nil ?_
          exact at_meet [(0, .string x0), (1, .int .u8 x1), (5, v113), (6, .int .i64 a116), (7, .int .i64 a117), (25, .bool ((a117 == (x0.size : Int)) || ((bt x0 a117) == x1)))] ⟨rfl, HM⟩ (Sub.cons rfl (Sub.cons rfl (Sub.cons rfl (Sub.cons rfl (Sub.cons rfl (Sub.cons rfl Sub.nil))))))
        · skip
          refine ops_ex rfl (guard_on rfl rfl rfl hg133) rfl rfl (ex_move rfl rfl) ?_
          refine ops_ex rfl (guard_on rfl rfl rfl hg133) rfl rfl (ex_move rfl rfl) ?_
          refine ops_ex rfl (guard_on rfl rfl rfl hg133) rfl rfl (ex_sindex rfl rfl rfl Tryd.underlying9 (idx_lo (or_t e132 (not_mk hg133))) (idx_hi (or_t e132 (not_mk hg133)))) ?_
          refine ops_ex rfl (guard_on rfl rfl rfl hg133) rfl rfl (ex_move rfl rfl) ?_
          refine ops_ex rfl (guard_on rfl rfl rfl hg133) rfl rfl (ex_eql rfl rfl rfl) ?_
          refine ops_ex (v := .bool ((a117 == (x0.size : Int)) || ((bt x0 a117) == x1))) rfl (guard_none rfl) rfl rfl (ex_por_f rfl rfl hg133 rfl) ?_
          refine ops_nil ?_
          exact at_meet [(0, .string x0), (1, .int .u8 x1), (5, v113), (6, .int .i64 a116), (7, .int .i64 a117), (25, .bool ((a117 == (x0.size : Int)) || ((bt x0 a117) == x1)))] ⟨rfl, HM⟩ (Sub.cons rfl (Sub.cons rfl (Sub.cons rfl (Sub.cons rfl (Sub.cons rfl (Sub.cons rfl Sub.nil))))))
      · rintro _ w135 ⟨rfl, HM⟩
        refine at_then ?_
        refine run_cond (b := ((a117 == (x0.size : Int)) || ((bt x0 a117) == x1))) rfl (fun hb136 => ?_) (fun hb136 => ?_)
        · replace ho101 := cond_t hb136 ho101
          refine run_seq ?_
          obtain ⟨e137, ho101⟩ := chk_some ho101
          obtain ⟨e138, ho101⟩ := chk_some ho101
          obtain ⟨e142, ho101⟩ := chk_some ho101
          refine run_region rfl ?_
          refine ops_ex rfl (guard_none rfl) rfl rfl (ex_move rfl rfl) ?_
          refine ops_ex rfl (guard_none rfl) rfl rfl (ex_move rfl rfl) ?_
          refine ops_ex rfl (guard_none rfl) rfl rfl (ex_move rfl rfl) ?_
          refine ops_ex rfl (guard_none rfl) rfl rfl (ex_move rfl rfl) ?_
          refine ops_ex rfl (guard_none rfl) rfl rfl (ex_scutLH rfl rfl rfl rfl Tryd.underlying9 e138 e137) ?_
          refine ops_does rfl (guard_none rfl) rfl rfl (does_lit (e := 9) (cs := [.string (x0.extract (a116).toNat (a117).toNat)]) (xs := ([x0.extract (a116).toNat (a117).toNat] : List ByteArray)) kStr rfl rfl (fun _ => by kernel_rfl) rfl rfl (fun _ _ h => by have h' : _ = [] := h; subst h'; exact (Elems.cons (d := kStr) (f := []) ⟨rfl, rfl⟩ .nil)) HM.emp) ?_
          rintro v139 w145 HM
          replace HM := HM.front 1 rfl rfl
          refine ops_does rfl (guard_none rfl) rfl rfl (does_appendR kStr flat_plain rfl rfl rfl Tryd.underlying107 tsz9 rfl tby9 tz9 rfl rfl (leB_le e142) (HM.own_rd 1 rfl) HM) ?_
          rintro v143 w146 HM
          refine ops_ex rfl (guard_none rfl) rfl rfl (ex_assign rfl rfl) ?_
          refine ops_nil ?_
          refine at_then ?_
          refine run_region rfl ?_
          refine ops_ex rfl (guard_none rfl) rfl rfl (ex_move rfl rfl) ?_
          refine ops_ex rfl (guard_none rfl) rfl rfl (ex_add rfl rfl rfl) ?_
          refine ops_ex rfl (guard_none rfl) rfl rfl (ex_assign rfl rfl) ?_
          refine ops_nil ?_
          refine at_block ?_
          refine at_then ?_
          refine run_region rfl ?_
          refine ops_ex rfl (guard_none rfl) rfl rfl (ex_move rfl rfl) ?_
          refine ops_ex rfl (guard_none rfl) rfl rfl (ex_add rfl rfl rfl) ?_
          refine ops_ex rfl (guard_none rfl) rfl rfl (ex_assign rfl rfl) ?_
          refine ops_nil ?_
          replace HM := (HM.front 1 rfl rfl).drop
          exact at_again k129 (ρ1 := [(0, .string x0), (1, .int .u8 x1), (5, v143), (6, .int .i64 (wrap64 (a117 + 1))), (7, .int .i64 (wrap64 (a117 + 1)))]) (Nat.lt_succ_self _) ⟨_, _, _, _, ho101, rfl, HM⟩ (Sub.cons rfl (Sub.cons rfl (Sub.cons rfl (Sub.cons rfl (Sub.cons rfl Sub.nil)))))
        · replace ho101 := cond_f hb136 ho101
          refine run_skip ?_
          refine at_block ?_
          refine at_then ?_
          refine run_region rfl ?_
          refine ops_ex rfl (guard_none rfl) rfl rfl (ex_move rfl rfl) ?_
          refine ops_ex rfl (guard_none rfl) rfl rfl (ex_add rfl rfl rfl) ?_
          refine ops_ex rfl (guard_none rfl) rfl rfl (ex_assign rfl rfl) ?_
          refine ops_nil ?_
          exact at_again k129 (ρ1 := [(0, .string x0), (1, .int .u8 x1), (5, v113), (6, .int .i64 a116), (7, .int .i64 (wrap64 (a117 + 1)))]) (Nat.lt_succ_self _) ⟨_, _, _, _, ho101, rfl, HM⟩ (Sub.cons rfl (Sub.cons rfl (Sub.cons rfl (Sub.cons rfl (Sub.cons rfl Sub.nil)))))
    · replace ho101 := cond_f hb131 ho101
      refine run_exit ?_
      refine at_then_exit ?_
      refine at_then_exit ?_
      refine at_block_exit ?_
      exact at_mid (ρ' := [(5, v113)]) ⟨_, _, (Option.some.inj ho101), rfl, HM⟩ (Sub.cons rfl Sub.nil)
  · rintro _ w147 ⟨v97, a98, rfl, rfl, HM⟩
    refine run_seq ?_
    refine run_region rfl ?_
    refine ops_ex rfl (guard_none rfl) rfl rfl (ex_move rfl rfl) ?_
    refine ops_ex rfl (guard_none rfl) rfl rfl (ex_assign rfl rfl) ?_
    refine ops_nil ?_
    refine at_then ?_
    refine run_ret ?_
    have hR := Option.some.inj H
    subst hR
    exact at_ret1 rfl rfl ⟨_, rfl, _, rfl, HM⟩

def spec_l2Number.l0 (x0 : ByteArray) : Nat → Int → Int → Option ((Int × Bool) ⊕ Int)
  | 0, _, _ => none
  | k + 1, a239, a240 => (bif (decide (a240 < (x0.size : Int))) then (chk (idxOk a240 x0.size) (chk (!(!(decide ((bt x0 a240) < 48))) || (idxOk a240 x0.size)) (bif ((decide ((bt x0 a240) < 48)) || (decide (57 < (bt x0 a240)))) then some (.inl (0, false)) else (chk (idxOk a240 x0.size) (spec_l2Number.l0 x0 k (wrap64 ((wrap64 (a239 * 10)) + (wrap64 (IntKind.u8.wrap ((bt x0 a240) - 48))))) (wrap64 (a240 + 1))))))) else some (.inr a239))
theorem spec_l2Number.l0_z (x0 : ByteArray) (a239 : Int) (a240 : Int) : spec_l2Number.l0 x0 0 a239 a240 = none := rfl
theorem spec_l2Number.l0_s (x0 : ByteArray) (k : Nat) (a239 : Int) (a240 : Int) : spec_l2Number.l0 x0 (k + 1) a239 a240 = (bif (decide (a240 < (x0.size : Int))) then (chk (idxOk a240 x0.size) (chk (!(!(decide ((bt x0 a240) < 48))) || (idxOk a240 x0.size)) (bif ((decide ((bt x0 a240) < 48)) || (decide (57 < (bt x0 a240)))) then some (.inl (0, false)) else (chk (idxOk a240 x0.size) (spec_l2Number.l0 x0 k (wrap64 ((wrap64 (a239 * 10)) + (wrap64 (IntKind.u8.wrap ((bt x0 a240) - 48))))) (wrap64 (a240 + 1))))))) else some (.inr a239)) := rfl
def spec_l2Number.f (k : Nat) (x0 : ByteArray) (x1 : Int) : Option (Int × Bool) := (chk (!((!((decide ((x0.size : Int) < 1)) || (decide (x1 < (x0.size : Int))))) && (decide (1 < (x0.size : Int)))) || (idxOk 0 x0.size)) (bif (((decide ((x0.size : Int) < 1)) || (decide (x1 < (x0.size : Int)))) || ((decide (1 < (x0.size : Int))) && ((bt x0 0) == 48))) then some (0, false) else ((spec_l2Number.l0 x0 k 0 0).bind fun o229 => thn o229 (fun r => some r) (fun a228 => some (a228, true)))))
theorem spec_l2Number.calls {k : Nat} {x0 : ByteArray} {x1 : Int}  {w : World}  {r : Int × Bool} (H : spec_l2Number.f k x0 x1 = some r) :
    Calls Tryd.prog 89 ([.string x0, .int .i64 x1] : List Value).toArray w (fun e w_ => ∃ v, e = .returned v ∧ v = (.tuple #[.int .i64 r.1, .bool r.2]) ∧ Mem w [] w_ []) := by
  have HM := Mem.start w
  refine calls_run (N := 52) Tryd.func89 rfl rfl rfl rfl ?_
  unfold spec_l2Number.f at H
  refine run_seq ?_
  refine run_region rfl ?_
  refine ops_ex rfl (guard_none rfl) rfl rfl (ex_assign rfl rfl) ?_
  refine ops_ex rfl (guard_none rfl) rfl rfl (ex_assign rfl rfl) ?_
  refine ops_nil ?_
  refine at_then ?_
  refine run_seq ?_
  refine run_seq ?_
  obtain ⟨e192, H⟩ := chk_some H
  refine run_meet (fun ρ_ w_ => ρ_ = [(0, .string x0), (26, .bool (((decide ((x0.size : Int) < 1)) || (decide (x1 < (x0.size : Int)))) || ((decide (1 < (x0.size : Int))) && ((bt x0 0) == 48))))] ∧ Mem w [] w_ []) ?_ ?_
  · skip
    refine run_region rfl ?_
    refine ops_ex rfl (guard_none rfl) rfl rfl (ex_move rfl rfl) ?_
    refine ops_ex rfl (guard_none rfl) rfl rfl (ex_strlen rfl rfl Tryd.underlying9) ?_
    refine ops_ex rfl (guard_none rfl) rfl rfl (ex_lss rfl rfl rfl) ?_
    refine ops_ex rfl (guard_none rfl) rfl rfl (ex_move rfl rfl) ?_
    refine bool_cases (decide ((x0.size : Int) < 1)) (fun hg193 => ?_) (fun hg193 => ?_)
    · skip
      refine ops_off rfl (guard_off rfl rfl rfl hg193) rfl rfl ?_
      refine ops_off rfl (guard_off rfl rfl rfl hg193) rfl rfl ?_
      refine ops_off rfl (guard_off rfl rfl rfl hg193) rfl rfl ?_
      refine ops_off rfl (guard_off rfl rfl rfl hg193) rfl rfl ?_
      have hg194 : ((decide ((x0.size : Int) < 1)) || (decide (x1 < (x0.size : Int)))) = true := by simp only [hg193, Bool.and_true, Bool.true_and, Bool.and_false, Bool.false_and, Bool.or_true, Bool.true_or, Bool.or_false, Bool.false_or, Bool.not_true, Bool.not_false, Bool.not_not]
      refine ops_ex (v := .bool ((decide ((x0.size : Int) < 1)) || (decide (x1 < (x0.size : Int))))) rfl (guard_none rfl) rfl rfl (ex_por_t rfl rfl hg193) ?_
      refine ops_ex rfl (guard_none rfl) rfl rfl (ex_move rfl rfl) ?_
      refine ops_off rfl (guard_off rfl rfl rfl hg194) rfl rfl ?_
      refine ops_off rfl (guard_off rfl rfl rfl hg194) rfl rfl ?_
      refine ops_off rfl (guard_off rfl rfl rfl hg194) rfl rfl ?_
      refine ops_off rfl (guard_off rfl rfl rfl hg194) rfl rfl ?_
      refine ops_off rfl (guard_undef rfl rfl rfl) rfl rfl ?_
      refine ops_off rfl (guard_undef rfl rfl rfl) rfl rfl ?_
      refine ops_off rfl (guard_undef rfl rfl rfl) rfl rfl ?_
      refine ops_off rfl (guard_off rfl rfl rfl hg194) rfl rfl ?_
      have hg195 : (((decide ((x0.size : Int) < 1)) || (decide (x1 < (x0.size : Int)))) || ((decide (1 < (x0.size : Int))) && ((bt x0 0) == 48))) = true := by simp only [hg194, Bool.and_true, Bool.true_and, Bool.and_false, Bool.false_and, Bool.or_true, Bool.true_or, Bool.or_false, Bool.false_or, Bool.not_true, Bool.not_false, Bool.not_not]
      refine ops_ex (v := .bool (((decide ((x0.size : Int) < 1)) || (decide (x1 < (x0.size : Int)))) || ((decide (1 < (x0.size : Int))) && ((bt x0 0) == 48)))) rfl (guard_none rfl) rfl rfl (ex_por_t rfl rfl hg194) ?_
      refine ops_nil ?_
      exact at_meet [(0, .string x0), (26, .bool (((decide ((x0.size : Int) < 1)) || (decide (x1 < (x0.size : Int)))) || ((decide (1 < (x0.size : Int))) && ((bt x0 0) == 48))))] ⟨rfl, HM⟩ (Sub.cons rfl (Sub.cons rfl Sub.nil))
    · skip
      refine ops_ex rfl (guard_on rfl rfl rfl hg193) rfl rfl (ex_move rfl rfl) ?_
      refine ops_ex rfl (guard_on rfl rfl rfl hg193) rfl rfl (ex_strlen rfl rfl Tryd.underlying9) ?_
      refine ops_ex rfl (guard_on rfl rfl rfl hg193) rfl rfl (ex_move rfl rfl) ?_
      refine ops_ex rfl (guard_on rfl rfl rfl hg193) rfl rfl (ex_gtr rfl rfl rfl) ?_
      refine ops_ex (v := .bool ((decide ((x0.size : Int) < 1)) || (decide (x1 < (x0.size : Int))))) rfl (guard_none rfl) rfl rfl (ex_por_f rfl rfl hg193 rfl) ?_
      refine ops_ex rfl (guard_none rfl) rfl rfl (ex_move rfl rfl) ?_
      refine bool_cases ((decide ((x0.size : Int) < 1)) || (decide (x1 < (x0.size : Int)))) (fun hg196 => ?_) (fun hg196 => ?_)
      · skip
        refine ops_off rfl (guard_off rfl rfl rfl hg196) rfl rfl ?_
        refine ops_off rfl (guard_off rfl rfl rfl hg196) rfl rfl ?_
        refine ops_off rfl (guard_off rfl rfl rfl hg196) rfl rfl ?_
        refine ops_off rfl (guard_off rfl rfl rfl hg196) rfl rfl ?_
        refine ops_off rfl (guard_undef rfl rfl rfl) rfl rfl ?_
        refine ops_off rfl (guard_undef rfl rfl rfl) rfl rfl ?_
        refine ops_off rfl (guard_undef rfl rfl rfl) rfl rfl ?_
        refine ops_off rfl (guard_off rfl rfl rfl hg196) rfl rfl ?_
        have hg197 : (((decide ((x0.size : Int) < 1)) || (decide (x1 < (x0.size : Int)))) || ((decide (1 < (x0.size : Int))) && ((bt x0 0) == 48))) = true := by simp only [hg196, Bool.and_true, Bool.true_and, Bool.and_false, Bool.false_and, Bool.or_true, Bool.true_or, Bool.or_false, Bool.false_or, Bool.not_true, Bool.not_false, Bool.not_not]
        refine ops_ex (v := .bool (((decide ((x0.size : Int) < 1)) || (decide (x1 < (x0.size : Int)))) || ((decide (1 < (x0.size : Int))) && ((bt x0 0) == 48)))) rfl (guard_none rfl) rfl rfl (ex_por_t rfl rfl hg196) ?_
        refine ops_nil ?_
        exact at_meet [(0, .string x0), (26, .bool (((decide ((x0.size : Int) < 1)) || (decide (x1 < (x0.size : Int)))) || ((decide (1 < (x0.size : Int))) && ((bt x0 0) == 48))))] ⟨rfl, HM⟩ (Sub.cons rfl (Sub.cons rfl Sub.nil))
      · skip
        refine ops_ex rfl (guard_on rfl rfl rfl hg196) rfl rfl (ex_move rfl rfl) ?_
        refine ops_ex rfl (guard_on rfl rfl rfl hg196) rfl rfl (ex_strlen rfl rfl Tryd.underlying9) ?_
        refine ops_ex rfl (guard_on rfl rfl rfl hg196) rfl rfl (ex_gtr rfl rfl rfl) ?_
        refine ops_ex rfl (guard_on rfl rfl rfl hg196) rfl rfl (ex_move rfl rfl) ?_
        refine bool_cases (decide (1 < (x0.size : Int))) (fun hg198 => ?_) (fun hg198 => ?_)
        · skip
          refine ops_ex rfl (guard_on rfl rfl rfl hg198) rfl rfl (ex_move rfl rfl) ?_
          refine ops_ex rfl (guard_on rfl rfl rfl hg198) rfl rfl (ex_sindex rfl rfl rfl Tryd.underlying9 (idx_lo (or_t e192 (and_mk (not_mk hg196) hg198))) (idx_hi (or_t e192 (and_mk (not_mk hg196) hg198)))) ?_
          refine ops_ex rfl (guard_on rfl rfl rfl hg198) rfl rfl (ex_eql rfl rfl rfl) ?_
          refine ops_ex (v := .bool ((decide (1 < (x0.size : Int))) && ((bt x0 0) == 48))) rfl (guard_on rfl rfl rfl hg196) rfl rfl (ex_pand_t rfl rfl hg198 rfl) ?_
          refine ops_ex (v := .bool (((decide ((x0.size : Int) < 1)) || (decide (x1 < (x0.size : Int)))) || ((decide (1 < (x0.size : Int))) && ((bt x0 0) == 48)))) rfl (guard_none rfl) rfl rfl (ex_por_f rfl rfl hg196 rfl) ?_
          refine ops_nil ?_
          exact at_meet [(0, .string x0), (26, .bool (((decide ((x0.size : Int) < 1)) || (decide (x1 < (x0.size : Int)))) || ((decide (1 < (x0.size : Int))) && ((bt x0 0) == 48))))] ⟨rfl, HM⟩ (Sub.cons rfl (Sub.cons rfl Sub.nil))
        · skip
          refine ops_off rfl (guard_off rfl rfl rfl hg198) rfl rfl ?_
          refine ops_off rfl (guard_off rfl rfl rfl hg198) rfl rfl ?_
          refine ops_off rfl (guard_off rfl rfl rfl hg198) rfl rfl ?_
          have hg199 : ((decide (1 < (x0.size : Int))) && ((bt x0 0) == 48)) = false := by simp only [hg198, Bool.and_true, Bool.true_and, Bool.and_false, Bool.false_and, Bool.or_true, Bool.true_or, Bool.or_false, Bool.false_or, Bool.not_true, Bool.not_false, Bool.not_not]
          refine ops_ex (v := .bool ((decide (1 < (x0.size : Int))) && ((bt x0 0) == 48))) rfl (guard_on rfl rfl rfl hg196) rfl rfl (ex_pand_f rfl rfl hg198) ?_
          refine ops_ex (v := .bool (((decide ((x0.size : Int) < 1)) || (decide (x1 < (x0.size : Int)))) || ((decide (1 < (x0.size : Int))) && ((bt x0 0) == 48)))) rfl (guard_none rfl) rfl rfl (ex_por_f rfl rfl hg196 rfl) ?_
          refine ops_nil ?_
          exact at_meet [(0, .string x0), (26, .bool (((decide ((x0.size : Int) < 1)) || (decide (x1 < (x0.size : Int)))) || ((decide (1 < (x0.size : Int))) && ((bt x0 0) == 48))))] ⟨rfl, HM⟩ (Sub.cons rfl (Sub.cons rfl Sub.nil))
  · rintro _ w200 ⟨rfl, HM⟩
    refine at_then ?_
    refine run_cond (b := (((decide ((x0.size : Int) < 1)) || (decide (x1 < (x0.size : Int)))) || ((decide (1 < (x0.size : Int))) && ((bt x0 0) == 48)))) rfl (fun hb201 => ?_) (fun hb201 => ?_)
    · replace H := cond_t hb201 H
      refine run_seq ?_
      refine run_region rfl ?_
      refine ops_ex rfl (guard_none rfl) rfl rfl (ex_assign rfl rfl) ?_
      refine ops_ex rfl (guard_none rfl) rfl rfl (ex_assign rfl rfl) ?_
      refine ops_nil ?_
      refine at_then ?_
      refine run_ret ?_
      refine at_then_ret ?_
      have hR := Option.some.inj H
      subst hR
      exact at_ret2 rfl rfl rfl ⟨_, rfl, rfl, HM⟩
    · replace H := cond_f hb201 H
      refine run_skip ?_
      refine at_then ?_
      refine run_seq ?_
      refine run_region rfl ?_
      refine ops_ex rfl (guard_none rfl) rfl rfl (ex_assign rfl rfl) ?_
      refine ops_nil ?_
      refine at_then ?_
      obtain ⟨o229, ho230, H⟩ := bind_some H
      refine run_mid (fun ρ_ w_ => ∃ a228 : Int, Sum.inr a228 = o229 ∧ ρ_ = [(6, .int .i64 a228)] ∧ Mem w [] w_ []) ?_ ?_
      · skip
        refine run_seq ?_
        refine run_region rfl ?_
        refine ops_ex rfl (guard_none rfl) rfl rfl (ex_assign rfl rfl) ?_
        refine ops_nil ?_
        refine at_then ?_
        refine run_block ?_
        refine run_loop (fun k_ ρ_ w_ => ∃ a239 : Int, ∃ a240 : Int, spec_l2Number.l0 x0 k_ a239 a240 = some o229 ∧ ρ_ = [(0, .string x0), (6, .int .i64 a239), (7, .int .i64 a240)] ∧ Mem w [] w_ []) k (ρ1 := [(0, .string x0), (6, .int .i64 0), (7, .int .i64 0)]) ⟨_, _, ho230, rfl, HM⟩ (Sub.cons rfl (Sub.cons rfl (Sub.cons rfl Sub.nil))) ?_
        clear HM ho230
        rintro k249 _ w250 ⟨a239, a240, ho230, rfl, HM⟩
        obtain _ | k249 := k249
        · exact nomatch ((spec_l2Number.l0_z x0 a239 a240).symm.trans ho230)
        replace ho230 := (spec_l2Number.l0_s x0 k249 a239 a240).symm.trans ho230
        refine run_seq ?_
        refine run_seq ?_
        refine run_region rfl ?_
        refine ops_ex rfl (guard_none rfl) rfl rfl (ex_move rfl rfl) ?_
        refine ops_ex rfl (guard_none rfl) rfl rfl (ex_move rfl rfl) ?_
        refine ops_ex rfl (guard_none rfl) rfl rfl (ex_strlen rfl rfl Tryd.underlying9) ?_
        refine ops_ex rfl (guard_none rfl) rfl rfl (ex_lss rfl rfl rfl) ?_
        refine ops_nil ?_
        refine at_then ?_
        refine run_cond (b := (decide (a240 < (x0.size : Int)))) rfl (fun hb251 => ?_) (fun hb251 => ?_)
        · replace ho230 := cond_t hb251 ho230
          refine run_skip ?_
          refine at_then ?_
          refine run_seq ?_
          refine run_block ?_
          refine run_seq ?_
          refine run_seq ?_
          obtain ⟨e255, ho230⟩ := chk_some ho230
          obtain ⟨e256, ho230⟩ := chk_some ho230
          refine run_meet (fun ρ_ w_ => ρ_ = [(0, .string x0), (6, .int .i64 a239), (7, .int .i64 a240), (42, .bool ((decide ((bt x0 a240) < 48)) || (decide (57 < (bt x0 a240)))))] ∧ Mem w [] w_ []) ?_ ?_
          · skip
            refine run_region rfl ?_
            refine ops_ex rfl (guard_none rfl) rfl rfl (ex_move rfl rfl) ?_
            refine ops_ex rfl (guard_none rfl) rfl rfl (ex_move rfl rfl) ?_
            refine ops_ex rfl (guard_none rfl) rfl rfl (ex_sindex rfl rfl rfl Tryd.underlying9 (idx_lo e255) (idx_hi e255)) ?_
            refine ops_ex rfl (guard_none rfl) rfl rfl (ex_lss rfl rfl rfl) ?_
            refine ops_ex rfl (guard_none rfl) rfl rfl (ex_move rfl rfl) ?_
            refine bool_cases (decide ((bt x0 a240) < 48)) (fun hg257 => ?_) (fun hg257 => ?_)
            · skip
              refine ops_off rfl (guard_off rfl rfl rfl hg257) rfl rfl ?_
              refine ops_off rfl (guard_off rfl rfl rfl hg257) rfl rfl ?_
              refine ops_off rfl (guard_off rfl rfl rfl hg257) rfl rfl ?_
              refine ops_off rfl (guard_off rfl rfl rfl hg257) rfl rfl ?_
              have hg258 : ((decide ((bt x0 a240) < 48)) || (decide (57 < (bt x0 a240)))) = true := by simp only [hg257, Bool.and_true, Bool.true_and, Bool.and_false, Bool.false_and, Bool.or_true, Bool.true_or, Bool.or_false, Bool.false_or, Bool.not_true, Bool.not_false, Bool.not_not]
              refine ops_ex (v := .bool ((decide ((bt x0 a240) < 48)) || (decide (57 < (bt x0 a240))))) rfl (guard_none rfl) rfl rfl (ex_por_t rfl rfl hg257) ?_
              refine ops_nil ?_
              exact at_meet [(0, .string x0), (6, .int .i64 a239), (7, .int .i64 a240), (42, .bool ((decide ((bt x0 a240) < 48)) || (decide (57 < (bt x0 a240)))))] ⟨rfl, HM⟩ (Sub.cons rfl (Sub.cons rfl (Sub.cons rfl (Sub.cons rfl Sub.nil))))
            · skip
              refine ops_ex rfl (guard_on rfl rfl rfl hg257) rfl rfl (ex_move rfl rfl) ?_
              refine ops_ex rfl (guard_on rfl rfl rfl hg257) rfl rfl (ex_move rfl rfl) ?_
              refine ops_ex rfl (guard_on rfl rfl rfl hg257) rfl rfl (ex_sindex rfl rfl rfl Tryd.underlying9 (idx_lo (or_t e256 (not_mk hg257))) (idx_hi (or_t e256 (not_mk hg257)))) ?_
              refine ops_ex rfl (guard_on rfl rfl rfl hg257) rfl rfl (ex_gtr rfl rfl rfl) ?_
              refine ops_ex (v := .bool ((decide ((bt x0 a240) < 48)) || (decide (57 < (bt x0 a240))))) rfl (guard_none rfl) rfl rfl (ex_por_f rfl rfl hg257 rfl) ?_
              refine ops_nil ?_
              exact at_meet [(0, .string x0), (6, .int .i64 a239), (7, .int .i64 a240), (42, .bool ((decide ((bt x0 a240) < 48)) || (decide (57 < (bt x0 a240)))))] ⟨rfl, HM⟩ (Sub.cons rfl (Sub.cons rfl (Sub.cons rfl (Sub.cons rfl Sub.nil))))
          · rintro _ w259 ⟨rfl, HM⟩
            refine at_then ?_
            refine run_cond (b := ((decide ((bt x0 a240) < 48)) || (decide (57 < (bt x0 a240))))) rfl (fun hb260 => ?_) (fun hb260 => ?_)
            · replace ho230 := cond_t hb260 ho230
              refine run_seq ?_
              refine run_region rfl ?_
              refine ops_ex rfl (guard_none rfl) rfl rfl (ex_assign rfl rfl) ?_
              refine ops_ex rfl (guard_none rfl) rfl rfl (ex_assign rfl rfl) ?_
              refine ops_nil ?_
              refine at_then ?_
              refine run_ret ?_
              refine at_then_ret ?_
              refine at_block_ret ?_
              refine at_then_ret ?_
              refine at_then_ret ?_
              refine at_block_ret ?_
              refine at_then_ret ?_
              have hR := Option.some.inj ho230
              subst hR
              have hT := thn_inl H
              have hR := Option.some.inj hT
              subst hR
              exact at_ret2 rfl rfl rfl ⟨_, rfl, rfl, HM⟩
            · replace ho230 := cond_f hb260 ho230
              refine run_skip ?_
              refine at_then ?_
              obtain ⟨e261, ho230⟩ := chk_some ho230
              refine run_region rfl ?_
              refine ops_ex rfl (guard_none rfl) rfl rfl (ex_move rfl rfl) ?_
              refine ops_ex rfl (guard_none rfl) rfl rfl (ex_mul rfl rfl rfl) ?_
              refine ops_ex rfl (guard_none rfl) rfl rfl (ex_move rfl rfl) ?_
              refine ops_ex rfl (guard_none rfl) rfl rfl (ex_move rfl rfl) ?_
              refine ops_ex rfl (guard_none rfl) rfl rfl (ex_sindex rfl rfl rfl Tryd.underlying9 (idx_lo e261) (idx_hi e261)) ?_
              refine ops_ex rfl (guard_none rfl) rfl rfl (ex_subk rfl rfl rfl) ?_
              refine ops_ex rfl (guard_none rfl) rfl rfl (ex_conv64 rfl rfl (by rw [Tryd.underlying5]; rfl) Tryd.underlying2) ?_
              refine ops_ex rfl (guard_none rfl) rfl rfl (ex_add rfl rfl rfl) ?_
              refine ops_ex rfl (guard_none rfl) rfl rfl (ex_assign rfl rfl) ?_
              refine ops_nil ?_
              refine at_block ?_
              refine at_then ?_
              refine run_region rfl ?_
              refine ops_ex rfl (guard_none rfl) rfl rfl (ex_move rfl rfl) ?_
              refine ops_ex rfl (guard_none rfl) rfl rfl (ex_add rfl rfl rfl) ?_
              refine ops_ex rfl (guard_none rfl) rfl rfl (ex_assign rfl rfl) ?_
              refine ops_nil ?_
              exact at_again k249 (ρ1 := [(0, .string x0), (6, .int .i64 (wrap64 ((wrap64 (a239 * 10)) + (wrap64 (IntKind.u8.wrap ((bt x0 a240) - 48)))))), (7, .int .i64 (wrap64 (a240 + 1)))]) (Nat.lt_succ_self _) ⟨_, _, ho230, rfl, HM⟩ (Sub.cons rfl (Sub.cons rfl (Sub.cons rfl Sub.nil)))
        · replace ho230 := cond_f hb251 ho230
          refine run_exit ?_
          refine at_then_exit ?_
          refine at_then_exit ?_
          refine at_block_exit ?_
          exact at_mid (ρ' := [(6, .int .i64 a239)]) ⟨_, (Option.some.inj ho230), rfl, HM⟩ (Sub.cons rfl Sub.nil)
      · rintro _ w262 ⟨a228, rfl, rfl, HM⟩
        replace H := (thn_inr H)
        refine run_seq ?_
        refine run_region rfl ?_
        refine ops_ex rfl (guard_none rfl) rfl rfl (ex_move rfl rfl) ?_
        refine ops_ex rfl (guard_none rfl) rfl rfl (ex_assign rfl rfl) ?_
        refine ops_ex rfl (guard_none rfl) rfl rfl (ex_assign rfl rfl) ?_
        refine ops_nil ?_
        refine at_then ?_
        refine run_ret ?_
        have hR := Option.some.inj H
        subst hR
        exact at_ret2 rfl rfl rfl ⟨_, rfl, rfl, HM⟩

def spec_l1In.f (k : Nat) (x0 : Int) (x1 : Int) (x2 : Int) : Option Bool := some ((decide (x1 ≤ x0)) && (decide (x0 ≤ x2)))
theorem spec_l1In.calls {k : Nat} {x0 : Int} {x1 : Int} {x2 : Int}  {w : World}  {r : Bool} (H : spec_l1In.f k x0 x1 x2 = some r) :
    Calls Tryd.prog 66 ([.int .i64 x0, .int .i64 x1, .int .i64 x2] : List Value).toArray w (fun e w_ => ∃ v, e = .returned v ∧ v = (.bool r) ∧ Mem w [] w_ []) := by
  have HM := Mem.start w
  refine calls_run (N := 15) Tryd.func66 rfl rfl rfl rfl ?_
  unfold spec_l1In.f at H
  refine run_seq ?_
  refine run_region rfl ?_
  refine ops_ex rfl (guard_none rfl) rfl rfl (ex_assign rfl rfl) ?_
  refine ops_nil ?_
  refine at_then ?_
  refine run_seq ?_
  refine run_meet (fun ρ_ w_ => ρ_ = [(6, .bool ((decide (x1 ≤ x0)) && (decide (x0 ≤ x2))))] ∧ Mem w [] w_ []) ?_ ?_
  · skip
    refine run_region rfl ?_
    refine ops_ex rfl (guard_none rfl) rfl rfl (ex_move rfl rfl) ?_
    refine ops_ex rfl (guard_none rfl) rfl rfl (ex_move rfl rfl) ?_
    refine ops_ex rfl (guard_none rfl) rfl rfl (ex_geq rfl rfl rfl) ?_
    refine ops_ex rfl (guard_none rfl) rfl rfl (ex_move rfl rfl) ?_
    refine bool_cases (decide (x1 ≤ x0)) (fun hg323 => ?_) (fun hg323 => ?_)
    · skip
      refine ops_ex rfl (guard_on rfl rfl rfl hg323) rfl rfl (ex_move rfl rfl) ?_
      refine ops_ex rfl (guard_on rfl rfl rfl hg323) rfl rfl (ex_move rfl rfl) ?_
      refine ops_ex rfl (guard_on rfl rfl rfl hg323) rfl rfl (ex_leq rfl rfl rfl) ?_
      refine ops_ex (v := .bool ((decide (x1 ≤ x0)) && (decide (x0 ≤ x2)))) rfl (guard_none rfl) rfl rfl (ex_pand_t rfl rfl hg323 rfl) ?_
      refine ops_ex rfl (guard_none rfl) rfl rfl (ex_assign rfl rfl) ?_
      refine ops_nil ?_
      exact at_meet [(6, .bool ((decide (x1 ≤ x0)) && (decide (x0 ≤ x2))))] ⟨rfl, HM⟩ (Sub.cons rfl Sub.nil)
    · skip
      refine ops_off rfl (guard_off rfl rfl rfl hg323) rfl rfl ?_
      refine ops_off rfl (guard_off rfl rfl rfl hg323) rfl rfl ?_
      refine ops_off rfl (guard_off rfl rfl rfl hg323) rfl rfl ?_
      have hg324 : ((decide (x1 ≤ x0)) && (decide (x0 ≤ x2))) = false := by simp only [hg323, Bool.and_true, Bool.true_and, Bool.and_false, Bool.false_and, Bool.or_true, Bool.true_or, Bool.or_false, Bool.false_or, Bool.not_true, Bool.not_false, Bool.not_not]
      refine ops_ex (v := .bool ((decide (x1 ≤ x0)) && (decide (x0 ≤ x2)))) rfl (guard_none rfl) rfl rfl (ex_pand_f rfl rfl hg323) ?_
      refine ops_ex rfl (guard_none rfl) rfl rfl (ex_assign rfl rfl) ?_
      refine ops_nil ?_
      exact at_meet [(6, .bool ((decide (x1 ≤ x0)) && (decide (x0 ≤ x2))))] ⟨rfl, HM⟩ (Sub.cons rfl Sub.nil)
  · rintro _ w325 ⟨rfl, HM⟩
    refine at_then ?_
    refine run_ret ?_
    have hR := Option.some.inj H
    subst hR
    exact at_ret1 rfl rfl ⟨_, rfl, rfl, HM⟩

def spec_l1Key.f (k : Nat) (x0 : Int) : Option Bool := ((spec_l1In.f k x0 1 999).bind fun t332 => some t332)
theorem spec_l1Key.calls {k : Nat} {x0 : Int}  {w : World}  {r : Bool} (H : spec_l1Key.f k x0 = some r) :
    Calls Tryd.prog 69 ([.int .i64 x0] : List Value).toArray w (fun e w_ => ∃ v, e = .returned v ∧ v = (.bool r) ∧ Mem w [] w_ []) := by
  have HM := Mem.start w
  refine calls_run (N := 5) Tryd.func69 rfl rfl rfl rfl ?_
  unfold spec_l1Key.f at H
  refine run_seq ?_
  refine run_region rfl ?_
  refine ops_ex rfl (guard_none rfl) rfl rfl (ex_assign rfl rfl) ?_
  refine ops_nil ?_
  refine at_then ?_
  refine run_seq ?_
  obtain ⟨t332, h333, H⟩ := bind_some H
  refine run_region rfl ?_
  refine ops_ex rfl (guard_none rfl) rfl rfl (ex_move rfl rfl) ?_
  refine ops_does rfl (guard_none rfl) rfl rfl (does_callk rfl callok66 rfl (spec_l1In.calls (x0 := x0) (x1 := 1) (x2 := 999) h333)) ?_
  rintro _ w334 ⟨rfl, hn⟩
  replace HM : Mem w [] w334 [] := HM.call hn
  refine ops_ex rfl (guard_none rfl) rfl rfl (ex_assign rfl rfl) ?_
  refine ops_nil ?_
  refine at_then ?_
  refine run_ret ?_
  have hR := Option.some.inj H
  subst hR
  exact at_ret1 rfl rfl ⟨_, rfl, rfl, HM⟩

def spec_l4Among.l0 (x0 : List Int) (x1 : Int) : Nat → Int → Option (Bool ⊕ Unit)
  | 0, _ => none
  | k + 1, a400 => (bif (decide (a400 < (x0.length : Int))) then (chk (idxOk a400 x0.length) (bif ((gt x0 a400) == x1) then some (.inl true) else spec_l4Among.l0 x0 x1 k (wrap64 (a400 + 1)))) else some (.inr ()))
theorem spec_l4Among.l0_z (x0 : List Int) (x1 : Int) (a400 : Int) : spec_l4Among.l0 x0 x1 0 a400 = none := rfl
theorem spec_l4Among.l0_s (x0 : List Int) (x1 : Int) (k : Nat) (a400 : Int) : spec_l4Among.l0 x0 x1 (k + 1) a400 = (bif (decide (a400 < (x0.length : Int))) then (chk (idxOk a400 x0.length) (bif ((gt x0 a400) == x1) then some (.inl true) else spec_l4Among.l0 x0 x1 k (wrap64 (a400 + 1)))) else some (.inr ())) := rfl
def spec_l4Among.f (k : Nat) (x0 : List Int) (x1 : Int) : Option Bool := ((spec_l4Among.l0 x0 x1 k 0).bind fun o394 => thn o394 (fun r => some r) (fun _ => some false))
theorem spec_l4Among.calls {k : Nat} {x0 : List Int} {x1 : Int} {p0 : Value} {w : World} (hp0 : RdS kInt w p0 x0) {r : Bool} (H : spec_l4Among.f k x0 x1 = some r) :
    Calls Tryd.prog 98 ([p0, .int .i64 x1] : List Value).toArray w (fun e w_ => ∃ v, e = .returned v ∧ v = (.bool r) ∧ Mem w [] w_ []) := by
  have HM := Mem.start w
  refine calls_run (N := 18) Tryd.func98 rfl rfl rfl rfl ?_
  unfold spec_l4Among.f at H
  refine run_seq ?_
  refine run_region rfl ?_
  refine ops_ex rfl (guard_none rfl) rfl rfl (ex_assign rfl rfl) ?_
  refine ops_nil ?_
  refine at_then ?_
  obtain ⟨o394, ho395, H⟩ := bind_some H
  refine run_mid (fun ρ_ w_ => Sum.inr () = o394 ∧ ρ_ = [] ∧ Mem w [] w_ []) ?_ ?_
  · skip
    refine run_seq ?_
    refine run_region rfl ?_
    refine ops_ex rfl (guard_none rfl) rfl rfl (ex_assign rfl rfl) ?_
    refine ops_nil ?_
    refine at_then ?_
    refine run_block ?_
    refine run_loop (fun k_ ρ_ w_ => ∃ a400 : Int, spec_l4Among.l0 x0 x1 k_ a400 = some o394 ∧ ρ_ = [(0, p0), (1, .int .i64 x1), (5, .int .i64 a400)] ∧ Mem w [] w_ []) k (ρ1 := [(0, p0), (1, .int .i64 x1), (5, .int .i64 0)]) ⟨_, ho395, rfl, HM⟩ (Sub.cons rfl (Sub.cons rfl (Sub.cons rfl Sub.nil))) ?_
    clear HM ho395
    rintro k405 _ w406 ⟨a400, ho395, rfl, HM⟩
    obtain _ | k405 := k405
    · exact nomatch ((spec_l4Among.l0_z x0 x1 a400).symm.trans ho395)
    replace ho395 := (spec_l4Among.l0_s x0 x1 k405 a400).symm.trans ho395
    refine run_seq ?_
    refine run_seq ?_
    refine run_region rfl ?_
    refine ops_ex rfl (guard_none rfl) rfl rfl (ex_move rfl rfl) ?_
    refine ops_ex rfl (guard_none rfl) rfl rfl (ex_move rfl rfl) ?_
    refine ops_ex rfl (guard_none rfl) rfl rfl (ex_len (d := kInt) (xs := x0) rfl rfl Tryd.underlying38 hp0) ?_
    refine ops_ex rfl (guard_none rfl) rfl rfl (ex_lss rfl rfl rfl) ?_
    refine ops_nil ?_
    refine at_then ?_
    refine run_cond (b := (decide (a400 < (x0.length : Int)))) rfl (fun hb407 => ?_) (fun hb407 => ?_)
    · replace ho395 := cond_t hb407 ho395
      refine run_skip ?_
      refine at_then ?_
      refine run_seq ?_
      refine run_block ?_
      refine run_seq ?_
      obtain ⟨e408, ho395⟩ := chk_some ho395
      refine run_region rfl ?_
      refine ops_ex rfl (guard_none rfl) rfl rfl (ex_move rfl rfl) ?_
      refine ops_ex rfl (guard_none rfl) rfl rfl (ex_move rfl rfl) ?_
      have hc409 : CellsAt _ (sb p0) (so p0 + (a400).toNat * 1) [(.int .i64 (gt x0 a400))] := rd_plain hp0 e408
      refine ops_ex rfl (guard_none rfl) rfl rfl (ex_indexAddr (d := kInt) rfl rfl rfl Tryd.underlying38 tsz2 hp0 (idx_lo e408) (idx_hi e408)) ?_
      refine ops_ex rfl (guard_none rfl) rfl rfl (ex_load1 rfl rfl Tryd.underlying2 rfl ((HM.at_ hc409) 0 _ rfl)) ?_
      refine ops_ex rfl (guard_none rfl) rfl rfl (ex_move rfl rfl) ?_
      refine ops_ex rfl (guard_none rfl) rfl rfl (ex_eql rfl rfl rfl) ?_
      refine ops_nil ?_
      refine at_then ?_
      refine run_cond (b := ((gt x0 a400) == x1)) rfl (fun hb410 => ?_) (fun hb410 => ?_)
      · replace ho395 := cond_t hb410 ho395
        refine run_seq ?_
        refine run_region rfl ?_
        refine ops_ex rfl (guard_none rfl) rfl rfl (ex_assign rfl rfl) ?_
        refine ops_nil ?_
        refine at_then ?_
        refine run_ret ?_
        refine at_block_ret ?_
        refine at_then_ret ?_
        refine at_then_ret ?_
        refine at_block_ret ?_
        refine at_then_ret ?_
        have hR := Option.some.inj ho395
        subst hR
        have hT := thn_inl H
        have hR := Option.some.inj hT
        subst hR
        exact at_ret1 rfl rfl ⟨_, rfl, rfl, HM⟩
      · replace ho395 := cond_f hb410 ho395
        refine run_skip ?_
        refine at_block ?_
        refine at_then ?_
        refine run_region rfl ?_
        refine ops_ex rfl (guard_none rfl) rfl rfl (ex_move rfl rfl) ?_
        refine ops_ex rfl (guard_none rfl) rfl rfl (ex_add rfl rfl rfl) ?_
        refine ops_ex rfl (guard_none rfl) rfl rfl (ex_assign rfl rfl) ?_
        refine ops_nil ?_
        exact at_again k405 (ρ1 := [(0, p0), (1, .int .i64 x1), (5, .int .i64 (wrap64 (a400 + 1)))]) (Nat.lt_succ_self _) ⟨_, ho395, rfl, HM⟩ (Sub.cons rfl (Sub.cons rfl (Sub.cons rfl Sub.nil)))
    · replace ho395 := cond_f hb407 ho395
      refine run_exit ?_
      refine at_then_exit ?_
      refine at_then_exit ?_
      refine at_block_exit ?_
      exact at_mid (ρ' := []) ⟨(Option.some.inj ho395), rfl, HM⟩ Sub.nil
  · rintro _ w411 ⟨rfl, rfl, HM⟩
    replace H := (thn_inr H)
    refine run_seq ?_
    refine run_region rfl ?_
    refine ops_ex rfl (guard_none rfl) rfl rfl (ex_assign rfl rfl) ?_
    refine ops_nil ?_
    refine at_then ?_
    refine run_ret ?_
    have hR := Option.some.inj H
    subst hR
    exact at_ret1 rfl rfl ⟨_, rfl, rfl, HM⟩

def spec_l7Fault.l0 (x0 : Block) : Nat → Int → Option (Int ⊕ Unit)
  | 0, _ => none
  | k + 1, a568 => (bif (decide (a568 < (x0.fTxs.length : Int))) then (chk (idxOk a568 x0.fTxs.length) ((spec_l1In.f k (gt x0.fTxs a568) 1 60).bind fun t599 => (bif !t599 then some (.inl 3) else (chk (cutOk a568 x0.fTxs.length) (chk (idxOk a568 x0.fTxs.length) ((spec_l4Among.f k (x0.fTxs.take (a568).toNat) (gt x0.fTxs a568)).bind fun t609 => (bif t609 then some (.inl 7) else spec_l7Fault.l0 x0 k (wrap64 (a568 + 1))))))))) else some (.inr ()))
theorem spec_l7Fault.l0_z (x0 : Block) (a568 : Int) : spec_l7Fault.l0 x0 0 a568 = none := rfl
theorem spec_l7Fault.l0_s (x0 : Block) (k : Nat) (a568 : Int) : spec_l7Fault.l0 x0 (k + 1) a568 = (bif (decide (a568 < (x0.fTxs.length : Int))) then (chk (idxOk a568 x0.fTxs.length) ((spec_l1In.f k (gt x0.fTxs a568) 1 60).bind fun t599 => (bif !t599 then some (.inl 3) else (chk (cutOk a568 x0.fTxs.length) (chk (idxOk a568 x0.fTxs.length) ((spec_l4Among.f k (x0.fTxs.take (a568).toNat) (gt x0.fTxs a568)).bind fun t609 => (bif t609 then some (.inl 7) else spec_l7Fault.l0 x0 k (wrap64 (a568 + 1))))))))) else some (.inr ())) := rfl
def spec_l7Fault.f (k : Nat) (x0 : Block) : Option Int := ((spec_l1In.f k x0.fPrev 0 60).bind fun t465 => ((bif (!(!t465)) then spec_l1In.f k x0.fHeight 1 40 else some default).bind fun t467 => ((bif (!((!t465) || (!t467))) then spec_l1Key.f k x0.fMiner else some default).bind fun t469 => (bif (((!t465) || (!t467)) || (!t469)) then some 3 else (bif ((x0.fPrev == 0) != (x0.fHeight == 1)) then some 1 else (bif (decide (6 < (x0.fTxs.length : Int))) then some 2 else ((spec_l7Fault.l0 x0 k 0).bind fun o546 => thn o546 (fun r => some r) (fun _ => some 0))))))))
theorem spec_l7Fault.calls {k : Nat} {x0 : Block} {b0 f0 : Nat} {p0_0 : Value} {w : World} (hc0 : CellsAt w b0 f0 [.int .i64 x0.fPrev, .int .i64 x0.fHeight, .int .i64 x0.fMiner, p0_0]) (hp0_0 : RdS kInt w p0_0 x0.fTxs) {r : Int} (H : spec_l7Fault.f k x0 = some r) :
    Calls Tryd.prog 60 ([.pointer (some ⟨b0, f0, none⟩)] : List Value).toArray w (fun e w_ => ∃ v, e = .returned v ∧ v = (.int .i64 r) ∧ Mem w [] w_ []) := by
  have HM := Mem.start w
  refine calls_run (N := 75) Tryd.func60 rfl rfl rfl rfl ?_
  unfold spec_l7Fault.f at H
  refine run_seq ?_
  refine run_region rfl ?_
  refine ops_ex rfl (guard_none rfl) rfl rfl (ex_assign rfl rfl) ?_
  refine ops_nil ?_
  refine at_then ?_
  refine run_seq ?_
  refine run_seq ?_
  obtain ⟨t465, h466, H⟩ := bind_some H
  obtain ⟨t467, h468, H⟩ := bind_some H
  obtain ⟨t469, h470, H⟩ := bind_some H
  refine run_meet (fun ρ_ w_ => ρ_ = [(0, .pointer (some ⟨b0, f0, none⟩)), (25, .bool (((!t465) || (!t467)) || (!t469)))] ∧ Mem w [] w_ []) ?_ ?_
  · skip
    refine run_region rfl ?_
    refine ops_ex rfl (guard_none rfl) rfl rfl (ex_move rfl rfl) ?_
    refine ops_ex rfl (guard_none rfl) rfl rfl (ex_nilCheck rfl rfl) ?_
    refine ops_ex rfl (guard_none rfl) rfl rfl (ex_fieldAddr (off' := f0) rfl rfl Tryd.underlying48 rfl tsz2 rfl) ?_
    refine ops_ex rfl (guard_none rfl) rfl rfl (ex_load1 rfl rfl Tryd.underlying2 rfl ((HM.at_ hc0) 0 _ rfl)) ?_
    refine ops_does rfl (guard_none rfl) rfl rfl (does_callk rfl callok66 rfl (spec_l1In.calls (x0 := x0.fPrev) (x1 := 0) (x2 := 60) h466)) ?_
    rintro _ w471 ⟨rfl, hn⟩
    replace HM : Mem w [] w471 [] := HM.call hn
    refine ops_ex rfl (guard_none rfl) rfl rfl (ex_not rfl rfl) ?_
    refine ops_ex rfl (guard_none rfl) rfl rfl (ex_move rfl rfl) ?_
    refine bool_cases (!t465) (fun hg472 => ?_) (fun hg472 => ?_)
    · skip
      refine ops_off rfl (guard_off rfl rfl rfl hg472) rfl rfl ?_
      refine ops_off rfl (guard_off rfl rfl rfl hg472) rfl rfl ?_
      refine ops_off rfl (guard_off rfl rfl rfl hg472) rfl rfl ?_
      refine ops_off rfl (guard_off rfl rfl rfl hg472) rfl rfl ?_
      refine ops_off rfl (guard_off rfl rfl rfl hg472) rfl rfl ?_
      refine ops_off rfl (guard_off rfl rfl rfl hg472) rfl rfl ?_
      have hg473 : ((!t465) || (!t467)) = true := by simp only [hg472, Bool.and_true, Bool.true_and, Bool.and_false, Bool.false_and, Bool.or_true, Bool.true_or, Bool.or_false, Bool.false_or, Bool.not_true, Bool.not_false, Bool.not_not]
      refine ops_ex (v := .bool ((!t465) || (!t467))) rfl (guard_none rfl) rfl rfl (ex_por_t rfl rfl hg472) ?_
      refine ops_ex rfl (guard_none rfl) rfl rfl (ex_move rfl rfl) ?_
      refine ops_off rfl (guard_off rfl rfl rfl hg473) rfl rfl ?_
      refine ops_off rfl (guard_off rfl rfl rfl hg473) rfl rfl ?_
      refine ops_off rfl (guard_off rfl rfl rfl hg473) rfl rfl ?_
      refine ops_off rfl (guard_off rfl rfl rfl hg473) rfl rfl ?_
      refine ops_off rfl (guard_off rfl rfl rfl hg473) rfl rfl ?_
      refine ops_off rfl (guard_off rfl rfl rfl hg473) rfl rfl ?_
      have hg474 : (((!t465) || (!t467)) || (!t469)) = true := by simp only [hg473, Bool.and_true, Bool.true_and, Bool.and_false, Bool.false_and, Bool.or_true, Bool.true_or, Bool.or_false, Bool.false_or, Bool.not_true, Bool.not_false, Bool.not_not]
      refine ops_ex (v := .bool (((!t465) || (!t467)) || (!t469))) rfl (guard_none rfl) rfl rfl (ex_por_t rfl rfl hg473) ?_
      refine ops_nil ?_
      exact at_meet [(0, .pointer (some ⟨b0, f0, none⟩)), (25, .bool (((!t465) || (!t467)) || (!t469)))] ⟨rfl, HM⟩ (Sub.cons rfl (Sub.cons rfl Sub.nil))
    · skip
      refine ops_ex rfl (guard_on rfl rfl rfl hg472) rfl rfl (ex_move rfl rfl) ?_
      refine ops_ex rfl (guard_on rfl rfl rfl hg472) rfl rfl (ex_nilCheck rfl rfl) ?_
      refine ops_ex rfl (guard_on rfl rfl rfl hg472) rfl rfl (ex_fieldAddr (off' := f0 + 1) rfl rfl Tryd.underlying48 rfl tsz2 rfl) ?_
      refine ops_ex rfl (guard_on rfl rfl rfl hg472) rfl rfl (ex_load1 rfl rfl Tryd.underlying2 rfl ((HM.at_ hc0) 1 _ rfl)) ?_
      refine ops_does rfl (guard_on rfl rfl rfl hg472) rfl rfl (does_callk rfl callok66 rfl (spec_l1In.calls (x0 := x0.fHeight) (x1 := 1) (x2 := 40) (cond_t (not_mk hg472) h468))) ?_
      rintro _ w475 ⟨rfl, hn⟩
      replace HM : Mem w [] w475 [] := HM.call hn
      refine ops_ex rfl (guard_on rfl rfl rfl hg472) rfl rfl (ex_not rfl rfl) ?_
      refine ops_ex (v := .bool ((!t465) || (!t467))) rfl (guard_none rfl) rfl rfl (ex_por_f rfl rfl hg472 rfl) ?_
      refine ops_ex rfl (guard_none rfl) rfl rfl (ex_move rfl rfl) ?_
      refine bool_cases ((!t465) || (!t467)) (fun hg476 => ?_) (fun hg476 => ?_)
      · skip
        refine ops_off rfl (guard_off rfl rfl rfl hg476) rfl rfl ?_
        refine ops_off rfl (guard_off rfl rfl rfl hg476) rfl rfl ?_
        refine ops_off rfl (guard_off rfl rfl rfl hg476) rfl rfl ?_
        refine ops_off rfl (guard_off rfl rfl rfl hg476) rfl rfl ?_
        refine ops_off rfl (guard_off rfl rfl rfl hg476) rfl rfl ?_
        refine ops_off rfl (guard_off rfl rfl rfl hg476) rfl rfl ?_
        have hg477 : (((!t465) || (!t467)) || (!t469)) = true := by simp only [hg476, Bool.and_true, Bool.true_and, Bool.and_false, Bool.false_and, Bool.or_true, Bool.true_or, Bool.or_false, Bool.false_or, Bool.not_true, Bool.not_false, Bool.not_not]
        refine ops_ex (v := .bool (((!t465) || (!t467)) || (!t469))) rfl (guard_none rfl) rfl rfl (ex_por_t rfl rfl hg476) ?_
        refine ops_nil ?_
        exact at_meet [(0, .pointer (some ⟨b0, f0, none⟩)), (25, .bool (((!t465) || (!t467)) || (!t469)))] ⟨rfl, HM⟩ (Sub.cons rfl (Sub.cons rfl Sub.nil))
      · skip
        refine ops_ex rfl (guard_on rfl rfl rfl hg476) rfl rfl (ex_move rfl rfl) ?_
        refine ops_ex rfl (guard_on rfl rfl rfl hg476) rfl rfl (ex_nilCheck rfl rfl) ?_
        refine ops_ex rfl (guard_on rfl rfl rfl hg476) rfl rfl (ex_fieldAddr (off' := f0 + 2) rfl rfl Tryd.underlying48 rfl tsz2 rfl) ?_
        refine ops_ex rfl (guard_on rfl rfl rfl hg476) rfl rfl (ex_load1 rfl rfl Tryd.underlying2 rfl ((HM.at_ hc0) 2 _ rfl)) ?_
        refine ops_does rfl (guard_on rfl rfl rfl hg476) rfl rfl (does_callk rfl callok69 rfl (spec_l1Key.calls (x0 := x0.fMiner) (cond_t (not_mk hg476) h470))) ?_
        rintro _ w478 ⟨rfl, hn⟩
        replace HM : Mem w [] w478 [] := HM.call hn
        refine ops_ex rfl (guard_on rfl rfl rfl hg476) rfl rfl (ex_not rfl rfl) ?_
        refine ops_ex (v := .bool (((!t465) || (!t467)) || (!t469))) rfl (guard_none rfl) rfl rfl (ex_por_f rfl rfl hg476 rfl) ?_
        refine ops_nil ?_
        exact at_meet [(0, .pointer (some ⟨b0, f0, none⟩)), (25, .bool (((!t465) || (!t467)) || (!t469)))] ⟨rfl, HM⟩ (Sub.cons rfl (Sub.cons rfl Sub.nil))
  · rintro _ w479 ⟨rfl, HM⟩
    refine at_then ?_
    refine run_cond (b := (((!t465) || (!t467)) || (!t469))) rfl (fun hb480 => ?_) (fun hb480 => ?_)
    · replace H := cond_t hb480 H
      refine run_seq ?_
      refine run_region rfl ?_
      refine ops_ex rfl (guard_none rfl) rfl rfl (ex_assign rfl rfl) ?_
      refine ops_nil ?_
      refine at_then ?_
      refine run_ret ?_
      refine at_then_ret ?_
      have hR := Option.some.inj H
      subst hR
      exact at_ret1 rfl rfl ⟨_, rfl, rfl, HM⟩
    · replace H := cond_f hb480 H
      refine run_skip ?_
      refine at_then ?_
      refine run_seq ?_
      refine run_seq ?_
      refine run_drawf (fun w_ => Mem w [] w_ []) [(0, true), (1, true), (2, true), (3, true), (4, true), (5, true), (6, true), (7, true), (8, true), (9, true), (10, true)] mixed rfl rfl (by kernel_rfl) ?_
      replace HM := HM.grow (fr_drew _)
      have hS := Mem.suf (M := []) HM
      refine drwp_take rfl (guard_none rfl) rfl rfl (fun w_ hS_ => (ex_move rfl rfl)) hS ?_
      refine drwp_take rfl (guard_none rfl) rfl rfl (fun w_ hS_ => (ex_nilCheck rfl rfl)) hS ?_
      refine drwp_take rfl (guard_none rfl) rfl rfl (fun w_ hS_ => (ex_fieldAddr (off' := f0) rfl rfl Tryd.underlying48 rfl tsz2 rfl)) hS ?_
      refine drwp_take rfl (guard_none rfl) rfl rfl (fun w_ hS_ => (ex_load1 rfl rfl Tryd.underlying2 rfl ((hS_.at_ hc0) 0 _ rfl))) hS ?_
      refine drwp_take rfl (guard_none rfl) rfl rfl (fun w_ hS_ => (ex_eql rfl rfl rfl)) hS ?_
      refine drwp_take rfl (guard_none rfl) rfl rfl (fun w_ hS_ => (ex_move rfl rfl)) hS ?_
      refine drwp_take rfl (guard_none rfl) rfl rfl (fun w_ hS_ => (ex_nilCheck rfl rfl)) hS ?_
      refine drwp_take rfl (guard_none rfl) rfl rfl (fun w_ hS_ => (ex_fieldAddr (off' := f0 + 1) rfl rfl Tryd.underlying48 rfl tsz2 rfl)) hS ?_
      refine drwp_take rfl (guard_none rfl) rfl rfl (fun w_ hS_ => (ex_load1 rfl rfl Tryd.underlying2 rfl ((hS_.at_ hc0) 1 _ rfl))) hS ?_
      refine drwp_take rfl (guard_none rfl) rfl rfl (fun w_ hS_ => (ex_eql rfl rfl rfl)) hS ?_
      refine drwp_take rfl (guard_none rfl) rfl rfl (fun w_ hS_ => (ex_bneq rfl rfl rfl Tryd.underlying4)) hS ?_
      refine drwp_done ?_
      refine at_then ?_
      refine run_cond (b := ((x0.fPrev == 0) != (x0.fHeight == 1))) rfl (fun hb482 => ?_) (fun hb482 => ?_)
      · replace H := cond_t hb482 H
        refine run_seq ?_
        refine run_region rfl ?_
        refine ops_ex rfl (guard_none rfl) rfl rfl (ex_assign rfl rfl) ?_
        refine ops_nil ?_
        refine at_then ?_
        refine run_ret ?_
        refine at_then_ret ?_
        have hR := Option.some.inj H
        subst hR
        exact at_ret1 rfl rfl ⟨_, rfl, rfl, HM⟩
      · replace H := cond_f hb482 H
        refine run_skip ?_
        refine at_then ?_
        refine run_seq ?_
        refine run_seq ?_
        refine run_region rfl ?_
        refine ops_ex rfl (guard_none rfl) rfl rfl (ex_move rfl rfl) ?_
        refine ops_ex rfl (guard_none rfl) rfl rfl (ex_nilCheck rfl rfl) ?_
        refine ops_ex rfl (guard_none rfl) rfl rfl (ex_fieldAddr (off' := f0 + 3) rfl rfl Tryd.underlying48 rfl tsz38 rfl) ?_
        refine ops_ex rfl (guard_none rfl) rfl rfl (ex_load1 rfl rfl Tryd.underlying38 rfl ((HM.at_ hc0) 3 _ rfl)) ?_
        refine ops_ex rfl (guard_none rfl) rfl rfl (ex_len (d := kInt) (xs := x0.fTxs) rfl rfl Tryd.underlying38 hp0_0) ?_
        refine ops_ex rfl (guard_none rfl) rfl rfl (ex_gtr rfl rfl rfl) ?_
        refine ops_nil ?_
        refine at_then ?_
        refine run_cond (b := (decide (6 < (x0.fTxs.length : Int)))) rfl (fun hb484 => ?_) (fun hb484 => ?_)
        · replace H := cond_t hb484 H
          refine run_seq ?_
          refine run_region rfl ?_
          refine ops_ex rfl (guard_none rfl) rfl rfl (ex_assign rfl rfl) ?_
          refine ops_nil ?_
          refine at_then ?_
          refine run_ret ?_
          refine at_then_ret ?_
          have hR := Option.some.inj H
          subst hR
          exact at_ret1 rfl rfl ⟨_, rfl, rfl, HM⟩
        · replace H := cond_f hb484 H
          refine run_skip ?_
          refine at_then ?_
          obtain ⟨o546, ho547, H⟩ := bind_some H
          refine run_mid (fun ρ_ w_ => Sum.inr () = o546 ∧ ρ_ = [] ∧ Mem w [] w_ []) ?_ ?_
          · skip
            refine run_seq ?_
            refine run_region rfl ?_
            refine ops_ex rfl (guard_none rfl) rfl rfl (ex_assign rfl rfl) ?_
            refine ops_nil ?_
            refine at_then ?_
            refine run_block ?_
            refine run_loop (fun k_ ρ_ w_ => ∃ a568 : Int, spec_l7Fault.l0 x0 k_ a568 = some o546 ∧ ρ_ = [(0, .pointer (some ⟨b0, f0, none⟩)), (3, .int .i64 a568)] ∧ Mem w [] w_ []) k (ρ1 := [(0, .pointer (some ⟨b0, f0, none⟩)), (3, .int .i64 0)]) ⟨_, ho547, rfl, HM⟩ (Sub.cons rfl (Sub.cons rfl Sub.nil)) ?_
            clear HM ho547
            rintro k589 _ w590 ⟨a568, ho547, rfl, HM⟩
            obtain _ | k589 := k589
            · exact nomatch ((spec_l7Fault.l0_z x0 a568).symm.trans ho547)
            replace ho547 := (spec_l7Fault.l0_s x0 k589 a568).symm.trans ho547
            refine run_seq ?_
            refine run_seq ?_
            refine run_region rfl ?_
            refine ops_ex rfl (guard_none rfl) rfl rfl (ex_move rfl rfl) ?_
            refine ops_ex rfl (guard_none rfl) rfl rfl (ex_move rfl rfl) ?_
            refine ops_ex rfl (guard_none rfl) rfl rfl (ex_nilCheck rfl rfl) ?_
            refine ops_ex rfl (guard_none rfl) rfl rfl (ex_fieldAddr (off' := f0 + 3) rfl rfl Tryd.underlying48 rfl tsz38 rfl) ?_
            refine ops_ex rfl (guard_none rfl) rfl rfl (ex_load1 rfl rfl Tryd.underlying38 rfl ((HM.at_ hc0) 3 _ rfl)) ?_
            refine ops_ex rfl (guard_none rfl) rfl rfl (ex_len (d := kInt) (xs := x0.fTxs) rfl rfl Tryd.underlying38 hp0_0) ?_
            refine ops_ex rfl (guard_none rfl) rfl rfl (ex_lss rfl rfl rfl) ?_
            refine ops_nil ?_
            refine at_then ?_
            refine run_cond (b := (decide (a568 < (x0.fTxs.length : Int)))) rfl (fun hb591 => ?_) (fun hb591 => ?_)
            · replace ho547 := cond_t hb591 ho547
              refine run_skip ?_
              refine at_then ?_
              refine run_seq ?_
              refine run_block ?_
              refine run_seq ?_
              refine run_seq ?_
              obtain ⟨e597, ho547⟩ := chk_some ho547
              obtain ⟨t599, h600, ho547⟩ := bind_some ho547
              refine run_region rfl ?_
              refine ops_ex rfl (guard_none rfl) rfl rfl (ex_move rfl rfl) ?_
              refine ops_ex rfl (guard_none rfl) rfl rfl (ex_nilCheck rfl rfl) ?_
              refine ops_ex rfl (guard_none rfl) rfl rfl (ex_fieldAddr (off' := f0 + 3) rfl rfl Tryd.underlying48 rfl tsz38 rfl) ?_
              refine ops_ex rfl (guard_none rfl) rfl rfl (ex_load1 rfl rfl Tryd.underlying38 rfl ((HM.at_ hc0) 3 _ rfl)) ?_
              refine ops_ex rfl (guard_none rfl) rfl rfl (ex_move rfl rfl) ?_
              have hc598 : CellsAt _ (sb p0_0) (so p0_0 + (a568).toNat * 1) [(.int .i64 (gt x0.fTxs a568))] := rd_plain hp0_0 e597
              refine ops_ex rfl (guard_none rfl) rfl rfl (ex_indexAddr (d := kInt) rfl rfl rfl Tryd.underlying38 tsz2 hp0_0 (idx_lo e597) (idx_hi e597)) ?_
              refine ops_ex rfl (guard_none rfl) rfl rfl (ex_load1 rfl rfl Tryd.underlying2 rfl ((HM.at_ hc598) 0 _ rfl)) ?_
              refine ops_does rfl (guard_none rfl) rfl rfl (does_callk rfl callok66 rfl (spec_l1In.calls (x0 := (gt x0.fTxs a568)) (x1 := 1) (x2 := 60) h600)) ?_
              rintro _ w601 ⟨rfl, hn⟩
              replace HM : Mem w [] w601 [] := HM.call hn
              refine ops_ex rfl (guard_none rfl) rfl rfl (ex_not rfl rfl) ?_
              refine ops_nil ?_
              refine at_then ?_
              refine run_cond (b := !t599) rfl (fun hb602 => ?_) (fun hb602 => ?_)
              · replace ho547 := cond_t hb602 ho547
                refine run_seq ?_
                refine run_region rfl ?_
                refine ops_ex rfl (guard_none rfl) rfl rfl (ex_assign rfl rfl) ?_
                refine ops_nil ?_
                refine at_then ?_
                refine run_ret ?_
                refine at_then_ret ?_
                refine at_block_ret ?_
                refine at_then_ret ?_
                refine at_then_ret ?_
                refine at_block_ret ?_
                refine at_then_ret ?_
                have hR := Option.some.inj ho547
                subst hR
                have hT := thn_inl H
                have hR := Option.some.inj hT
                subst hR
                exact at_ret1 rfl rfl ⟨_, rfl, rfl, HM⟩
              · replace ho547 := cond_f hb602 ho547
                refine run_skip ?_
                refine at_then ?_
                refine run_seq ?_
                obtain ⟨e603, ho547⟩ := chk_some ho547
                obtain ⟨e607, ho547⟩ := chk_some ho547
                obtain ⟨t609, h610, ho547⟩ := bind_some ho547
                refine run_drawf (fun w_ => Mem w [] w_ []) [(0, true), (1, true), (2, true), (3, true), (4, true), (5, true), (6, true), (7, true), (8, true), (9, true), (10, true), (11, true), (12, true), (13, false)] mixed rfl rfl (by kernel_rfl) ?_
                replace HM := HM.grow (fr_drew _)
                have hS := Mem.suf (M := []) HM
                refine drwp_take rfl (guard_none rfl) rfl rfl (fun w_ hS_ => (ex_move rfl rfl)) hS ?_
                refine drwp_take rfl (guard_none rfl) rfl rfl (fun w_ hS_ => (ex_nilCheck rfl rfl)) hS ?_
                refine drwp_take rfl (guard_none rfl) rfl rfl (fun w_ hS_ => (ex_fieldAddr (off' := f0 + 3) rfl rfl Tryd.underlying48 rfl tsz38 rfl)) hS ?_
                refine drwp_take rfl (guard_none rfl) rfl rfl (fun w_ hS_ => (ex_load1 rfl rfl Tryd.underlying38 rfl ((hS_.at_ hc0) 3 _ rfl))) hS ?_
                refine drwp_take rfl (guard_none rfl) rfl rfl (fun w_ hS_ => (ex_move rfl rfl)) hS ?_
                refine drwp_takeE rfl (guard_none rfl) rfl rfl (ex_cutH kInt rfl rfl rfl Tryd.underlying38 tsz2 hp0_0 e603) hS ?_
                rintro u604 hr606
                refine drwp_take rfl (guard_none rfl) rfl rfl (fun w_ hS_ => (ex_move rfl rfl)) hS ?_
                refine drwp_take rfl (guard_none rfl) rfl rfl (fun w_ hS_ => (ex_nilCheck rfl rfl)) hS ?_
                refine drwp_take rfl (guard_none rfl) rfl rfl (fun w_ hS_ => (ex_fieldAddr (off' := f0 + 3) rfl rfl Tryd.underlying48 rfl tsz38 rfl)) hS ?_
                refine drwp_take rfl (guard_none rfl) rfl rfl (fun w_ hS_ => (ex_load1 rfl rfl Tryd.underlying38 rfl ((hS_.at_ hc0) 3 _ rfl))) hS ?_
                refine drwp_take rfl (guard_none rfl) rfl rfl (fun w_ hS_ => (ex_move rfl rfl)) hS ?_
                have hc608 : CellsAt _ (sb p0_0) (so p0_0 + (a568).toNat * 1) [(.int .i64 (gt x0.fTxs a568))] := rd_plain hp0_0 e607
                refine drwp_take rfl (guard_none rfl) rfl rfl (fun w_ hS_ => (ex_indexAddr (d := kInt) rfl rfl rfl Tryd.underlying38 tsz2 hp0_0 (idx_lo e607) (idx_hi e607))) hS ?_
                refine drwp_take rfl (guard_none rfl) rfl rfl (fun w_ hS_ => (ex_load1 rfl rfl Tryd.underlying2 rfl ((hS_.at_ hc608) 0 _ rfl))) hS ?_
                refine drwp_one rfl (guard_none rfl) rfl rfl (does_callk rfl callok98 rfl (spec_l4Among.calls (x0 := x0.fTxs.take (a568).toNat) (x1 := (gt x0.fTxs a568)) (HM.rd hr606) h610)) ?_
                rintro _ w611 ⟨rfl, hn⟩
                replace HM : Mem w [] w611 [] := HM.call hn
                refine ⟨Mem.suf (M := []) HM, ?_⟩
                have hS := Mem.suf (M := []) HM
                refine drwp_done ?_
                refine at_then ?_
                refine run_cond (b := t609) rfl (fun hb612 => ?_) (fun hb612 => ?_)
                · replace ho547 := cond_t hb612 ho547
                  refine run_seq ?_
                  refine run_region rfl ?_
                  refine ops_ex rfl (guard_none rfl) rfl rfl (ex_assign rfl rfl) ?_
                  refine ops_nil ?_
                  refine at_then ?_
                  refine run_ret ?_
                  refine at_block_ret ?_
                  refine at_then_ret ?_
                  refine at_then_ret ?_
                  refine at_block_ret ?_
                  refine at_then_ret ?_
                  have hR := Option.some.inj ho547
                  subst hR
                  have hT := thn_inl H
                  have hR := Option.some.inj hT
                  subst hR
                  exact at_ret1 rfl rfl ⟨_, rfl, rfl, HM⟩
                · replace ho547 := cond_f hb612 ho547
                  refine run_skip ?_
                  refine at_block ?_
                  refine at_then ?_
                  refine run_region rfl ?_
                  refine ops_ex rfl (guard_none rfl) rfl rfl (ex_move rfl rfl) ?_
                  refine ops_ex rfl (guard_none rfl) rfl rfl (ex_add rfl rfl rfl) ?_
                  refine ops_ex rfl (guard_none rfl) rfl rfl (ex_assign rfl rfl) ?_
                  refine ops_nil ?_
                  exact at_again k589 (ρ1 := [(0, .pointer (some ⟨b0, f0, none⟩)), (3, .int .i64 (wrap64 (a568 + 1)))]) (Nat.lt_succ_self _) ⟨_, ho547, rfl, HM⟩ (Sub.cons rfl (Sub.cons rfl Sub.nil))
            · replace ho547 := cond_f hb591 ho547
              refine run_exit ?_
              refine at_then_exit ?_
              refine at_then_exit ?_
              refine at_block_exit ?_
              exact at_mid (ρ' := []) ⟨(Option.some.inj ho547), rfl, HM⟩ Sub.nil
          · rintro _ w613 ⟨rfl, rfl, HM⟩
            replace H := (thn_inr H)
            refine run_seq ?_
            refine run_region rfl ?_
            refine ops_ex rfl (guard_none rfl) rfl rfl (ex_assign rfl rfl) ?_
            refine ops_nil ?_
            refine at_then ?_
            refine run_ret ?_
            have hR := Option.some.inj H
            subst hR
            exact at_ret1 rfl rfl ⟨_, rfl, rfl, HM⟩
end Go.Proofs.YtiiimifniobfhaaDoor.Zk
