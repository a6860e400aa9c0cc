/- What functions of the program compute, each as a plain function, and that they do. Conditions: as each theorem states them. -/
import Derived.Test.YtcpacdbdehphkaaGreatDoorParseTxZkTy
namespace Go.Proofs.YtcpacdbdehphkaaGreatDoor.Zk
open Go Go.RowKit Go.IntWalk Go.Proofs
set_option linter.unusedVariables false
set_option linter.unusedSimpArgs false
set_option maxRecDepth 100000
set_option maxHeartbeats 4000000
def spec_l2Cut.l0 (x0 : ByteArray) (x1 : Int) : Nat → (List ByteArray) → Int → Int → Option ((List ByteArray))
  | 0, _, _, _ => none
  | k + 1, a114, a116, a117 => (bif (decide (a117 ≤ (x0.size : Int))) then (chk (!(!(a117 == (x0.size : Int))) || (idxOk a117 x0.size)) (bif ((a117 == (x0.size : Int)) || ((bt x0 a117) == x1)) then (chk (cutOk a117 x0.size) (chk (cutOk a116 (a117).toNat) (chk (leB ((a114.length + ([x0.extract (a116).toNat (a117).toNat] : List ByteArray).length) * 16) 140737488355328) (spec_l2Cut.l0 x0 x1 k (a114 ++ ([x0.extract (a116).toNat (a117).toNat] : List ByteArray)) (wrap64 (a117 + 1)) (wrap64 (a117 + 1)))))) else spec_l2Cut.l0 x0 x1 k a114 a116 (wrap64 (a117 + 1)))) else some a114)
theorem spec_l2Cut.l0_z (x0 : ByteArray) (x1 : Int) (a114 : List ByteArray) (a116 : Int) (a117 : Int) : spec_l2Cut.l0 x0 x1 0 a114 a116 a117 = none := rfl
theorem spec_l2Cut.l0_s (x0 : ByteArray) (x1 : Int) (k : Nat) (a114 : List ByteArray) (a116 : Int) (a117 : Int) : spec_l2Cut.l0 x0 x1 (k + 1) a114 a116 a117 = (bif (decide (a117 ≤ (x0.size : Int))) then (chk (!(!(a117 == (x0.size : Int))) || (idxOk a117 x0.size)) (bif ((a117 == (x0.size : Int)) || ((bt x0 a117) == x1)) then (chk (cutOk a117 x0.size) (chk (cutOk a116 (a117).toNat) (chk (leB ((a114.length + ([x0.extract (a116).toNat (a117).toNat] : List ByteArray).length) * 16) 140737488355328) (spec_l2Cut.l0 x0 x1 k (a114 ++ ([x0.extract (a116).toNat (a117).toNat] : List ByteArray)) (wrap64 (a117 + 1)) (wrap64 (a117 + 1)))))) else spec_l2Cut.l0 x0 x1 k a114 a116 (wrap64 (a117 + 1)))) else some a114) := rfl
def spec_l2Cut.f (k : Nat) (x0 : ByteArray) (x1 : Int) : Option ((List ByteArray)) := ((spec_l2Cut.l0 x0 x1 k ([] : List ByteArray) 0 0).bind (fun a98 => some a98))
theorem spec_l2Cut.calls {k : Nat} {x0 : ByteArray} {x1 : Int}  {w : World}  {r : (List ByteArray)} (H : spec_l2Cut.f k x0 x1 = some r) :
    Calls Tryz.prog 14 ([.string x0, .int .u8 x1] : List Value).toArray w (fun e w_ => ∃ v, e = .returned v ∧ ∃ u0 : Value, v = u0 ∧ Mem w [] w_ [own kStr 9 u0 r]) := by
  have HM := Mem.start w
  refine calls_run (N := 36) Tryz.func14 rfl rfl rfl rfl ?_
  unfold spec_l2Cut.f at H
  refine run_seq ?_
  refine run_region rfl ?_
  refine ops_ex rfl (guard_none rfl) rfl rfl (ex_assign rfl rfl) ?_
  refine ops_nil ?_
  refine at_then ?_
  refine run_seq ?_
  refine run_region rfl ?_
  refine ops_does rfl (guard_none rfl) rfl rfl (does_lit (e := 9) (cs := []) (xs := ([] : List ByteArray)) kStr rfl rfl (fun _ => by kernel_rfl) rfl rfl (fun _ _ h => by have h' : _ = [] := h; subst h'; exact .nil) HM.emp) ?_
  rintro v55 w58 HM
  refine ops_ex rfl (guard_none rfl) rfl rfl (ex_assign rfl rfl) ?_
  refine ops_nil ?_
  refine at_then ?_
  refine run_seq ?_
  refine run_region rfl ?_
  refine ops_ex rfl (guard_none rfl) rfl rfl (ex_assign rfl rfl) ?_
  refine ops_nil ?_
  refine at_then ?_
  obtain ⟨o100, ho101, H⟩ := bind_some H
  refine run_mid (fun ρ_ w_ => ∃ v97 : Value, ∃ a98 : List ByteArray, a98 = o100 ∧ ρ_ = [(5, v97)] ∧ Mem w [] w_ [own kStr 9 v97 a98]) ?_ ?_
  · clear H
    refine run_seq ?_
    refine run_region rfl ?_
    refine ops_ex rfl (guard_none rfl) rfl rfl (ex_assign rfl rfl) ?_
    refine ops_nil ?_
    refine at_then ?_
    refine run_block ?_
    refine run_loop (fun k_ ρ_ w_ => ∃ v113 : Value, ∃ a114 : List ByteArray, ∃ a116 : Int, ∃ a117 : Int, spec_l2Cut.l0 x0 x1 k_ a114 a116 a117 = some o100 ∧ ρ_ = [(0, .string x0), (1, .int .u8 x1), (5, v113), (6, .int .i64 a116), (7, .int .i64 a117)] ∧ Mem w [] w_ [own kStr 9 v113 a114]) k (ρ1 := [(0, .string x0), (1, .int .u8 x1), (5, v55), (6, .int .i64 0), (7, .int .i64 0)]) ⟨_, _, _, _, ho101, rfl, HM⟩ (Sub.cons rfl (Sub.cons rfl (Sub.cons rfl (Sub.cons rfl (Sub.cons rfl Sub.nil))))) ?_
    clear HM ho101
    rintro k129 _ w130 ⟨v113, a114, a116, a117, ho101, rfl, HM⟩
    obtain _ | k129 := k129
    · exact nomatch ((spec_l2Cut.l0_z x0 x1 a114 a116 a117).symm.trans ho101)
    replace ho101 := (spec_l2Cut.l0_s x0 x1 k129 a114 a116 a117).symm.trans ho101
    refine run_seq ?_
    refine run_seq ?_
    refine run_region rfl ?_
    refine ops_ex rfl (guard_none rfl) rfl rfl (ex_move rfl rfl) ?_
    refine ops_ex rfl (guard_none rfl) rfl rfl (ex_move rfl rfl) ?_
    refine ops_ex rfl (guard_none rfl) rfl rfl (ex_strlen rfl rfl Tryz.underlying9) ?_
    refine ops_ex rfl (guard_none rfl) rfl rfl (ex_leq rfl rfl rfl) ?_
    refine ops_nil ?_
    refine at_then ?_
    refine run_cond (b := (decide (a117 ≤ (x0.size : Int)))) rfl (fun hb131 => ?_) (fun hb131 => ?_)
    · replace ho101 := cond_t hb131 ho101
      refine run_skip ?_
      refine at_then ?_
      refine run_seq ?_
      refine run_block ?_
      refine run_seq ?_
      obtain ⟨e132, ho101⟩ := chk_some ho101
      refine run_meet (fun ρ_ w_ => ρ_ = [(0, .string x0), (1, .int .u8 x1), (5, v113), (6, .int .i64 a116), (7, .int .i64 a117), (25, .bool ((a117 == (x0.size : Int)) || ((bt x0 a117) == x1)))] ∧ Mem w [] w_ [own kStr 9 v113 a114]) ?_ ?_
      · skip
        refine run_region rfl ?_
        refine ops_ex rfl (guard_none rfl) rfl rfl (ex_move rfl rfl) ?_
        refine ops_ex rfl (guard_none rfl) rfl rfl (ex_move rfl rfl) ?_
        refine ops_ex rfl (guard_none rfl) rfl rfl (ex_strlen rfl rfl Tryz.underlying9) ?_
        refine ops_ex rfl (guard_none rfl) rfl rfl (ex_eql rfl rfl rfl) ?_
        refine ops_ex rfl (guard_none rfl) rfl rfl (ex_move rfl rfl) ?_
        refine bool_cases (a117 == (x0.size : Int)) (fun hg133 => ?_) (fun hg133 => ?_)
        · skip
          refine ops_off rfl (guard_off rfl rfl rfl hg133) rfl rfl ?_
          refine ops_off rfl (guard_off rfl rfl rfl hg133) rfl rfl ?_
          refine ops_off rfl (guard_off rfl rfl rfl hg133) rfl rfl ?_
          refine ops_off rfl (guard_off rfl rfl rfl hg133) rfl rfl ?_
          refine ops_off rfl (guard_off rfl rfl rfl hg133) rfl rfl ?_
          have hg134 : ((a117 == (x0.size : Int)) || ((bt x0 a117) == x1)) = true := by simp only [hg133, Bool.and_true, Bool.true_and, Bool.and_false, Bool.false_and, Bool.or_true, Bool.true_or, Bool.or_false, Bool.false_or, Bool.not_true, Bool.not_false, Bool.not_not]
          refine ops_ex (v := .bool ((a117 == (x0.size : Int)) || ((bt x0 a117) == x1))) rfl (guard_none rfl) rfl rfl (ex_por_t rfl rfl hg133) ?_
          refine ops_nil ?_
          exact at_meet [(0, .string x0), (1, .int .u8 x1), (5, v113), (6, .int .i64 a116), (7, .int .i64 a117), (25, .bool ((a117 == (x0.size : Int)) || ((bt x0 a117) == x1)))] ⟨rfl, HM⟩ (Sub.cons rfl (Sub.cons rfl (Sub.cons rfl (Sub.cons rfl (Sub.cons rfl (Sub.cons rfl Sub.nil))))))
        · skip
          refine ops_ex rfl (guard_on rfl rfl rfl hg133) rfl rfl (ex_move rfl rfl) ?_
          refine ops_ex rfl (guard_on rfl rfl rfl hg133) rfl rfl (ex_move rfl rfl) ?_
          refine ops_ex rfl (guard_on rfl rfl rfl hg133) rfl rfl (ex_sindex rfl rfl rfl Tryz.underlying9 (idx_lo (or_t e132 (not_mk hg133))) (idx_hi (or_t e132 (not_mk hg133)))) ?_
          refine ops_ex rfl (guard_on rfl rfl rfl hg133) rfl rfl (ex_move rfl rfl) ?_
          refine ops_ex rfl (guard_on rfl rfl rfl hg133) rfl rfl (ex_eql rfl rfl rfl) ?_
          refine ops_ex (v := .bool ((a117 == (x0.size : Int)) || ((bt x0 a117) == x1))) rfl (guard_none rfl) rfl rfl (ex_por_f rfl rfl hg133 rfl) ?_
          refine ops_nil ?_
          exact at_meet [(0, .string x0), (1, .int .u8 x1), (5, v113), (6, .int .i64 a116), (7, .int .i64 a117), (25, .bool ((a117 == (x0.size : Int)) || ((bt x0 a117) == x1)))] ⟨rfl, HM⟩ (Sub.cons rfl (Sub.cons rfl (Sub.cons rfl (Sub.cons rfl (Sub.cons rfl (Sub.cons rfl Sub.nil))))))
      · rintro _ w135 ⟨rfl, HM⟩
        refine at_then ?_
        refine run_cond (b := ((a117 == (x0.size : Int)) || ((bt x0 a117) == x1))) rfl (fun hb136 => ?_) (fun hb136 => ?_)
        · replace ho101 := cond_t hb136 ho101
          refine run_seq ?_
          obtain ⟨e137, ho101⟩ := chk_some ho101
          obtain ⟨e138, ho101⟩ := chk_some ho101
          obtain ⟨e142, ho101⟩ := chk_some ho101
          refine run_region rfl ?_
          refine ops_ex rfl (guard_none rfl) rfl rfl (ex_move rfl rfl) ?_
          refine ops_ex rfl (guard_none rfl) rfl rfl (ex_move rfl rfl) ?_
          refine ops_ex rfl (guard_none rfl) rfl rfl (ex_move rfl rfl) ?_
          refine ops_ex rfl (guard_none rfl) rfl rfl (ex_move rfl rfl) ?_
          refine ops_ex rfl (guard_none rfl) rfl rfl (ex_scutLH rfl rfl rfl rfl Tryz.underlying9 e138 e137) ?_
          refine ops_does rfl (guard_none rfl) rfl rfl (does_lit (e := 9) (cs := [.string (x0.extract (a116).toNat (a117).toNat)]) (xs := ([x0.extract (a116).toNat (a117).toNat] : List ByteArray)) kStr rfl rfl (fun _ => by kernel_rfl) rfl rfl (fun _ _ h => by have h' : _ = [] := h; subst h'; exact (Elems.cons (d := kStr) (x := x0.extract (a116).toNat (a117).toNat) (f := []) ⟨rfl, rfl⟩ .nil)) HM.emp) ?_
          rintro v139 w145 HM
          replace HM := HM.front 1 rfl rfl
          refine ops_does rfl (guard_none rfl) rfl rfl (does_appendR kStr flat_plain rfl rfl rfl Tryz.underlying36 tsz9 rfl tby9 tz9 rfl rfl (leB_le e142) (HM.own_rd 1 rfl) HM) ?_
          rintro v143 w146 HM
          refine ops_ex rfl (guard_none rfl) rfl rfl (ex_assign rfl rfl) ?_
          refine ops_nil ?_
          refine at_then ?_
          refine run_region rfl ?_
          refine ops_ex rfl (guard_none rfl) rfl rfl (ex_move rfl rfl) ?_
          refine ops_ex rfl (guard_none rfl) rfl rfl (ex_add rfl rfl rfl) ?_
          refine ops_ex rfl (guard_none rfl) rfl rfl (ex_assign rfl rfl) ?_
          refine ops_nil ?_
          refine at_block ?_
          refine at_then ?_
          refine run_region rfl ?_
          refine ops_ex rfl (guard_none rfl) rfl rfl (ex_move rfl rfl) ?_
          refine ops_ex rfl (guard_none rfl) rfl rfl (ex_add rfl rfl rfl) ?_
          refine ops_ex rfl (guard_none rfl) rfl rfl (ex_assign rfl rfl) ?_
          refine ops_nil ?_
          replace HM := (HM.front 1 rfl rfl).drop
          exact at_again k129 (ρ1 := [(0, .string x0), (1, .int .u8 x1), (5, v143), (6, .int .i64 (wrap64 (a117 + 1))), (7, .int .i64 (wrap64 (a117 + 1)))]) (Nat.lt_succ_self _) ⟨_, _, _, _, ho101, rfl, HM⟩ (Sub.cons rfl (Sub.cons rfl (Sub.cons rfl (Sub.cons rfl (Sub.cons rfl Sub.nil)))))
        · replace ho101 := cond_f hb136 ho101
          refine run_skip ?_
          refine at_block ?_
          refine at_then ?_
          refine run_region rfl ?_
          refine ops_ex rfl (guard_none rfl) rfl rfl (ex_move rfl rfl) ?_
          refine ops_ex rfl (guard_none rfl) rfl rfl (ex_add rfl rfl rfl) ?_
          refine ops_ex rfl (guard_none rfl) rfl rfl (ex_assign rfl rfl) ?_
          refine ops_nil ?_
          exact at_again k129 (ρ1 := [(0, .string x0), (1, .int .u8 x1), (5, v113), (6, .int .i64 a116), (7, .int .i64 (wrap64 (a117 + 1)))]) (Nat.lt_succ_self _) ⟨_, _, _, _, ho101, rfl, HM⟩ (Sub.cons rfl (Sub.cons rfl (Sub.cons rfl (Sub.cons rfl (Sub.cons rfl Sub.nil)))))
    · replace ho101 := cond_f hb131 ho101
      refine run_exit ?_
      refine at_then_exit ?_
      refine at_then_exit ?_
      refine at_block_exit ?_
      exact at_mid (ρ' := [(5, v113)]) ⟨_, _, (Option.some.inj ho101), rfl, HM⟩ (Sub.cons rfl Sub.nil)
  · rintro _ w147 ⟨v97, a98, rfl, rfl, HM⟩
    refine run_seq ?_
    refine run_region rfl ?_
    refine ops_ex rfl (guard_none rfl) rfl rfl (ex_move rfl rfl) ?_
    refine ops_ex rfl (guard_none rfl) rfl rfl (ex_assign rfl rfl) ?_
    refine ops_nil ?_
    refine at_then ?_
    refine run_ret ?_
    have hR := Option.some.inj H
    subst hR
    exact at_ret1 rfl rfl ⟨_, rfl, _, rfl, HM⟩

def spec_l2Number.l0 (x0 : ByteArray) : Nat → Int → Int → Option ((Int × Bool) ⊕ Int)
  | 0, _, _ => none
  | k + 1, a243, a244 => (bif (decide (a244 < (x0.size : Int))) then (chk (idxOk a244 x0.size) (chk (!(!(decide ((bt x0 a244) < 48))) || (idxOk a244 x0.size)) (bif ((decide ((bt x0 a244) < 48)) || (decide (57 < (bt x0 a244)))) then some (.inl (0, false)) else (chk (idxOk a244 x0.size) (spec_l2Number.l0 x0 k (wrap64 ((wrap64 (a243 * 10)) + (wrap64 (IntKind.u8.wrap ((bt x0 a244) - 48))))) (wrap64 (a244 + 1))))))) else some (.inr a243))
theorem spec_l2Number.l0_z (x0 : ByteArray) (a243 : Int) (a244 : Int) : spec_l2Number.l0 x0 0 a243 a244 = none := rfl
theorem spec_l2Number.l0_s (x0 : ByteArray) (k : Nat) (a243 : Int) (a244 : Int) : spec_l2Number.l0 x0 (k + 1) a243 a244 = (bif (decide (a244 < (x0.size : Int))) then (chk (idxOk a244 x0.size) (chk (!(!(decide ((bt x0 a244) < 48))) || (idxOk a244 x0.size)) (bif ((decide ((bt x0 a244) < 48)) || (decide (57 < (bt x0 a244)))) then some (.inl (0, false)) else (chk (idxOk a244 x0.size) (spec_l2Number.l0 x0 k (wrap64 ((wrap64 (a243 * 10)) + (wrap64 (IntKind.u8.wrap ((bt x0 a244) - 48))))) (wrap64 (a244 + 1))))))) else some (.inr a243)) := rfl
def spec_l2Number.f (k : Nat) (x0 : ByteArray) (x1 : Int) : Option (Int × Bool) := (chk (!((!((decide ((x0.size : Int) < 1)) || (decide (x1 < (x0.size : Int))))) && (decide (1 < (x0.size : Int)))) || (idxOk 0 x0.size)) (bif (((decide ((x0.size : Int) < 1)) || (decide (x1 < (x0.size : Int)))) || ((decide (1 < (x0.size : Int))) && ((bt x0 0) == 48))) then some (0, false) else ((spec_l2Number.l0 x0 k 0 0).bind fun o233 => thn o233 (fun r => some r) (fun a232 => some (a232, true)))))
theorem spec_l2Number.calls {k : Nat} {x0 : ByteArray} {x1 : Int}  {w : World}  {r : Int × Bool} (H : spec_l2Number.f k x0 x1 = some r) :
    Calls Tryz.prog 15 ([.string x0, .int .i64 x1] : List Value).toArray w (fun e w_ => ∃ v, e = .returned v ∧ v = (.tuple #[.int .i64 r.1, .bool r.2]) ∧ Mem w [] w_ []) := by
  have HM := Mem.start w
  refine calls_run (N := 52) Tryz.func15 rfl rfl rfl rfl ?_
  unfold spec_l2Number.f at H
  refine run_seq ?_
  refine run_region rfl ?_
  refine ops_ex rfl (guard_none rfl) rfl rfl (ex_assign rfl rfl) ?_
  refine ops_ex rfl (guard_none rfl) rfl rfl (ex_assign rfl rfl) ?_
  refine ops_nil ?_
  refine at_then ?_
  refine run_seq ?_
  refine run_seq ?_
  obtain ⟨e196, H⟩ := chk_some H
  refine run_meet (fun ρ_ w_ => ρ_ = [(0, .string x0), (26, .bool (((decide ((x0.size : Int) < 1)) || (decide (x1 < (x0.size : Int)))) || ((decide (1 < (x0.size : Int))) && ((bt x0 0) == 48))))] ∧ Mem w [] w_ []) ?_ ?_
  · skip
    refine run_region rfl ?_
    refine ops_ex rfl (guard_none rfl) rfl rfl (ex_move rfl rfl) ?_
    refine ops_ex rfl (guard_none rfl) rfl rfl (ex_strlen rfl rfl Tryz.underlying9) ?_
    refine ops_ex rfl (guard_none rfl) rfl rfl (ex_lss rfl rfl rfl) ?_
    refine ops_ex rfl (guard_none rfl) rfl rfl (ex_move rfl rfl) ?_
    refine bool_cases (decide ((x0.size : Int) < 1)) (fun hg197 => ?_) (fun hg197 => ?_)
    · skip
      refine ops_off rfl (guard_off rfl rfl rfl hg197) rfl rfl ?_
      refine ops_off rfl (guard_off rfl rfl rfl hg197) rfl rfl ?_
      refine ops_off rfl (guard_off rfl rfl rfl hg197) rfl rfl ?_
      refine ops_off rfl (guard_off rfl rfl rfl hg197) rfl rfl ?_
      have hg198 : ((decide ((x0.size : Int) < 1)) || (decide (x1 < (x0.size : Int)))) = true := by simp only [hg197, Bool.and_true, Bool.true_and, Bool.and_false, Bool.false_and, Bool.or_true, Bool.true_or, Bool.or_false, Bool.false_or, Bool.not_true, Bool.not_false, Bool.not_not]
      refine ops_ex (v := .bool ((decide ((x0.size : Int) < 1)) || (decide (x1 < (x0.size : Int))))) rfl (guard_none rfl) rfl rfl (ex_por_t rfl rfl hg197) ?_
      refine ops_ex rfl (guard_none rfl) rfl rfl (ex_move rfl rfl) ?_
      refine ops_off rfl (guard_off rfl rfl rfl hg198) rfl rfl ?_
      refine ops_off rfl (guard_off rfl rfl rfl hg198) rfl rfl ?_
      refine ops_off rfl (guard_off rfl rfl rfl hg198) rfl rfl ?_
      refine ops_off rfl (guard_off rfl rfl rfl hg198) rfl rfl ?_
      refine ops_off rfl (guard_undef rfl rfl rfl) rfl rfl ?_
      refine ops_off rfl (guard_undef rfl rfl rfl) rfl rfl ?_
      refine ops_off rfl (guard_undef rfl rfl rfl) rfl rfl ?_
      refine ops_off rfl (guard_off rfl rfl rfl hg198) rfl rfl ?_
      have hg199 : (((decide ((x0.size : Int) < 1)) || (decide (x1 < (x0.size : Int)))) || ((decide (1 < (x0.size : Int))) && ((bt x0 0) == 48))) = true := by simp only [hg198, Bool.and_true, Bool.true_and, Bool.and_false, Bool.false_and, Bool.or_true, Bool.true_or, Bool.or_false, Bool.false_or, Bool.not_true, Bool.not_false, Bool.not_not]
      refine ops_ex (v := .bool (((decide ((x0.size : Int) < 1)) || (decide (x1 < (x0.size : Int)))) || ((decide (1 < (x0.size : Int))) && ((bt x0 0) == 48)))) rfl (guard_none rfl) rfl rfl (ex_por_t rfl rfl hg198) ?_
      refine ops_nil ?_
      exact at_meet [(0, .string x0), (26, .bool (((decide ((x0.size : Int) < 1)) || (decide (x1 < (x0.size : Int)))) || ((decide (1 < (x0.size : Int))) && ((bt x0 0) == 48))))] ⟨rfl, HM⟩ (Sub.cons rfl (Sub.cons rfl Sub.nil))
    · skip
      refine ops_ex rfl (guard_on rfl rfl rfl hg197) rfl rfl (ex_move rfl rfl) ?_
      refine ops_ex rfl (guard_on rfl rfl rfl hg197) rfl rfl (ex_strlen rfl rfl Tryz.underlying9) ?_
      refine ops_ex rfl (guard_on rfl rfl rfl hg197) rfl rfl (ex_move rfl rfl) ?_
      refine ops_ex rfl (guard_on rfl rfl rfl hg197) rfl rfl (ex_gtr rfl rfl rfl) ?_
      refine ops_ex (v := .bool ((decide ((x0.size : Int) < 1)) || (decide (x1 < (x0.size : Int))))) rfl (guard_none rfl) rfl rfl (ex_por_f rfl rfl hg197 rfl) ?_
      refine ops_ex rfl (guard_none rfl) rfl rfl (ex_move rfl rfl) ?_
      refine bool_cases ((decide ((x0.size : Int) < 1)) || (decide (x1 < (x0.size : Int)))) (fun hg200 => ?_) (fun hg200 => ?_)
      · skip
        refine ops_off rfl (guard_off rfl rfl rfl hg200) rfl rfl ?_
        refine ops_off rfl (guard_off rfl rfl rfl hg200) rfl rfl ?_
        refine ops_off rfl (guard_off rfl rfl rfl hg200) rfl rfl ?_
        refine ops_off rfl (guard_off rfl rfl rfl hg200) rfl rfl ?_
        refine ops_off rfl (guard_undef rfl rfl rfl) rfl rfl ?_
        refine ops_off rfl (guard_undef rfl rfl rfl) rfl rfl ?_
        refine ops_off rfl (guard_undef rfl rfl rfl) rfl rfl ?_
        refine ops_off rfl (guard_off rfl rfl rfl hg200) rfl rfl ?_
        have hg201 : (((decide ((x0.size : Int) < 1)) || (decide (x1 < (x0.size : Int)))) || ((decide (1 < (x0.size : Int))) && ((bt x0 0) == 48))) = true := by simp only [hg200, Bool.and_true, Bool.true_and, Bool.and_false, Bool.false_and, Bool.or_true, Bool.true_or, Bool.or_false, Bool.false_or, Bool.not_true, Bool.not_false, Bool.not_not]
        refine ops_ex (v := .bool (((decide ((x0.size : Int) < 1)) || (decide (x1 < (x0.size : Int)))) || ((decide (1 < (x0.size : Int))) && ((bt x0 0) == 48)))) rfl (guard_none rfl) rfl rfl (ex_por_t rfl rfl hg200) ?_
        refine ops_nil ?_
        exact at_meet [(0, .string x0), (26, .bool (((decide ((x0.size : Int) < 1)) || (decide (x1 < (x0.size : Int)))) || ((decide (1 < (x0.size : Int))) && ((bt x0 0) == 48))))] ⟨rfl, HM⟩ (Sub.cons rfl (Sub.cons rfl Sub.nil))
      · skip
        refine ops_ex rfl (guard_on rfl rfl rfl hg200) rfl rfl (ex_move rfl rfl) ?_
        refine ops_ex rfl (guard_on rfl rfl rfl hg200) rfl rfl (ex_strlen rfl rfl Tryz.underlying9) ?_
        refine ops_ex rfl (guard_on rfl rfl rfl hg200) rfl rfl (ex_gtr rfl rfl rfl) ?_
        refine ops_ex rfl (guard_on rfl rfl rfl hg200) rfl rfl (ex_move rfl rfl) ?_
        refine bool_cases (decide (1 < (x0.size : Int))) (fun hg202 => ?_) (fun hg202 => ?_)
        · skip
          refine ops_ex rfl (guard_on rfl rfl rfl hg202) rfl rfl (ex_move rfl rfl) ?_
          refine ops_ex rfl (guard_on rfl rfl rfl hg202) rfl rfl (ex_sindex rfl rfl rfl Tryz.underlying9 (idx_lo (or_t e196 (and_mk (not_mk hg200) hg202))) (idx_hi (or_t e196 (and_mk (not_mk hg200) hg202)))) ?_
          refine ops_ex rfl (guard_on rfl rfl rfl hg202) rfl rfl (ex_eql rfl rfl rfl) ?_
          refine ops_ex (v := .bool ((decide (1 < (x0.size : Int))) && ((bt x0 0) == 48))) rfl (guard_on rfl rfl rfl hg200) rfl rfl (ex_pand_t rfl rfl hg202 rfl) ?_
          refine ops_ex (v := .bool (((decide ((x0.size : Int) < 1)) || (decide (x1 < (x0.size : Int)))) || ((decide (1 < (x0.size : Int))) && ((bt x0 0) == 48)))) rfl (guard_none rfl) rfl rfl (ex_por_f rfl rfl hg200 rfl) ?_
          refine ops_nil ?_
          exact at_meet [(0, .string x0), (26, .bool (((decide ((x0.size : Int) < 1)) || (decide (x1 < (x0.size : Int)))) || ((decide (1 < (x0.size : Int))) && ((bt x0 0) == 48))))] ⟨rfl, HM⟩ (Sub.cons rfl (Sub.cons rfl Sub.nil))
        · skip
          refine ops_off rfl (guard_off rfl rfl rfl hg202) rfl rfl ?_
          refine ops_off rfl (guard_off rfl rfl rfl hg202) rfl rfl ?_
          refine ops_off rfl (guard_off rfl rfl rfl hg202) rfl rfl ?_
          have hg203 : ((decide (1 < (x0.size : Int))) && ((bt x0 0) == 48)) = false := by simp only [hg202, Bool.and_true, Bool.true_and, Bool.and_false, Bool.false_and, Bool.or_true, Bool.true_or, Bool.or_false, Bool.false_or, Bool.not_true, Bool.not_false, Bool.not_not]
          refine ops_ex (v := .bool ((decide (1 < (x0.size : Int))) && ((bt x0 0) == 48))) rfl (guard_on rfl rfl rfl hg200) rfl rfl (ex_pand_f rfl rfl hg202) ?_
          refine ops_ex (v := .bool (((decide ((x0.size : Int) < 1)) || (decide (x1 < (x0.size : Int)))) || ((decide (1 < (x0.size : Int))) && ((bt x0 0) == 48)))) rfl (guard_none rfl) rfl rfl (ex_por_f rfl rfl hg200 rfl) ?_
          refine ops_nil ?_
          exact at_meet [(0, .string x0), (26, .bool (((decide ((x0.size : Int) < 1)) || (decide (x1 < (x0.size : Int)))) || ((decide (1 < (x0.size : Int))) && ((bt x0 0) == 48))))] ⟨rfl, HM⟩ (Sub.cons rfl (Sub.cons rfl Sub.nil))
  · rintro _ w204 ⟨rfl, HM⟩
    refine at_then ?_
    refine run_cond (b := (((decide ((x0.size : Int) < 1)) || (decide (x1 < (x0.size : Int)))) || ((decide (1 < (x0.size : Int))) && ((bt x0 0) == 48)))) rfl (fun hb205 => ?_) (fun hb205 => ?_)
    · replace H := cond_t hb205 H
      refine run_seq ?_
      refine run_region rfl ?_
      refine ops_ex rfl (guard_none rfl) rfl rfl (ex_assign rfl rfl) ?_
      refine ops_ex rfl (guard_none rfl) rfl rfl (ex_assign rfl rfl) ?_
      refine ops_nil ?_
      refine at_then ?_
      refine run_ret ?_
      refine at_then_ret ?_
      have hR := Option.some.inj H
      subst hR
      exact at_ret2 rfl rfl rfl ⟨_, rfl, rfl, HM⟩
    · replace H := cond_f hb205 H
      refine run_skip ?_
      refine at_then ?_
      refine run_seq ?_
      refine run_region rfl ?_
      refine ops_ex rfl (guard_none rfl) rfl rfl (ex_assign rfl rfl) ?_
      refine ops_nil ?_
      refine at_then ?_
      obtain ⟨o233, ho234, H⟩ := bind_some H
      refine run_mid (fun ρ_ w_ => ∃ a232 : Int, Sum.inr a232 = o233 ∧ ρ_ = [(6, .int .i64 a232)] ∧ Mem w [] w_ []) ?_ ?_
      · skip
        refine run_seq ?_
        refine run_region rfl ?_
        refine ops_ex rfl (guard_none rfl) rfl rfl (ex_assign rfl rfl) ?_
        refine ops_nil ?_
        refine at_then ?_
        refine run_block ?_
        refine run_loop (fun k_ ρ_ w_ => ∃ a243 : Int, ∃ a244 : Int, spec_l2Number.l0 x0 k_ a243 a244 = some o233 ∧ ρ_ = [(0, .string x0), (6, .int .i64 a243), (7, .int .i64 a244)] ∧ Mem w [] w_ []) k (ρ1 := [(0, .string x0), (6, .int .i64 0), (7, .int .i64 0)]) ⟨_, _, ho234, rfl, HM⟩ (Sub.cons rfl (Sub.cons rfl (Sub.cons rfl Sub.nil))) ?_
        clear HM ho234
        rintro k253 _ w254 ⟨a243, a244, ho234, rfl, HM⟩
        obtain _ | k253 := k253
        · exact nomatch ((spec_l2Number.l0_z x0 a243 a244).symm.trans ho234)
        replace ho234 := (spec_l2Number.l0_s x0 k253 a243 a244).symm.trans ho234
        refine run_seq ?_
        refine run_seq ?_
        refine run_region rfl ?_
        refine ops_ex rfl (guard_none rfl) rfl rfl (ex_move rfl rfl) ?_
        refine ops_ex rfl (guard_none rfl) rfl rfl (ex_move rfl rfl) ?_
        refine ops_ex rfl (guard_none rfl) rfl rfl (ex_strlen rfl rfl Tryz.underlying9) ?_
        refine ops_ex rfl (guard_none rfl) rfl rfl (ex_lss rfl rfl rfl) ?_
        refine ops_nil ?_
        refine at_then ?_
        refine run_cond (b := (decide (a244 < (x0.size : Int)))) rfl (fun hb255 => ?_) (fun hb255 => ?_)
        · replace ho234 := cond_t hb255 ho234
          refine run_skip ?_
          refine at_then ?_
          refine run_seq ?_
          refine run_block ?_
          refine run_seq ?_
          refine run_seq ?_
          obtain ⟨e259, ho234⟩ := chk_some ho234
          obtain ⟨e260, ho234⟩ := chk_some ho234
          refine run_meet (fun ρ_ w_ => ρ_ = [(0, .string x0), (6, .int .i64 a243), (7, .int .i64 a244), (42, .bool ((decide ((bt x0 a244) < 48)) || (decide (57 < (bt x0 a244)))))] ∧ Mem w [] w_ []) ?_ ?_
          · skip
            refine run_region rfl ?_
            refine ops_ex rfl (guard_none rfl) rfl rfl (ex_move rfl rfl) ?_
            refine ops_ex rfl (guard_none rfl) rfl rfl (ex_move rfl rfl) ?_
            refine ops_ex rfl (guard_none rfl) rfl rfl (ex_sindex rfl rfl rfl Tryz.underlying9 (idx_lo e259) (idx_hi e259)) ?_
            refine ops_ex rfl (guard_none rfl) rfl rfl (ex_lss rfl rfl rfl) ?_
            refine ops_ex rfl (guard_none rfl) rfl rfl (ex_move rfl rfl) ?_
            refine bool_cases (decide ((bt x0 a244) < 48)) (fun hg261 => ?_) (fun hg261 => ?_)
            · skip
              refine ops_off rfl (guard_off rfl rfl rfl hg261) rfl rfl ?_
              refine ops_off rfl (guard_off rfl rfl rfl hg261) rfl rfl ?_
              refine ops_off rfl (guard_off rfl rfl rfl hg261) rfl rfl ?_
              refine ops_off rfl (guard_off rfl rfl rfl hg261) rfl rfl ?_
              have hg262 : ((decide ((bt x0 a244) < 48)) || (decide (57 < (bt x0 a244)))) = true := by simp only [hg261, Bool.and_true, Bool.true_and, Bool.and_false, Bool.false_and, Bool.or_true, Bool.true_or, Bool.or_false, Bool.false_or, Bool.not_true, Bool.not_false, Bool.not_not]
              refine ops_ex (v := .bool ((decide ((bt x0 a244) < 48)) || (decide (57 < (bt x0 a244))))) rfl (guard_none rfl) rfl rfl (ex_por_t rfl rfl hg261) ?_
              refine ops_nil ?_
              exact at_meet [(0, .string x0), (6, .int .i64 a243), (7, .int .i64 a244), (42, .bool ((decide ((bt x0 a244) < 48)) || (decide (57 < (bt x0 a244)))))] ⟨rfl, HM⟩ (Sub.cons rfl (Sub.cons rfl (Sub.cons rfl (Sub.cons rfl Sub.nil))))
            · skip
              refine ops_ex rfl (guard_on rfl rfl rfl hg261) rfl rfl (ex_move rfl rfl) ?_
              refine ops_ex rfl (guard_on rfl rfl rfl hg261) rfl rfl (ex_move rfl rfl) ?_
              refine ops_ex rfl (guard_on rfl rfl rfl hg261) rfl rfl (ex_sindex rfl rfl rfl Tryz.underlying9 (idx_lo (or_t e260 (not_mk hg261))) (idx_hi (or_t e260 (not_mk hg261)))) ?_
              refine ops_ex rfl (guard_on rfl rfl rfl hg261) rfl rfl (ex_gtr rfl rfl rfl) ?_
              refine ops_ex (v := .bool ((decide ((bt x0 a244) < 48)) || (decide (57 < (bt x0 a244))))) rfl (guard_none rfl) rfl rfl (ex_por_f rfl rfl hg261 rfl) ?_
              refine ops_nil ?_
              exact at_meet [(0, .string x0), (6, .int .i64 a243), (7, .int .i64 a244), (42, .bool ((decide ((bt x0 a244) < 48)) || (decide (57 < (bt x0 a244)))))] ⟨rfl, HM⟩ (Sub.cons rfl (Sub.cons rfl (Sub.cons rfl (Sub.cons rfl Sub.nil))))
          · rintro _ w263 ⟨rfl, HM⟩
            refine at_then ?_
            refine run_cond (b := ((decide ((bt x0 a244) < 48)) || (decide (57 < (bt x0 a244))))) rfl (fun hb264 => ?_) (fun hb264 => ?_)
            · replace ho234 := cond_t hb264 ho234
              refine run_seq ?_
              refine run_region rfl ?_
              refine ops_ex rfl (guard_none rfl) rfl rfl (ex_assign rfl rfl) ?_
              refine ops_ex rfl (guard_none rfl) rfl rfl (ex_assign rfl rfl) ?_
              refine ops_nil ?_
              refine at_then ?_
              refine run_ret ?_
              refine at_then_ret ?_
              refine at_block_ret ?_
              refine at_then_ret ?_
              refine at_then_ret ?_
              refine at_block_ret ?_
              refine at_then_ret ?_
              have hR := Option.some.inj ho234
              subst hR
              have hT := thn_inl H
              have hR := Option.some.inj hT
              subst hR
              exact at_ret2 rfl rfl rfl ⟨_, rfl, rfl, HM⟩
            · replace ho234 := cond_f hb264 ho234
              refine run_skip ?_
              refine at_then ?_
              obtain ⟨e265, ho234⟩ := chk_some ho234
              refine run_region rfl ?_
              refine ops_ex rfl (guard_none rfl) rfl rfl (ex_move rfl rfl) ?_
              refine ops_ex rfl (guard_none rfl) rfl rfl (ex_mul rfl rfl rfl) ?_
              refine ops_ex rfl (guard_none rfl) rfl rfl (ex_move rfl rfl) ?_
              refine ops_ex rfl (guard_none rfl) rfl rfl (ex_move rfl rfl) ?_
              refine ops_ex rfl (guard_none rfl) rfl rfl (ex_sindex rfl rfl rfl Tryz.underlying9 (idx_lo e265) (idx_hi e265)) ?_
              refine ops_ex rfl (guard_none rfl) rfl rfl (ex_subk rfl rfl rfl) ?_
              refine ops_ex rfl (guard_none rfl) rfl rfl (ex_conv64 rfl rfl (by rw [Tryz.underlying5]; rfl) Tryz.underlying2) ?_
              refine ops_ex rfl (guard_none rfl) rfl rfl (ex_add rfl rfl rfl) ?_
              refine ops_ex rfl (guard_none rfl) rfl rfl (ex_assign rfl rfl) ?_
              refine ops_nil ?_
              refine at_block ?_
              refine at_then ?_
              refine run_region rfl ?_
              refine ops_ex rfl (guard_none rfl) rfl rfl (ex_move rfl rfl) ?_
              refine ops_ex rfl (guard_none rfl) rfl rfl (ex_add rfl rfl rfl) ?_
              refine ops_ex rfl (guard_none rfl) rfl rfl (ex_assign rfl rfl) ?_
              refine ops_nil ?_
              exact at_again k253 (ρ1 := [(0, .string x0), (6, .int .i64 (wrap64 ((wrap64 (a243 * 10)) + (wrap64 (IntKind.u8.wrap ((bt x0 a244) - 48)))))), (7, .int .i64 (wrap64 (a244 + 1)))]) (Nat.lt_succ_self _) ⟨_, _, ho234, rfl, HM⟩ (Sub.cons rfl (Sub.cons rfl (Sub.cons rfl Sub.nil)))
        · replace ho234 := cond_f hb255 ho234
          refine run_exit ?_
          refine at_then_exit ?_
          refine at_then_exit ?_
          refine at_block_exit ?_
          exact at_mid (ρ' := [(6, .int .i64 a243)]) ⟨_, (Option.some.inj ho234), rfl, HM⟩ (Sub.cons rfl Sub.nil)
      · rintro _ w266 ⟨a232, rfl, rfl, HM⟩
        replace H := (thn_inr H)
        refine run_seq ?_
        refine run_region rfl ?_
        refine ops_ex rfl (guard_none rfl) rfl rfl (ex_move rfl rfl) ?_
        refine ops_ex rfl (guard_none rfl) rfl rfl (ex_assign rfl rfl) ?_
        refine ops_ex rfl (guard_none rfl) rfl rfl (ex_assign rfl rfl) ?_
        refine ops_nil ?_
        refine at_then ?_
        refine run_ret ?_
        have hR := Option.some.inj H
        subst hR
        exact at_ret2 rfl rfl rfl ⟨_, rfl, rfl, HM⟩

def spec_l3Ins.l0 (t383 : (List ByteArray)) : Nat → (List Ref) → Int → Option (((List Ref) × Bool) ⊕ ((List Ref)))
  | 0, _, _ => none
  | k + 1, a486, a488 => (bif (decide (a488 < (t383.length : Int))) then (chk (idxOk a488 t383.length) ((spec_l2Cut.f k (gt t383 a488) 58).bind fun t515 => (bif ((t515.length : Int) != 2) then some (.inl (([] : List Ref), false)) else (chk (idxOk (0 : Int) t515.length) ((spec_l2Number.f k (gt t515 (0 : Int)) 2).bind fun t524 => (chk (idxOk (1 : Int) t515.length) ((spec_l2Number.f k (gt t515 (1 : Int)) 1).bind fun t528 => (bif ((!t524.2) || (!t528.2)) then some (.inl (([] : List Ref), false)) else (chk (leB ((a486.length + ([(⟨t524.1, t528.1⟩ : Ref)] : List Ref).length) * 16) 140737488355328) (spec_l3Ins.l0 t383 k (a486 ++ ([(⟨t524.1, t528.1⟩ : Ref)] : List Ref)) (wrap64 (a488 + 1)))))))))))) else some (.inr a486))
theorem spec_l3Ins.l0_z (t383 : (List ByteArray)) (a486 : List Ref) (a488 : Int) : spec_l3Ins.l0 t383 0 a486 a488 = none := rfl
theorem spec_l3Ins.l0_s (t383 : (List ByteArray)) (k : Nat) (a486 : List Ref) (a488 : Int) : spec_l3Ins.l0 t383 (k + 1) a486 a488 = (bif (decide (a488 < (t383.length : Int))) then (chk (idxOk a488 t383.length) ((spec_l2Cut.f k (gt t383 a488) 58).bind fun t515 => (bif ((t515.length : Int) != 2) then some (.inl (([] : List Ref), false)) else (chk (idxOk (0 : Int) t515.length) ((spec_l2Number.f k (gt t515 (0 : Int)) 2).bind fun t524 => (chk (idxOk (1 : Int) t515.length) ((spec_l2Number.f k (gt t515 (1 : Int)) 1).bind fun t528 => (bif ((!t524.2) || (!t528.2)) then some (.inl (([] : List Ref), false)) else (chk (leB ((a486.length + ([(⟨t524.1, t528.1⟩ : Ref)] : List Ref).length) * 16) 140737488355328) (spec_l3Ins.l0 t383 k (a486 ++ ([(⟨t524.1, t528.1⟩ : Ref)] : List Ref)) (wrap64 (a488 + 1)))))))))))) else some (.inr a486)) := rfl
def spec_l3Ins.f (k : Nat) (x0 : ByteArray) : Option ((List Ref) × Bool) := ((spec_l2Cut.f k x0 43).bind fun t383 => ((spec_l3Ins.l0 t383 k ([] : List Ref) 0).bind fun o461 => thn o461 (fun r => some r) (fun a459 => some (a459, true))))
theorem spec_l3Ins.calls {k : Nat} {x0 : ByteArray}  {w : World}  {r : (List Ref) × Bool} (H : spec_l3Ins.f k x0 = some r) :
    Calls Tryz.prog 16 ([.string x0] : List Value).toArray w (fun e w_ => ∃ v, e = .returned v ∧ ∃ u0 : Value, v = (.tuple #[u0, .bool r.2]) ∧ Mem w [] w_ [own kRef 60 u0 r.1]) := by
  have HM := Mem.start w
  refine calls_run (N := 56) Tryz.func16 rfl rfl rfl rfl ?_
  unfold spec_l3Ins.f at H
  refine run_seq ?_
  refine run_region rfl ?_
  refine ops_ex rfl (guard_none rfl) rfl rfl (ex_assign rfl rfl) ?_
  refine ops_ex rfl (guard_none rfl) rfl rfl (ex_assign rfl rfl) ?_
  refine ops_nil ?_
  refine at_then ?_
  refine run_seq ?_
  refine run_region rfl ?_
  refine ops_does rfl (guard_none rfl) rfl rfl (does_lit (e := 60) (cs := []) (xs := ([] : List Ref)) kRef rfl rfl (fun _ => by kernel_rfl) rfl rfl (fun _ _ h => by have h' : _ = [] := h; subst h'; exact .nil) HM.emp) ?_
  rintro v379 w382 HM
  refine ops_ex rfl (guard_none rfl) rfl rfl (ex_assign rfl rfl) ?_
  refine ops_nil ?_
  refine at_then ?_
  refine run_seq ?_
  obtain ⟨t383, h384, H⟩ := bind_some H
  refine run_region rfl ?_
  refine ops_ex rfl (guard_none rfl) rfl rfl (ex_move rfl rfl) ?_
  refine ops_does rfl (guard_none rfl) rfl rfl (does_callk rfl callok14 rfl (spec_l2Cut.calls (x0 := x0) (x1 := 43) h384)) ?_
  rintro u385 w387 ⟨_, rfl, hn⟩
  replace HM : Mem w [] w387 [own kStr 9 u385 t383, own kRef 60 v379 ([] : List Ref)] := HM.call hn
  refine ops_ex rfl (guard_none rfl) rfl rfl (ex_assign rfl rfl) ?_
  refine ops_nil ?_
  refine at_then ?_
  obtain ⟨o461, ho462, H⟩ := bind_some H
  refine run_mid (fun ρ_ w_ => ∃ v458 : Value, ∃ a459 : List Ref, Sum.inr a459 = o461 ∧ ρ_ = [(4, v458)] ∧ Mem w [] w_ [own kRef 60 v458 a459]) ?_ ?_
  · skip
    refine run_seq ?_
    refine run_region rfl ?_
    refine ops_ex rfl (guard_none rfl) rfl rfl (ex_assign rfl rfl) ?_
    refine ops_nil ?_
    refine at_then ?_
    refine run_block ?_
    replace HM := HM.front 1 rfl rfl
    refine run_loop (fun k_ ρ_ w_ => ∃ v485 : Value, ∃ a486 : List Ref, ∃ a488 : Int, spec_l3Ins.l0 t383 k_ a486 a488 = some o461 ∧ ρ_ = [(4, v485), (5, u385), (6, .int .i64 a488)] ∧ Mem w [] w_ [own kRef 60 v485 a486, own kStr 9 u385 t383]) k (ρ1 := [(4, v379), (5, u385), (6, .int .i64 0)]) ⟨_, _, _, ho462, rfl, HM⟩ (Sub.cons rfl (Sub.cons rfl (Sub.cons rfl Sub.nil))) ?_
    clear HM ho462
    rintro k511 _ w512 ⟨v485, a486, a488, ho462, rfl, HM⟩
    obtain _ | k511 := k511
    · exact nomatch ((spec_l3Ins.l0_z t383 a486 a488).symm.trans ho462)
    replace ho462 := (spec_l3Ins.l0_s t383 k511 a486 a488).symm.trans ho462
    refine run_seq ?_
    refine run_seq ?_
    refine run_region rfl ?_
    refine ops_ex rfl (guard_none rfl) rfl rfl (ex_move rfl rfl) ?_
    refine ops_ex rfl (guard_none rfl) rfl rfl (ex_move rfl rfl) ?_
    refine ops_ex rfl (guard_none rfl) rfl rfl (ex_len (d := kStr) (xs := t383) rfl rfl Tryz.underlying36 (HM.own_rd 1 rfl)) ?_
    refine ops_ex rfl (guard_none rfl) rfl rfl (ex_lss rfl rfl rfl) ?_
    refine ops_nil ?_
    refine at_then ?_
    refine run_cond (b := (decide (a488 < (t383.length : Int)))) rfl (fun hb513 => ?_) (fun hb513 => ?_)
    · replace ho462 := cond_t hb513 ho462
      refine run_skip ?_
      refine at_then ?_
      refine run_seq ?_
      refine run_block ?_
      refine run_seq ?_
      obtain ⟨e514, ho462⟩ := chk_some ho462
      obtain ⟨t515, h516, ho462⟩ := bind_some ho462
      refine run_region rfl ?_
      refine ops_ex rfl (guard_none rfl) rfl rfl (ex_move rfl rfl) ?_
      refine ops_ex rfl (guard_none rfl) rfl rfl (ex_move rfl rfl) ?_
      refine ops_ex rfl (guard_none rfl) rfl rfl (ex_indexAddr (d := kStr) rfl rfl rfl Tryz.underlying36 tsz9 (HM.own_rd 1 rfl) (idx_lo e514) (idx_hi e514)) ?_
      refine ops_ex rfl (guard_none rfl) rfl rfl (ex_load1 rfl rfl Tryz.underlying9 rfl ((rd_plain (HM.own_rd 1 rfl) e514) 0 _ rfl)) ?_
      refine ops_does rfl (guard_none rfl) rfl rfl (does_callk rfl callok14 rfl (spec_l2Cut.calls (x0 := (gt t383 a488)) (x1 := 58) h516)) ?_
      rintro u517 w519 ⟨_, rfl, hn⟩
      replace HM : Mem w [] w519 [own kStr 9 u517 t515, own kRef 60 v485 a486, own kStr 9 u385 t383] := HM.call hn
      refine ops_ex rfl (guard_none rfl) rfl rfl (ex_assign rfl rfl) ?_
      refine ops_nil ?_
      refine at_then ?_
      refine run_seq ?_
      refine run_seq ?_
      refine run_region rfl ?_
      refine ops_ex rfl (guard_none rfl) rfl rfl (ex_move rfl rfl) ?_
      refine ops_ex rfl (guard_none rfl) rfl rfl (ex_len (d := kStr) (xs := t515) rfl rfl Tryz.underlying36 (HM.own_rd 0 rfl)) ?_
      refine ops_ex rfl (guard_none rfl) rfl rfl (ex_neq rfl rfl rfl) ?_
      refine ops_nil ?_
      refine at_then ?_
      refine run_cond (b := ((t515.length : Int) != 2)) rfl (fun hb521 => ?_) (fun hb521 => ?_)
      · replace ho462 := cond_t hb521 ho462
        refine run_seq ?_
        refine run_region rfl ?_
        refine ops_ex rfl (guard_none rfl) rfl rfl (ex_assign rfl rfl) ?_
        refine ops_ex rfl (guard_none rfl) rfl rfl (ex_assign rfl rfl) ?_
        refine ops_nil ?_
        refine at_then ?_
        refine run_ret ?_
        refine at_then_ret ?_
        refine at_block_ret ?_
        refine at_then_ret ?_
        refine at_then_ret ?_
        refine at_block_ret ?_
        refine at_then_ret ?_
        replace HM := HM.empty kRef 60 none
        replace HM := (HM.front 1 rfl rfl).drop
        replace HM := (HM.front 1 rfl rfl).drop
        replace HM := (HM.front 1 rfl rfl).drop
        have hR := Option.some.inj ho462
        subst hR
        have hT := thn_inl H
        have hR := Option.some.inj hT
        subst hR
        exact at_ret2 rfl rfl rfl ⟨_, rfl, _, rfl, HM⟩
      · replace ho462 := cond_f hb521 ho462
        refine run_skip ?_
        refine at_then ?_
        refine run_seq ?_
        obtain ⟨e523, ho462⟩ := chk_some ho462
        obtain ⟨t524, h525, ho462⟩ := bind_some ho462
        refine run_region rfl ?_
        refine ops_ex rfl (guard_none rfl) rfl rfl (ex_move rfl rfl) ?_
        refine ops_ex rfl (guard_none rfl) rfl rfl (ex_indexAddr (d := kStr) rfl rfl rfl Tryz.underlying36 tsz9 (HM.own_rd 0 rfl) (idx_lo e523) (idx_hi e523)) ?_
        refine ops_ex rfl (guard_none rfl) rfl rfl (ex_load1 rfl rfl Tryz.underlying9 rfl ((rd_plain (HM.own_rd 0 rfl) e523) 0 _ rfl)) ?_
        refine ops_does rfl (guard_none rfl) rfl rfl (does_callk rfl callok15 rfl (spec_l2Number.calls (x0 := (gt t515 (0 : Int))) (x1 := 2) h525)) ?_
        rintro _ w526 ⟨rfl, hn⟩
        replace HM : Mem w [] w526 [own kStr 9 u517 t515, own kRef 60 v485 a486, own kStr 9 u385 t383] := HM.call hn
        refine ops_ex rfl (guard_none rfl) rfl rfl (ex_move rfl rfl) ?_
        refine ops_ex rfl (guard_none rfl) rfl rfl (ex_extract rfl rfl rfl) ?_
        refine ops_ex rfl (guard_none rfl) rfl rfl (ex_extract rfl rfl rfl) ?_
        refine ops_ex rfl (guard_none rfl) rfl rfl (ex_assign rfl rfl) ?_
        refine ops_ex rfl (guard_none rfl) rfl rfl (ex_assign rfl rfl) ?_
        refine ops_nil ?_
        refine at_then ?_
        refine run_seq ?_
        obtain ⟨e527, ho462⟩ := chk_some ho462
        obtain ⟨t528, h529, ho462⟩ := bind_some ho462
        refine run_region rfl ?_
        refine ops_ex rfl (guard_none rfl) rfl rfl (ex_move rfl rfl) ?_
        refine ops_ex rfl (guard_none rfl) rfl rfl (ex_indexAddr (d := kStr) rfl rfl rfl Tryz.underlying36 tsz9 (HM.own_rd 0 rfl) (idx_lo e527) (idx_hi e527)) ?_
        refine ops_ex rfl (guard_none rfl) rfl rfl (ex_load1 rfl rfl Tryz.underlying9 rfl ((rd_plain (HM.own_rd 0 rfl) e527) 0 _ rfl)) ?_
        refine ops_does rfl (guard_none rfl) rfl rfl (does_callk rfl callok15 rfl (spec_l2Number.calls (x0 := (gt t515 (1 : Int))) (x1 := 1) h529)) ?_
        rintro _ w530 ⟨rfl, hn⟩
        replace HM : Mem w [] w530 [own kStr 9 u517 t515, own kRef 60 v485 a486, own kStr 9 u385 t383] := HM.call hn
        refine ops_ex rfl (guard_none rfl) rfl rfl (ex_move rfl rfl) ?_
        refine ops_ex rfl (guard_none rfl) rfl rfl (ex_extract rfl rfl rfl) ?_
        refine ops_ex rfl (guard_none rfl) rfl rfl (ex_extract rfl rfl rfl) ?_
        refine ops_ex rfl (guard_none rfl) rfl rfl (ex_assign rfl rfl) ?_
        refine ops_ex rfl (guard_none rfl) rfl rfl (ex_assign rfl rfl) ?_
        refine ops_nil ?_
        refine at_then ?_
        refine run_seq ?_
        refine run_seq ?_
        refine run_meet (fun ρ_ w_ => ρ_ = [(4, v485), (5, u385), (6, .int .i64 a488), (8, .int .i64 t524.1), (10, .int .i64 t528.1), (48, .bool ((!t524.2) || (!t528.2)))] ∧ Mem w [] w_ [own kRef 60 v485 a486, own kStr 9 u385 t383]) ?_ ?_
        · skip
          refine run_region rfl ?_
          refine ops_ex rfl (guard_none rfl) rfl rfl (ex_move rfl rfl) ?_
          refine ops_ex rfl (guard_none rfl) rfl rfl (ex_not rfl rfl) ?_
          refine ops_ex rfl (guard_none rfl) rfl rfl (ex_move rfl rfl) ?_
          refine bool_cases (!t524.2) (fun hg532 => ?_) (fun hg532 => ?_)
          · skip
            refine ops_off rfl (guard_off rfl rfl rfl hg532) rfl rfl ?_
            refine ops_off rfl (guard_off rfl rfl rfl hg532) rfl rfl ?_
            have hg533 : ((!t524.2) || (!t528.2)) = true := by simp only [hg532, Bool.and_true, Bool.true_and, Bool.and_false, Bool.false_and, Bool.or_true, Bool.true_or, Bool.or_false, Bool.false_or, Bool.not_true, Bool.not_false, Bool.not_not]
            refine ops_ex (v := .bool ((!t524.2) || (!t528.2))) rfl (guard_none rfl) rfl rfl (ex_por_t rfl rfl hg532) ?_
            refine ops_nil ?_
            replace HM := (HM.front 0 rfl rfl).drop
            exact at_meet [(4, v485), (5, u385), (6, .int .i64 a488), (8, .int .i64 t524.1), (10, .int .i64 t528.1), (48, .bool ((!t524.2) || (!t528.2)))] ⟨rfl, HM⟩ (Sub.cons rfl (Sub.cons rfl (Sub.cons rfl (Sub.cons rfl (Sub.cons rfl (Sub.cons rfl Sub.nil))))))
          · skip
            refine ops_ex rfl (guard_on rfl rfl rfl hg532) rfl rfl (ex_move rfl rfl) ?_
            refine ops_ex rfl (guard_on rfl rfl rfl hg532) rfl rfl (ex_not rfl rfl) ?_
            refine ops_ex (v := .bool ((!t524.2) || (!t528.2))) rfl (guard_none rfl) rfl rfl (ex_por_f rfl rfl hg532 rfl) ?_
            refine ops_nil ?_
            replace HM := (HM.front 0 rfl rfl).drop
            exact at_meet [(4, v485), (5, u385), (6, .int .i64 a488), (8, .int .i64 t524.1), (10, .int .i64 t528.1), (48, .bool ((!t524.2) || (!t528.2)))] ⟨rfl, HM⟩ (Sub.cons rfl (Sub.cons rfl (Sub.cons rfl (Sub.cons rfl (Sub.cons rfl (Sub.cons rfl Sub.nil))))))
        · rintro _ w534 ⟨rfl, HM⟩
          refine at_then ?_
          refine run_cond (b := ((!t524.2) || (!t528.2))) rfl (fun hb535 => ?_) (fun hb535 => ?_)
          · replace ho462 := cond_t hb535 ho462
            refine run_seq ?_
            refine run_region rfl ?_
            refine ops_ex rfl (guard_none rfl) rfl rfl (ex_assign rfl rfl) ?_
            refine ops_ex rfl (guard_none rfl) rfl rfl (ex_assign rfl rfl) ?_
            refine ops_nil ?_
            refine at_then ?_
            refine run_ret ?_
            refine at_then_ret ?_
            refine at_block_ret ?_
            refine at_then_ret ?_
            refine at_then_ret ?_
            refine at_block_ret ?_
            refine at_then_ret ?_
            replace HM := HM.empty kRef 60 none
            replace HM := (HM.front 1 rfl rfl).drop
            replace HM := (HM.front 1 rfl rfl).drop
            have hR := Option.some.inj ho462
            subst hR
            have hT := thn_inl H
            have hR := Option.some.inj hT
            subst hR
            exact at_ret2 rfl rfl rfl ⟨_, rfl, _, rfl, HM⟩
          · replace ho462 := cond_f hb535 ho462
            refine run_skip ?_
            refine at_then ?_
            obtain ⟨e540, ho462⟩ := chk_some ho462
            refine run_region rfl ?_
            refine ops_ex rfl (guard_none rfl) rfl rfl (ex_move rfl rfl) ?_
            refine ops_ex rfl (guard_none rfl) rfl rfl (ex_move rfl rfl) ?_
            refine ops_ex rfl (guard_none rfl) rfl rfl (ex_move rfl rfl) ?_
            refine ops_ex rfl (guard_none rfl) rfl rfl (ex_build (cells := #[(.int .i64 t524.1), (.int .i64 t528.1)]) rfl rfl (by kernel_rfl)) ?_
            refine ops_does rfl (guard_none rfl) rfl rfl (does_lit (e := 60) (cs := [.int .i64 t524.1, .int .i64 t528.1]) (xs := ([(⟨t524.1, t528.1⟩ : Ref)] : List Ref)) kRef rfl rfl (fun _ => by kernel_rfl) rfl rfl (fun _ _ h => by have h' : _ = [] := h; subst h'; exact (Elems.cons (d := kRef) (x := (⟨t524.1, t528.1⟩ : Ref)) (f := []) ⟨rfl, rfl⟩ .nil)) HM.emp) ?_
            rintro v537 w543 HM
            replace HM := HM.front 1 rfl rfl
            refine ops_does rfl (guard_none rfl) rfl rfl (does_appendR kRef flat_plain rfl rfl rfl Tryz.underlying22 tsz60 rfl tby60 tz60 rfl rfl (leB_le e540) (HM.own_rd 1 rfl) HM) ?_
            rintro v541 w544 HM
            refine ops_ex rfl (guard_none rfl) rfl rfl (ex_assign rfl rfl) ?_
            refine ops_nil ?_
            refine at_block ?_
            refine at_then ?_
            refine run_region rfl ?_
            refine ops_ex rfl (guard_none rfl) rfl rfl (ex_move rfl rfl) ?_
            refine ops_ex rfl (guard_none rfl) rfl rfl (ex_add rfl rfl rfl) ?_
            refine ops_ex rfl (guard_none rfl) rfl rfl (ex_assign rfl rfl) ?_
            refine ops_nil ?_
            replace HM := (HM.front 1 rfl rfl).drop
            exact at_again k511 (ρ1 := [(4, v541), (5, u385), (6, .int .i64 (wrap64 (a488 + 1)))]) (Nat.lt_succ_self _) ⟨_, _, _, ho462, rfl, HM⟩ (Sub.cons rfl (Sub.cons rfl (Sub.cons rfl Sub.nil)))
    · replace ho462 := cond_f hb513 ho462
      refine run_exit ?_
      refine at_then_exit ?_
      refine at_then_exit ?_
      refine at_block_exit ?_
      replace HM := (HM.front 1 rfl rfl).drop
      exact at_mid (ρ' := [(4, v485)]) ⟨_, _, (Option.some.inj ho462), rfl, HM⟩ (Sub.cons rfl Sub.nil)
  · rintro _ w545 ⟨v458, a459, rfl, rfl, HM⟩
    replace H := (thn_inr H)
    refine run_seq ?_
    refine run_region rfl ?_
    refine ops_ex rfl (guard_none rfl) rfl rfl (ex_move rfl rfl) ?_
    refine ops_ex rfl (guard_none rfl) rfl rfl (ex_assign rfl rfl) ?_
    refine ops_ex rfl (guard_none rfl) rfl rfl (ex_assign rfl rfl) ?_
    refine ops_nil ?_
    refine at_then ?_
    refine run_ret ?_
    have hR := Option.some.inj H
    subst hR
    exact at_ret2 rfl rfl rfl ⟨_, rfl, _, rfl, HM⟩

def spec_l3Swap.l0 (x1 : Int) (x2 : Int) : Nat → (List Int) → Int → Option ((List Int))
  | 0, _, _ => none
  | k + 1, a614, a616 => (bif (decide (a616 < (a614.length : Int))) then (chk (idxOk a616 a614.length) (bif ((gt a614 a616) == x1) then (chk (idxOk a616 a614.length) (spec_l3Swap.l0 x1 x2 k (a614.set (a616).toNat x2) (wrap64 (a616 + 1)))) else spec_l3Swap.l0 x1 x2 k a614 (wrap64 (a616 + 1)))) else some a614)
theorem spec_l3Swap.l0_z (x1 : Int) (x2 : Int) (a614 : List Int) (a616 : Int) : spec_l3Swap.l0 x1 x2 0 a614 a616 = none := rfl
theorem spec_l3Swap.l0_s (x1 : Int) (x2 : Int) (k : Nat) (a614 : List Int) (a616 : Int) : spec_l3Swap.l0 x1 x2 (k + 1) a614 a616 = (bif (decide (a616 < (a614.length : Int))) then (chk (idxOk a616 a614.length) (bif ((gt a614 a616) == x1) then (chk (idxOk a616 a614.length) (spec_l3Swap.l0 x1 x2 k (a614.set (a616).toNat x2) (wrap64 (a616 + 1)))) else spec_l3Swap.l0 x1 x2 k a614 (wrap64 (a616 + 1)))) else some a614) := rfl
def spec_l3Swap.f (k : Nat) (x0 : ByteArray) (x1 : Int) (x2 : Int) : Option ByteArray := ((spec_l3Swap.l0 x1 x2 k (strNums x0) 0).bind (fun a605 => some (strOfNums a605)))
theorem spec_l3Swap.calls {k : Nat} {x0 : ByteArray} {x1 : Int} {x2 : Int}  {w : World}  {r : ByteArray} (H : spec_l3Swap.f k x0 x1 x2 = some r) :
    Calls Tryz.prog 18 ([.string x0, .int .u8 x1, .int .u8 x2] : List Value).toArray w (fun e w_ => ∃ v, e = .returned v ∧ v = (.string r) ∧ Mem w [] w_ []) := by
  have HM := Mem.start w
  refine calls_run (N := 29) Tryz.func18 rfl rfl rfl rfl ?_
  unfold spec_l3Swap.f at H
  refine run_seq ?_
  refine run_region rfl ?_
  refine ops_ex rfl (guard_none rfl) rfl rfl (ex_assign rfl rfl) ?_
  refine ops_nil ?_
  refine at_then ?_
  refine run_seq ?_
  refine run_region rfl ?_
  refine ops_ex rfl (guard_none rfl) rfl rfl (ex_move rfl rfl) ?_
  refine ops_does rfl (guard_none rfl) rfl rfl (does_sbytes (e := 5) rfl rfl Tryz.underlying9 Tryz.underlying72 Tryz.underlying5 HM) ?_
  rintro v585 w587 HM
  refine ops_ex rfl (guard_none rfl) rfl rfl (ex_assign rfl rfl) ?_
  refine ops_nil ?_
  refine at_then ?_
  obtain ⟨o607, ho608, H⟩ := bind_some H
  refine run_mid (fun ρ_ w_ => ∃ v604 : Value, ∃ a605 : List Int, a605 = o607 ∧ ρ_ = [(7, v604)] ∧ Mem w [] w_ [brow 5 v604 a605]) ?_ ?_
  · clear H
    refine run_seq ?_
    refine run_region rfl ?_
    refine ops_ex rfl (guard_none rfl) rfl rfl (ex_assign rfl rfl) ?_
    refine ops_nil ?_
    refine at_then ?_
    refine run_block ?_
    refine run_loop (fun k_ ρ_ w_ => ∃ v613 : Value, ∃ a614 : List Int, ∃ a616 : Int, spec_l3Swap.l0 x1 x2 k_ a614 a616 = some o607 ∧ ρ_ = [(1, .int .u8 x1), (2, .int .u8 x2), (7, v613), (8, .int .i64 a616)] ∧ Mem w [] w_ [brow 5 v613 a614]) k (ρ1 := [(1, .int .u8 x1), (2, .int .u8 x2), (7, v585), (8, .int .i64 0)]) ⟨_, _, _, ho608, rfl, HM⟩ (Sub.cons rfl (Sub.cons rfl (Sub.cons rfl (Sub.cons rfl Sub.nil)))) ?_
    clear HM ho608
    rintro k621 _ w622 ⟨v613, a614, a616, ho608, rfl, HM⟩
    obtain _ | k621 := k621
    · exact nomatch ((spec_l3Swap.l0_z x1 x2 a614 a616).symm.trans ho608)
    replace ho608 := (spec_l3Swap.l0_s x1 x2 k621 a614 a616).symm.trans ho608
    refine run_seq ?_
    refine run_seq ?_
    refine run_region rfl ?_
    refine ops_ex rfl (guard_none rfl) rfl rfl (ex_move rfl rfl) ?_
    refine ops_ex rfl (guard_none rfl) rfl rfl (ex_move rfl rfl) ?_
    refine ops_ex rfl (guard_none rfl) rfl rfl (ex_len (d := kU8) (xs := a614) rfl rfl Tryz.underlying72 (HM.brow_rd (hl := fun _ => rfl) (h1 := fun _ => onesC rfl onesN) 0 rfl)) ?_
    refine ops_ex rfl (guard_none rfl) rfl rfl (ex_lss rfl rfl rfl) ?_
    refine ops_nil ?_
    refine at_then ?_
    refine run_cond (b := (decide (a616 < (a614.length : Int)))) rfl (fun hb623 => ?_) (fun hb623 => ?_)
    · replace ho608 := cond_t hb623 ho608
      refine run_skip ?_
      refine at_then ?_
      refine run_seq ?_
      refine run_block ?_
      refine run_seq ?_
      obtain ⟨e624, ho608⟩ := chk_some ho608
      refine run_region rfl ?_
      refine ops_ex rfl (guard_none rfl) rfl rfl (ex_move rfl rfl) ?_
      refine ops_ex rfl (guard_none rfl) rfl rfl (ex_move rfl rfl) ?_
      refine ops_ex rfl (guard_none rfl) rfl rfl (ex_indexAddr (d := kU8) rfl rfl rfl Tryz.underlying72 tsz5 (HM.brow_rd (hl := fun _ => rfl) (h1 := fun _ => onesC rfl onesN) 0 rfl) (idx_lo e624) (idx_hi e624)) ?_
      refine ops_ex rfl (guard_none rfl) rfl rfl (ex_load1 rfl rfl Tryz.underlying5 rfl ((rd_plain (HM.brow_rd (hl := fun _ => rfl) (h1 := fun _ => onesC rfl onesN) 0 rfl) e624) 0 _ rfl)) ?_
      refine ops_ex rfl (guard_none rfl) rfl rfl (ex_move rfl rfl) ?_
      refine ops_ex rfl (guard_none rfl) rfl rfl (ex_eql rfl rfl rfl) ?_
      refine ops_nil ?_
      refine at_then ?_
      refine run_cond (b := ((gt a614 a616) == x1)) rfl (fun hb625 => ?_) (fun hb625 => ?_)
      · replace ho608 := cond_t hb625 ho608
        obtain ⟨e626, ho608⟩ := chk_some ho608
        refine run_region rfl ?_
        refine ops_ex rfl (guard_none rfl) rfl rfl (ex_move rfl rfl) ?_
        refine ops_ex rfl (guard_none rfl) rfl rfl (ex_move rfl rfl) ?_
        refine ops_ex rfl (guard_none rfl) rfl rfl (ex_move rfl rfl) ?_
        refine ops_ex rfl (guard_none rfl) rfl rfl (ex_indexAddr (d := kU8) rfl rfl rfl Tryz.underlying72 tsz5 (HM.brow_rd (hl := fun _ => rfl) (h1 := fun _ => onesC rfl onesN) 0 rfl) (idx_lo e626) (idx_hi e626)) ?_
        refine ops_doesS rfl (guard_none rfl) rfl (does_setB rfl rfl rfl rfl tsz5 (idx_nat e626) HM) ?_
        rintro w627 HM
        refine ops_nil ?_
        refine at_block ?_
        refine at_then ?_
        refine run_region rfl ?_
        refine ops_ex rfl (guard_none rfl) rfl rfl (ex_move rfl rfl) ?_
        refine ops_ex rfl (guard_none rfl) rfl rfl (ex_add rfl rfl rfl) ?_
        refine ops_ex rfl (guard_none rfl) rfl rfl (ex_assign rfl rfl) ?_
        refine ops_nil ?_
        exact at_again k621 (ρ1 := [(1, .int .u8 x1), (2, .int .u8 x2), (7, v613), (8, .int .i64 (wrap64 (a616 + 1)))]) (Nat.lt_succ_self _) ⟨_, _, _, ho608, rfl, HM⟩ (Sub.cons rfl (Sub.cons rfl (Sub.cons rfl (Sub.cons rfl Sub.nil))))
      · replace ho608 := cond_f hb625 ho608
        refine run_skip ?_
        refine at_block ?_
        refine at_then ?_
        refine run_region rfl ?_
        refine ops_ex rfl (guard_none rfl) rfl rfl (ex_move rfl rfl) ?_
        refine ops_ex rfl (guard_none rfl) rfl rfl (ex_add rfl rfl rfl) ?_
        refine ops_ex rfl (guard_none rfl) rfl rfl (ex_assign rfl rfl) ?_
        refine ops_nil ?_
        exact at_again k621 (ρ1 := [(1, .int .u8 x1), (2, .int .u8 x2), (7, v613), (8, .int .i64 (wrap64 (a616 + 1)))]) (Nat.lt_succ_self _) ⟨_, _, _, ho608, rfl, HM⟩ (Sub.cons rfl (Sub.cons rfl (Sub.cons rfl (Sub.cons rfl Sub.nil))))
    · replace ho608 := cond_f hb623 ho608
      refine run_exit ?_
      refine at_then_exit ?_
      refine at_then_exit ?_
      refine at_block_exit ?_
      exact at_mid (ρ' := [(7, v613)]) ⟨_, _, (Option.some.inj ho608), rfl, HM⟩ (Sub.cons rfl Sub.nil)
  · rintro _ w628 ⟨v604, a605, rfl, rfl, HM⟩
    refine run_seq ?_
    refine run_region rfl ?_
    refine ops_ex rfl (guard_none rfl) rfl rfl (ex_move rfl rfl) ?_
    refine ops_ex rfl (guard_none rfl) rfl rfl (ex_bstr (e := 5) rfl rfl Tryz.underlying72 Tryz.underlying5 Tryz.underlying9 (HM.brow_rd (hl := fun _ => rfl) (h1 := fun _ => onesC rfl onesN) 0 rfl)) ?_
    refine ops_ex rfl (guard_none rfl) rfl rfl (ex_assign rfl rfl) ?_
    refine ops_nil ?_
    refine at_then ?_
    refine run_ret ?_
    replace HM := (HM.front 0 rfl rfl).drop
    have hR := Option.some.inj H
    subst hR
    exact at_ret1 rfl rfl ⟨_, rfl, rfl, HM⟩

def spec_l1In.f (k : Nat) (x0 : Int) (x1 : Int) (x2 : Int) : Option Bool := some ((decide (x1 ≤ x0)) && (decide (x0 ≤ x2)))
theorem spec_l1In.calls {k : Nat} {x0 : Int} {x1 : Int} {x2 : Int}  {w : World}  {r : Bool} (H : spec_l1In.f k x0 x1 x2 = some r) :
    Calls Tryz.prog 36 ([.int .i64 x0, .int .i64 x1, .int .i64 x2] : List Value).toArray w (fun e w_ => ∃ v, e = .returned v ∧ v = (.bool r) ∧ Mem w [] w_ []) := by
  have HM := Mem.start w
  refine calls_run (N := 15) Tryz.func36 rfl rfl rfl rfl ?_
  unfold spec_l1In.f at H
  refine run_seq ?_
  refine run_region rfl ?_
  refine ops_ex rfl (guard_none rfl) rfl rfl (ex_assign rfl rfl) ?_
  refine ops_nil ?_
  refine at_then ?_
  refine run_seq ?_
  refine run_meet (fun ρ_ w_ => ρ_ = [(6, .bool ((decide (x1 ≤ x0)) && (decide (x0 ≤ x2))))] ∧ Mem w [] w_ []) ?_ ?_
  · skip
    refine run_region rfl ?_
    refine ops_ex rfl (guard_none rfl) rfl rfl (ex_move rfl rfl) ?_
    refine ops_ex rfl (guard_none rfl) rfl rfl (ex_move rfl rfl) ?_
    refine ops_ex rfl (guard_none rfl) rfl rfl (ex_geq rfl rfl rfl) ?_
    refine ops_ex rfl (guard_none rfl) rfl rfl (ex_move rfl rfl) ?_
    refine bool_cases (decide (x1 ≤ x0)) (fun hg708 => ?_) (fun hg708 => ?_)
    · skip
      refine ops_ex rfl (guard_on rfl rfl rfl hg708) rfl rfl (ex_move rfl rfl) ?_
      refine ops_ex rfl (guard_on rfl rfl rfl hg708) rfl rfl (ex_move rfl rfl) ?_
      refine ops_ex rfl (guard_on rfl rfl rfl hg708) rfl rfl (ex_leq rfl rfl rfl) ?_
      refine ops_ex (v := .bool ((decide (x1 ≤ x0)) && (decide (x0 ≤ x2)))) rfl (guard_none rfl) rfl rfl (ex_pand_t rfl rfl hg708 rfl) ?_
      refine ops_ex rfl (guard_none rfl) rfl rfl (ex_assign rfl rfl) ?_
      refine ops_nil ?_
      exact at_meet [(6, .bool ((decide (x1 ≤ x0)) && (decide (x0 ≤ x2))))] ⟨rfl, HM⟩ (Sub.cons rfl Sub.nil)
    · skip
      refine ops_off rfl (guard_off rfl rfl rfl hg708) rfl rfl ?_
      refine ops_off rfl (guard_off rfl rfl rfl hg708) rfl rfl ?_
      refine ops_off rfl (guard_off rfl rfl rfl hg708) rfl rfl ?_
      have hg709 : ((decide (x1 ≤ x0)) && (decide (x0 ≤ x2))) = false := by simp only [hg708, Bool.and_true, Bool.true_and, Bool.and_false, Bool.false_and, Bool.or_true, Bool.true_or, Bool.or_false, Bool.false_or, Bool.not_true, Bool.not_false, Bool.not_not]
      refine ops_ex (v := .bool ((decide (x1 ≤ x0)) && (decide (x0 ≤ x2)))) rfl (guard_none rfl) rfl rfl (ex_pand_f rfl rfl hg708) ?_
      refine ops_ex rfl (guard_none rfl) rfl rfl (ex_assign rfl rfl) ?_
      refine ops_nil ?_
      exact at_meet [(6, .bool ((decide (x1 ≤ x0)) && (decide (x0 ≤ x2))))] ⟨rfl, HM⟩ (Sub.cons rfl Sub.nil)
  · rintro _ w710 ⟨rfl, HM⟩
    refine at_then ?_
    refine run_ret ?_
    have hR := Option.some.inj H
    subst hR
    exact at_ret1 rfl rfl ⟨_, rfl, rfl, HM⟩

def spec_l1Key.f (k : Nat) (x0 : Int) : Option Bool := ((spec_l1In.f k x0 1 999).bind fun t722 => some t722)
theorem spec_l1Key.calls {k : Nat} {x0 : Int}  {w : World}  {r : Bool} (H : spec_l1Key.f k x0 = some r) :
    Calls Tryz.prog 37 ([.int .i64 x0] : List Value).toArray w (fun e w_ => ∃ v, e = .returned v ∧ v = (.bool r) ∧ Mem w [] w_ []) := by
  have HM := Mem.start w
  refine calls_run (N := 5) Tryz.func37 rfl rfl rfl rfl ?_
  unfold spec_l1Key.f at H
  refine run_seq ?_
  refine run_region rfl ?_
  refine ops_ex rfl (guard_none rfl) rfl rfl (ex_assign rfl rfl) ?_
  refine ops_nil ?_
  refine at_then ?_
  refine run_seq ?_
  obtain ⟨t722, h723, H⟩ := bind_some H
  refine run_region rfl ?_
  refine ops_ex rfl (guard_none rfl) rfl rfl (ex_move rfl rfl) ?_
  refine ops_does rfl (guard_none rfl) rfl rfl (does_callk rfl callok36 rfl (spec_l1In.calls (x0 := x0) (x1 := 1) (x2 := 999) h723)) ?_
  rintro _ w724 ⟨rfl, hn⟩
  replace HM : Mem w [] w724 [] := HM.call hn
  refine ops_ex rfl (guard_none rfl) rfl rfl (ex_assign rfl rfl) ?_
  refine ops_nil ?_
  refine at_then ?_
  refine run_ret ?_
  have hR := Option.some.inj H
  subst hR
  exact at_ret1 rfl rfl ⟨_, rfl, rfl, HM⟩

def spec_l2Height.f (k : Nat) (x0 : Int) : Option Bool := ((spec_l1In.f k x0 0 999).bind fun t747 => some t747)
theorem spec_l2Height.calls {k : Nat} {x0 : Int}  {w : World}  {r : Bool} (H : spec_l2Height.f k x0 = some r) :
    Calls Tryz.prog 60 ([.int .i64 x0] : List Value).toArray w (fun e w_ => ∃ v, e = .returned v ∧ v = (.bool r) ∧ Mem w [] w_ []) := by
  have HM := Mem.start w
  refine calls_run (N := 5) Tryz.func60 rfl rfl rfl rfl ?_
  unfold spec_l2Height.f at H
  refine run_seq ?_
  refine run_region rfl ?_
  refine ops_ex rfl (guard_none rfl) rfl rfl (ex_assign rfl rfl) ?_
  refine ops_nil ?_
  refine at_then ?_
  refine run_seq ?_
  obtain ⟨t747, h748, H⟩ := bind_some H
  refine run_region rfl ?_
  refine ops_ex rfl (guard_none rfl) rfl rfl (ex_move rfl rfl) ?_
  refine ops_does rfl (guard_none rfl) rfl rfl (does_callk rfl callok36 rfl (spec_l1In.calls (x0 := x0) (x1 := 0) (x2 := 999) h748)) ?_
  rintro _ w749 ⟨rfl, hn⟩
  replace HM : Mem w [] w749 [] := HM.call hn
  refine ops_ex rfl (guard_none rfl) rfl rfl (ex_assign rfl rfl) ?_
  refine ops_nil ?_
  refine at_then ?_
  refine run_ret ?_
  have hR := Option.some.inj H
  subst hR
  exact at_ret1 rfl rfl ⟨_, rfl, rfl, HM⟩

def spec_l2Fault.l0 (x0 : Rule) : Nat → Int → Option (Int ⊕ Unit)
  | 0, _ => none
  | k + 1, a813 => (bif (decide (a813 < (x0.fKeys.length : Int))) then (chk (idxOk a813 x0.fKeys.length) ((spec_l1Key.f k (gt x0.fKeys a813)).bind fun t825 => (bif !t825 then some (.inl 3) else spec_l2Fault.l0 x0 k (wrap64 (a813 + 1))))) else some (.inr ()))
theorem spec_l2Fault.l0_z (x0 : Rule) (a813 : Int) : spec_l2Fault.l0 x0 0 a813 = none := rfl
theorem spec_l2Fault.l0_s (x0 : Rule) (k : Nat) (a813 : Int) : spec_l2Fault.l0 x0 (k + 1) a813 = (bif (decide (a813 < (x0.fKeys.length : Int))) then (chk (idxOk a813 x0.fKeys.length) ((spec_l1Key.f k (gt x0.fKeys a813)).bind fun t825 => (bif !t825 then some (.inl 3) else spec_l2Fault.l0 x0 k (wrap64 (a813 + 1))))) else some (.inr ())) := rfl
def spec_l2Fault.l1 (x0 : Rule) : Nat → Int → Option (Int ⊕ Unit)
  | 0, _ => none
  | k + 1, a872 => (bif (decide (a872 < (x0.fKeys.length : Int))) then (chk (idxOk a872 x0.fKeys.length) (chk (idxOk (wrap64 (a872 - 1)) x0.fKeys.length) (bif (decide ((gt x0.fKeys a872) ≤ (gt x0.fKeys (wrap64 (a872 - 1))))) then some (.inl 1) else spec_l2Fault.l1 x0 k (wrap64 (a872 + 1))))) else some (.inr ()))
theorem spec_l2Fault.l1_z (x0 : Rule) (a872 : Int) : spec_l2Fault.l1 x0 0 a872 = none := rfl
theorem spec_l2Fault.l1_s (x0 : Rule) (k : Nat) (a872 : Int) : spec_l2Fault.l1 x0 (k + 1) a872 = (bif (decide (a872 < (x0.fKeys.length : Int))) then (chk (idxOk a872 x0.fKeys.length) (chk (idxOk (wrap64 (a872 - 1)) x0.fKeys.length) (bif (decide ((gt x0.fKeys a872) ≤ (gt x0.fKeys (wrap64 (a872 - 1))))) then some (.inl 1) else spec_l2Fault.l1 x0 k (wrap64 (a872 + 1))))) else some (.inr ())) := rfl
def spec_l2Fault.f (k : Nat) (x0 : Rule) : Option Int := ((spec_l1In.f k (x0.fKeys.length : Int) 1 3).bind fun t782 => (bif !t782 then some 2 else ((spec_l2Fault.l0 x0 k 0).bind fun o805 => thn o805 (fun r => some r) (fun _ => ((spec_l1In.f k x0.fNeed 1 (x0.fKeys.length : Int)).bind fun t835 => ((bif (!(!t835)) then spec_l2Height.f k x0.fAfter else some default).bind fun t837 => (bif ((!t835) || (!t837)) then some 3 else ((spec_l2Fault.l1 x0 k 1).bind fun o864 => thn o864 (fun r => some r) (fun _ => some 0)))))))))
theorem spec_l2Fault.calls {k : Nat} {x0 : Rule} {b0 f0 : Nat} {p0_0 : Value} {w : World} (hc0 : CellsAt w b0 f0 [p0_0, .int .i64 x0.fNeed, .int .i64 x0.fAfter]) (hp0_0 : RdS kInt w p0_0 x0.fKeys) {r : Int} (H : spec_l2Fault.f k x0 = some r) :
    Calls Tryz.prog 35 ([.pointer (some ⟨b0, f0, none⟩)] : List Value).toArray w (fun e w_ => ∃ v, e = .returned v ∧ v = (.int .i64 r) ∧ Mem w [] w_ []) := by
  have HM := Mem.start w
  refine calls_run (N := 72) Tryz.func35 rfl rfl rfl rfl ?_
  unfold spec_l2Fault.f at H
  refine run_seq ?_
  refine run_region rfl ?_
  refine ops_ex rfl (guard_none rfl) rfl rfl (ex_assign rfl rfl) ?_
  refine ops_nil ?_
  refine at_then ?_
  refine run_seq ?_
  refine run_region rfl ?_
  refine ops_ex rfl (guard_none rfl) rfl rfl (ex_move rfl rfl) ?_
  refine ops_ex rfl (guard_none rfl) rfl rfl (ex_nilCheck rfl rfl) ?_
  refine ops_ex rfl (guard_none rfl) rfl rfl (ex_fieldAddr (off' := f0) rfl rfl Tryz.underlying44 rfl tsz42 rfl) ?_
  refine ops_ex rfl (guard_none rfl) rfl rfl (ex_load1 rfl rfl Tryz.underlying42 rfl ((HM.at_ hc0) 0 _ rfl)) ?_
  refine ops_ex rfl (guard_none rfl) rfl rfl (ex_len (d := kInt) (xs := x0.fKeys) rfl rfl Tryz.underlying42 hp0_0) ?_
  refine ops_ex rfl (guard_none rfl) rfl rfl (ex_assign rfl rfl) ?_
  refine ops_nil ?_
  refine at_then ?_
  refine run_seq ?_
  refine run_seq ?_
  obtain ⟨t782, h783, H⟩ := bind_some H
  refine run_region rfl ?_
  refine ops_ex rfl (guard_none rfl) rfl rfl (ex_move rfl rfl) ?_
  refine ops_does rfl (guard_none rfl) rfl rfl (does_callk rfl callok36 rfl (spec_l1In.calls (x0 := (x0.fKeys.length : Int)) (x1 := 1) (x2 := 3) h783)) ?_
  rintro _ w784 ⟨rfl, hn⟩
  replace HM : Mem w [] w784 [] := HM.call hn
  refine ops_ex rfl (guard_none rfl) rfl rfl (ex_not rfl rfl) ?_
  refine ops_nil ?_
  refine at_then ?_
  refine run_cond (b := !t782) rfl (fun hb785 => ?_) (fun hb785 => ?_)
  · replace H := cond_t hb785 H
    refine run_seq ?_
    refine run_region rfl ?_
    refine ops_ex rfl (guard_none rfl) rfl rfl (ex_assign rfl rfl) ?_
    refine ops_nil ?_
    refine at_then ?_
    refine run_ret ?_
    refine at_then_ret ?_
    have hR := Option.some.inj H
    subst hR
    exact at_ret1 rfl rfl ⟨_, rfl, rfl, HM⟩
  · replace H := cond_f hb785 H
    refine run_skip ?_
    refine at_then ?_
    obtain ⟨o805, ho806, H⟩ := bind_some H
    refine run_mid (fun ρ_ w_ => Sum.inr () = o805 ∧ ρ_ = [(0, .pointer (some ⟨b0, f0, none⟩)), (3, .int .i64 (x0.fKeys.length : Int))] ∧ Mem w [] w_ []) ?_ ?_
    · skip
      refine run_seq ?_
      refine run_region rfl ?_
      refine ops_ex rfl (guard_none rfl) rfl rfl (ex_assign rfl rfl) ?_
      refine ops_nil ?_
      refine at_then ?_
      refine run_block ?_
      refine run_loop (fun k_ ρ_ w_ => ∃ a813 : Int, spec_l2Fault.l0 x0 k_ a813 = some o805 ∧ ρ_ = [(0, .pointer (some ⟨b0, f0, none⟩)), (3, .int .i64 (x0.fKeys.length : Int)), (4, .int .i64 a813)] ∧ Mem w [] w_ []) k (ρ1 := [(0, .pointer (some ⟨b0, f0, none⟩)), (3, .int .i64 (x0.fKeys.length : Int)), (4, .int .i64 0)]) ⟨_, ho806, rfl, HM⟩ (Sub.cons rfl (Sub.cons rfl (Sub.cons rfl Sub.nil))) ?_
      clear HM ho806
      rintro k820 _ w821 ⟨a813, ho806, rfl, HM⟩
      obtain _ | k820 := k820
      · exact nomatch ((spec_l2Fault.l0_z x0 a813).symm.trans ho806)
      replace ho806 := (spec_l2Fault.l0_s x0 k820 a813).symm.trans ho806
      refine run_seq ?_
      refine run_seq ?_
      refine run_region rfl ?_
      refine ops_ex rfl (guard_none rfl) rfl rfl (ex_move rfl rfl) ?_
      refine ops_ex rfl (guard_none rfl) rfl rfl (ex_move rfl rfl) ?_
      refine ops_ex rfl (guard_none rfl) rfl rfl (ex_nilCheck rfl rfl) ?_
      refine ops_ex rfl (guard_none rfl) rfl rfl (ex_fieldAddr (off' := f0) rfl rfl Tryz.underlying44 rfl tsz42 rfl) ?_
      refine ops_ex rfl (guard_none rfl) rfl rfl (ex_load1 rfl rfl Tryz.underlying42 rfl ((HM.at_ hc0) 0 _ rfl)) ?_
      refine ops_ex rfl (guard_none rfl) rfl rfl (ex_len (d := kInt) (xs := x0.fKeys) rfl rfl Tryz.underlying42 hp0_0) ?_
      refine ops_ex rfl (guard_none rfl) rfl rfl (ex_lss rfl rfl rfl) ?_
      refine ops_nil ?_
      refine at_then ?_
      refine run_cond (b := (decide (a813 < (x0.fKeys.length : Int)))) rfl (fun hb822 => ?_) (fun hb822 => ?_)
      · replace ho806 := cond_t hb822 ho806
        refine run_skip ?_
        refine at_then ?_
        refine run_seq ?_
        refine run_block ?_
        refine run_seq ?_
        obtain ⟨e823, ho806⟩ := chk_some ho806
        obtain ⟨t825, h826, ho806⟩ := bind_some ho806
        refine run_region rfl ?_
        refine ops_ex rfl (guard_none rfl) rfl rfl (ex_move rfl rfl) ?_
        refine ops_ex rfl (guard_none rfl) rfl rfl (ex_nilCheck rfl rfl) ?_
        refine ops_ex rfl (guard_none rfl) rfl rfl (ex_fieldAddr (off' := f0) rfl rfl Tryz.underlying44 rfl tsz42 rfl) ?_
        refine ops_ex rfl (guard_none rfl) rfl rfl (ex_load1 rfl rfl Tryz.underlying42 rfl ((HM.at_ hc0) 0 _ rfl)) ?_
        refine ops_ex rfl (guard_none rfl) rfl rfl (ex_move rfl rfl) ?_
        have hc824 : CellsAt _ (sb p0_0) (so p0_0 + (a813).toNat * 1) [(.int .i64 (gt x0.fKeys a813))] := rd_plain hp0_0 e823
        refine ops_ex rfl (guard_none rfl) rfl rfl (ex_indexAddr (d := kInt) rfl rfl rfl Tryz.underlying42 tsz2 hp0_0 (idx_lo e823) (idx_hi e823)) ?_
        refine ops_ex rfl (guard_none rfl) rfl rfl (ex_load1 rfl rfl Tryz.underlying2 rfl ((HM.at_ hc824) 0 _ rfl)) ?_
        refine ops_does rfl (guard_none rfl) rfl rfl (does_callk rfl callok37 rfl (spec_l1Key.calls (x0 := (gt x0.fKeys a813)) h826)) ?_
        rintro _ w827 ⟨rfl, hn⟩
        replace HM : Mem w [] w827 [] := HM.call hn
        refine ops_ex rfl (guard_none rfl) rfl rfl (ex_not rfl rfl) ?_
        refine ops_nil ?_
        refine at_then ?_
        refine run_cond (b := !t825) rfl (fun hb828 => ?_) (fun hb828 => ?_)
        · replace ho806 := cond_t hb828 ho806
          refine run_seq ?_
          refine run_region rfl ?_
          refine ops_ex rfl (guard_none rfl) rfl rfl (ex_assign rfl rfl) ?_
          refine ops_nil ?_
          refine at_then ?_
          refine run_ret ?_
          refine at_block_ret ?_
          refine at_then_ret ?_
          refine at_then_ret ?_
          refine at_block_ret ?_
          refine at_then_ret ?_
          have hR := Option.some.inj ho806
          subst hR
          have hT := thn_inl H
          have hR := Option.some.inj hT
          subst hR
          exact at_ret1 rfl rfl ⟨_, rfl, rfl, HM⟩
        · replace ho806 := cond_f hb828 ho806
          refine run_skip ?_
          refine at_block ?_
          refine at_then ?_
          refine run_region rfl ?_
          refine ops_ex rfl (guard_none rfl) rfl rfl (ex_move rfl rfl) ?_
          refine ops_ex rfl (guard_none rfl) rfl rfl (ex_add rfl rfl rfl) ?_
          refine ops_ex rfl (guard_none rfl) rfl rfl (ex_assign rfl rfl) ?_
          refine ops_nil ?_
          exact at_again k820 (ρ1 := [(0, .pointer (some ⟨b0, f0, none⟩)), (3, .int .i64 (x0.fKeys.length : Int)), (4, .int .i64 (wrap64 (a813 + 1)))]) (Nat.lt_succ_self _) ⟨_, ho806, rfl, HM⟩ (Sub.cons rfl (Sub.cons rfl (Sub.cons rfl Sub.nil)))
      · replace ho806 := cond_f hb822 ho806
        refine run_exit ?_
        refine at_then_exit ?_
        refine at_then_exit ?_
        refine at_block_exit ?_
        exact at_mid (ρ' := [(0, .pointer (some ⟨b0, f0, none⟩)), (3, .int .i64 (x0.fKeys.length : Int))]) ⟨(Option.some.inj ho806), rfl, HM⟩ (Sub.cons rfl (Sub.cons rfl Sub.nil))
    · rintro _ w829 ⟨rfl, rfl, HM⟩
      replace H := (thn_inr H)
      refine run_seq ?_
      refine run_seq ?_
      obtain ⟨t835, h836, H⟩ := bind_some H
      obtain ⟨t837, h838, H⟩ := bind_some H
      refine run_meet (fun ρ_ w_ => ρ_ = [(0, .pointer (some ⟨b0, f0, none⟩)), (46, .bool ((!t835) || (!t837)))] ∧ Mem w [] w_ []) ?_ ?_
      · skip
        refine run_region rfl ?_
        refine ops_ex rfl (guard_none rfl) rfl rfl (ex_move rfl rfl) ?_
        refine ops_ex rfl (guard_none rfl) rfl rfl (ex_nilCheck rfl rfl) ?_
        refine ops_ex rfl (guard_none rfl) rfl rfl (ex_fieldAddr (off' := f0 + 1) rfl rfl Tryz.underlying44 rfl tsz2 rfl) ?_
        refine ops_ex rfl (guard_none rfl) rfl rfl (ex_load1 rfl rfl Tryz.underlying2 rfl ((HM.at_ hc0) 1 _ rfl)) ?_
        refine ops_ex rfl (guard_none rfl) rfl rfl (ex_move rfl rfl) ?_
        refine ops_does rfl (guard_none rfl) rfl rfl (does_callk rfl callok36 rfl (spec_l1In.calls (x0 := x0.fNeed) (x1 := 1) (x2 := (x0.fKeys.length : Int)) h836)) ?_
        rintro _ w839 ⟨rfl, hn⟩
        replace HM : Mem w [] w839 [] := HM.call hn
        refine ops_ex rfl (guard_none rfl) rfl rfl (ex_not rfl rfl) ?_
        refine ops_ex rfl (guard_none rfl) rfl rfl (ex_move rfl rfl) ?_
        refine bool_cases (!t835) (fun hg840 => ?_) (fun hg840 => ?_)
        · skip
          refine ops_off rfl (guard_off rfl rfl rfl hg840) rfl rfl ?_
          refine ops_off rfl (guard_off rfl rfl rfl hg840) rfl rfl ?_
          refine ops_off rfl (guard_off rfl rfl rfl hg840) rfl rfl ?_
          refine ops_off rfl (guard_off rfl rfl rfl hg840) rfl rfl ?_
          refine ops_off rfl (guard_off rfl rfl rfl hg840) rfl rfl ?_
          refine ops_off rfl (guard_off rfl rfl rfl hg840) rfl rfl ?_
          have hg841 : ((!t835) || (!t837)) = true := by simp only [hg840, Bool.and_true, Bool.true_and, Bool.and_false, Bool.false_and, Bool.or_true, Bool.true_or, Bool.or_false, Bool.false_or, Bool.not_true, Bool.not_false, Bool.not_not]
          refine ops_ex (v := .bool ((!t835) || (!t837))) rfl (guard_none rfl) rfl rfl (ex_por_t rfl rfl hg840) ?_
          refine ops_nil ?_
          exact at_meet [(0, .pointer (some ⟨b0, f0, none⟩)), (46, .bool ((!t835) || (!t837)))] ⟨rfl, HM⟩ (Sub.cons rfl (Sub.cons rfl Sub.nil))
        · skip
          refine ops_ex rfl (guard_on rfl rfl rfl hg840) rfl rfl (ex_move rfl rfl) ?_
          refine ops_ex rfl (guard_on rfl rfl rfl hg840) rfl rfl (ex_nilCheck rfl rfl) ?_
          refine ops_ex rfl (guard_on rfl rfl rfl hg840) rfl rfl (ex_fieldAddr (off' := f0 + 2) rfl rfl Tryz.underlying44 rfl tsz2 rfl) ?_
          refine ops_ex rfl (guard_on rfl rfl rfl hg840) rfl rfl (ex_load1 rfl rfl Tryz.underlying2 rfl ((HM.at_ hc0) 2 _ rfl)) ?_
          refine ops_does rfl (guard_on rfl rfl rfl hg840) rfl rfl (does_callk rfl callok60 rfl (spec_l2Height.calls (x0 := x0.fAfter) (cond_t (not_mk hg840) h838))) ?_
          rintro _ w842 ⟨rfl, hn⟩
          replace HM : Mem w [] w842 [] := HM.call hn
          refine ops_ex rfl (guard_on rfl rfl rfl hg840) rfl rfl (ex_not rfl rfl) ?_
          refine ops_ex (v := .bool ((!t835) || (!t837))) rfl (guard_none rfl) rfl rfl (ex_por_f rfl rfl hg840 rfl) ?_
          refine ops_nil ?_
          exact at_meet [(0, .pointer (some ⟨b0, f0, none⟩)), (46, .bool ((!t835) || (!t837)))] ⟨rfl, HM⟩ (Sub.cons rfl (Sub.cons rfl Sub.nil))
      · rintro _ w843 ⟨rfl, HM⟩
        refine at_then ?_
        refine run_cond (b := ((!t835) || (!t837))) rfl (fun hb844 => ?_) (fun hb844 => ?_)
        · replace H := cond_t hb844 H
          refine run_seq ?_
          refine run_region rfl ?_
          refine ops_ex rfl (guard_none rfl) rfl rfl (ex_assign rfl rfl) ?_
          refine ops_nil ?_
          refine at_then ?_
          refine run_ret ?_
          refine at_then_ret ?_
          have hR := Option.some.inj H
          subst hR
          exact at_ret1 rfl rfl ⟨_, rfl, rfl, HM⟩
        · replace H := cond_f hb844 H
          refine run_skip ?_
          refine at_then ?_
          obtain ⟨o864, ho865, H⟩ := bind_some H
          refine run_mid (fun ρ_ w_ => Sum.inr () = o864 ∧ ρ_ = [] ∧ Mem w [] w_ []) ?_ ?_
          · skip
            refine run_seq ?_
            refine run_region rfl ?_
            refine ops_ex rfl (guard_none rfl) rfl rfl (ex_assign rfl rfl) ?_
            refine ops_nil ?_
            refine at_then ?_
            refine run_block ?_
            refine run_loop (fun k_ ρ_ w_ => ∃ a872 : Int, spec_l2Fault.l1 x0 k_ a872 = some o864 ∧ ρ_ = [(0, .pointer (some ⟨b0, f0, none⟩)), (5, .int .i64 a872)] ∧ Mem w [] w_ []) k (ρ1 := [(0, .pointer (some ⟨b0, f0, none⟩)), (5, .int .i64 1)]) ⟨_, ho865, rfl, HM⟩ (Sub.cons rfl (Sub.cons rfl Sub.nil)) ?_
            clear HM ho865
            rintro k879 _ w880 ⟨a872, ho865, rfl, HM⟩
            obtain _ | k879 := k879
            · exact nomatch ((spec_l2Fault.l1_z x0 a872).symm.trans ho865)
            replace ho865 := (spec_l2Fault.l1_s x0 k879 a872).symm.trans ho865
            refine run_seq ?_
            refine run_seq ?_
            refine run_region rfl ?_
            refine ops_ex rfl (guard_none rfl) rfl rfl (ex_move rfl rfl) ?_
            refine ops_ex rfl (guard_none rfl) rfl rfl (ex_move rfl rfl) ?_
            refine ops_ex rfl (guard_none rfl) rfl rfl (ex_nilCheck rfl rfl) ?_
            refine ops_ex rfl (guard_none rfl) rfl rfl (ex_fieldAddr (off' := f0) rfl rfl Tryz.underlying44 rfl tsz42 rfl) ?_
            refine ops_ex rfl (guard_none rfl) rfl rfl (ex_load1 rfl rfl Tryz.underlying42 rfl ((HM.at_ hc0) 0 _ rfl)) ?_
            refine ops_ex rfl (guard_none rfl) rfl rfl (ex_len (d := kInt) (xs := x0.fKeys) rfl rfl Tryz.underlying42 hp0_0) ?_
            refine ops_ex rfl (guard_none rfl) rfl rfl (ex_lss rfl rfl rfl) ?_
            refine ops_nil ?_
            refine at_then ?_
            refine run_cond (b := (decide (a872 < (x0.fKeys.length : Int)))) rfl (fun hb881 => ?_) (fun hb881 => ?_)
            · replace ho865 := cond_t hb881 ho865
              refine run_skip ?_
              refine at_then ?_
              refine run_seq ?_
              refine run_block ?_
              refine run_seq ?_
              obtain ⟨e882, ho865⟩ := chk_some ho865
              obtain ⟨e884, ho865⟩ := chk_some ho865
              refine run_drawf (fun w_ => Mem w [] w_ []) [(0, true), (1, true), (2, true), (3, true), (4, true), (5, true), (6, true), (7, true), (8, true), (9, true), (10, true), (11, true), (12, true), (13, true), (14, true), (15, true)] mixed rfl rfl (by kernel_rfl) ?_
              replace HM := HM.grow (fr_drew _)
              have hS := Mem.suf (M := []) HM
              refine drwp_take rfl (guard_none rfl) rfl rfl (fun w_ hS_ => (ex_move rfl rfl)) hS ?_
              refine drwp_take rfl (guard_none rfl) rfl rfl (fun w_ hS_ => (ex_nilCheck rfl rfl)) hS ?_
              refine drwp_take rfl (guard_none rfl) rfl rfl (fun w_ hS_ => (ex_fieldAddr (off' := f0) rfl rfl Tryz.underlying44 rfl tsz42 rfl)) hS ?_
              refine drwp_take rfl (guard_none rfl) rfl rfl (fun w_ hS_ => (ex_load1 rfl rfl Tryz.underlying42 rfl ((hS_.at_ hc0) 0 _ rfl))) hS ?_
              refine drwp_take rfl (guard_none rfl) rfl rfl (fun w_ hS_ => (ex_move rfl rfl)) hS ?_
              have hc883 : CellsAt _ (sb p0_0) (so p0_0 + (a872).toNat * 1) [(.int .i64 (gt x0.fKeys a872))] := rd_plain hp0_0 e882
              refine drwp_take rfl (guard_none rfl) rfl rfl (fun w_ hS_ => (ex_indexAddr (d := kInt) rfl rfl rfl Tryz.underlying42 tsz2 hp0_0 (idx_lo e882) (idx_hi e882))) hS ?_
              refine drwp_take rfl (guard_none rfl) rfl rfl (fun w_ hS_ => (ex_load1 rfl rfl Tryz.underlying2 rfl ((hS_.at_ hc883) 0 _ rfl))) hS ?_
              refine drwp_take rfl (guard_none rfl) rfl rfl (fun w_ hS_ => (ex_move rfl rfl)) hS ?_
              refine drwp_take rfl (guard_none rfl) rfl rfl (fun w_ hS_ => (ex_nilCheck rfl rfl)) hS ?_
              refine drwp_take rfl (guard_none rfl) rfl rfl (fun w_ hS_ => (ex_fieldAddr (off' := f0) rfl rfl Tryz.underlying44 rfl tsz42 rfl)) hS ?_
              refine drwp_take rfl (guard_none rfl) rfl rfl (fun w_ hS_ => (ex_load1 rfl rfl Tryz.underlying42 rfl ((hS_.at_ hc0) 0 _ rfl))) hS ?_
              refine drwp_take rfl (guard_none rfl) rfl rfl (fun w_ hS_ => (ex_move rfl rfl)) hS ?_
              refine drwp_take rfl (guard_none rfl) rfl rfl (fun w_ hS_ => (ex_sub rfl rfl rfl)) hS ?_
              have hc885 : CellsAt _ (sb p0_0) (so p0_0 + (wrap64 (a872 - 1)).toNat * 1) [(.int .i64 (gt x0.fKeys (wrap64 (a872 - 1))))] := rd_plain hp0_0 e884
              refine drwp_take rfl (guard_none rfl) rfl rfl (fun w_ hS_ => (ex_indexAddr (d := kInt) rfl rfl rfl Tryz.underlying42 tsz2 hp0_0 (idx_lo e884) (idx_hi e884))) hS ?_
              refine drwp_take rfl (guard_none rfl) rfl rfl (fun w_ hS_ => (ex_load1 rfl rfl Tryz.underlying2 rfl ((hS_.at_ hc885) 0 _ rfl))) hS ?_
              refine drwp_take rfl (guard_none rfl) rfl rfl (fun w_ hS_ => (ex_leq rfl rfl rfl)) hS ?_
              refine drwp_done ?_
              refine at_then ?_
              refine run_cond (b := (decide ((gt x0.fKeys a872) ≤ (gt x0.fKeys (wrap64 (a872 - 1)))))) rfl (fun hb886 => ?_) (fun hb886 => ?_)
              · replace ho865 := cond_t hb886 ho865
                refine run_seq ?_
                refine run_region rfl ?_
                refine ops_ex rfl (guard_none rfl) rfl rfl (ex_assign rfl rfl) ?_
                refine ops_nil ?_
                refine at_then ?_
                refine run_ret ?_
                refine at_block_ret ?_
                refine at_then_ret ?_
                refine at_then_ret ?_
                refine at_block_ret ?_
                refine at_then_ret ?_
                have hR := Option.some.inj ho865
                subst hR
                have hT := thn_inl H
                have hR := Option.some.inj hT
                subst hR
                exact at_ret1 rfl rfl ⟨_, rfl, rfl, HM⟩
              · replace ho865 := cond_f hb886 ho865
                refine run_skip ?_
                refine at_block ?_
                refine at_then ?_
                refine run_region rfl ?_
                refine ops_ex rfl (guard_none rfl) rfl rfl (ex_move rfl rfl) ?_
                refine ops_ex rfl (guard_none rfl) rfl rfl (ex_add rfl rfl rfl) ?_
                refine ops_ex rfl (guard_none rfl) rfl rfl (ex_assign rfl rfl) ?_
                refine ops_nil ?_
                exact at_again k879 (ρ1 := [(0, .pointer (some ⟨b0, f0, none⟩)), (5, .int .i64 (wrap64 (a872 + 1)))]) (Nat.lt_succ_self _) ⟨_, ho865, rfl, HM⟩ (Sub.cons rfl (Sub.cons rfl Sub.nil))
            · replace ho865 := cond_f hb881 ho865
              refine run_exit ?_
              refine at_then_exit ?_
              refine at_then_exit ?_
              refine at_block_exit ?_
              exact at_mid (ρ' := []) ⟨(Option.some.inj ho865), rfl, HM⟩ Sub.nil
          · rintro _ w887 ⟨rfl, rfl, HM⟩
            replace H := (thn_inr H)
            refine run_seq ?_
            refine run_region rfl ?_
            refine ops_ex rfl (guard_none rfl) rfl rfl (ex_assign rfl rfl) ?_
            refine ops_nil ?_
            refine at_then ?_
            refine run_ret ?_
            have hR := Option.some.inj H
            subst hR
            exact at_ret1 rfl rfl ⟨_, rfl, rfl, HM⟩
end Go.Proofs.YtcpacdbdehphkaaGreatDoor.Zk
