/- What functions of the program compute, each as a plain function, and that they do. Conditions: as each theorem states them. -/
import Derived.Test.YtbbcabpnkdilgaaPutCoinsZkF5
namespace Go.Proofs.Ytbbcabpnkdilgaa.Zk
open Go Go.RowKit Go.IntWalk Go.Proofs
set_option linter.unusedVariables false
set_option linter.unusedSimpArgs false
set_option maxRecDepth 100000
set_option maxHeartbeats 4000000
def laws_markInt64S.l0  : Nat → (List Int) → Int → Int → Option ((List Int) × Int)
  | 0, _, _, _ => none
  | k + 1, a4443, a4445, a4446 => (bif (decide (a4446 < (a4443.length : Int))) then (chk (idxOk a4446 a4443.length) (laws_markInt64S.l0 k (a4443.set (a4446).toNat a4445) (wrap64 (a4445 + 1)) (wrap64 (a4446 + 1)))) else some (a4443, a4445))
theorem laws_markInt64S.l0_z  (a4443 : List Int) (a4445 : Int) (a4446 : Int) : laws_markInt64S.l0 0 a4443 a4445 a4446 = none := rfl
theorem laws_markInt64S.l0_s  (k : Nat) (a4443 : List Int) (a4445 : Int) (a4446 : Int) : laws_markInt64S.l0 (k + 1) a4443 a4445 a4446 = (bif (decide (a4446 < (a4443.length : Int))) then (chk (idxOk a4446 a4443.length) (laws_markInt64S.l0 k (a4443.set (a4446).toNat a4445) (wrap64 (a4445 + 1)) (wrap64 (a4446 + 1)))) else some (a4443, a4445)) := rfl
def laws_markInt64S.f (k : Nat) (x0 : List Int) (x1 : Int) : Option (Int × (List Int)) := ((laws_markInt64S.l0 k x0 x1 0).bind (cur2 (fun a4436 a4438 => some (a4438, a4436))))
theorem laws_markInt64S.calls {k : Nat} {x0 : List Int} {x1 : Int} {p0 : Value} {w wo : World} {X : List Nat} (hwo : Olds wo w X) (hX : Hold w [own kInt 2 p0 x0] X) (hXn : X.Nodup) (hXl : ∀ b ∈ X, b < w.heap.size)  {r : Int × (List Int)} (H : laws_markInt64S.f k x0 x1 = some r) :
    Calls Try.prog 101 ([p0, .int .i64 x1] : List Value).toArray w (fun e w_ => ∃ v, e = .returned v ∧ v = (.int .i64 r.1) ∧ Mem w X w_ [own kInt 2 p0 r.2]) := by
  have HM := Mem.startX hX hXn hXl
  refine calls_run (N := 19) Try.func101 rfl rfl rfl rfl ?_
  unfold laws_markInt64S.f at H
  refine run_seq ?_
  refine run_region rfl ?_
  refine ops_ex rfl (guard_none rfl) rfl rfl (ex_assign rfl rfl) ?_
  refine ops_nil ?_
  refine at_then ?_
  obtain ⟨o4439, ho4440, H⟩ := bind_some H
  refine run_mid (fun ρ_ w_ => ∃ a4436 : List Int, ∃ a4438 : Int, (a4436, a4438) = o4439 ∧ ρ_ = [(1, .int .i64 a4438)] ∧ Mem w X w_ [own kInt 2 p0 a4436]) ?_ ?_
  · clear H
    refine run_seq ?_
    refine run_region rfl ?_
    refine ops_ex rfl (guard_none rfl) rfl rfl (ex_assign rfl rfl) ?_
    refine ops_nil ?_
    refine at_then ?_
    refine run_block ?_
    refine run_loop (fun k_ ρ_ w_ => ∃ a4443 : List Int, ∃ a4445 : Int, ∃ a4446 : Int, laws_markInt64S.l0 k_ a4443 a4445 a4446 = some o4439 ∧ ρ_ = [(0, p0), (1, .int .i64 a4445), (5, .int .i64 a4446)] ∧ Mem w X w_ [own kInt 2 p0 a4443]) k (ρ1 := [(0, p0), (1, .int .i64 x1), (5, .int .i64 0)]) ⟨_, _, _, ho4440, rfl, HM⟩ (Sub.cons rfl (Sub.cons rfl (Sub.cons rfl Sub.nil))) ?_
    clear HM ho4440
    rintro k4449 _ w4450 ⟨a4443, a4445, a4446, ho4440, rfl, HM⟩
    obtain _ | k4449 := k4449
    · exact nomatch ((laws_markInt64S.l0_z a4443 a4445 a4446).symm.trans ho4440)
    replace ho4440 := (laws_markInt64S.l0_s k4449 a4443 a4445 a4446).symm.trans ho4440
    refine run_seq ?_
    refine run_seq ?_
    refine run_region rfl ?_
    refine ops_ex rfl (guard_none rfl) rfl rfl (ex_move rfl rfl) ?_
    refine ops_ex rfl (guard_none rfl) rfl rfl (ex_move rfl rfl) ?_
    refine ops_ex rfl (guard_none rfl) rfl rfl (ex_len (d := kInt) (xs := a4443) rfl rfl Try.underlying39 (HM.own_rd 0 rfl)) ?_
    refine ops_ex rfl (guard_none rfl) rfl rfl (ex_lss rfl rfl rfl) ?_
    refine ops_nil ?_
    refine at_then ?_
    refine run_cond (b := (decide (a4446 < (a4443.length : Int)))) rfl (fun hb4451 => ?_) (fun hb4451 => ?_)
    · replace ho4440 := cond_t hb4451 ho4440
      refine run_skip ?_
      refine at_then ?_
      refine run_seq ?_
      refine run_block ?_
      refine run_seq ?_
      obtain ⟨e4452, ho4440⟩ := chk_some ho4440
      refine run_region rfl ?_
      refine ops_ex rfl (guard_none rfl) rfl rfl (ex_move rfl rfl) ?_
      refine ops_ex rfl (guard_none rfl) rfl rfl (ex_move rfl rfl) ?_
      refine ops_ex rfl (guard_none rfl) rfl rfl (ex_move rfl rfl) ?_
      refine ops_ex rfl (guard_none rfl) rfl rfl (ex_indexAddr (d := kInt) rfl rfl rfl Try.underlying39 tsz2 (HM.own_rd 0 rfl) (idx_lo e4452) (idx_hi e4452)) ?_
      refine ops_doesS rfl (guard_none rfl) rfl (does_setElem (vs := [(.int .i64 a4445)]) (y := a4445) kInt rfl rfl rfl rfl rfl tsz2 rfl rfl (idx_nat e4452) (fun _ _ h => ⟨rfl, h⟩) (HM.emp.front 1 rfl rfl)) ?_
      rintro w4453 HM
      refine ops_nil ?_
      refine at_then ?_
      refine run_region rfl ?_
      refine ops_ex rfl (guard_none rfl) rfl rfl (ex_move rfl rfl) ?_
      refine ops_ex rfl (guard_none rfl) rfl rfl (ex_add rfl rfl rfl) ?_
      refine ops_ex rfl (guard_none rfl) rfl rfl (ex_assign rfl rfl) ?_
      refine ops_nil ?_
      refine at_block ?_
      refine at_then ?_
      refine run_region rfl ?_
      refine ops_ex rfl (guard_none rfl) rfl rfl (ex_move rfl rfl) ?_
      refine ops_ex rfl (guard_none rfl) rfl rfl (ex_add rfl rfl rfl) ?_
      refine ops_ex rfl (guard_none rfl) rfl rfl (ex_assign rfl rfl) ?_
      refine ops_nil ?_
      exact at_again k4449 (ρ1 := [(0, p0), (1, .int .i64 (wrap64 (a4445 + 1))), (5, .int .i64 (wrap64 (a4446 + 1)))]) (Nat.lt_succ_self _) ⟨_, _, _, ho4440, rfl, HM⟩ (Sub.cons rfl (Sub.cons rfl (Sub.cons rfl Sub.nil)))
    · replace ho4440 := cond_f hb4451 ho4440
      refine run_exit ?_
      refine at_then_exit ?_
      refine at_then_exit ?_
      refine at_block_exit ?_
      exact at_mid (ρ' := [(1, .int .i64 a4445)]) ⟨_, _, (Option.some.inj ho4440), rfl, HM⟩ (Sub.cons rfl Sub.nil)
  · rintro _ w4454 ⟨a4436, a4438, rfl, rfl, HM⟩
    replace H := cur2_mk H
    refine run_seq ?_
    refine run_region rfl ?_
    refine ops_ex rfl (guard_none rfl) rfl rfl (ex_move rfl rfl) ?_
    refine ops_ex rfl (guard_none rfl) rfl rfl (ex_assign rfl rfl) ?_
    refine ops_nil ?_
    refine at_then ?_
    refine run_ret ?_
    have hR := Option.some.inj H
    subst hR
    exact at_ret1 rfl rfl ⟨_, rfl, rfl, HM⟩

def laws_markCoinS.l0  : Nat → (List Coin) → Int → Int → Option ((List Coin) × Int)
  | 0, _, _, _ => none
  | k + 1, a4618, a4620, a4621 => (bif (decide (a4621 < (a4618.length : Int))) then (chk (idxOk a4621 a4618.length) ((laws_markInt64S.f k ((gt a4618 a4621).fOut.fRule.fKeys) (wrap64 ((wrap64 ((wrap64 (a4620 + 1)) + 1)) + 1))).bind fun t4658 => (chk ((3 : Int) != 0) (laws_markCoinS.l0 k (a4618.set (a4621).toNat (⟨(⟨a4620, wrap64 (a4620 + 1)⟩ : Ref), (⟨wrap64 ((wrap64 (a4620 + 1)) + 1), (⟨t4658.2, t4658.1, wrap64 (t4658.1 + 1)⟩ : Rule)⟩ : Out), wrap64 ((wrap64 (t4658.1 + 1)) + 1), ((Int.tmod (wrap64 ((wrap64 ((wrap64 (t4658.1 + 1)) + 1)) + 1)) (3 : Int)) == 0)⟩ : Coin)) (wrap64 ((wrap64 ((wrap64 ((wrap64 (t4658.1 + 1)) + 1)) + 1)) + 1)) (wrap64 (a4621 + 1)))))) else some (a4618, a4620))
theorem laws_markCoinS.l0_z  (a4618 : List Coin) (a4620 : Int) (a4621 : Int) : laws_markCoinS.l0 0 a4618 a4620 a4621 = none := rfl
theorem laws_markCoinS.l0_s  (k : Nat) (a4618 : List Coin) (a4620 : Int) (a4621 : Int) : laws_markCoinS.l0 (k + 1) a4618 a4620 a4621 = (bif (decide (a4621 < (a4618.length : Int))) then (chk (idxOk a4621 a4618.length) ((laws_markInt64S.f k ((gt a4618 a4621).fOut.fRule.fKeys) (wrap64 ((wrap64 ((wrap64 (a4620 + 1)) + 1)) + 1))).bind fun t4658 => (chk ((3 : Int) != 0) (laws_markCoinS.l0 k (a4618.set (a4621).toNat (⟨(⟨a4620, wrap64 (a4620 + 1)⟩ : Ref), (⟨wrap64 ((wrap64 (a4620 + 1)) + 1), (⟨t4658.2, t4658.1, wrap64 (t4658.1 + 1)⟩ : Rule)⟩ : Out), wrap64 ((wrap64 (t4658.1 + 1)) + 1), ((Int.tmod (wrap64 ((wrap64 ((wrap64 (t4658.1 + 1)) + 1)) + 1)) (3 : Int)) == 0)⟩ : Coin)) (wrap64 ((wrap64 ((wrap64 ((wrap64 (t4658.1 + 1)) + 1)) + 1)) + 1)) (wrap64 (a4621 + 1)))))) else some (a4618, a4620)) := rfl
def laws_markCoinS.f (k : Nat) (x0 : List Coin) (x1 : Int) : Option (Int × (List Coin)) := ((laws_markCoinS.l0 k x0 x1 0).bind (cur2 (fun a4591 a4593 => some (a4593, a4591))))
theorem laws_markCoinS.calls {k : Nat} {x0 : List Coin} {x1 : Int} {p0 : Value} {w wo : World} {X : List Nat} (hwo : Olds wo w X) (hX : Hold w [own kCoin 72 p0 x0] X) (hXn : X.Nodup) (hXl : ∀ b ∈ X, b < w.heap.size)  {r : Int × (List Coin)} (H : laws_markCoinS.f k x0 x1 = some r) :
    Calls Try.prog 43 ([p0, .int .i64 x1] : List Value).toArray w (fun e w_ => ∃ v, e = .returned v ∧ v = (.int .i64 r.1) ∧ Mem w X w_ [own kCoin 72 p0 r.2]) := by
  have HM := Mem.startX hX hXn hXl
  refine calls_run (N := 80) Try.func43 rfl rfl rfl rfl ?_
  unfold laws_markCoinS.f at H
  refine run_seq ?_
  refine run_region rfl ?_
  refine ops_ex rfl (guard_none rfl) rfl rfl (ex_assign rfl rfl) ?_
  refine ops_nil ?_
  refine at_then ?_
  obtain ⟨o4594, ho4595, H⟩ := bind_some H
  refine run_mid (fun ρ_ w_ => ∃ a4591 : List Coin, ∃ a4593 : Int, (a4591, a4593) = o4594 ∧ ρ_ = [(1, .int .i64 a4593)] ∧ Mem w X w_ [own kCoin 72 p0 a4591]) ?_ ?_
  · clear H
    refine run_seq ?_
    refine run_region rfl ?_
    refine ops_ex rfl (guard_none rfl) rfl rfl (ex_assign rfl rfl) ?_
    refine ops_nil ?_
    refine at_then ?_
    refine run_block ?_
    refine run_loop (fun k_ ρ_ w_ => ∃ a4618 : List Coin, ∃ a4620 : Int, ∃ a4621 : Int, laws_markCoinS.l0 k_ a4618 a4620 a4621 = some o4594 ∧ ρ_ = [(0, p0), (1, .int .i64 a4620), (5, .int .i64 a4621)] ∧ Mem w X w_ [own kCoin 72 p0 a4618]) k (ρ1 := [(0, p0), (1, .int .i64 x1), (5, .int .i64 0)]) ⟨_, _, _, ho4595, rfl, HM⟩ (Sub.cons rfl (Sub.cons rfl (Sub.cons rfl Sub.nil))) ?_
    clear HM ho4595
    rintro k4644 _ w4645 ⟨a4618, a4620, a4621, ho4595, rfl, HM⟩
    obtain _ | k4644 := k4644
    · exact nomatch ((laws_markCoinS.l0_z a4618 a4620 a4621).symm.trans ho4595)
    replace ho4595 := (laws_markCoinS.l0_s k4644 a4618 a4620 a4621).symm.trans ho4595
    refine run_seq ?_
    refine run_seq ?_
    refine run_region rfl ?_
    refine ops_ex rfl (guard_none rfl) rfl rfl (ex_move rfl rfl) ?_
    refine ops_ex rfl (guard_none rfl) rfl rfl (ex_move rfl rfl) ?_
    refine ops_ex rfl (guard_none rfl) rfl rfl (ex_len (d := kCoin) (xs := a4618) rfl rfl Try.underlying60 (HM.own_rd 0 rfl)) ?_
    refine ops_ex rfl (guard_none rfl) rfl rfl (ex_lss rfl rfl rfl) ?_
    refine ops_nil ?_
    refine at_then ?_
    refine run_cond (b := (decide (a4621 < (a4618.length : Int)))) rfl (fun hb4646 => ?_) (fun hb4646 => ?_)
    · replace ho4595 := cond_t hb4646 ho4595
      refine run_skip ?_
      refine at_then ?_
      refine run_seq ?_
      refine run_block ?_
      refine run_seq ?_
      obtain ⟨e4647, ho4595⟩ := chk_some ho4595
      refine run_region rfl ?_
      refine ops_ex rfl (guard_none rfl) rfl rfl (ex_move rfl rfl) ?_
      refine ops_ex rfl (guard_none rfl) rfl rfl (ex_move rfl rfl) ?_
      refine ops_ex rfl (guard_none rfl) rfl rfl (ex_move rfl rfl) ?_
      refine ops_ex rfl (guard_none rfl) rfl rfl (ex_indexAddr (d := kCoin) rfl rfl rfl Try.underlying60 tsz72 (HM.own_rd 0 rfl) (idx_lo e4647) (idx_hi e4647)) ?_
      refine ops_ex rfl (guard_none rfl) rfl rfl (ex_fieldAddr (off' := so p0 + (a4621).toNat * 8) rfl rfl Try.underlying72 rfl tsz36 rfl) ?_
      refine ops_ex rfl (guard_none rfl) rfl rfl (ex_fieldAddr (off' := so p0 + (a4621).toNat * 8) rfl rfl Try.underlying36 rfl tsz2 rfl) ?_
      refine ops_doesS rfl (guard_none rfl) rfl (does_setField (fo := 0) (vs := [(.int .i64 a4620)]) (y := (⟨(⟨a4620, (gt a4618 a4621).fRef.fAt⟩ : Ref), (gt a4618 a4621).fOut, (gt a4618 a4621).fHeight, (gt a4618 a4621).fMined⟩ : Coin)) kCoin rfl rfl rfl rfl rfl tsz2 (Ones.int Ones.nil) rfl rfl (idx_nat e4647) (fun _ _ _ h => by rw [← gt_eq (idx_nat e4647)] at h; obtain ⟨_, rfl, h2⟩ := h; exact ⟨_, rfl, h2⟩) HM) ?_
      rintro w4648 HM
      refine ops_nil ?_
      refine at_then ?_
      refine run_seq ?_
      refine run_region rfl ?_
      refine ops_ex rfl (guard_none rfl) rfl rfl (ex_move rfl rfl) ?_
      refine ops_ex rfl (guard_none rfl) rfl rfl (ex_add rfl rfl rfl) ?_
      refine ops_ex rfl (guard_none rfl) rfl rfl (ex_assign rfl rfl) ?_
      refine ops_nil ?_
      refine at_then ?_
      refine run_seq ?_
      refine run_region rfl ?_
      refine ops_ex rfl (guard_none rfl) rfl rfl (ex_move rfl rfl) ?_
      refine ops_ex rfl (guard_none rfl) rfl rfl (ex_move rfl rfl) ?_
      refine ops_ex rfl (guard_none rfl) rfl rfl (ex_move rfl rfl) ?_
      have e4649 : idxOk a4621 (a4618.set (a4621).toNat (⟨(⟨a4620, (gt a4618 a4621).fRef.fAt⟩ : Ref), (gt a4618 a4621).fOut, (gt a4618 a4621).fHeight, (gt a4618 a4621).fMined⟩ : Coin)).length = true := len_set e4647
      refine ops_ex rfl (guard_none rfl) rfl rfl (ex_indexAddr (d := kCoin) rfl rfl rfl Try.underlying60 tsz72 (HM.own_rd 0 rfl) (idx_lo e4649) (idx_hi e4649)) ?_
      refine ops_ex rfl (guard_none rfl) rfl rfl (ex_fieldAddr (off' := so p0 + (a4621).toNat * 8) rfl rfl Try.underlying72 rfl tsz36 rfl) ?_
      refine ops_ex rfl (guard_none rfl) rfl rfl (ex_fieldAddr (off' := so p0 + (a4621).toNat * 8 + 1) rfl rfl Try.underlying36 rfl tsz2 rfl) ?_
      refine ops_doesS rfl (guard_none rfl) rfl (does_setField (fo := 1) (vs := [(.int .i64 (wrap64 (a4620 + 1)))]) (y := (⟨(⟨a4620, wrap64 (a4620 + 1)⟩ : Ref), (gt a4618 a4621).fOut, (gt a4618 a4621).fHeight, (gt a4618 a4621).fMined⟩ : Coin)) kCoin rfl rfl rfl rfl rfl tsz2 (Ones.int Ones.nil) rfl rfl (idx_nat e4649) (fun _ _ _ h => by rw [List.getElem_set_self] at h; obtain ⟨_, rfl, h2⟩ := h; exact ⟨_, rfl, h2⟩) HM) ?_
      rintro w4650 HM
      replace HM := HM.set2
      refine ops_nil ?_
      refine at_then ?_
      refine run_seq ?_
      refine run_region rfl ?_
      refine ops_ex rfl (guard_none rfl) rfl rfl (ex_move rfl rfl) ?_
      refine ops_ex rfl (guard_none rfl) rfl rfl (ex_add rfl rfl rfl) ?_
      refine ops_ex rfl (guard_none rfl) rfl rfl (ex_assign rfl rfl) ?_
      refine ops_nil ?_
      refine at_then ?_
      refine run_seq ?_
      refine run_region rfl ?_
      refine ops_ex rfl (guard_none rfl) rfl rfl (ex_move rfl rfl) ?_
      refine ops_ex rfl (guard_none rfl) rfl rfl (ex_move rfl rfl) ?_
      refine ops_ex rfl (guard_none rfl) rfl rfl (ex_move rfl rfl) ?_
      have e4651 : idxOk a4621 (a4618.set (a4621).toNat (⟨(⟨a4620, wrap64 (a4620 + 1)⟩ : Ref), (gt a4618 a4621).fOut, (gt a4618 a4621).fHeight, (gt a4618 a4621).fMined⟩ : Coin)).length = true := len_set e4647
      refine ops_ex rfl (guard_none rfl) rfl rfl (ex_indexAddr (d := kCoin) rfl rfl rfl Try.underlying60 tsz72 (HM.own_rd 0 rfl) (idx_lo e4651) (idx_hi e4651)) ?_
      refine ops_ex rfl (guard_none rfl) rfl rfl (ex_fieldAddr (off' := so p0 + (a4621).toNat * 8 + 2) rfl rfl Try.underlying72 rfl tsz69 rfl) ?_
      refine ops_ex rfl (guard_none rfl) rfl rfl (ex_fieldAddr (off' := so p0 + (a4621).toNat * 8 + 2) rfl rfl Try.underlying69 rfl tsz2 rfl) ?_
      refine ops_doesS rfl (guard_none rfl) rfl (does_setField (fo := 2) (vs := [(.int .i64 (wrap64 ((wrap64 (a4620 + 1)) + 1)))]) (y := (⟨(⟨a4620, wrap64 (a4620 + 1)⟩ : Ref), (⟨wrap64 ((wrap64 (a4620 + 1)) + 1), (gt a4618 a4621).fOut.fRule⟩ : Out), (gt a4618 a4621).fHeight, (gt a4618 a4621).fMined⟩ : Coin)) kCoin rfl rfl rfl rfl rfl tsz2 (Ones.int Ones.nil) rfl rfl (idx_nat e4651) (fun _ _ _ h => by rw [List.getElem_set_self] at h; obtain ⟨_, rfl, h2⟩ := h; exact ⟨_, rfl, h2⟩) HM) ?_
      rintro w4652 HM
      replace HM := HM.set2
      refine ops_nil ?_
      refine at_then ?_
      refine run_seq ?_
      refine run_region rfl ?_
      refine ops_ex rfl (guard_none rfl) rfl rfl (ex_move rfl rfl) ?_
      refine ops_ex rfl (guard_none rfl) rfl rfl (ex_add rfl rfl rfl) ?_
      refine ops_ex rfl (guard_none rfl) rfl rfl (ex_assign rfl rfl) ?_
      refine ops_nil ?_
      refine at_then ?_
      refine run_seq ?_
      obtain ⟨t4658, h4659, ho4595⟩ := bind_some ho4595
      refine run_region rfl ?_
      refine ops_ex rfl (guard_none rfl) rfl rfl (ex_move rfl rfl) ?_
      refine ops_ex rfl (guard_none rfl) rfl rfl (ex_move rfl rfl) ?_
      have e4653 : idxOk a4621 (a4618.set (a4621).toNat (⟨(⟨a4620, wrap64 (a4620 + 1)⟩ : Ref), (⟨wrap64 ((wrap64 (a4620 + 1)) + 1), (gt a4618 a4621).fOut.fRule⟩ : Out), (gt a4618 a4621).fHeight, (gt a4618 a4621).fMined⟩ : Coin)).length = true := len_set e4647
      refine ops_ex rfl (guard_none rfl) rfl rfl (ex_indexAddr (d := kCoin) rfl rfl rfl Try.underlying60 tsz72 (HM.own_rd 0 rfl) (idx_lo e4653) (idx_hi e4653)) ?_
      refine ops_ex rfl (guard_none rfl) rfl rfl (ex_fieldAddr (off' := so p0 + (a4621).toNat * 8 + 2) rfl rfl Try.underlying72 rfl tsz69 rfl) ?_
      refine ops_ex rfl (guard_none rfl) rfl rfl (ex_fieldAddr (off' := so p0 + (a4621).toNat * 8 + 3) rfl rfl Try.underlying69 rfl tsz67 rfl) ?_
      refine ops_ex rfl (guard_none rfl) rfl rfl (ex_fieldAddr (off' := so p0 + (a4621).toNat * 8 + 3) rfl rfl Try.underlying67 rfl tsz39 rfl) ?_
      obtain ⟨u4654, hc4655, HM⟩ := HM.open1 e4653 (gt_set2 e4647)
      refine ops_ex rfl (guard_none rfl) rfl rfl (ex_load1 rfl rfl Try.underlying39 rfl (hc4655 3 _ rfl)) ?_
      refine ops_ex rfl (guard_none rfl) rfl rfl (ex_move rfl rfl) ?_
      obtain ⟨F4660, hF4661, hFn4662, hFl4663, HMh4664, hcl4665⟩ := HM.hide (Ms := [own kInt 2 u4654 ((gt a4618 a4621).fOut.fRule.fKeys)])
      refine ops_does rfl (guard_none rfl) rfl rfl (does_callk rfl callok101 rfl (laws_markInt64S.calls (x0 := (gt a4618 a4621).fOut.fRule.fKeys) (x1 := wrap64 ((wrap64 ((wrap64 (a4620 + 1)) + 1)) + 1)) (hide_olds _ _) hF4661 hFn4662 hFl4663 h4659)) ?_
      rintro _ w4666 ⟨rfl, hn⟩
      replace HM : Mem w X w4666 [own kInt 2 u4654 t4658.2, hole kCoin (fun u_ => [(.int .i64 a4620), (.int .i64 (wrap64 (a4620 + 1))), (.int .i64 (wrap64 ((wrap64 (a4620 + 1)) + 1))), u_, (.int .i64 ((gt a4618 a4621).fOut.fRule.fNeed)), (.int .i64 ((gt a4618 a4621).fOut.fRule.fAfter)), (.int .i64 ((gt a4618 a4621).fHeight)), (.bool ((gt a4618 a4621).fMined))]) 72 p0 (a4618.set (a4621).toNat (⟨(⟨a4620, wrap64 (a4620 + 1)⟩ : Ref), (⟨wrap64 ((wrap64 (a4620 + 1)) + 1), (gt a4618 a4621).fOut.fRule⟩ : Out), (gt a4618 a4621).fHeight, (gt a4618 a4621).fMined⟩ : Coin)) (a4621).toNat u4654] := hcl4665 _ _ hn
      replace HM := HM.front 1 rfl rfl
      replace HM := HM.front 1 rfl rfl
      replace HM := Mem.close1 (⟨(⟨a4620, wrap64 (a4620 + 1)⟩ : Ref), (⟨wrap64 ((wrap64 (a4620 + 1)) + 1), (⟨t4658.2, (gt a4618 a4621).fOut.fRule.fNeed, (gt a4618 a4621).fOut.fRule.fAfter⟩ : Rule)⟩ : Out), (gt a4618 a4621).fHeight, (gt a4618 a4621).fMined⟩ : Coin) HM rfl rfl
      replace HM := HM.set2
      refine ops_ex rfl (guard_none rfl) rfl rfl (ex_assign rfl rfl) ?_
      refine ops_nil ?_
      refine at_then ?_
      refine run_seq ?_
      refine run_region rfl ?_
      refine ops_ex rfl (guard_none rfl) rfl rfl (ex_move rfl rfl) ?_
      refine ops_ex rfl (guard_none rfl) rfl rfl (ex_move rfl rfl) ?_
      refine ops_ex rfl (guard_none rfl) rfl rfl (ex_move rfl rfl) ?_
      have e4667 : idxOk a4621 (a4618.set (a4621).toNat (⟨(⟨a4620, wrap64 (a4620 + 1)⟩ : Ref), (⟨wrap64 ((wrap64 (a4620 + 1)) + 1), (⟨t4658.2, (gt a4618 a4621).fOut.fRule.fNeed, (gt a4618 a4621).fOut.fRule.fAfter⟩ : Rule)⟩ : Out), (gt a4618 a4621).fHeight, (gt a4618 a4621).fMined⟩ : Coin)).length = true := len_set e4647
      refine ops_ex rfl (guard_none rfl) rfl rfl (ex_indexAddr (d := kCoin) rfl rfl rfl Try.underlying60 tsz72 (HM.own_rd 0 rfl) (idx_lo e4667) (idx_hi e4667)) ?_
      refine ops_ex rfl (guard_none rfl) rfl rfl (ex_fieldAddr (off' := so p0 + (a4621).toNat * 8 + 2) rfl rfl Try.underlying72 rfl tsz69 rfl) ?_
      refine ops_ex rfl (guard_none rfl) rfl rfl (ex_fieldAddr (off' := so p0 + (a4621).toNat * 8 + 3) rfl rfl Try.underlying69 rfl tsz67 rfl) ?_
      refine ops_ex rfl (guard_none rfl) rfl rfl (ex_fieldAddr (off' := so p0 + (a4621).toNat * 8 + 4) rfl rfl Try.underlying67 rfl tsz2 rfl) ?_
      refine ops_doesS rfl (guard_none rfl) rfl (does_setField (fo := 4) (vs := [(.int .i64 t4658.1)]) (y := (⟨(⟨a4620, wrap64 (a4620 + 1)⟩ : Ref), (⟨wrap64 ((wrap64 (a4620 + 1)) + 1), (⟨t4658.2, t4658.1, (gt a4618 a4621).fOut.fRule.fAfter⟩ : Rule)⟩ : Out), (gt a4618 a4621).fHeight, (gt a4618 a4621).fMined⟩ : Coin)) kCoin rfl rfl rfl rfl rfl tsz2 (Ones.int Ones.nil) rfl rfl (idx_nat e4667) (fun _ _ _ h => by rw [List.getElem_set_self] at h; obtain ⟨_, rfl, h2⟩ := h; exact ⟨_, rfl, h2⟩) HM) ?_
      rintro w4668 HM
      replace HM := HM.set2
      refine ops_nil ?_
      refine at_then ?_
      refine run_seq ?_
      refine run_region rfl ?_
      refine ops_ex rfl (guard_none rfl) rfl rfl (ex_move rfl rfl) ?_
      refine ops_ex rfl (guard_none rfl) rfl rfl (ex_add rfl rfl rfl) ?_
      refine ops_ex rfl (guard_none rfl) rfl rfl (ex_assign rfl rfl) ?_
      refine ops_nil ?_
      refine at_then ?_
      refine run_seq ?_
      refine run_region rfl ?_
      refine ops_ex rfl (guard_none rfl) rfl rfl (ex_move rfl rfl) ?_
      refine ops_ex rfl (guard_none rfl) rfl rfl (ex_move rfl rfl) ?_
      refine ops_ex rfl (guard_none rfl) rfl rfl (ex_move rfl rfl) ?_
      have e4669 : idxOk a4621 (a4618.set (a4621).toNat (⟨(⟨a4620, wrap64 (a4620 + 1)⟩ : Ref), (⟨wrap64 ((wrap64 (a4620 + 1)) + 1), (⟨t4658.2, t4658.1, (gt a4618 a4621).fOut.fRule.fAfter⟩ : Rule)⟩ : Out), (gt a4618 a4621).fHeight, (gt a4618 a4621).fMined⟩ : Coin)).length = true := len_set e4647
      refine ops_ex rfl (guard_none rfl) rfl rfl (ex_indexAddr (d := kCoin) rfl rfl rfl Try.underlying60 tsz72 (HM.own_rd 0 rfl) (idx_lo e4669) (idx_hi e4669)) ?_
      refine ops_ex rfl (guard_none rfl) rfl rfl (ex_fieldAddr (off' := so p0 + (a4621).toNat * 8 + 2) rfl rfl Try.underlying72 rfl tsz69 rfl) ?_
      refine ops_ex rfl (guard_none rfl) rfl rfl (ex_fieldAddr (off' := so p0 + (a4621).toNat * 8 + 3) rfl rfl Try.underlying69 rfl tsz67 rfl) ?_
      refine ops_ex rfl (guard_none rfl) rfl rfl (ex_fieldAddr (off' := so p0 + (a4621).toNat * 8 + 5) rfl rfl Try.underlying67 rfl tsz2 rfl) ?_
      refine ops_doesS rfl (guard_none rfl) rfl (does_setField (fo := 5) (vs := [(.int .i64 (wrap64 (t4658.1 + 1)))]) (y := (⟨(⟨a4620, wrap64 (a4620 + 1)⟩ : Ref), (⟨wrap64 ((wrap64 (a4620 + 1)) + 1), (⟨t4658.2, t4658.1, wrap64 (t4658.1 + 1)⟩ : Rule)⟩ : Out), (gt a4618 a4621).fHeight, (gt a4618 a4621).fMined⟩ : Coin)) kCoin rfl rfl rfl rfl rfl tsz2 (Ones.int Ones.nil) rfl rfl (idx_nat e4669) (fun _ _ _ h => by rw [List.getElem_set_self] at h; obtain ⟨_, rfl, h2⟩ := h; exact ⟨_, rfl, h2⟩) HM) ?_
      rintro w4670 HM
      replace HM := HM.set2
      refine ops_nil ?_
      refine at_then ?_
      refine run_seq ?_
      refine run_region rfl ?_
      refine ops_ex rfl (guard_none rfl) rfl rfl (ex_move rfl rfl) ?_
      refine ops_ex rfl (guard_none rfl) rfl rfl (ex_add rfl rfl rfl) ?_
      refine ops_ex rfl (guard_none rfl) rfl rfl (ex_assign rfl rfl) ?_
      refine ops_nil ?_
      refine at_then ?_
      refine run_seq ?_
      refine run_region rfl ?_
      refine ops_ex rfl (guard_none rfl) rfl rfl (ex_move rfl rfl) ?_
      refine ops_ex rfl (guard_none rfl) rfl rfl (ex_move rfl rfl) ?_
      refine ops_ex rfl (guard_none rfl) rfl rfl (ex_move rfl rfl) ?_
      have e4671 : idxOk a4621 (a4618.set (a4621).toNat (⟨(⟨a4620, wrap64 (a4620 + 1)⟩ : Ref), (⟨wrap64 ((wrap64 (a4620 + 1)) + 1), (⟨t4658.2, t4658.1, wrap64 (t4658.1 + 1)⟩ : Rule)⟩ : Out), (gt a4618 a4621).fHeight, (gt a4618 a4621).fMined⟩ : Coin)).length = true := len_set e4647
      refine ops_ex rfl (guard_none rfl) rfl rfl (ex_indexAddr (d := kCoin) rfl rfl rfl Try.underlying60 tsz72 (HM.own_rd 0 rfl) (idx_lo e4671) (idx_hi e4671)) ?_
      refine ops_ex rfl (guard_none rfl) rfl rfl (ex_fieldAddr (off' := so p0 + (a4621).toNat * 8 + 6) rfl rfl Try.underlying72 rfl tsz2 rfl) ?_
      refine ops_doesS rfl (guard_none rfl) rfl (does_setField (fo := 6) (vs := [(.int .i64 (wrap64 ((wrap64 (t4658.1 + 1)) + 1)))]) (y := (⟨(⟨a4620, wrap64 (a4620 + 1)⟩ : Ref), (⟨wrap64 ((wrap64 (a4620 + 1)) + 1), (⟨t4658.2, t4658.1, wrap64 (t4658.1 + 1)⟩ : Rule)⟩ : Out), wrap64 ((wrap64 (t4658.1 + 1)) + 1), (gt a4618 a4621).fMined⟩ : Coin)) kCoin rfl rfl rfl rfl rfl tsz2 (Ones.int Ones.nil) rfl rfl (idx_nat e4671) (fun _ _ _ h => by rw [List.getElem_set_self] at h; obtain ⟨_, rfl, h2⟩ := h; exact ⟨_, rfl, h2⟩) HM) ?_
      rintro w4672 HM
      replace HM := HM.set2
      refine ops_nil ?_
      refine at_then ?_
      refine run_seq ?_
      refine run_region rfl ?_
      refine ops_ex rfl (guard_none rfl) rfl rfl (ex_move rfl rfl) ?_
      refine ops_ex rfl (guard_none rfl) rfl rfl (ex_add rfl rfl rfl) ?_
      refine ops_ex rfl (guard_none rfl) rfl rfl (ex_assign rfl rfl) ?_
      refine ops_nil ?_
      refine at_then ?_
      refine run_seq ?_
      obtain ⟨e4673, ho4595⟩ := chk_some ho4595
      refine run_region rfl ?_
      refine ops_ex rfl (guard_none rfl) rfl rfl (ex_move rfl rfl) ?_
      refine ops_ex rfl (guard_none rfl) rfl rfl (ex_move rfl rfl) ?_
      refine ops_ex rfl (guard_none rfl) rfl rfl (ex_move rfl rfl) ?_
      refine ops_ex rfl (guard_none rfl) rfl rfl (ex_remk rfl rfl rfl e4673) ?_
      refine ops_ex rfl (guard_none rfl) rfl rfl (ex_eql rfl rfl rfl) ?_
      have e4674 : idxOk a4621 (a4618.set (a4621).toNat (⟨(⟨a4620, wrap64 (a4620 + 1)⟩ : Ref), (⟨wrap64 ((wrap64 (a4620 + 1)) + 1), (⟨t4658.2, t4658.1, wrap64 (t4658.1 + 1)⟩ : Rule)⟩ : Out), wrap64 ((wrap64 (t4658.1 + 1)) + 1), (gt a4618 a4621).fMined⟩ : Coin)).length = true := len_set e4647
      refine ops_ex rfl (guard_none rfl) rfl rfl (ex_indexAddr (d := kCoin) rfl rfl rfl Try.underlying60 tsz72 (HM.own_rd 0 rfl) (idx_lo e4674) (idx_hi e4674)) ?_
      refine ops_ex rfl (guard_none rfl) rfl rfl (ex_fieldAddr (off' := so p0 + (a4621).toNat * 8 + 7) rfl rfl Try.underlying72 rfl tsz4 rfl) ?_
      refine ops_doesS rfl (guard_none rfl) rfl (does_setField (fo := 7) (vs := [(.bool ((Int.tmod (wrap64 ((wrap64 ((wrap64 (t4658.1 + 1)) + 1)) + 1)) (3 : Int)) == 0))]) (y := (⟨(⟨a4620, wrap64 (a4620 + 1)⟩ : Ref), (⟨wrap64 ((wrap64 (a4620 + 1)) + 1), (⟨t4658.2, t4658.1, wrap64 (t4658.1 + 1)⟩ : Rule)⟩ : Out), wrap64 ((wrap64 (t4658.1 + 1)) + 1), ((Int.tmod (wrap64 ((wrap64 ((wrap64 (t4658.1 + 1)) + 1)) + 1)) (3 : Int)) == 0)⟩ : Coin)) kCoin rfl rfl rfl rfl rfl tsz4 (Ones.bool Ones.nil) rfl rfl (idx_nat e4674) (fun _ _ _ h => by rw [List.getElem_set_self] at h; obtain ⟨_, rfl, h2⟩ := h; exact ⟨_, rfl, h2⟩) HM) ?_
      rintro w4675 HM
      replace HM := HM.set2
      refine ops_nil ?_
      refine at_then ?_
      refine run_region rfl ?_
      refine ops_ex rfl (guard_none rfl) rfl rfl (ex_move rfl rfl) ?_
      refine ops_ex rfl (guard_none rfl) rfl rfl (ex_add rfl rfl rfl) ?_
      refine ops_ex rfl (guard_none rfl) rfl rfl (ex_assign rfl rfl) ?_
      refine ops_nil ?_
      refine at_block ?_
      refine at_then ?_
      refine run_region rfl ?_
      refine ops_ex rfl (guard_none rfl) rfl rfl (ex_move rfl rfl) ?_
      refine ops_ex rfl (guard_none rfl) rfl rfl (ex_add rfl rfl rfl) ?_
      refine ops_ex rfl (guard_none rfl) rfl rfl (ex_assign rfl rfl) ?_
      refine ops_nil ?_
      exact at_again k4644 (ρ1 := [(0, p0), (1, .int .i64 (wrap64 ((wrap64 ((wrap64 ((wrap64 (t4658.1 + 1)) + 1)) + 1)) + 1))), (5, .int .i64 (wrap64 (a4621 + 1)))]) (Nat.lt_succ_self _) ⟨_, _, _, ho4595, rfl, HM⟩ (Sub.cons rfl (Sub.cons rfl (Sub.cons rfl Sub.nil)))
    · replace ho4595 := cond_f hb4646 ho4595
      refine run_exit ?_
      refine at_then_exit ?_
      refine at_then_exit ?_
      refine at_block_exit ?_
      exact at_mid (ρ' := [(1, .int .i64 a4620)]) ⟨_, _, (Option.some.inj ho4595), rfl, HM⟩ (Sub.cons rfl Sub.nil)
  · rintro _ w4676 ⟨a4591, a4593, rfl, rfl, HM⟩
    replace H := cur2_mk H
    refine run_seq ?_
    refine run_region rfl ?_
    refine ops_ex rfl (guard_none rfl) rfl rfl (ex_move rfl rfl) ?_
    refine ops_ex rfl (guard_none rfl) rfl rfl (ex_assign rfl rfl) ?_
    refine ops_nil ?_
    refine at_then ?_
    refine run_ret ?_
    have hR := Option.some.inj H
    subst hR
    exact at_ret1 rfl rfl ⟨_, rfl, rfl, HM⟩

def laws_markOutS.l0  : Nat → (List Out) → Int → Int → Option ((List Out) × Int)
  | 0, _, _, _ => none
  | k + 1, a4828, a4830, a4831 => (bif (decide (a4831 < (a4828.length : Int))) then (chk (idxOk a4831 a4828.length) ((laws_markInt64S.f k ((gt a4828 a4831).fRule.fKeys) (wrap64 (a4830 + 1))).bind fun t4859 => laws_markOutS.l0 k (a4828.set (a4831).toNat (⟨a4830, (⟨t4859.2, t4859.1, wrap64 (t4859.1 + 1)⟩ : Rule)⟩ : Out)) (wrap64 ((wrap64 (t4859.1 + 1)) + 1)) (wrap64 (a4831 + 1)))) else some (a4828, a4830))
theorem laws_markOutS.l0_z  (a4828 : List Out) (a4830 : Int) (a4831 : Int) : laws_markOutS.l0 0 a4828 a4830 a4831 = none := rfl
theorem laws_markOutS.l0_s  (k : Nat) (a4828 : List Out) (a4830 : Int) (a4831 : Int) : laws_markOutS.l0 (k + 1) a4828 a4830 a4831 = (bif (decide (a4831 < (a4828.length : Int))) then (chk (idxOk a4831 a4828.length) ((laws_markInt64S.f k ((gt a4828 a4831).fRule.fKeys) (wrap64 (a4830 + 1))).bind fun t4859 => laws_markOutS.l0 k (a4828.set (a4831).toNat (⟨a4830, (⟨t4859.2, t4859.1, wrap64 (t4859.1 + 1)⟩ : Rule)⟩ : Out)) (wrap64 ((wrap64 (t4859.1 + 1)) + 1)) (wrap64 (a4831 + 1)))) else some (a4828, a4830)) := rfl
def laws_markOutS.f (k : Nat) (x0 : List Out) (x1 : Int) : Option (Int × (List Out)) := ((laws_markOutS.l0 k x0 x1 0).bind (cur2 (fun a4806 a4808 => some (a4808, a4806))))
theorem laws_markOutS.calls {k : Nat} {x0 : List Out} {x1 : Int} {p0 : Value} {w wo : World} {X : List Nat} (hwo : Olds wo w X) (hX : Hold w [own kOut 69 p0 x0] X) (hXn : X.Nodup) (hXl : ∀ b ∈ X, b < w.heap.size)  {r : Int × (List Out)} (H : laws_markOutS.f k x0 x1 = some r) :
    Calls Try.prog 44 ([p0, .int .i64 x1] : List Value).toArray w (fun e w_ => ∃ v, e = .returned v ∧ v = (.int .i64 r.1) ∧ Mem w X w_ [own kOut 69 p0 r.2]) := by
  have HM := Mem.startX hX hXn hXl
  refine calls_run (N := 44) Try.func44 rfl rfl rfl rfl ?_
  unfold laws_markOutS.f at H
  refine run_seq ?_
  refine run_region rfl ?_
  refine ops_ex rfl (guard_none rfl) rfl rfl (ex_assign rfl rfl) ?_
  refine ops_nil ?_
  refine at_then ?_
  obtain ⟨o4809, ho4810, H⟩ := bind_some H
  refine run_mid (fun ρ_ w_ => ∃ a4806 : List Out, ∃ a4808 : Int, (a4806, a4808) = o4809 ∧ ρ_ = [(1, .int .i64 a4808)] ∧ Mem w X w_ [own kOut 69 p0 a4806]) ?_ ?_
  · clear H
    refine run_seq ?_
    refine run_region rfl ?_
    refine ops_ex rfl (guard_none rfl) rfl rfl (ex_assign rfl rfl) ?_
    refine ops_nil ?_
    refine at_then ?_
    refine run_block ?_
    refine run_loop (fun k_ ρ_ w_ => ∃ a4828 : List Out, ∃ a4830 : Int, ∃ a4831 : Int, laws_markOutS.l0 k_ a4828 a4830 a4831 = some o4809 ∧ ρ_ = [(0, p0), (1, .int .i64 a4830), (5, .int .i64 a4831)] ∧ Mem w X w_ [own kOut 69 p0 a4828]) k (ρ1 := [(0, p0), (1, .int .i64 x1), (5, .int .i64 0)]) ⟨_, _, _, ho4810, rfl, HM⟩ (Sub.cons rfl (Sub.cons rfl (Sub.cons rfl Sub.nil))) ?_
    clear HM ho4810
    rintro k4849 _ w4850 ⟨a4828, a4830, a4831, ho4810, rfl, HM⟩
    obtain _ | k4849 := k4849
    · exact nomatch ((laws_markOutS.l0_z a4828 a4830 a4831).symm.trans ho4810)
    replace ho4810 := (laws_markOutS.l0_s k4849 a4828 a4830 a4831).symm.trans ho4810
    refine run_seq ?_
    refine run_seq ?_
    refine run_region rfl ?_
    refine ops_ex rfl (guard_none rfl) rfl rfl (ex_move rfl rfl) ?_
    refine ops_ex rfl (guard_none rfl) rfl rfl (ex_move rfl rfl) ?_
    refine ops_ex rfl (guard_none rfl) rfl rfl (ex_len (d := kOut) (xs := a4828) rfl rfl Try.underlying26 (HM.own_rd 0 rfl)) ?_
    refine ops_ex rfl (guard_none rfl) rfl rfl (ex_lss rfl rfl rfl) ?_
    refine ops_nil ?_
    refine at_then ?_
    refine run_cond (b := (decide (a4831 < (a4828.length : Int)))) rfl (fun hb4851 => ?_) (fun hb4851 => ?_)
    · replace ho4810 := cond_t hb4851 ho4810
      refine run_skip ?_
      refine at_then ?_
      refine run_seq ?_
      refine run_block ?_
      refine run_seq ?_
      obtain ⟨e4852, ho4810⟩ := chk_some ho4810
      refine run_region rfl ?_
      refine ops_ex rfl (guard_none rfl) rfl rfl (ex_move rfl rfl) ?_
      refine ops_ex rfl (guard_none rfl) rfl rfl (ex_move rfl rfl) ?_
      refine ops_ex rfl (guard_none rfl) rfl rfl (ex_move rfl rfl) ?_
      refine ops_ex rfl (guard_none rfl) rfl rfl (ex_indexAddr (d := kOut) rfl rfl rfl Try.underlying26 tsz69 (HM.own_rd 0 rfl) (idx_lo e4852) (idx_hi e4852)) ?_
      refine ops_ex rfl (guard_none rfl) rfl rfl (ex_fieldAddr (off' := so p0 + (a4831).toNat * 4) rfl rfl Try.underlying69 rfl tsz2 rfl) ?_
      refine ops_doesS rfl (guard_none rfl) rfl (does_setField (fo := 0) (vs := [(.int .i64 a4830)]) (y := (⟨a4830, (gt a4828 a4831).fRule⟩ : Out)) kOut rfl rfl rfl rfl rfl tsz2 (Ones.int Ones.nil) rfl rfl (idx_nat e4852) (fun _ _ _ h => by rw [← gt_eq (idx_nat e4852)] at h; obtain ⟨_, rfl, h2⟩ := h; exact ⟨_, rfl, h2⟩) HM) ?_
      rintro w4853 HM
      refine ops_nil ?_
      refine at_then ?_
      refine run_seq ?_
      refine run_region rfl ?_
      refine ops_ex rfl (guard_none rfl) rfl rfl (ex_move rfl rfl) ?_
      refine ops_ex rfl (guard_none rfl) rfl rfl (ex_add rfl rfl rfl) ?_
      refine ops_ex rfl (guard_none rfl) rfl rfl (ex_assign rfl rfl) ?_
      refine ops_nil ?_
      refine at_then ?_
      refine run_seq ?_
      obtain ⟨t4859, h4860, ho4810⟩ := bind_some ho4810
      refine run_region rfl ?_
      refine ops_ex rfl (guard_none rfl) rfl rfl (ex_move rfl rfl) ?_
      refine ops_ex rfl (guard_none rfl) rfl rfl (ex_move rfl rfl) ?_
      have e4854 : idxOk a4831 (a4828.set (a4831).toNat (⟨a4830, (gt a4828 a4831).fRule⟩ : Out)).length = true := len_set e4852
      refine ops_ex rfl (guard_none rfl) rfl rfl (ex_indexAddr (d := kOut) rfl rfl rfl Try.underlying26 tsz69 (HM.own_rd 0 rfl) (idx_lo e4854) (idx_hi e4854)) ?_
      refine ops_ex rfl (guard_none rfl) rfl rfl (ex_fieldAddr (off' := so p0 + (a4831).toNat * 4 + 1) rfl rfl Try.underlying69 rfl tsz67 rfl) ?_
      refine ops_ex rfl (guard_none rfl) rfl rfl (ex_fieldAddr (off' := so p0 + (a4831).toNat * 4 + 1) rfl rfl Try.underlying67 rfl tsz39 rfl) ?_
      obtain ⟨u4855, hc4856, HM⟩ := HM.open1 e4854 (gt_set2 e4852)
      refine ops_ex rfl (guard_none rfl) rfl rfl (ex_load1 rfl rfl Try.underlying39 rfl (hc4856 1 _ rfl)) ?_
      refine ops_ex rfl (guard_none rfl) rfl rfl (ex_move rfl rfl) ?_
      obtain ⟨F4861, hF4862, hFn4863, hFl4864, HMh4865, hcl4866⟩ := HM.hide (Ms := [own kInt 2 u4855 ((gt a4828 a4831).fRule.fKeys)])
      refine ops_does rfl (guard_none rfl) rfl rfl (does_callk rfl callok101 rfl (laws_markInt64S.calls (x0 := (gt a4828 a4831).fRule.fKeys) (x1 := wrap64 (a4830 + 1)) (hide_olds _ _) hF4862 hFn4863 hFl4864 h4860)) ?_
      rintro _ w4867 ⟨rfl, hn⟩
      replace HM : Mem w X w4867 [own kInt 2 u4855 t4859.2, hole kOut (fun u_ => [(.int .i64 a4830), u_, (.int .i64 ((gt a4828 a4831).fRule.fNeed)), (.int .i64 ((gt a4828 a4831).fRule.fAfter))]) 69 p0 (a4828.set (a4831).toNat (⟨a4830, (gt a4828 a4831).fRule⟩ : Out)) (a4831).toNat u4855] := hcl4866 _ _ hn
      replace HM := HM.front 1 rfl rfl
      replace HM := HM.front 1 rfl rfl
      replace HM := Mem.close1 (⟨a4830, (⟨t4859.2, (gt a4828 a4831).fRule.fNeed, (gt a4828 a4831).fRule.fAfter⟩ : Rule)⟩ : Out) HM rfl rfl
      replace HM := HM.set2
      refine ops_ex rfl (guard_none rfl) rfl rfl (ex_assign rfl rfl) ?_
      refine ops_nil ?_
      refine at_then ?_
      refine run_seq ?_
      refine run_region rfl ?_
      refine ops_ex rfl (guard_none rfl) rfl rfl (ex_move rfl rfl) ?_
      refine ops_ex rfl (guard_none rfl) rfl rfl (ex_move rfl rfl) ?_
      refine ops_ex rfl (guard_none rfl) rfl rfl (ex_move rfl rfl) ?_
      have e4868 : idxOk a4831 (a4828.set (a4831).toNat (⟨a4830, (⟨t4859.2, (gt a4828 a4831).fRule.fNeed, (gt a4828 a4831).fRule.fAfter⟩ : Rule)⟩ : Out)).length = true := len_set e4852
      refine ops_ex rfl (guard_none rfl) rfl rfl (ex_indexAddr (d := kOut) rfl rfl rfl Try.underlying26 tsz69 (HM.own_rd 0 rfl) (idx_lo e4868) (idx_hi e4868)) ?_
      refine ops_ex rfl (guard_none rfl) rfl rfl (ex_fieldAddr (off' := so p0 + (a4831).toNat * 4 + 1) rfl rfl Try.underlying69 rfl tsz67 rfl) ?_
      refine ops_ex rfl (guard_none rfl) rfl rfl (ex_fieldAddr (off' := so p0 + (a4831).toNat * 4 + 2) rfl rfl Try.underlying67 rfl tsz2 rfl) ?_
      refine ops_doesS rfl (guard_none rfl) rfl (does_setField (fo := 2) (vs := [(.int .i64 t4859.1)]) (y := (⟨a4830, (⟨t4859.2, t4859.1, (gt a4828 a4831).fRule.fAfter⟩ : Rule)⟩ : Out)) kOut rfl rfl rfl rfl rfl tsz2 (Ones.int Ones.nil) rfl rfl (idx_nat e4868) (fun _ _ _ h => by rw [List.getElem_set_self] at h; obtain ⟨_, rfl, h2⟩ := h; exact ⟨_, rfl, h2⟩) HM) ?_
      rintro w4869 HM
      replace HM := HM.set2
      refine ops_nil ?_
      refine at_then ?_
      refine run_seq ?_
      refine run_region rfl ?_
      refine ops_ex rfl (guard_none rfl) rfl rfl (ex_move rfl rfl) ?_
      refine ops_ex rfl (guard_none rfl) rfl rfl (ex_add rfl rfl rfl) ?_
      refine ops_ex rfl (guard_none rfl) rfl rfl (ex_assign rfl rfl) ?_
      refine ops_nil ?_
      refine at_then ?_
      refine run_seq ?_
      refine run_region rfl ?_
      refine ops_ex rfl (guard_none rfl) rfl rfl (ex_move rfl rfl) ?_
      refine ops_ex rfl (guard_none rfl) rfl rfl (ex_move rfl rfl) ?_
      refine ops_ex rfl (guard_none rfl) rfl rfl (ex_move rfl rfl) ?_
      have e4870 : idxOk a4831 (a4828.set (a4831).toNat (⟨a4830, (⟨t4859.2, t4859.1, (gt a4828 a4831).fRule.fAfter⟩ : Rule)⟩ : Out)).length = true := len_set e4852
      refine ops_ex rfl (guard_none rfl) rfl rfl (ex_indexAddr (d := kOut) rfl rfl rfl Try.underlying26 tsz69 (HM.own_rd 0 rfl) (idx_lo e4870) (idx_hi e4870)) ?_
      refine ops_ex rfl (guard_none rfl) rfl rfl (ex_fieldAddr (off' := so p0 + (a4831).toNat * 4 + 1) rfl rfl Try.underlying69 rfl tsz67 rfl) ?_
      refine ops_ex rfl (guard_none rfl) rfl rfl (ex_fieldAddr (off' := so p0 + (a4831).toNat * 4 + 3) rfl rfl Try.underlying67 rfl tsz2 rfl) ?_
      refine ops_doesS rfl (guard_none rfl) rfl (does_setField (fo := 3) (vs := [(.int .i64 (wrap64 (t4859.1 + 1)))]) (y := (⟨a4830, (⟨t4859.2, t4859.1, wrap64 (t4859.1 + 1)⟩ : Rule)⟩ : Out)) kOut rfl rfl rfl rfl rfl tsz2 (Ones.int Ones.nil) rfl rfl (idx_nat e4870) (fun _ _ _ h => by rw [List.getElem_set_self] at h; obtain ⟨_, rfl, h2⟩ := h; exact ⟨_, rfl, h2⟩) HM) ?_
      rintro w4871 HM
      replace HM := HM.set2
      refine ops_nil ?_
      refine at_then ?_
      refine run_region rfl ?_
      refine ops_ex rfl (guard_none rfl) rfl rfl (ex_move rfl rfl) ?_
      refine ops_ex rfl (guard_none rfl) rfl rfl (ex_add rfl rfl rfl) ?_
      refine ops_ex rfl (guard_none rfl) rfl rfl (ex_assign rfl rfl) ?_
      refine ops_nil ?_
      refine at_block ?_
      refine at_then ?_
      refine run_region rfl ?_
      refine ops_ex rfl (guard_none rfl) rfl rfl (ex_move rfl rfl) ?_
      refine ops_ex rfl (guard_none rfl) rfl rfl (ex_add rfl rfl rfl) ?_
      refine ops_ex rfl (guard_none rfl) rfl rfl (ex_assign rfl rfl) ?_
      refine ops_nil ?_
      exact at_again k4849 (ρ1 := [(0, p0), (1, .int .i64 (wrap64 ((wrap64 (t4859.1 + 1)) + 1))), (5, .int .i64 (wrap64 (a4831 + 1)))]) (Nat.lt_succ_self _) ⟨_, _, _, ho4810, rfl, HM⟩ (Sub.cons rfl (Sub.cons rfl (Sub.cons rfl Sub.nil)))
    · replace ho4810 := cond_f hb4851 ho4810
      refine run_exit ?_
      refine at_then_exit ?_
      refine at_then_exit ?_
      refine at_block_exit ?_
      exact at_mid (ρ' := [(1, .int .i64 a4830)]) ⟨_, _, (Option.some.inj ho4810), rfl, HM⟩ (Sub.cons rfl Sub.nil)
  · rintro _ w4872 ⟨a4806, a4808, rfl, rfl, HM⟩
    replace H := cur2_mk H
    refine run_seq ?_
    refine run_region rfl ?_
    refine ops_ex rfl (guard_none rfl) rfl rfl (ex_move rfl rfl) ?_
    refine ops_ex rfl (guard_none rfl) rfl rfl (ex_assign rfl rfl) ?_
    refine ops_nil ?_
    refine at_then ?_
    refine run_ret ?_
    have hR := Option.some.inj H
    subst hR
    exact at_ret1 rfl rfl ⟨_, rfl, rfl, HM⟩

def laws_markCoinsResult.f (k : Nat) (x0 : CoinsResult) (x1 : Int) : Option (Int × (List Coin)) := ((laws_markCoinS.f k x0.fCoins x1).bind fun t4908 => some (t4908.1, t4908.2))
theorem laws_markCoinsResult.calls {k : Nat} {x0 : CoinsResult} {x1 : Int} {p0_0 : Value} {w wo : World} {X : List Nat} (hwo : Olds wo w X) (hX : Hold w [own kCoin 72 p0_0 x0.fCoins] X) (hXn : X.Nodup) (hXl : ∀ b ∈ X, b < w.heap.size)  {r : Int × (List Coin)} (H : laws_markCoinsResult.f k x0 x1 = some r) :
    Calls Try.prog 45 ([.agg #[(.int .i64 x0.fCode), p0_0], .int .i64 x1] : List Value).toArray w (fun e w_ => ∃ v, e = .returned v ∧ v = (.int .i64 r.1) ∧ Mem w X w_ [own kCoin 72 p0_0 r.2]) := by
  have HM := Mem.startX hX hXn hXl
  refine calls_run (N := 10) Try.func45 rfl rfl rfl rfl ?_
  unfold laws_markCoinsResult.f at H
  refine run_seq ?_
  refine run_region rfl ?_
  refine ops_does rfl (guard_none rfl) rfl rfl (does_box (cs := [.int .i64 x0.fCode, p0_0]) rfl rfl rfl HM) ?_
  rintro _ w4907 ⟨b4904, rfl, HM⟩
  refine ops_ex rfl (guard_none rfl) rfl rfl (ex_assign rfl rfl) ?_
  refine ops_nil ?_
  refine at_then ?_
  refine run_seq ?_
  obtain ⟨t4908, h4909, H⟩ := bind_some H
  refine run_region rfl ?_
  refine ops_ex rfl (guard_none rfl) rfl rfl (ex_fieldAddr (off' := 1) rfl rfl Try.underlying64 rfl tsz60 rfl) ?_
  refine ops_ex rfl (guard_none rfl) rfl rfl (ex_load1 rfl rfl Try.underlying60 rfl ((HM.box_at 0 rfl) 1 _ rfl)) ?_
  refine ops_ex rfl (guard_none rfl) rfl rfl (ex_move rfl rfl) ?_
  replace HM := HM.front 1 rfl rfl
  obtain ⟨F4910, hF4911, hFn4912, hFl4913, HMh4914, hcl4915⟩ := HM.hide (Ms := [own kCoin 72 p0_0 x0.fCoins])
  refine ops_does rfl (guard_none rfl) rfl rfl (does_callk rfl callok43 rfl (laws_markCoinS.calls (x0 := x0.fCoins) (x1 := x1) (hide_olds _ _) hF4911 hFn4912 hFl4913 h4909)) ?_
  rintro _ w4916 ⟨rfl, hn⟩
  replace HM : Mem w X w4916 [own kCoin 72 p0_0 t4908.2, box b4904 64 [.int .i64 x0.fCode, p0_0]] := hcl4915 _ _ hn
  refine ops_ex rfl (guard_none rfl) rfl rfl (ex_assign rfl rfl) ?_
  refine ops_nil ?_
  refine at_then ?_
  refine run_seq ?_
  refine run_region rfl ?_
  refine ops_ex rfl (guard_none rfl) rfl rfl (ex_move rfl rfl) ?_
  refine ops_ex rfl (guard_none rfl) rfl rfl (ex_assign rfl rfl) ?_
  refine ops_nil ?_
  refine at_then ?_
  refine run_ret ?_
  replace HM := (HM.front 1 rfl rfl).drop
  have hR := Option.some.inj H
  subst hR
  exact at_ret1 rfl rfl ⟨_, rfl, rfl, HM⟩

def laws_heldInt64S.l0 (x0 : List Int) : Nat → Int → Int → Option (Int ⊕ Int)
  | 0, _, _ => none
  | k + 1, a5001, a5002 => (bif (decide (a5002 < (x0.length : Int))) then (chk (idxOk a5002 x0.length) (bif ((gt x0 a5002) != a5001) then some (.inl (-1)) else laws_heldInt64S.l0 x0 k (wrap64 (a5001 + 1)) (wrap64 (a5002 + 1)))) else some (.inr a5001))
theorem laws_heldInt64S.l0_z (x0 : List Int) (a5001 : Int) (a5002 : Int) : laws_heldInt64S.l0 x0 0 a5001 a5002 = none := rfl
theorem laws_heldInt64S.l0_s (x0 : List Int) (k : Nat) (a5001 : Int) (a5002 : Int) : laws_heldInt64S.l0 x0 (k + 1) a5001 a5002 = (bif (decide (a5002 < (x0.length : Int))) then (chk (idxOk a5002 x0.length) (bif ((gt x0 a5002) != a5001) then some (.inl (-1)) else laws_heldInt64S.l0 x0 k (wrap64 (a5001 + 1)) (wrap64 (a5002 + 1)))) else some (.inr a5001)) := rfl
def laws_heldInt64S.f (k : Nat) (x0 : List Int) (x1 : Int) : Option Int := ((laws_heldInt64S.l0 x0 k x1 0).bind fun o4995 => thn o4995 (fun r => some r) (fun a4994 => some a4994))
theorem laws_heldInt64S.calls {k : Nat} {x0 : List Int} {x1 : Int} {p0 : Value} {w : World} (hp0 : RdS kInt w p0 x0) {r : Int} (H : laws_heldInt64S.f k x0 x1 = some r) :
    Calls Try.prog 147 ([p0, .int .i64 x1] : List Value).toArray w (fun e w_ => ∃ v, e = .returned v ∧ v = (.int .i64 r) ∧ Mem w [] w_ []) := by
  have HM := Mem.start w
  refine calls_run (N := 21) Try.func147 rfl rfl rfl rfl ?_
  unfold laws_heldInt64S.f at H
  refine run_seq ?_
  refine run_region rfl ?_
  refine ops_ex rfl (guard_none rfl) rfl rfl (ex_assign rfl rfl) ?_
  refine ops_nil ?_
  refine at_then ?_
  obtain ⟨o4995, ho4996, H⟩ := bind_some H
  refine run_mid (fun ρ_ w_ => ∃ a4994 : Int, Sum.inr a4994 = o4995 ∧ ρ_ = [(1, .int .i64 a4994)] ∧ Mem w [] w_ []) ?_ ?_
  · skip
    refine run_seq ?_
    refine run_region rfl ?_
    refine ops_ex rfl (guard_none rfl) rfl rfl (ex_assign rfl rfl) ?_
    refine ops_nil ?_
    refine at_then ?_
    refine run_block ?_
    refine run_loop (fun k_ ρ_ w_ => ∃ a5001 : Int, ∃ a5002 : Int, laws_heldInt64S.l0 x0 k_ a5001 a5002 = some o4995 ∧ ρ_ = [(0, p0), (1, .int .i64 a5001), (5, .int .i64 a5002)] ∧ Mem w [] w_ []) k (ρ1 := [(0, p0), (1, .int .i64 x1), (5, .int .i64 0)]) ⟨_, _, ho4996, rfl, HM⟩ (Sub.cons rfl (Sub.cons rfl (Sub.cons rfl Sub.nil))) ?_
    clear HM ho4996
    rintro k5007 _ w5008 ⟨a5001, a5002, ho4996, rfl, HM⟩
    obtain _ | k5007 := k5007
    · exact nomatch ((laws_heldInt64S.l0_z x0 a5001 a5002).symm.trans ho4996)
    replace ho4996 := (laws_heldInt64S.l0_s x0 k5007 a5001 a5002).symm.trans ho4996
    refine run_seq ?_
    refine run_seq ?_
    refine run_region rfl ?_
    refine ops_ex rfl (guard_none rfl) rfl rfl (ex_move rfl rfl) ?_
    refine ops_ex rfl (guard_none rfl) rfl rfl (ex_move rfl rfl) ?_
    refine ops_ex rfl (guard_none rfl) rfl rfl (ex_len (d := kInt) (xs := x0) rfl rfl Try.underlying39 hp0) ?_
    refine ops_ex rfl (guard_none rfl) rfl rfl (ex_lss rfl rfl rfl) ?_
    refine ops_nil ?_
    refine at_then ?_
    refine run_cond (b := (decide (a5002 < (x0.length : Int)))) rfl (fun hb5009 => ?_) (fun hb5009 => ?_)
    · replace ho4996 := cond_t hb5009 ho4996
      refine run_skip ?_
      refine at_then ?_
      refine run_seq ?_
      refine run_block ?_
      refine run_seq ?_
      refine run_seq ?_
      obtain ⟨e5010, ho4996⟩ := chk_some ho4996
      refine run_region rfl ?_
      refine ops_ex rfl (guard_none rfl) rfl rfl (ex_move rfl rfl) ?_
      refine ops_ex rfl (guard_none rfl) rfl rfl (ex_move rfl rfl) ?_
      have hc5011 : CellsAt _ (sb p0) (so p0 + (a5002).toNat * 1) [(.int .i64 (gt x0 a5002))] := rd_plain hp0 e5010
      refine ops_ex rfl (guard_none rfl) rfl rfl (ex_indexAddr (d := kInt) rfl rfl rfl Try.underlying39 tsz2 hp0 (idx_lo e5010) (idx_hi e5010)) ?_
      refine ops_ex rfl (guard_none rfl) rfl rfl (ex_load1 rfl rfl Try.underlying2 rfl ((HM.at_ hc5011) 0 _ rfl)) ?_
      refine ops_ex rfl (guard_none rfl) rfl rfl (ex_move rfl rfl) ?_
      refine ops_ex rfl (guard_none rfl) rfl rfl (ex_neq rfl rfl rfl) ?_
      refine ops_nil ?_
      refine at_then ?_
      refine run_cond (b := ((gt x0 a5002) != a5001)) rfl (fun hb5012 => ?_) (fun hb5012 => ?_)
      · replace ho4996 := cond_t hb5012 ho4996
        refine run_seq ?_
        refine run_region rfl ?_
        refine ops_ex rfl (guard_none rfl) rfl rfl (ex_assign rfl rfl) ?_
        refine ops_nil ?_
        refine at_then ?_
        refine run_ret ?_
        refine at_then_ret ?_
        refine at_block_ret ?_
        refine at_then_ret ?_
        refine at_then_ret ?_
        refine at_block_ret ?_
        refine at_then_ret ?_
        have hR := Option.some.inj ho4996
        subst hR
        have hT := thn_inl H
        have hR := Option.some.inj hT
        subst hR
        exact at_ret1 rfl rfl ⟨_, rfl, rfl, HM⟩
      · replace ho4996 := cond_f hb5012 ho4996
        refine run_skip ?_
        refine at_then ?_
        refine run_region rfl ?_
        refine ops_ex rfl (guard_none rfl) rfl rfl (ex_move rfl rfl) ?_
        refine ops_ex rfl (guard_none rfl) rfl rfl (ex_add rfl rfl rfl) ?_
        refine ops_ex rfl (guard_none rfl) rfl rfl (ex_assign rfl rfl) ?_
        refine ops_nil ?_
        refine at_block ?_
        refine at_then ?_
        refine run_region rfl ?_
        refine ops_ex rfl (guard_none rfl) rfl rfl (ex_move rfl rfl) ?_
        refine ops_ex rfl (guard_none rfl) rfl rfl (ex_add rfl rfl rfl) ?_
        refine ops_ex rfl (guard_none rfl) rfl rfl (ex_assign rfl rfl) ?_
        refine ops_nil ?_
        exact at_again k5007 (ρ1 := [(0, p0), (1, .int .i64 (wrap64 (a5001 + 1))), (5, .int .i64 (wrap64 (a5002 + 1)))]) (Nat.lt_succ_self _) ⟨_, _, ho4996, rfl, HM⟩ (Sub.cons rfl (Sub.cons rfl (Sub.cons rfl Sub.nil)))
    · replace ho4996 := cond_f hb5009 ho4996
      refine run_exit ?_
      refine at_then_exit ?_
      refine at_then_exit ?_
      refine at_block_exit ?_
      exact at_mid (ρ' := [(1, .int .i64 a5001)]) ⟨_, (Option.some.inj ho4996), rfl, HM⟩ (Sub.cons rfl Sub.nil)
  · rintro _ w5013 ⟨a4994, rfl, rfl, HM⟩
    replace H := (thn_inr H)
    refine run_seq ?_
    refine run_region rfl ?_
    refine ops_ex rfl (guard_none rfl) rfl rfl (ex_move rfl rfl) ?_
    refine ops_ex rfl (guard_none rfl) rfl rfl (ex_assign rfl rfl) ?_
    refine ops_nil ?_
    refine at_then ?_
    refine run_ret ?_
    have hR := Option.some.inj H
    subst hR
    exact at_ret1 rfl rfl ⟨_, rfl, rfl, HM⟩

def laws_heldCoinS.l0 (x0 : List Coin) : Nat → Int → Int → Option (Int ⊕ Int)
  | 0, _, _ => none
  | k + 1, a5514, a5515 => (bif (decide (a5515 < (x0.length : Int))) then (chk (idxOk a5515 x0.length) (bif (((gt x0 a5515).fRef.fTx) != a5514) then some (.inl (-1)) else (chk (idxOk a5515 x0.length) (bif (((gt x0 a5515).fRef.fAt) != (wrap64 (a5514 + 1))) then some (.inl (-1)) else (chk (idxOk a5515 x0.length) (bif (((gt x0 a5515).fOut.fValue) != (wrap64 ((wrap64 (a5514 + 1)) + 1))) then some (.inl (-1)) else (chk (idxOk a5515 x0.length) ((laws_heldInt64S.f k ((gt x0 a5515).fOut.fRule.fKeys) (wrap64 ((wrap64 ((wrap64 (a5514 + 1)) + 1)) + 1))).bind fun t5628 => (bif (decide (t5628 < 0)) then some (.inl (-1)) else (chk (idxOk a5515 x0.length) (bif (((gt x0 a5515).fOut.fRule.fNeed) != t5628) then some (.inl (-1)) else (chk (idxOk a5515 x0.length) (bif (((gt x0 a5515).fOut.fRule.fAfter) != (wrap64 (t5628 + 1))) then some (.inl (-1)) else (chk (idxOk a5515 x0.length) (bif (((gt x0 a5515).fHeight) != (wrap64 ((wrap64 (t5628 + 1)) + 1))) then some (.inl (-1)) else (chk (idxOk a5515 x0.length) (chk ((3 : Int) != 0) (bif (((gt x0 a5515).fMined) != ((Int.tmod (wrap64 ((wrap64 ((wrap64 (t5628 + 1)) + 1)) + 1)) (3 : Int)) == 0)) then some (.inl (-1)) else laws_heldCoinS.l0 x0 k (wrap64 ((wrap64 ((wrap64 ((wrap64 (t5628 + 1)) + 1)) + 1)) + 1)) (wrap64 (a5515 + 1)))))))))))))))))))) else some (.inr a5514))
theorem laws_heldCoinS.l0_z (x0 : List Coin) (a5514 : Int) (a5515 : Int) : laws_heldCoinS.l0 x0 0 a5514 a5515 = none := rfl
theorem laws_heldCoinS.l0_s (x0 : List Coin) (k : Nat) (a5514 : Int) (a5515 : Int) : laws_heldCoinS.l0 x0 (k + 1) a5514 a5515 = (bif (decide (a5515 < (x0.length : Int))) then (chk (idxOk a5515 x0.length) (bif (((gt x0 a5515).fRef.fTx) != a5514) then some (.inl (-1)) else (chk (idxOk a5515 x0.length) (bif (((gt x0 a5515).fRef.fAt) != (wrap64 (a5514 + 1))) then some (.inl (-1)) else (chk (idxOk a5515 x0.length) (bif (((gt x0 a5515).fOut.fValue) != (wrap64 ((wrap64 (a5514 + 1)) + 1))) then some (.inl (-1)) else (chk (idxOk a5515 x0.length) ((laws_heldInt64S.f k ((gt x0 a5515).fOut.fRule.fKeys) (wrap64 ((wrap64 ((wrap64 (a5514 + 1)) + 1)) + 1))).bind fun t5628 => (bif (decide (t5628 < 0)) then some (.inl (-1)) else (chk (idxOk a5515 x0.length) (bif (((gt x0 a5515).fOut.fRule.fNeed) != t5628) then some (.inl (-1)) else (chk (idxOk a5515 x0.length) (bif (((gt x0 a5515).fOut.fRule.fAfter) != (wrap64 (t5628 + 1))) then some (.inl (-1)) else (chk (idxOk a5515 x0.length) (bif (((gt x0 a5515).fHeight) != (wrap64 ((wrap64 (t5628 + 1)) + 1))) then some (.inl (-1)) else (chk (idxOk a5515 x0.length) (chk ((3 : Int) != 0) (bif (((gt x0 a5515).fMined) != ((Int.tmod (wrap64 ((wrap64 ((wrap64 (t5628 + 1)) + 1)) + 1)) (3 : Int)) == 0)) then some (.inl (-1)) else laws_heldCoinS.l0 x0 k (wrap64 ((wrap64 ((wrap64 ((wrap64 (t5628 + 1)) + 1)) + 1)) + 1)) (wrap64 (a5515 + 1)))))))))))))))))))) else some (.inr a5514)) := rfl
def laws_heldCoinS.f (k : Nat) (x0 : List Coin) (x1 : Int) : Option Int := ((laws_heldCoinS.l0 x0 k x1 0).bind fun o5437 => thn o5437 (fun r => some r) (fun a5436 => some a5436))
theorem laws_heldCoinS.calls {k : Nat} {x0 : List Coin} {x1 : Int} {p0 : Value} {w : World} (hp0 : RdS kCoin w p0 x0) {r : Int} (H : laws_heldCoinS.f k x0 x1 = some r) :
    Calls Try.prog 102 ([p0, .int .i64 x1] : List Value).toArray w (fun e w_ => ∃ v, e = .returned v ∧ v = (.int .i64 r) ∧ Mem w [] w_ []) := by
  have HM := Mem.start w
  refine calls_run (N := 96) Try.func102 rfl rfl rfl rfl ?_
  unfold laws_heldCoinS.f at H
  refine run_seq ?_
  refine run_region rfl ?_
  refine ops_ex rfl (guard_none rfl) rfl rfl (ex_assign rfl rfl) ?_
  refine ops_nil ?_
  refine at_then ?_
  obtain ⟨o5437, ho5438, H⟩ := bind_some H
  refine run_mid (fun ρ_ w_ => ∃ a5436 : Int, Sum.inr a5436 = o5437 ∧ ρ_ = [(1, .int .i64 a5436)] ∧ Mem w [] w_ []) ?_ ?_
  · skip
    refine run_seq ?_
    refine run_region rfl ?_
    refine ops_ex rfl (guard_none rfl) rfl rfl (ex_assign rfl rfl) ?_
    refine ops_nil ?_
    refine at_then ?_
    refine run_block ?_
    refine run_loop (fun k_ ρ_ w_ => ∃ a5514 : Int, ∃ a5515 : Int, laws_heldCoinS.l0 x0 k_ a5514 a5515 = some o5437 ∧ ρ_ = [(0, p0), (1, .int .i64 a5514), (5, .int .i64 a5515)] ∧ Mem w [] w_ []) k (ρ1 := [(0, p0), (1, .int .i64 x1), (5, .int .i64 0)]) ⟨_, _, ho5438, rfl, HM⟩ (Sub.cons rfl (Sub.cons rfl (Sub.cons rfl Sub.nil))) ?_
    clear HM ho5438
    rintro k5591 _ w5592 ⟨a5514, a5515, ho5438, rfl, HM⟩
    obtain _ | k5591 := k5591
    · exact nomatch ((laws_heldCoinS.l0_z x0 a5514 a5515).symm.trans ho5438)
    replace ho5438 := (laws_heldCoinS.l0_s x0 k5591 a5514 a5515).symm.trans ho5438
    refine run_seq ?_
    refine run_seq ?_
    refine run_region rfl ?_
    refine ops_ex rfl (guard_none rfl) rfl rfl (ex_move rfl rfl) ?_
    refine ops_ex rfl (guard_none rfl) rfl rfl (ex_move rfl rfl) ?_
    refine ops_ex rfl (guard_none rfl) rfl rfl (ex_len (d := kCoin) (xs := x0) rfl rfl Try.underlying60 hp0) ?_
    refine ops_ex rfl (guard_none rfl) rfl rfl (ex_lss rfl rfl rfl) ?_
    refine ops_nil ?_
    refine at_then ?_
    refine run_cond (b := (decide (a5515 < (x0.length : Int)))) rfl (fun hb5593 => ?_) (fun hb5593 => ?_)
    · replace ho5438 := cond_t hb5593 ho5438
      refine run_skip ?_
      refine at_then ?_
      refine run_seq ?_
      refine run_block ?_
      refine run_seq ?_
      refine run_seq ?_
      obtain ⟨e5599, ho5438⟩ := chk_some ho5438
      refine run_region rfl ?_
      refine ops_ex rfl (guard_none rfl) rfl rfl (ex_move rfl rfl) ?_
      refine ops_ex rfl (guard_none rfl) rfl rfl (ex_move rfl rfl) ?_
      obtain ⟨kv5601, hc5600, hk5602⟩ : ∃ u, CellsAt _ (sb p0) (so p0 + (a5515).toNat * 8) [(.int .i64 ((gt x0 a5515).fRef.fTx)), (.int .i64 ((gt x0 a5515).fRef.fAt)), (.int .i64 ((gt x0 a5515).fOut.fValue)), u, (.int .i64 ((gt x0 a5515).fOut.fRule.fNeed)), (.int .i64 ((gt x0 a5515).fOut.fRule.fAfter)), (.int .i64 ((gt x0 a5515).fHeight)), (.bool ((gt x0 a5515).fMined))] ∧ RdS kInt _ u ((gt x0 a5515).fOut.fRule.fKeys) := rd_with1 hp0 e5599
      refine ops_ex rfl (guard_none rfl) rfl rfl (ex_indexAddr (d := kCoin) rfl rfl rfl Try.underlying60 tsz72 hp0 (idx_lo e5599) (idx_hi e5599)) ?_
      refine ops_ex rfl (guard_none rfl) rfl rfl (ex_fieldAddr (off' := so p0 + (a5515).toNat * 8) rfl rfl Try.underlying72 rfl tsz36 rfl) ?_
      refine ops_ex rfl (guard_none rfl) rfl rfl (ex_fieldAddr (off' := so p0 + (a5515).toNat * 8) rfl rfl Try.underlying36 rfl tsz2 rfl) ?_
      refine ops_ex rfl (guard_none rfl) rfl rfl (ex_load1 rfl rfl Try.underlying2 rfl ((HM.at_ hc5600) 0 _ rfl)) ?_
      refine ops_ex rfl (guard_none rfl) rfl rfl (ex_move rfl rfl) ?_
      refine ops_ex rfl (guard_none rfl) rfl rfl (ex_neq rfl rfl rfl) ?_
      refine ops_nil ?_
      refine at_then ?_
      refine run_cond (b := (((gt x0 a5515).fRef.fTx) != a5514)) rfl (fun hb5603 => ?_) (fun hb5603 => ?_)
      · replace ho5438 := cond_t hb5603 ho5438
        refine run_seq ?_
        refine run_region rfl ?_
        refine ops_ex rfl (guard_none rfl) rfl rfl (ex_assign rfl rfl) ?_
        refine ops_nil ?_
        refine at_then ?_
        refine run_ret ?_
        refine at_then_ret ?_
        refine at_block_ret ?_
        refine at_then_ret ?_
        refine at_then_ret ?_
        refine at_block_ret ?_
        refine at_then_ret ?_
        have hR := Option.some.inj ho5438
        subst hR
        have hT := thn_inl H
        have hR := Option.some.inj hT
        subst hR
        exact at_ret1 rfl rfl ⟨_, rfl, rfl, HM⟩
      · replace ho5438 := cond_f hb5603 ho5438
        refine run_skip ?_
        refine at_then ?_
        refine run_seq ?_
        refine run_region rfl ?_
        refine ops_ex rfl (guard_none rfl) rfl rfl (ex_move rfl rfl) ?_
        refine ops_ex rfl (guard_none rfl) rfl rfl (ex_add rfl rfl rfl) ?_
        refine ops_ex rfl (guard_none rfl) rfl rfl (ex_assign rfl rfl) ?_
        refine ops_nil ?_
        refine at_then ?_
        refine run_seq ?_
        refine run_seq ?_
        obtain ⟨e5609, ho5438⟩ := chk_some ho5438
        refine run_region rfl ?_
        refine ops_ex rfl (guard_none rfl) rfl rfl (ex_move rfl rfl) ?_
        refine ops_ex rfl (guard_none rfl) rfl rfl (ex_move rfl rfl) ?_
        obtain ⟨kv5611, hc5610, hk5612⟩ : ∃ u, CellsAt _ (sb p0) (so p0 + (a5515).toNat * 8) [(.int .i64 ((gt x0 a5515).fRef.fTx)), (.int .i64 ((gt x0 a5515).fRef.fAt)), (.int .i64 ((gt x0 a5515).fOut.fValue)), u, (.int .i64 ((gt x0 a5515).fOut.fRule.fNeed)), (.int .i64 ((gt x0 a5515).fOut.fRule.fAfter)), (.int .i64 ((gt x0 a5515).fHeight)), (.bool ((gt x0 a5515).fMined))] ∧ RdS kInt _ u ((gt x0 a5515).fOut.fRule.fKeys) := rd_with1 hp0 e5609
        refine ops_ex rfl (guard_none rfl) rfl rfl (ex_indexAddr (d := kCoin) rfl rfl rfl Try.underlying60 tsz72 hp0 (idx_lo e5609) (idx_hi e5609)) ?_
        refine ops_ex rfl (guard_none rfl) rfl rfl (ex_fieldAddr (off' := so p0 + (a5515).toNat * 8) rfl rfl Try.underlying72 rfl tsz36 rfl) ?_
        refine ops_ex rfl (guard_none rfl) rfl rfl (ex_fieldAddr (off' := so p0 + (a5515).toNat * 8 + 1) rfl rfl Try.underlying36 rfl tsz2 rfl) ?_
        refine ops_ex rfl (guard_none rfl) rfl rfl (ex_load1 rfl rfl Try.underlying2 rfl ((HM.at_ hc5610) 1 _ rfl)) ?_
        refine ops_ex rfl (guard_none rfl) rfl rfl (ex_move rfl rfl) ?_
        refine ops_ex rfl (guard_none rfl) rfl rfl (ex_neq rfl rfl rfl) ?_
        refine ops_nil ?_
        refine at_then ?_
        refine run_cond (b := (((gt x0 a5515).fRef.fAt) != (wrap64 (a5514 + 1)))) rfl (fun hb5613 => ?_) (fun hb5613 => ?_)
        · replace ho5438 := cond_t hb5613 ho5438
          refine run_seq ?_
          refine run_region rfl ?_
          refine ops_ex rfl (guard_none rfl) rfl rfl (ex_assign rfl rfl) ?_
          refine ops_nil ?_
          refine at_then ?_
          refine run_ret ?_
          refine at_then_ret ?_
          refine at_block_ret ?_
          refine at_then_ret ?_
          refine at_then_ret ?_
          refine at_block_ret ?_
          refine at_then_ret ?_
          have hR := Option.some.inj ho5438
          subst hR
          have hT := thn_inl H
          have hR := Option.some.inj hT
          subst hR
          exact at_ret1 rfl rfl ⟨_, rfl, rfl, HM⟩
        · replace ho5438 := cond_f hb5613 ho5438
          refine run_skip ?_
          refine at_then ?_
          refine run_seq ?_
          refine run_region rfl ?_
          refine ops_ex rfl (guard_none rfl) rfl rfl (ex_move rfl rfl) ?_
          refine ops_ex rfl (guard_none rfl) rfl rfl (ex_add rfl rfl rfl) ?_
          refine ops_ex rfl (guard_none rfl) rfl rfl (ex_assign rfl rfl) ?_
          refine ops_nil ?_
          refine at_then ?_
          refine run_seq ?_
          refine run_seq ?_
          obtain ⟨e5619, ho5438⟩ := chk_some ho5438
          refine run_region rfl ?_
          refine ops_ex rfl (guard_none rfl) rfl rfl (ex_move rfl rfl) ?_
          refine ops_ex rfl (guard_none rfl) rfl rfl (ex_move rfl rfl) ?_
          obtain ⟨kv5621, hc5620, hk5622⟩ : ∃ u, CellsAt _ (sb p0) (so p0 + (a5515).toNat * 8) [(.int .i64 ((gt x0 a5515).fRef.fTx)), (.int .i64 ((gt x0 a5515).fRef.fAt)), (.int .i64 ((gt x0 a5515).fOut.fValue)), u, (.int .i64 ((gt x0 a5515).fOut.fRule.fNeed)), (.int .i64 ((gt x0 a5515).fOut.fRule.fAfter)), (.int .i64 ((gt x0 a5515).fHeight)), (.bool ((gt x0 a5515).fMined))] ∧ RdS kInt _ u ((gt x0 a5515).fOut.fRule.fKeys) := rd_with1 hp0 e5619
          refine ops_ex rfl (guard_none rfl) rfl rfl (ex_indexAddr (d := kCoin) rfl rfl rfl Try.underlying60 tsz72 hp0 (idx_lo e5619) (idx_hi e5619)) ?_
          refine ops_ex rfl (guard_none rfl) rfl rfl (ex_fieldAddr (off' := so p0 + (a5515).toNat * 8 + 2) rfl rfl Try.underlying72 rfl tsz69 rfl) ?_
          refine ops_ex rfl (guard_none rfl) rfl rfl (ex_fieldAddr (off' := so p0 + (a5515).toNat * 8 + 2) rfl rfl Try.underlying69 rfl tsz2 rfl) ?_
          refine ops_ex rfl (guard_none rfl) rfl rfl (ex_load1 rfl rfl Try.underlying2 rfl ((HM.at_ hc5620) 2 _ rfl)) ?_
          refine ops_ex rfl (guard_none rfl) rfl rfl (ex_move rfl rfl) ?_
          refine ops_ex rfl (guard_none rfl) rfl rfl (ex_neq rfl rfl rfl) ?_
          refine ops_nil ?_
          refine at_then ?_
          refine run_cond (b := (((gt x0 a5515).fOut.fValue) != (wrap64 ((wrap64 (a5514 + 1)) + 1)))) rfl (fun hb5623 => ?_) (fun hb5623 => ?_)
          · replace ho5438 := cond_t hb5623 ho5438
            refine run_seq ?_
            refine run_region rfl ?_
            refine ops_ex rfl (guard_none rfl) rfl rfl (ex_assign rfl rfl) ?_
            refine ops_nil ?_
            refine at_then ?_
            refine run_ret ?_
            refine at_then_ret ?_
            refine at_block_ret ?_
            refine at_then_ret ?_
            refine at_then_ret ?_
            refine at_block_ret ?_
            refine at_then_ret ?_
            have hR := Option.some.inj ho5438
            subst hR
            have hT := thn_inl H
            have hR := Option.some.inj hT
            subst hR
            exact at_ret1 rfl rfl ⟨_, rfl, rfl, HM⟩
          · replace ho5438 := cond_f hb5623 ho5438
            refine run_skip ?_
            refine at_then ?_
            refine run_seq ?_
            refine run_region rfl ?_
            refine ops_ex rfl (guard_none rfl) rfl rfl (ex_move rfl rfl) ?_
            refine ops_ex rfl (guard_none rfl) rfl rfl (ex_add rfl rfl rfl) ?_
            refine ops_ex rfl (guard_none rfl) rfl rfl (ex_assign rfl rfl) ?_
            refine ops_nil ?_
            refine at_then ?_
            refine run_seq ?_
            obtain ⟨e5624, ho5438⟩ := chk_some ho5438
            obtain ⟨t5628, h5629, ho5438⟩ := bind_some ho5438
            refine run_region rfl ?_
            refine ops_ex rfl (guard_none rfl) rfl rfl (ex_move rfl rfl) ?_
            refine ops_ex rfl (guard_none rfl) rfl rfl (ex_move rfl rfl) ?_
            obtain ⟨kv5626, hc5625, hk5627⟩ : ∃ u, CellsAt _ (sb p0) (so p0 + (a5515).toNat * 8) [(.int .i64 ((gt x0 a5515).fRef.fTx)), (.int .i64 ((gt x0 a5515).fRef.fAt)), (.int .i64 ((gt x0 a5515).fOut.fValue)), u, (.int .i64 ((gt x0 a5515).fOut.fRule.fNeed)), (.int .i64 ((gt x0 a5515).fOut.fRule.fAfter)), (.int .i64 ((gt x0 a5515).fHeight)), (.bool ((gt x0 a5515).fMined))] ∧ RdS kInt _ u ((gt x0 a5515).fOut.fRule.fKeys) := rd_with1 hp0 e5624
            refine ops_ex rfl (guard_none rfl) rfl rfl (ex_indexAddr (d := kCoin) rfl rfl rfl Try.underlying60 tsz72 hp0 (idx_lo e5624) (idx_hi e5624)) ?_
            refine ops_ex rfl (guard_none rfl) rfl rfl (ex_fieldAddr (off' := so p0 + (a5515).toNat * 8 + 2) rfl rfl Try.underlying72 rfl tsz69 rfl) ?_
            refine ops_ex rfl (guard_none rfl) rfl rfl (ex_fieldAddr (off' := so p0 + (a5515).toNat * 8 + 3) rfl rfl Try.underlying69 rfl tsz67 rfl) ?_
            refine ops_ex rfl (guard_none rfl) rfl rfl (ex_fieldAddr (off' := so p0 + (a5515).toNat * 8 + 3) rfl rfl Try.underlying67 rfl tsz39 rfl) ?_
            refine ops_ex rfl (guard_none rfl) rfl rfl (ex_load1 rfl rfl Try.underlying39 rfl ((HM.at_ hc5625) 3 _ rfl)) ?_
            refine ops_ex rfl (guard_none rfl) rfl rfl (ex_move rfl rfl) ?_
            refine ops_does rfl (guard_none rfl) rfl rfl (does_callk rfl callok147 rfl (laws_heldInt64S.calls (x0 := (gt x0 a5515).fOut.fRule.fKeys) (x1 := wrap64 ((wrap64 ((wrap64 (a5514 + 1)) + 1)) + 1)) (HM.rd hk5627) h5629)) ?_
            rintro _ w5630 ⟨rfl, hn⟩
            replace HM : Mem w [] w5630 [] := HM.call hn
            refine ops_ex rfl (guard_none rfl) rfl rfl (ex_assign rfl rfl) ?_
            refine ops_nil ?_
            refine at_then ?_
            refine run_seq ?_
            refine run_seq ?_
            refine run_region rfl ?_
            refine ops_ex rfl (guard_none rfl) rfl rfl (ex_move rfl rfl) ?_
            refine ops_ex rfl (guard_none rfl) rfl rfl (ex_lss rfl rfl rfl) ?_
            refine ops_nil ?_
            refine at_then ?_
            refine run_cond (b := (decide (t5628 < 0))) rfl (fun hb5632 => ?_) (fun hb5632 => ?_)
            · replace ho5438 := cond_t hb5632 ho5438
              refine run_seq ?_
              refine run_region rfl ?_
              refine ops_ex rfl (guard_none rfl) rfl rfl (ex_assign rfl rfl) ?_
              refine ops_nil ?_
              refine at_then ?_
              refine run_ret ?_
              refine at_then_ret ?_
              refine at_block_ret ?_
              refine at_then_ret ?_
              refine at_then_ret ?_
              refine at_block_ret ?_
              refine at_then_ret ?_
              have hR := Option.some.inj ho5438
              subst hR
              have hT := thn_inl H
              have hR := Option.some.inj hT
              subst hR
              exact at_ret1 rfl rfl ⟨_, rfl, rfl, HM⟩
            · replace ho5438 := cond_f hb5632 ho5438
              refine run_skip ?_
              refine at_then ?_
              refine run_seq ?_
              refine run_seq ?_
              obtain ⟨e5638, ho5438⟩ := chk_some ho5438
              refine run_region rfl ?_
              refine ops_ex rfl (guard_none rfl) rfl rfl (ex_move rfl rfl) ?_
              refine ops_ex rfl (guard_none rfl) rfl rfl (ex_move rfl rfl) ?_
              obtain ⟨kv5640, hc5639, hk5641⟩ : ∃ u, CellsAt _ (sb p0) (so p0 + (a5515).toNat * 8) [(.int .i64 ((gt x0 a5515).fRef.fTx)), (.int .i64 ((gt x0 a5515).fRef.fAt)), (.int .i64 ((gt x0 a5515).fOut.fValue)), u, (.int .i64 ((gt x0 a5515).fOut.fRule.fNeed)), (.int .i64 ((gt x0 a5515).fOut.fRule.fAfter)), (.int .i64 ((gt x0 a5515).fHeight)), (.bool ((gt x0 a5515).fMined))] ∧ RdS kInt _ u ((gt x0 a5515).fOut.fRule.fKeys) := rd_with1 hp0 e5638
              refine ops_ex rfl (guard_none rfl) rfl rfl (ex_indexAddr (d := kCoin) rfl rfl rfl Try.underlying60 tsz72 hp0 (idx_lo e5638) (idx_hi e5638)) ?_
              refine ops_ex rfl (guard_none rfl) rfl rfl (ex_fieldAddr (off' := so p0 + (a5515).toNat * 8 + 2) rfl rfl Try.underlying72 rfl tsz69 rfl) ?_
              refine ops_ex rfl (guard_none rfl) rfl rfl (ex_fieldAddr (off' := so p0 + (a5515).toNat * 8 + 3) rfl rfl Try.underlying69 rfl tsz67 rfl) ?_
              refine ops_ex rfl (guard_none rfl) rfl rfl (ex_fieldAddr (off' := so p0 + (a5515).toNat * 8 + 4) rfl rfl Try.underlying67 rfl tsz2 rfl) ?_
              refine ops_ex rfl (guard_none rfl) rfl rfl (ex_load1 rfl rfl Try.underlying2 rfl ((HM.at_ hc5639) 4 _ rfl)) ?_
              refine ops_ex rfl (guard_none rfl) rfl rfl (ex_move rfl rfl) ?_
              refine ops_ex rfl (guard_none rfl) rfl rfl (ex_neq rfl rfl rfl) ?_
              refine ops_nil ?_
              refine at_then ?_
              refine run_cond (b := (((gt x0 a5515).fOut.fRule.fNeed) != t5628)) rfl (fun hb5642 => ?_) (fun hb5642 => ?_)
              · replace ho5438 := cond_t hb5642 ho5438
                refine run_seq ?_
                refine run_region rfl ?_
                refine ops_ex rfl (guard_none rfl) rfl rfl (ex_assign rfl rfl) ?_
                refine ops_nil ?_
                refine at_then ?_
                refine run_ret ?_
                refine at_then_ret ?_
                refine at_block_ret ?_
                refine at_then_ret ?_
                refine at_then_ret ?_
                refine at_block_ret ?_
                refine at_then_ret ?_
                have hR := Option.some.inj ho5438
                subst hR
                have hT := thn_inl H
                have hR := Option.some.inj hT
                subst hR
                exact at_ret1 rfl rfl ⟨_, rfl, rfl, HM⟩
              · replace ho5438 := cond_f hb5642 ho5438
                refine run_skip ?_
                refine at_then ?_
                refine run_seq ?_
                refine run_region rfl ?_
                refine ops_ex rfl (guard_none rfl) rfl rfl (ex_move rfl rfl) ?_
                refine ops_ex rfl (guard_none rfl) rfl rfl (ex_add rfl rfl rfl) ?_
                refine ops_ex rfl (guard_none rfl) rfl rfl (ex_assign rfl rfl) ?_
                refine ops_nil ?_
                refine at_then ?_
                refine run_seq ?_
                refine run_seq ?_
                obtain ⟨e5648, ho5438⟩ := chk_some ho5438
                refine run_region rfl ?_
                refine ops_ex rfl (guard_none rfl) rfl rfl (ex_move rfl rfl) ?_
                refine ops_ex rfl (guard_none rfl) rfl rfl (ex_move rfl rfl) ?_
                obtain ⟨kv5650, hc5649, hk5651⟩ : ∃ u, CellsAt _ (sb p0) (so p0 + (a5515).toNat * 8) [(.int .i64 ((gt x0 a5515).fRef.fTx)), (.int .i64 ((gt x0 a5515).fRef.fAt)), (.int .i64 ((gt x0 a5515).fOut.fValue)), u, (.int .i64 ((gt x0 a5515).fOut.fRule.fNeed)), (.int .i64 ((gt x0 a5515).fOut.fRule.fAfter)), (.int .i64 ((gt x0 a5515).fHeight)), (.bool ((gt x0 a5515).fMined))] ∧ RdS kInt _ u ((gt x0 a5515).fOut.fRule.fKeys) := rd_with1 hp0 e5648
                refine ops_ex rfl (guard_none rfl) rfl rfl (ex_indexAddr (d := kCoin) rfl rfl rfl Try.underlying60 tsz72 hp0 (idx_lo e5648) (idx_hi e5648)) ?_
                refine ops_ex rfl (guard_none rfl) rfl rfl (ex_fieldAddr (off' := so p0 + (a5515).toNat * 8 + 2) rfl rfl Try.underlying72 rfl tsz69 rfl) ?_
                refine ops_ex rfl (guard_none rfl) rfl rfl (ex_fieldAddr (off' := so p0 + (a5515).toNat * 8 + 3) rfl rfl Try.underlying69 rfl tsz67 rfl) ?_
                refine ops_ex rfl (guard_none rfl) rfl rfl (ex_fieldAddr (off' := so p0 + (a5515).toNat * 8 + 5) rfl rfl Try.underlying67 rfl tsz2 rfl) ?_
                refine ops_ex rfl (guard_none rfl) rfl rfl (ex_load1 rfl rfl Try.underlying2 rfl ((HM.at_ hc5649) 5 _ rfl)) ?_
                refine ops_ex rfl (guard_none rfl) rfl rfl (ex_move rfl rfl) ?_
                refine ops_ex rfl (guard_none rfl) rfl rfl (ex_neq rfl rfl rfl) ?_
                refine ops_nil ?_
                refine at_then ?_
                refine run_cond (b := (((gt x0 a5515).fOut.fRule.fAfter) != (wrap64 (t5628 + 1)))) rfl (fun hb5652 => ?_) (fun hb5652 => ?_)
                · replace ho5438 := cond_t hb5652 ho5438
                  refine run_seq ?_
                  refine run_region rfl ?_
                  refine ops_ex rfl (guard_none rfl) rfl rfl (ex_assign rfl rfl) ?_
                  refine ops_nil ?_
                  refine at_then ?_
                  refine run_ret ?_
                  refine at_then_ret ?_
                  refine at_block_ret ?_
                  refine at_then_ret ?_
                  refine at_then_ret ?_
                  refine at_block_ret ?_
                  refine at_then_ret ?_
                  have hR := Option.some.inj ho5438
                  subst hR
                  have hT := thn_inl H
                  have hR := Option.some.inj hT
                  subst hR
                  exact at_ret1 rfl rfl ⟨_, rfl, rfl, HM⟩
                · replace ho5438 := cond_f hb5652 ho5438
                  refine run_skip ?_
                  refine at_then ?_
                  refine run_seq ?_
                  refine run_region rfl ?_
                  refine ops_ex rfl (guard_none rfl) rfl rfl (ex_move rfl rfl) ?_
                  refine ops_ex rfl (guard_none rfl) rfl rfl (ex_add rfl rfl rfl) ?_
                  refine ops_ex rfl (guard_none rfl) rfl rfl (ex_assign rfl rfl) ?_
                  refine ops_nil ?_
                  refine at_then ?_
                  refine run_seq ?_
                  refine run_seq ?_
                  obtain ⟨e5658, ho5438⟩ := chk_some ho5438
                  refine run_region rfl ?_
                  refine ops_ex rfl (guard_none rfl) rfl rfl (ex_move rfl rfl) ?_
                  refine ops_ex rfl (guard_none rfl) rfl rfl (ex_move rfl rfl) ?_
                  obtain ⟨kv5660, hc5659, hk5661⟩ : ∃ u, CellsAt _ (sb p0) (so p0 + (a5515).toNat * 8) [(.int .i64 ((gt x0 a5515).fRef.fTx)), (.int .i64 ((gt x0 a5515).fRef.fAt)), (.int .i64 ((gt x0 a5515).fOut.fValue)), u, (.int .i64 ((gt x0 a5515).fOut.fRule.fNeed)), (.int .i64 ((gt x0 a5515).fOut.fRule.fAfter)), (.int .i64 ((gt x0 a5515).fHeight)), (.bool ((gt x0 a5515).fMined))] ∧ RdS kInt _ u ((gt x0 a5515).fOut.fRule.fKeys) := rd_with1 hp0 e5658
                  refine ops_ex rfl (guard_none rfl) rfl rfl (ex_indexAddr (d := kCoin) rfl rfl rfl Try.underlying60 tsz72 hp0 (idx_lo e5658) (idx_hi e5658)) ?_
                  refine ops_ex rfl (guard_none rfl) rfl rfl (ex_fieldAddr (off' := so p0 + (a5515).toNat * 8 + 6) rfl rfl Try.underlying72 rfl tsz2 rfl) ?_
                  refine ops_ex rfl (guard_none rfl) rfl rfl (ex_load1 rfl rfl Try.underlying2 rfl ((HM.at_ hc5659) 6 _ rfl)) ?_
                  refine ops_ex rfl (guard_none rfl) rfl rfl (ex_move rfl rfl) ?_
                  refine ops_ex rfl (guard_none rfl) rfl rfl (ex_neq rfl rfl rfl) ?_
                  refine ops_nil ?_
                  refine at_then ?_
                  refine run_cond (b := (((gt x0 a5515).fHeight) != (wrap64 ((wrap64 (t5628 + 1)) + 1)))) rfl (fun hb5662 => ?_) (fun hb5662 => ?_)
                  · replace ho5438 := cond_t hb5662 ho5438
                    refine run_seq ?_
                    refine run_region rfl ?_
                    refine ops_ex rfl (guard_none rfl) rfl rfl (ex_assign rfl rfl) ?_
                    refine ops_nil ?_
                    refine at_then ?_
                    refine run_ret ?_
                    refine at_then_ret ?_
                    refine at_block_ret ?_
                    refine at_then_ret ?_
                    refine at_then_ret ?_
                    refine at_block_ret ?_
                    refine at_then_ret ?_
                    have hR := Option.some.inj ho5438
                    subst hR
                    have hT := thn_inl H
                    have hR := Option.some.inj hT
                    subst hR
                    exact at_ret1 rfl rfl ⟨_, rfl, rfl, HM⟩
                  · replace ho5438 := cond_f hb5662 ho5438
                    refine run_skip ?_
                    refine at_then ?_
                    refine run_seq ?_
                    refine run_region rfl ?_
                    refine ops_ex rfl (guard_none rfl) rfl rfl (ex_move rfl rfl) ?_
                    refine ops_ex rfl (guard_none rfl) rfl rfl (ex_add rfl rfl rfl) ?_
                    refine ops_ex rfl (guard_none rfl) rfl rfl (ex_assign rfl rfl) ?_
                    refine ops_nil ?_
                    refine at_then ?_
                    refine run_seq ?_
                    refine run_seq ?_
                    obtain ⟨e5663, ho5438⟩ := chk_some ho5438
                    obtain ⟨e5667, ho5438⟩ := chk_some ho5438
                    refine run_region rfl ?_
                    refine ops_ex rfl (guard_none rfl) rfl rfl (ex_move rfl rfl) ?_
                    refine ops_ex rfl (guard_none rfl) rfl rfl (ex_move rfl rfl) ?_
                    obtain ⟨kv5665, hc5664, hk5666⟩ : ∃ u, CellsAt _ (sb p0) (so p0 + (a5515).toNat * 8) [(.int .i64 ((gt x0 a5515).fRef.fTx)), (.int .i64 ((gt x0 a5515).fRef.fAt)), (.int .i64 ((gt x0 a5515).fOut.fValue)), u, (.int .i64 ((gt x0 a5515).fOut.fRule.fNeed)), (.int .i64 ((gt x0 a5515).fOut.fRule.fAfter)), (.int .i64 ((gt x0 a5515).fHeight)), (.bool ((gt x0 a5515).fMined))] ∧ RdS kInt _ u ((gt x0 a5515).fOut.fRule.fKeys) := rd_with1 hp0 e5663
                    refine ops_ex rfl (guard_none rfl) rfl rfl (ex_indexAddr (d := kCoin) rfl rfl rfl Try.underlying60 tsz72 hp0 (idx_lo e5663) (idx_hi e5663)) ?_
                    refine ops_ex rfl (guard_none rfl) rfl rfl (ex_fieldAddr (off' := so p0 + (a5515).toNat * 8 + 7) rfl rfl Try.underlying72 rfl tsz4 rfl) ?_
                    refine ops_ex rfl (guard_none rfl) rfl rfl (ex_load1 rfl rfl Try.underlying4 rfl ((HM.at_ hc5664) 7 _ rfl)) ?_
                    refine ops_ex rfl (guard_none rfl) rfl rfl (ex_move rfl rfl) ?_
                    refine ops_ex rfl (guard_none rfl) rfl rfl (ex_remk rfl rfl rfl e5667) ?_
                    refine ops_ex rfl (guard_none rfl) rfl rfl (ex_eql rfl rfl rfl) ?_
                    refine ops_ex rfl (guard_none rfl) rfl rfl (ex_bneq rfl rfl rfl Try.underlying4) ?_
                    refine ops_nil ?_
                    refine at_then ?_
                    refine run_cond (b := (((gt x0 a5515).fMined) != ((Int.tmod (wrap64 ((wrap64 ((wrap64 (t5628 + 1)) + 1)) + 1)) (3 : Int)) == 0))) rfl (fun hb5668 => ?_) (fun hb5668 => ?_)
                    · replace ho5438 := cond_t hb5668 ho5438
                      refine run_seq ?_
                      refine run_region rfl ?_
                      refine ops_ex rfl (guard_none rfl) rfl rfl (ex_assign rfl rfl) ?_
                      refine ops_nil ?_
                      refine at_then ?_
                      refine run_ret ?_
                      refine at_then_ret ?_
                      refine at_block_ret ?_
                      refine at_then_ret ?_
                      refine at_then_ret ?_
                      refine at_block_ret ?_
                      refine at_then_ret ?_
                      have hR := Option.some.inj ho5438
                      subst hR
                      have hT := thn_inl H
                      have hR := Option.some.inj hT
                      subst hR
                      exact at_ret1 rfl rfl ⟨_, rfl, rfl, HM⟩
                    · replace ho5438 := cond_f hb5668 ho5438
                      refine run_skip ?_
                      refine at_then ?_
                      refine run_region rfl ?_
                      refine ops_ex rfl (guard_none rfl) rfl rfl (ex_move rfl rfl) ?_
                      refine ops_ex rfl (guard_none rfl) rfl rfl (ex_add rfl rfl rfl) ?_
                      refine ops_ex rfl (guard_none rfl) rfl rfl (ex_assign rfl rfl) ?_
                      refine ops_nil ?_
                      refine at_block ?_
                      refine at_then ?_
                      refine run_region rfl ?_
                      refine ops_ex rfl (guard_none rfl) rfl rfl (ex_move rfl rfl) ?_
                      refine ops_ex rfl (guard_none rfl) rfl rfl (ex_add rfl rfl rfl) ?_
                      refine ops_ex rfl (guard_none rfl) rfl rfl (ex_assign rfl rfl) ?_
                      refine ops_nil ?_
                      exact at_again k5591 (ρ1 := [(0, p0), (1, .int .i64 (wrap64 ((wrap64 ((wrap64 ((wrap64 (t5628 + 1)) + 1)) + 1)) + 1))), (5, .int .i64 (wrap64 (a5515 + 1)))]) (Nat.lt_succ_self _) ⟨_, _, ho5438, rfl, HM⟩ (Sub.cons rfl (Sub.cons rfl (Sub.cons rfl Sub.nil)))
    · replace ho5438 := cond_f hb5593 ho5438
      refine run_exit ?_
      refine at_then_exit ?_
      refine at_then_exit ?_
      refine at_block_exit ?_
      exact at_mid (ρ' := [(1, .int .i64 a5514)]) ⟨_, (Option.some.inj ho5438), rfl, HM⟩ (Sub.cons rfl Sub.nil)
  · rintro _ w5669 ⟨a5436, rfl, rfl, HM⟩
    replace H := (thn_inr H)
    refine run_seq ?_
    refine run_region rfl ?_
    refine ops_ex rfl (guard_none rfl) rfl rfl (ex_move rfl rfl) ?_
    refine ops_ex rfl (guard_none rfl) rfl rfl (ex_assign rfl rfl) ?_
    refine ops_nil ?_
    refine at_then ?_
    refine run_ret ?_
    have hR := Option.some.inj H
    subst hR
    exact at_ret1 rfl rfl ⟨_, rfl, rfl, HM⟩
end Go.Proofs.Ytbbcabpnkdilgaa.Zk
