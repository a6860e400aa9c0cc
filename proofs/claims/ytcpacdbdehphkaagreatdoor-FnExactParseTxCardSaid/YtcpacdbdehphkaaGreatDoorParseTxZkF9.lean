/- What functions of the program compute, each as a plain function, and that they do. Conditions: as each theorem states them. -/
import Derived.Test.YtcpacdbdehphkaaGreatDoorParseTxZkF8
namespace Go.Proofs.YtcpacdbdehphkaaGreatDoor.Zk
open Go Go.RowKit Go.IntWalk Go.Proofs
set_option linter.unusedVariables false
set_option linter.unusedSimpArgs false
set_option maxRecDepth 100000
set_option maxHeartbeats 4000000
def laws_markInt64S.l0  : Nat → (List Int) → Int → Int → Option ((List Int) × Int)
  | 0, _, _, _ => none
  | k + 1, a5533, a5535, a5536 => (bif (decide (a5536 < (a5533.length : Int))) then (chk (idxOk a5536 a5533.length) (laws_markInt64S.l0 k (a5533.set (a5536).toNat a5535) (wrap64 (a5535 + 1)) (wrap64 (a5536 + 1)))) else some (a5533, a5535))
theorem laws_markInt64S.l0_z  (a5533 : List Int) (a5535 : Int) (a5536 : Int) : laws_markInt64S.l0 0 a5533 a5535 a5536 = none := rfl
theorem laws_markInt64S.l0_s  (k : Nat) (a5533 : List Int) (a5535 : Int) (a5536 : Int) : laws_markInt64S.l0 (k + 1) a5533 a5535 a5536 = (bif (decide (a5536 < (a5533.length : Int))) then (chk (idxOk a5536 a5533.length) (laws_markInt64S.l0 k (a5533.set (a5536).toNat a5535) (wrap64 (a5535 + 1)) (wrap64 (a5536 + 1)))) else some (a5533, a5535)) := rfl
def laws_markInt64S.f (k : Nat) (x0 : List Int) (x1 : Int) : Option (Int × (List Int)) := ((laws_markInt64S.l0 k x0 x1 0).bind (cur2 (fun a5526 a5528 => some (a5528, a5526))))
theorem laws_markInt64S.calls {k : Nat} {x0 : List Int} {x1 : Int} {p0 : Value} {w wo : World} {X : List Nat} (hwo : Olds wo w X) (hX : Hold w [own kInt 2 p0 x0] X) (hXn : X.Nodup) (hXl : ∀ b ∈ X, b < w.heap.size)  {r : Int × (List Int)} (H : laws_markInt64S.f k x0 x1 = some r) :
    Calls Tryz.prog 58 ([p0, .int .i64 x1] : List Value).toArray w (fun e w_ => ∃ v, e = .returned v ∧ v = (.int .i64 r.1) ∧ Mem w X w_ [own kInt 2 p0 r.2]) := by
  have HM := Mem.startX hX hXn hXl
  refine calls_run (N := 19) Tryz.func58 rfl rfl rfl rfl ?_
  unfold laws_markInt64S.f at H
  refine run_seq ?_
  refine run_region rfl ?_
  refine ops_ex rfl (guard_none rfl) rfl rfl (ex_assign rfl rfl) ?_
  refine ops_nil ?_
  refine at_then ?_
  obtain ⟨o5529, ho5530, H⟩ := bind_some H
  refine run_mid (fun ρ_ w_ => ∃ a5526 : List Int, ∃ a5528 : Int, (a5526, a5528) = o5529 ∧ ρ_ = [(1, .int .i64 a5528)] ∧ Mem w X w_ [own kInt 2 p0 a5526]) ?_ ?_
  · clear H
    refine run_seq ?_
    refine run_region rfl ?_
    refine ops_ex rfl (guard_none rfl) rfl rfl (ex_assign rfl rfl) ?_
    refine ops_nil ?_
    refine at_then ?_
    refine run_block ?_
    refine run_loop (fun k_ ρ_ w_ => ∃ a5533 : List Int, ∃ a5535 : Int, ∃ a5536 : Int, laws_markInt64S.l0 k_ a5533 a5535 a5536 = some o5529 ∧ ρ_ = [(0, p0), (1, .int .i64 a5535), (5, .int .i64 a5536)] ∧ Mem w X w_ [own kInt 2 p0 a5533]) k (ρ1 := [(0, p0), (1, .int .i64 x1), (5, .int .i64 0)]) ⟨_, _, _, ho5530, rfl, HM⟩ (Sub.cons rfl (Sub.cons rfl (Sub.cons rfl Sub.nil))) ?_
    clear HM ho5530
    rintro k5539 _ w5540 ⟨a5533, a5535, a5536, ho5530, rfl, HM⟩
    obtain _ | k5539 := k5539
    · exact nomatch ((laws_markInt64S.l0_z a5533 a5535 a5536).symm.trans ho5530)
    replace ho5530 := (laws_markInt64S.l0_s k5539 a5533 a5535 a5536).symm.trans ho5530
    refine run_seq ?_
    refine run_seq ?_
    refine run_region rfl ?_
    refine ops_ex rfl (guard_none rfl) rfl rfl (ex_move rfl rfl) ?_
    refine ops_ex rfl (guard_none rfl) rfl rfl (ex_move rfl rfl) ?_
    refine ops_ex rfl (guard_none rfl) rfl rfl (ex_len (d := kInt) (xs := a5533) rfl rfl Tryz.underlying42 (HM.own_rd 0 rfl)) ?_
    refine ops_ex rfl (guard_none rfl) rfl rfl (ex_lss rfl rfl rfl) ?_
    refine ops_nil ?_
    refine at_then ?_
    refine run_cond (b := (decide (a5536 < (a5533.length : Int)))) rfl (fun hb5541 => ?_) (fun hb5541 => ?_)
    · replace ho5530 := cond_t hb5541 ho5530
      refine run_skip ?_
      refine at_then ?_
      refine run_seq ?_
      refine run_block ?_
      refine run_seq ?_
      obtain ⟨e5542, ho5530⟩ := chk_some ho5530
      refine run_region rfl ?_
      refine ops_ex rfl (guard_none rfl) rfl rfl (ex_move rfl rfl) ?_
      refine ops_ex rfl (guard_none rfl) rfl rfl (ex_move rfl rfl) ?_
      refine ops_ex rfl (guard_none rfl) rfl rfl (ex_move rfl rfl) ?_
      refine ops_ex rfl (guard_none rfl) rfl rfl (ex_indexAddr (d := kInt) rfl rfl rfl Tryz.underlying42 tsz2 (HM.own_rd 0 rfl) (idx_lo e5542) (idx_hi e5542)) ?_
      refine ops_doesS rfl (guard_none rfl) rfl (does_setElem (vs := [(.int .i64 a5535)]) (y := a5535) kInt rfl rfl rfl rfl rfl tsz2 rfl rfl (idx_nat e5542) (fun _ _ h => ⟨rfl, h⟩) (HM.emp.front 1 rfl rfl)) ?_
      rintro w5543 HM
      refine ops_nil ?_
      refine at_then ?_
      refine run_region rfl ?_
      refine ops_ex rfl (guard_none rfl) rfl rfl (ex_move rfl rfl) ?_
      refine ops_ex rfl (guard_none rfl) rfl rfl (ex_add rfl rfl rfl) ?_
      refine ops_ex rfl (guard_none rfl) rfl rfl (ex_assign rfl rfl) ?_
      refine ops_nil ?_
      refine at_block ?_
      refine at_then ?_
      refine run_region rfl ?_
      refine ops_ex rfl (guard_none rfl) rfl rfl (ex_move rfl rfl) ?_
      refine ops_ex rfl (guard_none rfl) rfl rfl (ex_add rfl rfl rfl) ?_
      refine ops_ex rfl (guard_none rfl) rfl rfl (ex_assign rfl rfl) ?_
      refine ops_nil ?_
      exact at_again k5539 (ρ1 := [(0, p0), (1, .int .i64 (wrap64 (a5535 + 1))), (5, .int .i64 (wrap64 (a5536 + 1)))]) (Nat.lt_succ_self _) ⟨_, _, _, ho5530, rfl, HM⟩ (Sub.cons rfl (Sub.cons rfl (Sub.cons rfl Sub.nil)))
    · replace ho5530 := cond_f hb5541 ho5530
      refine run_exit ?_
      refine at_then_exit ?_
      refine at_then_exit ?_
      refine at_block_exit ?_
      exact at_mid (ρ' := [(1, .int .i64 a5535)]) ⟨_, _, (Option.some.inj ho5530), rfl, HM⟩ (Sub.cons rfl Sub.nil)
  · rintro _ w5544 ⟨a5526, a5528, rfl, rfl, HM⟩
    replace H := cur2_mk H
    refine run_seq ?_
    refine run_region rfl ?_
    refine ops_ex rfl (guard_none rfl) rfl rfl (ex_move rfl rfl) ?_
    refine ops_ex rfl (guard_none rfl) rfl rfl (ex_assign rfl rfl) ?_
    refine ops_nil ?_
    refine at_then ?_
    refine run_ret ?_
    have hR := Option.some.inj H
    subst hR
    exact at_ret1 rfl rfl ⟨_, rfl, rfl, HM⟩

def laws_markOutS.l0  : Nat → (List Out) → Int → Int → Option ((List Out) × Int)
  | 0, _, _, _ => none
  | k + 1, a5675, a5677, a5678 => (bif (decide (a5678 < (a5675.length : Int))) then (chk (idxOk a5678 a5675.length) ((laws_markInt64S.f k ((gt a5675 a5678).fRule.fKeys) (wrap64 (a5677 + 1))).bind fun t5706 => laws_markOutS.l0 k (a5675.set (a5678).toNat (⟨a5677, (⟨t5706.2, t5706.1, wrap64 (t5706.1 + 1)⟩ : Rule)⟩ : Out)) (wrap64 ((wrap64 (t5706.1 + 1)) + 1)) (wrap64 (a5678 + 1)))) else some (a5675, a5677))
theorem laws_markOutS.l0_z  (a5675 : List Out) (a5677 : Int) (a5678 : Int) : laws_markOutS.l0 0 a5675 a5677 a5678 = none := rfl
theorem laws_markOutS.l0_s  (k : Nat) (a5675 : List Out) (a5677 : Int) (a5678 : Int) : laws_markOutS.l0 (k + 1) a5675 a5677 a5678 = (bif (decide (a5678 < (a5675.length : Int))) then (chk (idxOk a5678 a5675.length) ((laws_markInt64S.f k ((gt a5675 a5678).fRule.fKeys) (wrap64 (a5677 + 1))).bind fun t5706 => laws_markOutS.l0 k (a5675.set (a5678).toNat (⟨a5677, (⟨t5706.2, t5706.1, wrap64 (t5706.1 + 1)⟩ : Rule)⟩ : Out)) (wrap64 ((wrap64 (t5706.1 + 1)) + 1)) (wrap64 (a5678 + 1)))) else some (a5675, a5677)) := rfl
def laws_markOutS.f (k : Nat) (x0 : List Out) (x1 : Int) : Option (Int × (List Out)) := ((laws_markOutS.l0 k x0 x1 0).bind (cur2 (fun a5653 a5655 => some (a5655, a5653))))
theorem laws_markOutS.calls {k : Nat} {x0 : List Out} {x1 : Int} {p0 : Value} {w wo : World} {X : List Nat} (hwo : Olds wo w X) (hX : Hold w [own kOut 49 p0 x0] X) (hXn : X.Nodup) (hXl : ∀ b ∈ X, b < w.heap.size)  {r : Int × (List Out)} (H : laws_markOutS.f k x0 x1 = some r) :
    Calls Tryz.prog 32 ([p0, .int .i64 x1] : List Value).toArray w (fun e w_ => ∃ v, e = .returned v ∧ v = (.int .i64 r.1) ∧ Mem w X w_ [own kOut 49 p0 r.2]) := by
  have HM := Mem.startX hX hXn hXl
  refine calls_run (N := 44) Tryz.func32 rfl rfl rfl rfl ?_
  unfold laws_markOutS.f at H
  refine run_seq ?_
  refine run_region rfl ?_
  refine ops_ex rfl (guard_none rfl) rfl rfl (ex_assign rfl rfl) ?_
  refine ops_nil ?_
  refine at_then ?_
  obtain ⟨o5656, ho5657, H⟩ := bind_some H
  refine run_mid (fun ρ_ w_ => ∃ a5653 : List Out, ∃ a5655 : Int, (a5653, a5655) = o5656 ∧ ρ_ = [(1, .int .i64 a5655)] ∧ Mem w X w_ [own kOut 49 p0 a5653]) ?_ ?_
  · clear H
    refine run_seq ?_
    refine run_region rfl ?_
    refine ops_ex rfl (guard_none rfl) rfl rfl (ex_assign rfl rfl) ?_
    refine ops_nil ?_
    refine at_then ?_
    refine run_block ?_
    refine run_loop (fun k_ ρ_ w_ => ∃ a5675 : List Out, ∃ a5677 : Int, ∃ a5678 : Int, laws_markOutS.l0 k_ a5675 a5677 a5678 = some o5656 ∧ ρ_ = [(0, p0), (1, .int .i64 a5677), (5, .int .i64 a5678)] ∧ Mem w X w_ [own kOut 49 p0 a5675]) k (ρ1 := [(0, p0), (1, .int .i64 x1), (5, .int .i64 0)]) ⟨_, _, _, ho5657, rfl, HM⟩ (Sub.cons rfl (Sub.cons rfl (Sub.cons rfl Sub.nil))) ?_
    clear HM ho5657
    rintro k5696 _ w5697 ⟨a5675, a5677, a5678, ho5657, rfl, HM⟩
    obtain _ | k5696 := k5696
    · exact nomatch ((laws_markOutS.l0_z a5675 a5677 a5678).symm.trans ho5657)
    replace ho5657 := (laws_markOutS.l0_s k5696 a5675 a5677 a5678).symm.trans ho5657
    refine run_seq ?_
    refine run_seq ?_
    refine run_region rfl ?_
    refine ops_ex rfl (guard_none rfl) rfl rfl (ex_move rfl rfl) ?_
    refine ops_ex rfl (guard_none rfl) rfl rfl (ex_move rfl rfl) ?_
    refine ops_ex rfl (guard_none rfl) rfl rfl (ex_len (d := kOut) (xs := a5675) rfl rfl Tryz.underlying23 (HM.own_rd 0 rfl)) ?_
    refine ops_ex rfl (guard_none rfl) rfl rfl (ex_lss rfl rfl rfl) ?_
    refine ops_nil ?_
    refine at_then ?_
    refine run_cond (b := (decide (a5678 < (a5675.length : Int)))) rfl (fun hb5698 => ?_) (fun hb5698 => ?_)
    · replace ho5657 := cond_t hb5698 ho5657
      refine run_skip ?_
      refine at_then ?_
      refine run_seq ?_
      refine run_block ?_
      refine run_seq ?_
      obtain ⟨e5699, ho5657⟩ := chk_some ho5657
      refine run_region rfl ?_
      refine ops_ex rfl (guard_none rfl) rfl rfl (ex_move rfl rfl) ?_
      refine ops_ex rfl (guard_none rfl) rfl rfl (ex_move rfl rfl) ?_
      refine ops_ex rfl (guard_none rfl) rfl rfl (ex_move rfl rfl) ?_
      refine ops_ex rfl (guard_none rfl) rfl rfl (ex_indexAddr (d := kOut) rfl rfl rfl Tryz.underlying23 tsz49 (HM.own_rd 0 rfl) (idx_lo e5699) (idx_hi e5699)) ?_
      refine ops_ex rfl (guard_none rfl) rfl rfl (ex_fieldAddr (off' := so p0 + (a5678).toNat * 4) rfl rfl Tryz.underlying49 rfl tsz2 rfl) ?_
      refine ops_doesS rfl (guard_none rfl) rfl (does_setField (fo := 0) (vs := [(.int .i64 a5677)]) (y := (⟨a5677, (gt a5675 a5678).fRule⟩ : Out)) kOut rfl rfl rfl rfl rfl tsz2 (Ones.int Ones.nil) rfl rfl (idx_nat e5699) (fun _ _ _ h => by rw [← gt_eq (idx_nat e5699)] at h; obtain ⟨_, rfl, h2⟩ := h; exact ⟨_, rfl, h2⟩) HM) ?_
      rintro w5700 HM
      refine ops_nil ?_
      refine at_then ?_
      refine run_seq ?_
      refine run_region rfl ?_
      refine ops_ex rfl (guard_none rfl) rfl rfl (ex_move rfl rfl) ?_
      refine ops_ex rfl (guard_none rfl) rfl rfl (ex_add rfl rfl rfl) ?_
      refine ops_ex rfl (guard_none rfl) rfl rfl (ex_assign rfl rfl) ?_
      refine ops_nil ?_
      refine at_then ?_
      refine run_seq ?_
      obtain ⟨t5706, h5707, ho5657⟩ := bind_some ho5657
      refine run_region rfl ?_
      refine ops_ex rfl (guard_none rfl) rfl rfl (ex_move rfl rfl) ?_
      refine ops_ex rfl (guard_none rfl) rfl rfl (ex_move rfl rfl) ?_
      have e5701 : idxOk a5678 (a5675.set (a5678).toNat (⟨a5677, (gt a5675 a5678).fRule⟩ : Out)).length = true := len_set e5699
      refine ops_ex rfl (guard_none rfl) rfl rfl (ex_indexAddr (d := kOut) rfl rfl rfl Tryz.underlying23 tsz49 (HM.own_rd 0 rfl) (idx_lo e5701) (idx_hi e5701)) ?_
      refine ops_ex rfl (guard_none rfl) rfl rfl (ex_fieldAddr (off' := so p0 + (a5678).toNat * 4 + 1) rfl rfl Tryz.underlying49 rfl tsz44 rfl) ?_
      refine ops_ex rfl (guard_none rfl) rfl rfl (ex_fieldAddr (off' := so p0 + (a5678).toNat * 4 + 1) rfl rfl Tryz.underlying44 rfl tsz42 rfl) ?_
      obtain ⟨u5702, hc5703, HM⟩ := HM.open1 e5701 (gt_set2 e5699)
      refine ops_ex rfl (guard_none rfl) rfl rfl (ex_load1 rfl rfl Tryz.underlying42 rfl (hc5703 1 _ rfl)) ?_
      refine ops_ex rfl (guard_none rfl) rfl rfl (ex_move rfl rfl) ?_
      obtain ⟨F5708, hF5709, hFn5710, hFl5711, HMh5712, hcl5713⟩ := HM.hide (Ms := [own kInt 2 u5702 ((gt a5675 a5678).fRule.fKeys)])
      refine ops_does rfl (guard_none rfl) rfl rfl (does_callk rfl callok58 rfl (laws_markInt64S.calls (x0 := (gt a5675 a5678).fRule.fKeys) (x1 := wrap64 (a5677 + 1)) (hide_olds _ _) hF5709 hFn5710 hFl5711 h5707)) ?_
      rintro _ w5714 ⟨rfl, hn⟩
      replace HM : Mem w X w5714 [own kInt 2 u5702 t5706.2, hole kOut (fun u_ => [(.int .i64 a5677), u_, (.int .i64 ((gt a5675 a5678).fRule.fNeed)), (.int .i64 ((gt a5675 a5678).fRule.fAfter))]) 49 p0 (a5675.set (a5678).toNat (⟨a5677, (gt a5675 a5678).fRule⟩ : Out)) (a5678).toNat u5702] := hcl5713 _ _ hn
      replace HM := HM.front 1 rfl rfl
      replace HM := HM.front 1 rfl rfl
      replace HM := Mem.close1 (⟨a5677, (⟨t5706.2, (gt a5675 a5678).fRule.fNeed, (gt a5675 a5678).fRule.fAfter⟩ : Rule)⟩ : Out) HM rfl rfl
      replace HM := HM.set2
      refine ops_ex rfl (guard_none rfl) rfl rfl (ex_assign rfl rfl) ?_
      refine ops_nil ?_
      refine at_then ?_
      refine run_seq ?_
      refine run_region rfl ?_
      refine ops_ex rfl (guard_none rfl) rfl rfl (ex_move rfl rfl) ?_
      refine ops_ex rfl (guard_none rfl) rfl rfl (ex_move rfl rfl) ?_
      refine ops_ex rfl (guard_none rfl) rfl rfl (ex_move rfl rfl) ?_
      have e5715 : idxOk a5678 (a5675.set (a5678).toNat (⟨a5677, (⟨t5706.2, (gt a5675 a5678).fRule.fNeed, (gt a5675 a5678).fRule.fAfter⟩ : Rule)⟩ : Out)).length = true := len_set e5699
      refine ops_ex rfl (guard_none rfl) rfl rfl (ex_indexAddr (d := kOut) rfl rfl rfl Tryz.underlying23 tsz49 (HM.own_rd 0 rfl) (idx_lo e5715) (idx_hi e5715)) ?_
      refine ops_ex rfl (guard_none rfl) rfl rfl (ex_fieldAddr (off' := so p0 + (a5678).toNat * 4 + 1) rfl rfl Tryz.underlying49 rfl tsz44 rfl) ?_
      refine ops_ex rfl (guard_none rfl) rfl rfl (ex_fieldAddr (off' := so p0 + (a5678).toNat * 4 + 2) rfl rfl Tryz.underlying44 rfl tsz2 rfl) ?_
      refine ops_doesS rfl (guard_none rfl) rfl (does_setField (fo := 2) (vs := [(.int .i64 t5706.1)]) (y := (⟨a5677, (⟨t5706.2, t5706.1, (gt a5675 a5678).fRule.fAfter⟩ : Rule)⟩ : Out)) kOut rfl rfl rfl rfl rfl tsz2 (Ones.int Ones.nil) rfl rfl (idx_nat e5715) (fun _ _ _ h => by rw [List.getElem_set_self] at h; obtain ⟨_, rfl, h2⟩ := h; exact ⟨_, rfl, h2⟩) HM) ?_
      rintro w5716 HM
      replace HM := HM.set2
      refine ops_nil ?_
      refine at_then ?_
      refine run_seq ?_
      refine run_region rfl ?_
      refine ops_ex rfl (guard_none rfl) rfl rfl (ex_move rfl rfl) ?_
      refine ops_ex rfl (guard_none rfl) rfl rfl (ex_add rfl rfl rfl) ?_
      refine ops_ex rfl (guard_none rfl) rfl rfl (ex_assign rfl rfl) ?_
      refine ops_nil ?_
      refine at_then ?_
      refine run_seq ?_
      refine run_region rfl ?_
      refine ops_ex rfl (guard_none rfl) rfl rfl (ex_move rfl rfl) ?_
      refine ops_ex rfl (guard_none rfl) rfl rfl (ex_move rfl rfl) ?_
      refine ops_ex rfl (guard_none rfl) rfl rfl (ex_move rfl rfl) ?_
      have e5717 : idxOk a5678 (a5675.set (a5678).toNat (⟨a5677, (⟨t5706.2, t5706.1, (gt a5675 a5678).fRule.fAfter⟩ : Rule)⟩ : Out)).length = true := len_set e5699
      refine ops_ex rfl (guard_none rfl) rfl rfl (ex_indexAddr (d := kOut) rfl rfl rfl Tryz.underlying23 tsz49 (HM.own_rd 0 rfl) (idx_lo e5717) (idx_hi e5717)) ?_
      refine ops_ex rfl (guard_none rfl) rfl rfl (ex_fieldAddr (off' := so p0 + (a5678).toNat * 4 + 1) rfl rfl Tryz.underlying49 rfl tsz44 rfl) ?_
      refine ops_ex rfl (guard_none rfl) rfl rfl (ex_fieldAddr (off' := so p0 + (a5678).toNat * 4 + 3) rfl rfl Tryz.underlying44 rfl tsz2 rfl) ?_
      refine ops_doesS rfl (guard_none rfl) rfl (does_setField (fo := 3) (vs := [(.int .i64 (wrap64 (t5706.1 + 1)))]) (y := (⟨a5677, (⟨t5706.2, t5706.1, wrap64 (t5706.1 + 1)⟩ : Rule)⟩ : Out)) kOut rfl rfl rfl rfl rfl tsz2 (Ones.int Ones.nil) rfl rfl (idx_nat e5717) (fun _ _ _ h => by rw [List.getElem_set_self] at h; obtain ⟨_, rfl, h2⟩ := h; exact ⟨_, rfl, h2⟩) HM) ?_
      rintro w5718 HM
      replace HM := HM.set2
      refine ops_nil ?_
      refine at_then ?_
      refine run_region rfl ?_
      refine ops_ex rfl (guard_none rfl) rfl rfl (ex_move rfl rfl) ?_
      refine ops_ex rfl (guard_none rfl) rfl rfl (ex_add rfl rfl rfl) ?_
      refine ops_ex rfl (guard_none rfl) rfl rfl (ex_assign rfl rfl) ?_
      refine ops_nil ?_
      refine at_block ?_
      refine at_then ?_
      refine run_region rfl ?_
      refine ops_ex rfl (guard_none rfl) rfl rfl (ex_move rfl rfl) ?_
      refine ops_ex rfl (guard_none rfl) rfl rfl (ex_add rfl rfl rfl) ?_
      refine ops_ex rfl (guard_none rfl) rfl rfl (ex_assign rfl rfl) ?_
      refine ops_nil ?_
      exact at_again k5696 (ρ1 := [(0, p0), (1, .int .i64 (wrap64 ((wrap64 (t5706.1 + 1)) + 1))), (5, .int .i64 (wrap64 (a5678 + 1)))]) (Nat.lt_succ_self _) ⟨_, _, _, ho5657, rfl, HM⟩ (Sub.cons rfl (Sub.cons rfl (Sub.cons rfl Sub.nil)))
    · replace ho5657 := cond_f hb5698 ho5657
      refine run_exit ?_
      refine at_then_exit ?_
      refine at_then_exit ?_
      refine at_block_exit ?_
      exact at_mid (ρ' := [(1, .int .i64 a5677)]) ⟨_, _, (Option.some.inj ho5657), rfl, HM⟩ (Sub.cons rfl Sub.nil)
  · rintro _ w5719 ⟨a5653, a5655, rfl, rfl, HM⟩
    replace H := cur2_mk H
    refine run_seq ?_
    refine run_region rfl ?_
    refine ops_ex rfl (guard_none rfl) rfl rfl (ex_move rfl rfl) ?_
    refine ops_ex rfl (guard_none rfl) rfl rfl (ex_assign rfl rfl) ?_
    refine ops_nil ?_
    refine at_then ?_
    refine run_ret ?_
    have hR := Option.some.inj H
    subst hR
    exact at_ret1 rfl rfl ⟨_, rfl, rfl, HM⟩

def laws_markTx.f (k : Nat) (x0 : Tx) (x1 : Int) : Option (Int × (List Ref) × (List Out)) := ((laws_markRefS.f k x0.fIns x1).bind fun t5732 => ((laws_markOutS.f k x0.fOuts t5732.1).bind fun t5741 => some (t5741.1, t5732.2, t5741.2)))
theorem laws_markTx.calls {k : Nat} {x0 : Tx} {x1 : Int} {p0_0 : Value} {p0_1 : Value} {w wo : World} {X : List Nat} (hwo : Olds wo w X) (hX : Hold w [own kRef 60 p0_0 x0.fIns, own kOut 49 p0_1 x0.fOuts] X) (hXn : X.Nodup) (hXl : ∀ b ∈ X, b < w.heap.size)  {r : Int × (List Ref) × (List Out)} (H : laws_markTx.f k x0 x1 = some r) :
    Calls Tryz.prog 12 ([.agg #[(.int .i64 x0.fKind), (.int .i64 x0.fMember), p0_0, p0_1], .int .i64 x1] : List Value).toArray w (fun e w_ => ∃ v, e = .returned v ∧ v = (.int .i64 r.1) ∧ Mem w X w_ [own kRef 60 p0_0 r.2.1, own kOut 49 p0_1 r.2.2]) := by
  have HM := Mem.startX hX hXn hXl
  refine calls_run (N := 14) Tryz.func12 rfl rfl rfl rfl ?_
  unfold laws_markTx.f at H
  refine run_seq ?_
  refine run_region rfl ?_
  refine ops_does rfl (guard_none rfl) rfl rfl (does_box (cs := [.int .i64 x0.fKind, .int .i64 x0.fMember, p0_0, p0_1]) rfl rfl rfl HM) ?_
  rintro _ w5731 ⟨b5728, rfl, HM⟩
  refine ops_ex rfl (guard_none rfl) rfl rfl (ex_assign rfl rfl) ?_
  refine ops_nil ?_
  refine at_then ?_
  refine run_seq ?_
  obtain ⟨t5732, h5733, H⟩ := bind_some H
  refine run_region rfl ?_
  refine ops_ex rfl (guard_none rfl) rfl rfl (ex_fieldAddr (off' := 2) rfl rfl Tryz.underlying25 rfl tsz22 rfl) ?_
  refine ops_ex rfl (guard_none rfl) rfl rfl (ex_load1 rfl rfl Tryz.underlying22 rfl ((HM.box_at 0 rfl) 2 _ rfl)) ?_
  refine ops_ex rfl (guard_none rfl) rfl rfl (ex_move rfl rfl) ?_
  replace HM := HM.front 1 rfl rfl
  obtain ⟨F5734, hF5735, hFn5736, hFl5737, HMh5738, hcl5739⟩ := HM.hide (Ms := [own kRef 60 p0_0 x0.fIns])
  refine ops_does rfl (guard_none rfl) rfl rfl (does_callk rfl callok31 rfl (laws_markRefS.calls (x0 := x0.fIns) (x1 := x1) (hide_olds _ _) hF5735 hFn5736 hFl5737 h5733)) ?_
  rintro _ w5740 ⟨rfl, hn⟩
  replace HM : Mem w X w5740 [own kRef 60 p0_0 t5732.2, box b5728 25 [.int .i64 x0.fKind, .int .i64 x0.fMember, p0_0, p0_1], own kOut 49 p0_1 x0.fOuts] := hcl5739 _ _ hn
  refine ops_ex rfl (guard_none rfl) rfl rfl (ex_assign rfl rfl) ?_
  refine ops_nil ?_
  refine at_then ?_
  refine run_seq ?_
  obtain ⟨t5741, h5742, H⟩ := bind_some H
  refine run_region rfl ?_
  refine ops_ex rfl (guard_none rfl) rfl rfl (ex_fieldAddr (off' := 3) rfl rfl Tryz.underlying25 rfl tsz23 rfl) ?_
  refine ops_ex rfl (guard_none rfl) rfl rfl (ex_load1 rfl rfl Tryz.underlying23 rfl ((HM.box_at 1 rfl) 3 _ rfl)) ?_
  refine ops_ex rfl (guard_none rfl) rfl rfl (ex_move rfl rfl) ?_
  replace HM := HM.front 2 rfl rfl
  obtain ⟨F5743, hF5744, hFn5745, hFl5746, HMh5747, hcl5748⟩ := HM.hide (Ms := [own kOut 49 p0_1 x0.fOuts])
  refine ops_does rfl (guard_none rfl) rfl rfl (does_callk rfl callok32 rfl (laws_markOutS.calls (x0 := x0.fOuts) (x1 := t5732.1) (hide_olds _ _) hF5744 hFn5745 hFl5746 h5742)) ?_
  rintro _ w5749 ⟨rfl, hn⟩
  replace HM : Mem w X w5749 [own kOut 49 p0_1 t5741.2, own kRef 60 p0_0 t5732.2, box b5728 25 [.int .i64 x0.fKind, .int .i64 x0.fMember, p0_0, p0_1]] := hcl5748 _ _ hn
  refine ops_ex rfl (guard_none rfl) rfl rfl (ex_assign rfl rfl) ?_
  refine ops_nil ?_
  refine at_then ?_
  refine run_seq ?_
  refine run_region rfl ?_
  refine ops_ex rfl (guard_none rfl) rfl rfl (ex_move rfl rfl) ?_
  refine ops_ex rfl (guard_none rfl) rfl rfl (ex_assign rfl rfl) ?_
  refine ops_nil ?_
  refine at_then ?_
  refine run_ret ?_
  replace HM := (HM.front 2 rfl rfl).drop
  replace HM := HM.front 1 rfl rfl
  have hR := Option.some.inj H
  subst hR
  exact at_ret1 rfl rfl ⟨_, rfl, rfl, HM⟩

def laws_markTxResult.f (k : Nat) (x0 : TxResult) (x1 : Int) : Option (Int × (List Ref) × (List Out)) := ((laws_markTx.f k x0.fTx x1).bind fun t5769 => some (t5769.1, t5769.2.1, t5769.2.2))
theorem laws_markTxResult.calls {k : Nat} {x0 : TxResult} {x1 : Int} {p0_0 : Value} {p0_1 : Value} {w wo : World} {X : List Nat} (hwo : Olds wo w X) (hX : Hold w [own kRef 60 p0_0 x0.fTx.fIns, own kOut 49 p0_1 x0.fTx.fOuts] X) (hXn : X.Nodup) (hXl : ∀ b ∈ X, b < w.heap.size)  {r : Int × (List Ref) × (List Out)} (H : laws_markTxResult.f k x0 x1 = some r) :
    Calls Tryz.prog 7 ([.agg #[(.int .i64 x0.fCode), (.int .i64 x0.fTx.fKind), (.int .i64 x0.fTx.fMember), p0_0, p0_1], .int .i64 x1] : List Value).toArray w (fun e w_ => ∃ v, e = .returned v ∧ v = (.int .i64 r.1) ∧ Mem w X w_ [own kRef 60 p0_0 r.2.1, own kOut 49 p0_1 r.2.2]) := by
  have HM := Mem.startX hX hXn hXl
  refine calls_run (N := 10) Tryz.func7 rfl rfl rfl rfl ?_
  unfold laws_markTxResult.f at H
  refine run_seq ?_
  refine run_region rfl ?_
  refine ops_does rfl (guard_none rfl) rfl rfl (does_box (cs := [.int .i64 x0.fCode, .int .i64 x0.fTx.fKind, .int .i64 x0.fTx.fMember, p0_0, p0_1]) rfl rfl rfl HM) ?_
  rintro _ w5768 ⟨b5765, rfl, HM⟩
  refine ops_ex rfl (guard_none rfl) rfl rfl (ex_assign rfl rfl) ?_
  refine ops_nil ?_
  refine at_then ?_
  refine run_seq ?_
  obtain ⟨t5769, h5770, H⟩ := bind_some H
  refine run_region rfl ?_
  refine ops_ex rfl (guard_none rfl) rfl rfl (ex_fieldAddr (off' := 1) rfl rfl Tryz.underlying27 rfl tsz25 rfl) ?_
  refine ops_ex rfl (guard_none rfl) rfl rfl (ex_loadN (cs := [(.int .i64 x0.fTx.fKind), (.int .i64 x0.fTx.fMember), p0_0, p0_1]) rfl rfl Tryz.underlying25 rfl tsz25 rfl ((HM.box_at 0 rfl).sub 1 4 rfl)) ?_
  refine ops_ex rfl (guard_none rfl) rfl rfl (ex_move rfl rfl) ?_
  replace HM := HM.front 2 rfl rfl
  replace HM := HM.front 2 rfl rfl
  obtain ⟨F5771, hF5772, hFn5773, hFl5774, HMh5775, hcl5776⟩ := HM.hide (Ms := [own kRef 60 p0_0 x0.fTx.fIns, own kOut 49 p0_1 x0.fTx.fOuts])
  refine ops_does rfl (guard_none rfl) rfl rfl (does_callk rfl callok12 rfl (laws_markTx.calls (x0 := x0.fTx) (x1 := x1) (hide_olds _ _) hF5772 hFn5773 hFl5774 h5770)) ?_
  rintro _ w5777 ⟨rfl, hn⟩
  replace HM : Mem w X w5777 [own kRef 60 p0_0 t5769.2.1, own kOut 49 p0_1 t5769.2.2, box b5765 27 [.int .i64 x0.fCode, .int .i64 x0.fTx.fKind, .int .i64 x0.fTx.fMember, p0_0, p0_1]] := hcl5776 _ _ hn
  refine ops_ex rfl (guard_none rfl) rfl rfl (ex_assign rfl rfl) ?_
  refine ops_nil ?_
  refine at_then ?_
  refine run_seq ?_
  refine run_region rfl ?_
  refine ops_ex rfl (guard_none rfl) rfl rfl (ex_move rfl rfl) ?_
  refine ops_ex rfl (guard_none rfl) rfl rfl (ex_assign rfl rfl) ?_
  refine ops_nil ?_
  refine at_then ?_
  refine run_ret ?_
  replace HM := (HM.front 2 rfl rfl).drop
  have hR := Option.some.inj H
  subst hR
  exact at_ret1 rfl rfl ⟨_, rfl, rfl, HM⟩

def laws_heldRefS.l0 (x0 : List Ref) : Nat → Int → Int → Option (Int ⊕ Int)
  | 0, _, _ => none
  | k + 1, a5872, a5873 => (bif (decide (a5873 < (x0.length : Int))) then (chk (idxOk a5873 x0.length) (bif (((gt x0 a5873).fTx) != a5872) then some (.inl (-1)) else (chk (idxOk a5873 x0.length) (bif (((gt x0 a5873).fAt) != (wrap64 (a5872 + 1))) then some (.inl (-1)) else laws_heldRefS.l0 x0 k (wrap64 ((wrap64 (a5872 + 1)) + 1)) (wrap64 (a5873 + 1)))))) else some (.inr a5872))
theorem laws_heldRefS.l0_z (x0 : List Ref) (a5872 : Int) (a5873 : Int) : laws_heldRefS.l0 x0 0 a5872 a5873 = none := rfl
theorem laws_heldRefS.l0_s (x0 : List Ref) (k : Nat) (a5872 : Int) (a5873 : Int) : laws_heldRefS.l0 x0 (k + 1) a5872 a5873 = (bif (decide (a5873 < (x0.length : Int))) then (chk (idxOk a5873 x0.length) (bif (((gt x0 a5873).fTx) != a5872) then some (.inl (-1)) else (chk (idxOk a5873 x0.length) (bif (((gt x0 a5873).fAt) != (wrap64 (a5872 + 1))) then some (.inl (-1)) else laws_heldRefS.l0 x0 k (wrap64 ((wrap64 (a5872 + 1)) + 1)) (wrap64 (a5873 + 1)))))) else some (.inr a5872)) := rfl
def laws_heldRefS.f (k : Nat) (x0 : List Ref) (x1 : Int) : Option Int := ((laws_heldRefS.l0 x0 k x1 0).bind fun o5860 => thn o5860 (fun r => some r) (fun a5859 => some a5859))
theorem laws_heldRefS.calls {k : Nat} {x0 : List Ref} {x1 : Int} {p0 : Value} {w : World} (hp0 : RdS kRef w p0 x0) {r : Int} (H : laws_heldRefS.f k x0 x1 = some r) :
    Calls Tryz.prog 33 ([p0, .int .i64 x1] : List Value).toArray w (fun e w_ => ∃ v, e = .returned v ∧ v = (.int .i64 r) ∧ Mem w [] w_ []) := by
  have HM := Mem.start w
  refine calls_run (N := 31) Tryz.func33 rfl rfl rfl rfl ?_
  unfold laws_heldRefS.f at H
  refine run_seq ?_
  refine run_region rfl ?_
  refine ops_ex rfl (guard_none rfl) rfl rfl (ex_assign rfl rfl) ?_
  refine ops_nil ?_
  refine at_then ?_
  obtain ⟨o5860, ho5861, H⟩ := bind_some H
  refine run_mid (fun ρ_ w_ => ∃ a5859 : Int, Sum.inr a5859 = o5860 ∧ ρ_ = [(1, .int .i64 a5859)] ∧ Mem w [] w_ []) ?_ ?_
  · skip
    refine run_seq ?_
    refine run_region rfl ?_
    refine ops_ex rfl (guard_none rfl) rfl rfl (ex_assign rfl rfl) ?_
    refine ops_nil ?_
    refine at_then ?_
    refine run_block ?_
    refine run_loop (fun k_ ρ_ w_ => ∃ a5872 : Int, ∃ a5873 : Int, laws_heldRefS.l0 x0 k_ a5872 a5873 = some o5860 ∧ ρ_ = [(0, p0), (1, .int .i64 a5872), (5, .int .i64 a5873)] ∧ Mem w [] w_ []) k (ρ1 := [(0, p0), (1, .int .i64 x1), (5, .int .i64 0)]) ⟨_, _, ho5861, rfl, HM⟩ (Sub.cons rfl (Sub.cons rfl (Sub.cons rfl Sub.nil))) ?_
    clear HM ho5861
    rintro k5884 _ w5885 ⟨a5872, a5873, ho5861, rfl, HM⟩
    obtain _ | k5884 := k5884
    · exact nomatch ((laws_heldRefS.l0_z x0 a5872 a5873).symm.trans ho5861)
    replace ho5861 := (laws_heldRefS.l0_s x0 k5884 a5872 a5873).symm.trans ho5861
    refine run_seq ?_
    refine run_seq ?_
    refine run_region rfl ?_
    refine ops_ex rfl (guard_none rfl) rfl rfl (ex_move rfl rfl) ?_
    refine ops_ex rfl (guard_none rfl) rfl rfl (ex_move rfl rfl) ?_
    refine ops_ex rfl (guard_none rfl) rfl rfl (ex_len (d := kRef) (xs := x0) rfl rfl Tryz.underlying22 hp0) ?_
    refine ops_ex rfl (guard_none rfl) rfl rfl (ex_lss rfl rfl rfl) ?_
    refine ops_nil ?_
    refine at_then ?_
    refine run_cond (b := (decide (a5873 < (x0.length : Int)))) rfl (fun hb5886 => ?_) (fun hb5886 => ?_)
    · replace ho5861 := cond_t hb5886 ho5861
      refine run_skip ?_
      refine at_then ?_
      refine run_seq ?_
      refine run_block ?_
      refine run_seq ?_
      refine run_seq ?_
      obtain ⟨e5890, ho5861⟩ := chk_some ho5861
      refine run_region rfl ?_
      refine ops_ex rfl (guard_none rfl) rfl rfl (ex_move rfl rfl) ?_
      refine ops_ex rfl (guard_none rfl) rfl rfl (ex_move rfl rfl) ?_
      have hc5891 : CellsAt _ (sb p0) (so p0 + (a5873).toNat * 2) [(.int .i64 ((gt x0 a5873).fTx)), (.int .i64 ((gt x0 a5873).fAt))] := rd_plain hp0 e5890
      refine ops_ex rfl (guard_none rfl) rfl rfl (ex_indexAddr (d := kRef) rfl rfl rfl Tryz.underlying22 tsz60 hp0 (idx_lo e5890) (idx_hi e5890)) ?_
      refine ops_ex rfl (guard_none rfl) rfl rfl (ex_fieldAddr (off' := so p0 + (a5873).toNat * 2) rfl rfl Tryz.underlying60 rfl tsz2 rfl) ?_
      refine ops_ex rfl (guard_none rfl) rfl rfl (ex_load1 rfl rfl Tryz.underlying2 rfl ((HM.at_ hc5891) 0 _ rfl)) ?_
      refine ops_ex rfl (guard_none rfl) rfl rfl (ex_move rfl rfl) ?_
      refine ops_ex rfl (guard_none rfl) rfl rfl (ex_neq rfl rfl rfl) ?_
      refine ops_nil ?_
      refine at_then ?_
      refine run_cond (b := (((gt x0 a5873).fTx) != a5872)) rfl (fun hb5892 => ?_) (fun hb5892 => ?_)
      · replace ho5861 := cond_t hb5892 ho5861
        refine run_seq ?_
        refine run_region rfl ?_
        refine ops_ex rfl (guard_none rfl) rfl rfl (ex_assign rfl rfl) ?_
        refine ops_nil ?_
        refine at_then ?_
        refine run_ret ?_
        refine at_then_ret ?_
        refine at_block_ret ?_
        refine at_then_ret ?_
        refine at_then_ret ?_
        refine at_block_ret ?_
        refine at_then_ret ?_
        have hR := Option.some.inj ho5861
        subst hR
        have hT := thn_inl H
        have hR := Option.some.inj hT
        subst hR
        exact at_ret1 rfl rfl ⟨_, rfl, rfl, HM⟩
      · replace ho5861 := cond_f hb5892 ho5861
        refine run_skip ?_
        refine at_then ?_
        refine run_seq ?_
        refine run_region rfl ?_
        refine ops_ex rfl (guard_none rfl) rfl rfl (ex_move rfl rfl) ?_
        refine ops_ex rfl (guard_none rfl) rfl rfl (ex_add rfl rfl rfl) ?_
        refine ops_ex rfl (guard_none rfl) rfl rfl (ex_assign rfl rfl) ?_
        refine ops_nil ?_
        refine at_then ?_
        refine run_seq ?_
        refine run_seq ?_
        obtain ⟨e5893, ho5861⟩ := chk_some ho5861
        refine run_region rfl ?_
        refine ops_ex rfl (guard_none rfl) rfl rfl (ex_move rfl rfl) ?_
        refine ops_ex rfl (guard_none rfl) rfl rfl (ex_move rfl rfl) ?_
        have hc5894 : CellsAt _ (sb p0) (so p0 + (a5873).toNat * 2) [(.int .i64 ((gt x0 a5873).fTx)), (.int .i64 ((gt x0 a5873).fAt))] := rd_plain hp0 e5893
        refine ops_ex rfl (guard_none rfl) rfl rfl (ex_indexAddr (d := kRef) rfl rfl rfl Tryz.underlying22 tsz60 hp0 (idx_lo e5893) (idx_hi e5893)) ?_
        refine ops_ex rfl (guard_none rfl) rfl rfl (ex_fieldAddr (off' := so p0 + (a5873).toNat * 2 + 1) rfl rfl Tryz.underlying60 rfl tsz2 rfl) ?_
        refine ops_ex rfl (guard_none rfl) rfl rfl (ex_load1 rfl rfl Tryz.underlying2 rfl ((HM.at_ hc5894) 1 _ rfl)) ?_
        refine ops_ex rfl (guard_none rfl) rfl rfl (ex_move rfl rfl) ?_
        refine ops_ex rfl (guard_none rfl) rfl rfl (ex_neq rfl rfl rfl) ?_
        refine ops_nil ?_
        refine at_then ?_
        refine run_cond (b := (((gt x0 a5873).fAt) != (wrap64 (a5872 + 1)))) rfl (fun hb5895 => ?_) (fun hb5895 => ?_)
        · replace ho5861 := cond_t hb5895 ho5861
          refine run_seq ?_
          refine run_region rfl ?_
          refine ops_ex rfl (guard_none rfl) rfl rfl (ex_assign rfl rfl) ?_
          refine ops_nil ?_
          refine at_then ?_
          refine run_ret ?_
          refine at_then_ret ?_
          refine at_block_ret ?_
          refine at_then_ret ?_
          refine at_then_ret ?_
          refine at_block_ret ?_
          refine at_then_ret ?_
          have hR := Option.some.inj ho5861
          subst hR
          have hT := thn_inl H
          have hR := Option.some.inj hT
          subst hR
          exact at_ret1 rfl rfl ⟨_, rfl, rfl, HM⟩
        · replace ho5861 := cond_f hb5895 ho5861
          refine run_skip ?_
          refine at_then ?_
          refine run_region rfl ?_
          refine ops_ex rfl (guard_none rfl) rfl rfl (ex_move rfl rfl) ?_
          refine ops_ex rfl (guard_none rfl) rfl rfl (ex_add rfl rfl rfl) ?_
          refine ops_ex rfl (guard_none rfl) rfl rfl (ex_assign rfl rfl) ?_
          refine ops_nil ?_
          refine at_block ?_
          refine at_then ?_
          refine run_region rfl ?_
          refine ops_ex rfl (guard_none rfl) rfl rfl (ex_move rfl rfl) ?_
          refine ops_ex rfl (guard_none rfl) rfl rfl (ex_add rfl rfl rfl) ?_
          refine ops_ex rfl (guard_none rfl) rfl rfl (ex_assign rfl rfl) ?_
          refine ops_nil ?_
          exact at_again k5884 (ρ1 := [(0, p0), (1, .int .i64 (wrap64 ((wrap64 (a5872 + 1)) + 1))), (5, .int .i64 (wrap64 (a5873 + 1)))]) (Nat.lt_succ_self _) ⟨_, _, ho5861, rfl, HM⟩ (Sub.cons rfl (Sub.cons rfl (Sub.cons rfl Sub.nil)))
    · replace ho5861 := cond_f hb5886 ho5861
      refine run_exit ?_
      refine at_then_exit ?_
      refine at_then_exit ?_
      refine at_block_exit ?_
      exact at_mid (ρ' := [(1, .int .i64 a5872)]) ⟨_, (Option.some.inj ho5861), rfl, HM⟩ (Sub.cons rfl Sub.nil)
  · rintro _ w5896 ⟨a5859, rfl, rfl, HM⟩
    replace H := (thn_inr H)
    refine run_seq ?_
    refine run_region rfl ?_
    refine ops_ex rfl (guard_none rfl) rfl rfl (ex_move rfl rfl) ?_
    refine ops_ex rfl (guard_none rfl) rfl rfl (ex_assign rfl rfl) ?_
    refine ops_nil ?_
    refine at_then ?_
    refine run_ret ?_
    have hR := Option.some.inj H
    subst hR
    exact at_ret1 rfl rfl ⟨_, rfl, rfl, HM⟩

def laws_heldInt64S.l0 (x0 : List Int) : Nat → Int → Int → Option (Int ⊕ Int)
  | 0, _, _ => none
  | k + 1, a5954, a5955 => (bif (decide (a5955 < (x0.length : Int))) then (chk (idxOk a5955 x0.length) (bif ((gt x0 a5955) != a5954) then some (.inl (-1)) else laws_heldInt64S.l0 x0 k (wrap64 (a5954 + 1)) (wrap64 (a5955 + 1)))) else some (.inr a5954))
theorem laws_heldInt64S.l0_z (x0 : List Int) (a5954 : Int) (a5955 : Int) : laws_heldInt64S.l0 x0 0 a5954 a5955 = none := rfl
theorem laws_heldInt64S.l0_s (x0 : List Int) (k : Nat) (a5954 : Int) (a5955 : Int) : laws_heldInt64S.l0 x0 (k + 1) a5954 a5955 = (bif (decide (a5955 < (x0.length : Int))) then (chk (idxOk a5955 x0.length) (bif ((gt x0 a5955) != a5954) then some (.inl (-1)) else laws_heldInt64S.l0 x0 k (wrap64 (a5954 + 1)) (wrap64 (a5955 + 1)))) else some (.inr a5954)) := rfl
def laws_heldInt64S.f (k : Nat) (x0 : List Int) (x1 : Int) : Option Int := ((laws_heldInt64S.l0 x0 k x1 0).bind fun o5948 => thn o5948 (fun r => some r) (fun a5947 => some a5947))
theorem laws_heldInt64S.calls {k : Nat} {x0 : List Int} {x1 : Int} {p0 : Value} {w : World} (hp0 : RdS kInt w p0 x0) {r : Int} (H : laws_heldInt64S.f k x0 x1 = some r) :
    Calls Tryz.prog 59 ([p0, .int .i64 x1] : List Value).toArray w (fun e w_ => ∃ v, e = .returned v ∧ v = (.int .i64 r) ∧ Mem w [] w_ []) := by
  have HM := Mem.start w
  refine calls_run (N := 21) Tryz.func59 rfl rfl rfl rfl ?_
  unfold laws_heldInt64S.f at H
  refine run_seq ?_
  refine run_region rfl ?_
  refine ops_ex rfl (guard_none rfl) rfl rfl (ex_assign rfl rfl) ?_
  refine ops_nil ?_
  refine at_then ?_
  obtain ⟨o5948, ho5949, H⟩ := bind_some H
  refine run_mid (fun ρ_ w_ => ∃ a5947 : Int, Sum.inr a5947 = o5948 ∧ ρ_ = [(1, .int .i64 a5947)] ∧ Mem w [] w_ []) ?_ ?_
  · skip
    refine run_seq ?_
    refine run_region rfl ?_
    refine ops_ex rfl (guard_none rfl) rfl rfl (ex_assign rfl rfl) ?_
    refine ops_nil ?_
    refine at_then ?_
    refine run_block ?_
    refine run_loop (fun k_ ρ_ w_ => ∃ a5954 : Int, ∃ a5955 : Int, laws_heldInt64S.l0 x0 k_ a5954 a5955 = some o5948 ∧ ρ_ = [(0, p0), (1, .int .i64 a5954), (5, .int .i64 a5955)] ∧ Mem w [] w_ []) k (ρ1 := [(0, p0), (1, .int .i64 x1), (5, .int .i64 0)]) ⟨_, _, ho5949, rfl, HM⟩ (Sub.cons rfl (Sub.cons rfl (Sub.cons rfl Sub.nil))) ?_
    clear HM ho5949
    rintro k5960 _ w5961 ⟨a5954, a5955, ho5949, rfl, HM⟩
    obtain _ | k5960 := k5960
    · exact nomatch ((laws_heldInt64S.l0_z x0 a5954 a5955).symm.trans ho5949)
    replace ho5949 := (laws_heldInt64S.l0_s x0 k5960 a5954 a5955).symm.trans ho5949
    refine run_seq ?_
    refine run_seq ?_
    refine run_region rfl ?_
    refine ops_ex rfl (guard_none rfl) rfl rfl (ex_move rfl rfl) ?_
    refine ops_ex rfl (guard_none rfl) rfl rfl (ex_move rfl rfl) ?_
    refine ops_ex rfl (guard_none rfl) rfl rfl (ex_len (d := kInt) (xs := x0) rfl rfl Tryz.underlying42 hp0) ?_
    refine ops_ex rfl (guard_none rfl) rfl rfl (ex_lss rfl rfl rfl) ?_
    refine ops_nil ?_
    refine at_then ?_
    refine run_cond (b := (decide (a5955 < (x0.length : Int)))) rfl (fun hb5962 => ?_) (fun hb5962 => ?_)
    · replace ho5949 := cond_t hb5962 ho5949
      refine run_skip ?_
      refine at_then ?_
      refine run_seq ?_
      refine run_block ?_
      refine run_seq ?_
      refine run_seq ?_
      obtain ⟨e5963, ho5949⟩ := chk_some ho5949
      refine run_region rfl ?_
      refine ops_ex rfl (guard_none rfl) rfl rfl (ex_move rfl rfl) ?_
      refine ops_ex rfl (guard_none rfl) rfl rfl (ex_move rfl rfl) ?_
      have hc5964 : CellsAt _ (sb p0) (so p0 + (a5955).toNat * 1) [(.int .i64 (gt x0 a5955))] := rd_plain hp0 e5963
      refine ops_ex rfl (guard_none rfl) rfl rfl (ex_indexAddr (d := kInt) rfl rfl rfl Tryz.underlying42 tsz2 hp0 (idx_lo e5963) (idx_hi e5963)) ?_
      refine ops_ex rfl (guard_none rfl) rfl rfl (ex_load1 rfl rfl Tryz.underlying2 rfl ((HM.at_ hc5964) 0 _ rfl)) ?_
      refine ops_ex rfl (guard_none rfl) rfl rfl (ex_move rfl rfl) ?_
      refine ops_ex rfl (guard_none rfl) rfl rfl (ex_neq rfl rfl rfl) ?_
      refine ops_nil ?_
      refine at_then ?_
      refine run_cond (b := ((gt x0 a5955) != a5954)) rfl (fun hb5965 => ?_) (fun hb5965 => ?_)
      · replace ho5949 := cond_t hb5965 ho5949
        refine run_seq ?_
        refine run_region rfl ?_
        refine ops_ex rfl (guard_none rfl) rfl rfl (ex_assign rfl rfl) ?_
        refine ops_nil ?_
        refine at_then ?_
        refine run_ret ?_
        refine at_then_ret ?_
        refine at_block_ret ?_
        refine at_then_ret ?_
        refine at_then_ret ?_
        refine at_block_ret ?_
        refine at_then_ret ?_
        have hR := Option.some.inj ho5949
        subst hR
        have hT := thn_inl H
        have hR := Option.some.inj hT
        subst hR
        exact at_ret1 rfl rfl ⟨_, rfl, rfl, HM⟩
      · replace ho5949 := cond_f hb5965 ho5949
        refine run_skip ?_
        refine at_then ?_
        refine run_region rfl ?_
        refine ops_ex rfl (guard_none rfl) rfl rfl (ex_move rfl rfl) ?_
        refine ops_ex rfl (guard_none rfl) rfl rfl (ex_add rfl rfl rfl) ?_
        refine ops_ex rfl (guard_none rfl) rfl rfl (ex_assign rfl rfl) ?_
        refine ops_nil ?_
        refine at_block ?_
        refine at_then ?_
        refine run_region rfl ?_
        refine ops_ex rfl (guard_none rfl) rfl rfl (ex_move rfl rfl) ?_
        refine ops_ex rfl (guard_none rfl) rfl rfl (ex_add rfl rfl rfl) ?_
        refine ops_ex rfl (guard_none rfl) rfl rfl (ex_assign rfl rfl) ?_
        refine ops_nil ?_
        exact at_again k5960 (ρ1 := [(0, p0), (1, .int .i64 (wrap64 (a5954 + 1))), (5, .int .i64 (wrap64 (a5955 + 1)))]) (Nat.lt_succ_self _) ⟨_, _, ho5949, rfl, HM⟩ (Sub.cons rfl (Sub.cons rfl (Sub.cons rfl Sub.nil)))
    · replace ho5949 := cond_f hb5962 ho5949
      refine run_exit ?_
      refine at_then_exit ?_
      refine at_then_exit ?_
      refine at_block_exit ?_
      exact at_mid (ρ' := [(1, .int .i64 a5954)]) ⟨_, (Option.some.inj ho5949), rfl, HM⟩ (Sub.cons rfl Sub.nil)
  · rintro _ w5966 ⟨a5947, rfl, rfl, HM⟩
    replace H := (thn_inr H)
    refine run_seq ?_
    refine run_region rfl ?_
    refine ops_ex rfl (guard_none rfl) rfl rfl (ex_move rfl rfl) ?_
    refine ops_ex rfl (guard_none rfl) rfl rfl (ex_assign rfl rfl) ?_
    refine ops_nil ?_
    refine at_then ?_
    refine run_ret ?_
    have hR := Option.some.inj H
    subst hR
    exact at_ret1 rfl rfl ⟨_, rfl, rfl, HM⟩

def laws_heldOutS.l0 (x0 : List Out) : Nat → Int → Int → Option (Int ⊕ Int)
  | 0, _, _ => none
  | k + 1, a6200, a6201 => (bif (decide (a6201 < (x0.length : Int))) then (chk (idxOk a6201 x0.length) (bif (((gt x0 a6201).fValue) != a6200) then some (.inl (-1)) else (chk (idxOk a6201 x0.length) ((laws_heldInt64S.f k ((gt x0 a6201).fRule.fKeys) (wrap64 (a6200 + 1))).bind fun t6253 => (bif (decide (t6253 < 0)) then some (.inl (-1)) else (chk (idxOk a6201 x0.length) (bif (((gt x0 a6201).fRule.fNeed) != t6253) then some (.inl (-1)) else (chk (idxOk a6201 x0.length) (bif (((gt x0 a6201).fRule.fAfter) != (wrap64 (t6253 + 1))) then some (.inl (-1)) else laws_heldOutS.l0 x0 k (wrap64 ((wrap64 (t6253 + 1)) + 1)) (wrap64 (a6201 + 1))))))))))) else some (.inr a6200))
theorem laws_heldOutS.l0_z (x0 : List Out) (a6200 : Int) (a6201 : Int) : laws_heldOutS.l0 x0 0 a6200 a6201 = none := rfl
theorem laws_heldOutS.l0_s (x0 : List Out) (k : Nat) (a6200 : Int) (a6201 : Int) : laws_heldOutS.l0 x0 (k + 1) a6200 a6201 = (bif (decide (a6201 < (x0.length : Int))) then (chk (idxOk a6201 x0.length) (bif (((gt x0 a6201).fValue) != a6200) then some (.inl (-1)) else (chk (idxOk a6201 x0.length) ((laws_heldInt64S.f k ((gt x0 a6201).fRule.fKeys) (wrap64 (a6200 + 1))).bind fun t6253 => (bif (decide (t6253 < 0)) then some (.inl (-1)) else (chk (idxOk a6201 x0.length) (bif (((gt x0 a6201).fRule.fNeed) != t6253) then some (.inl (-1)) else (chk (idxOk a6201 x0.length) (bif (((gt x0 a6201).fRule.fAfter) != (wrap64 (t6253 + 1))) then some (.inl (-1)) else laws_heldOutS.l0 x0 k (wrap64 ((wrap64 (t6253 + 1)) + 1)) (wrap64 (a6201 + 1))))))))))) else some (.inr a6200)) := rfl
def laws_heldOutS.f (k : Nat) (x0 : List Out) (x1 : Int) : Option Int := ((laws_heldOutS.l0 x0 k x1 0).bind fun o6164 => thn o6164 (fun r => some r) (fun a6163 => some a6163))
theorem laws_heldOutS.calls {k : Nat} {x0 : List Out} {x1 : Int} {p0 : Value} {w : World} (hp0 : RdS kOut w p0 x0) {r : Int} (H : laws_heldOutS.f k x0 x1 = some r) :
    Calls Tryz.prog 34 ([p0, .int .i64 x1] : List Value).toArray w (fun e w_ => ∃ v, e = .returned v ∧ v = (.int .i64 r) ∧ Mem w [] w_ []) := by
  have HM := Mem.start w
  refine calls_run (N := 52) Tryz.func34 rfl rfl rfl rfl ?_
  unfold laws_heldOutS.f at H
  refine run_seq ?_
  refine run_region rfl ?_
  refine ops_ex rfl (guard_none rfl) rfl rfl (ex_assign rfl rfl) ?_
  refine ops_nil ?_
  refine at_then ?_
  obtain ⟨o6164, ho6165, H⟩ := bind_some H
  refine run_mid (fun ρ_ w_ => ∃ a6163 : Int, Sum.inr a6163 = o6164 ∧ ρ_ = [(1, .int .i64 a6163)] ∧ Mem w [] w_ []) ?_ ?_
  · skip
    refine run_seq ?_
    refine run_region rfl ?_
    refine ops_ex rfl (guard_none rfl) rfl rfl (ex_assign rfl rfl) ?_
    refine ops_nil ?_
    refine at_then ?_
    refine run_block ?_
    refine run_loop (fun k_ ρ_ w_ => ∃ a6200 : Int, ∃ a6201 : Int, laws_heldOutS.l0 x0 k_ a6200 a6201 = some o6164 ∧ ρ_ = [(0, p0), (1, .int .i64 a6200), (5, .int .i64 a6201)] ∧ Mem w [] w_ []) k (ρ1 := [(0, p0), (1, .int .i64 x1), (5, .int .i64 0)]) ⟨_, _, ho6165, rfl, HM⟩ (Sub.cons rfl (Sub.cons rfl (Sub.cons rfl Sub.nil))) ?_
    clear HM ho6165
    rintro k6236 _ w6237 ⟨a6200, a6201, ho6165, rfl, HM⟩
    obtain _ | k6236 := k6236
    · exact nomatch ((laws_heldOutS.l0_z x0 a6200 a6201).symm.trans ho6165)
    replace ho6165 := (laws_heldOutS.l0_s x0 k6236 a6200 a6201).symm.trans ho6165
    refine run_seq ?_
    refine run_seq ?_
    refine run_region rfl ?_
    refine ops_ex rfl (guard_none rfl) rfl rfl (ex_move rfl rfl) ?_
    refine ops_ex rfl (guard_none rfl) rfl rfl (ex_move rfl rfl) ?_
    refine ops_ex rfl (guard_none rfl) rfl rfl (ex_len (d := kOut) (xs := x0) rfl rfl Tryz.underlying23 hp0) ?_
    refine ops_ex rfl (guard_none rfl) rfl rfl (ex_lss rfl rfl rfl) ?_
    refine ops_nil ?_
    refine at_then ?_
    refine run_cond (b := (decide (a6201 < (x0.length : Int)))) rfl (fun hb6238 => ?_) (fun hb6238 => ?_)
    · replace ho6165 := cond_t hb6238 ho6165
      refine run_skip ?_
      refine at_then ?_
      refine run_seq ?_
      refine run_block ?_
      refine run_seq ?_
      refine run_seq ?_
      obtain ⟨e6244, ho6165⟩ := chk_some ho6165
      refine run_region rfl ?_
      refine ops_ex rfl (guard_none rfl) rfl rfl (ex_move rfl rfl) ?_
      refine ops_ex rfl (guard_none rfl) rfl rfl (ex_move rfl rfl) ?_
      obtain ⟨kv6246, hc6245, hk6247⟩ : ∃ u, CellsAt _ (sb p0) (so p0 + (a6201).toNat * 4) [(.int .i64 ((gt x0 a6201).fValue)), u, (.int .i64 ((gt x0 a6201).fRule.fNeed)), (.int .i64 ((gt x0 a6201).fRule.fAfter))] ∧ RdS kInt _ u ((gt x0 a6201).fRule.fKeys) := rd_with1 hp0 e6244
      refine ops_ex rfl (guard_none rfl) rfl rfl (ex_indexAddr (d := kOut) rfl rfl rfl Tryz.underlying23 tsz49 hp0 (idx_lo e6244) (idx_hi e6244)) ?_
      refine ops_ex rfl (guard_none rfl) rfl rfl (ex_fieldAddr (off' := so p0 + (a6201).toNat * 4) rfl rfl Tryz.underlying49 rfl tsz2 rfl) ?_
      refine ops_ex rfl (guard_none rfl) rfl rfl (ex_load1 rfl rfl Tryz.underlying2 rfl ((HM.at_ hc6245) 0 _ rfl)) ?_
      refine ops_ex rfl (guard_none rfl) rfl rfl (ex_move rfl rfl) ?_
      refine ops_ex rfl (guard_none rfl) rfl rfl (ex_neq rfl rfl rfl) ?_
      refine ops_nil ?_
      refine at_then ?_
      refine run_cond (b := (((gt x0 a6201).fValue) != a6200)) rfl (fun hb6248 => ?_) (fun hb6248 => ?_)
      · replace ho6165 := cond_t hb6248 ho6165
        refine run_seq ?_
        refine run_region rfl ?_
        refine ops_ex rfl (guard_none rfl) rfl rfl (ex_assign rfl rfl) ?_
        refine ops_nil ?_
        refine at_then ?_
        refine run_ret ?_
        refine at_then_ret ?_
        refine at_block_ret ?_
        refine at_then_ret ?_
        refine at_then_ret ?_
        refine at_block_ret ?_
        refine at_then_ret ?_
        have hR := Option.some.inj ho6165
        subst hR
        have hT := thn_inl H
        have hR := Option.some.inj hT
        subst hR
        exact at_ret1 rfl rfl ⟨_, rfl, rfl, HM⟩
      · replace ho6165 := cond_f hb6248 ho6165
        refine run_skip ?_
        refine at_then ?_
        refine run_seq ?_
        refine run_region rfl ?_
        refine ops_ex rfl (guard_none rfl) rfl rfl (ex_move rfl rfl) ?_
        refine ops_ex rfl (guard_none rfl) rfl rfl (ex_add rfl rfl rfl) ?_
        refine ops_ex rfl (guard_none rfl) rfl rfl (ex_assign rfl rfl) ?_
        refine ops_nil ?_
        refine at_then ?_
        refine run_seq ?_
        obtain ⟨e6249, ho6165⟩ := chk_some ho6165
        obtain ⟨t6253, h6254, ho6165⟩ := bind_some ho6165
        refine run_region rfl ?_
        refine ops_ex rfl (guard_none rfl) rfl rfl (ex_move rfl rfl) ?_
        refine ops_ex rfl (guard_none rfl) rfl rfl (ex_move rfl rfl) ?_
        obtain ⟨kv6251, hc6250, hk6252⟩ : ∃ u, CellsAt _ (sb p0) (so p0 + (a6201).toNat * 4) [(.int .i64 ((gt x0 a6201).fValue)), u, (.int .i64 ((gt x0 a6201).fRule.fNeed)), (.int .i64 ((gt x0 a6201).fRule.fAfter))] ∧ RdS kInt _ u ((gt x0 a6201).fRule.fKeys) := rd_with1 hp0 e6249
        refine ops_ex rfl (guard_none rfl) rfl rfl (ex_indexAddr (d := kOut) rfl rfl rfl Tryz.underlying23 tsz49 hp0 (idx_lo e6249) (idx_hi e6249)) ?_
        refine ops_ex rfl (guard_none rfl) rfl rfl (ex_fieldAddr (off' := so p0 + (a6201).toNat * 4 + 1) rfl rfl Tryz.underlying49 rfl tsz44 rfl) ?_
        refine ops_ex rfl (guard_none rfl) rfl rfl (ex_fieldAddr (off' := so p0 + (a6201).toNat * 4 + 1) rfl rfl Tryz.underlying44 rfl tsz42 rfl) ?_
        refine ops_ex rfl (guard_none rfl) rfl rfl (ex_load1 rfl rfl Tryz.underlying42 rfl ((HM.at_ hc6250) 1 _ rfl)) ?_
        refine ops_ex rfl (guard_none rfl) rfl rfl (ex_move rfl rfl) ?_
        refine ops_does rfl (guard_none rfl) rfl rfl (does_callk rfl callok59 rfl (laws_heldInt64S.calls (x0 := (gt x0 a6201).fRule.fKeys) (x1 := wrap64 (a6200 + 1)) (HM.rd hk6252) h6254)) ?_
        rintro _ w6255 ⟨rfl, hn⟩
        replace HM : Mem w [] w6255 [] := HM.call hn
        refine ops_ex rfl (guard_none rfl) rfl rfl (ex_assign rfl rfl) ?_
        refine ops_nil ?_
        refine at_then ?_
        refine run_seq ?_
        refine run_seq ?_
        refine run_region rfl ?_
        refine ops_ex rfl (guard_none rfl) rfl rfl (ex_move rfl rfl) ?_
        refine ops_ex rfl (guard_none rfl) rfl rfl (ex_lss rfl rfl rfl) ?_
        refine ops_nil ?_
        refine at_then ?_
        refine run_cond (b := (decide (t6253 < 0))) rfl (fun hb6257 => ?_) (fun hb6257 => ?_)
        · replace ho6165 := cond_t hb6257 ho6165
          refine run_seq ?_
          refine run_region rfl ?_
          refine ops_ex rfl (guard_none rfl) rfl rfl (ex_assign rfl rfl) ?_
          refine ops_nil ?_
          refine at_then ?_
          refine run_ret ?_
          refine at_then_ret ?_
          refine at_block_ret ?_
          refine at_then_ret ?_
          refine at_then_ret ?_
          refine at_block_ret ?_
          refine at_then_ret ?_
          have hR := Option.some.inj ho6165
          subst hR
          have hT := thn_inl H
          have hR := Option.some.inj hT
          subst hR
          exact at_ret1 rfl rfl ⟨_, rfl, rfl, HM⟩
        · replace ho6165 := cond_f hb6257 ho6165
          refine run_skip ?_
          refine at_then ?_
          refine run_seq ?_
          refine run_seq ?_
          obtain ⟨e6263, ho6165⟩ := chk_some ho6165
          refine run_region rfl ?_
          refine ops_ex rfl (guard_none rfl) rfl rfl (ex_move rfl rfl) ?_
          refine ops_ex rfl (guard_none rfl) rfl rfl (ex_move rfl rfl) ?_
          obtain ⟨kv6265, hc6264, hk6266⟩ : ∃ u, CellsAt _ (sb p0) (so p0 + (a6201).toNat * 4) [(.int .i64 ((gt x0 a6201).fValue)), u, (.int .i64 ((gt x0 a6201).fRule.fNeed)), (.int .i64 ((gt x0 a6201).fRule.fAfter))] ∧ RdS kInt _ u ((gt x0 a6201).fRule.fKeys) := rd_with1 hp0 e6263
          refine ops_ex rfl (guard_none rfl) rfl rfl (ex_indexAddr (d := kOut) rfl rfl rfl Tryz.underlying23 tsz49 hp0 (idx_lo e6263) (idx_hi e6263)) ?_
          refine ops_ex rfl (guard_none rfl) rfl rfl (ex_fieldAddr (off' := so p0 + (a6201).toNat * 4 + 1) rfl rfl Tryz.underlying49 rfl tsz44 rfl) ?_
          refine ops_ex rfl (guard_none rfl) rfl rfl (ex_fieldAddr (off' := so p0 + (a6201).toNat * 4 + 2) rfl rfl Tryz.underlying44 rfl tsz2 rfl) ?_
          refine ops_ex rfl (guard_none rfl) rfl rfl (ex_load1 rfl rfl Tryz.underlying2 rfl ((HM.at_ hc6264) 2 _ rfl)) ?_
          refine ops_ex rfl (guard_none rfl) rfl rfl (ex_move rfl rfl) ?_
          refine ops_ex rfl (guard_none rfl) rfl rfl (ex_neq rfl rfl rfl) ?_
          refine ops_nil ?_
          refine at_then ?_
          refine run_cond (b := (((gt x0 a6201).fRule.fNeed) != t6253)) rfl (fun hb6267 => ?_) (fun hb6267 => ?_)
          · replace ho6165 := cond_t hb6267 ho6165
            refine run_seq ?_
            refine run_region rfl ?_
            refine ops_ex rfl (guard_none rfl) rfl rfl (ex_assign rfl rfl) ?_
            refine ops_nil ?_
            refine at_then ?_
            refine run_ret ?_
            refine at_then_ret ?_
            refine at_block_ret ?_
            refine at_then_ret ?_
            refine at_then_ret ?_
            refine at_block_ret ?_
            refine at_then_ret ?_
            have hR := Option.some.inj ho6165
            subst hR
            have hT := thn_inl H
            have hR := Option.some.inj hT
            subst hR
            exact at_ret1 rfl rfl ⟨_, rfl, rfl, HM⟩
          · replace ho6165 := cond_f hb6267 ho6165
            refine run_skip ?_
            refine at_then ?_
            refine run_seq ?_
            refine run_region rfl ?_
            refine ops_ex rfl (guard_none rfl) rfl rfl (ex_move rfl rfl) ?_
            refine ops_ex rfl (guard_none rfl) rfl rfl (ex_add rfl rfl rfl) ?_
            refine ops_ex rfl (guard_none rfl) rfl rfl (ex_assign rfl rfl) ?_
            refine ops_nil ?_
            refine at_then ?_
            refine run_seq ?_
            refine run_seq ?_
            obtain ⟨e6268, ho6165⟩ := chk_some ho6165
            refine run_region rfl ?_
            refine ops_ex rfl (guard_none rfl) rfl rfl (ex_move rfl rfl) ?_
            refine ops_ex rfl (guard_none rfl) rfl rfl (ex_move rfl rfl) ?_
            obtain ⟨kv6270, hc6269, hk6271⟩ : ∃ u, CellsAt _ (sb p0) (so p0 + (a6201).toNat * 4) [(.int .i64 ((gt x0 a6201).fValue)), u, (.int .i64 ((gt x0 a6201).fRule.fNeed)), (.int .i64 ((gt x0 a6201).fRule.fAfter))] ∧ RdS kInt _ u ((gt x0 a6201).fRule.fKeys) := rd_with1 hp0 e6268
            refine ops_ex rfl (guard_none rfl) rfl rfl (ex_indexAddr (d := kOut) rfl rfl rfl Tryz.underlying23 tsz49 hp0 (idx_lo e6268) (idx_hi e6268)) ?_
            refine ops_ex rfl (guard_none rfl) rfl rfl (ex_fieldAddr (off' := so p0 + (a6201).toNat * 4 + 1) rfl rfl Tryz.underlying49 rfl tsz44 rfl) ?_
            refine ops_ex rfl (guard_none rfl) rfl rfl (ex_fieldAddr (off' := so p0 + (a6201).toNat * 4 + 3) rfl rfl Tryz.underlying44 rfl tsz2 rfl) ?_
            refine ops_ex rfl (guard_none rfl) rfl rfl (ex_load1 rfl rfl Tryz.underlying2 rfl ((HM.at_ hc6269) 3 _ rfl)) ?_
            refine ops_ex rfl (guard_none rfl) rfl rfl (ex_move rfl rfl) ?_
            refine ops_ex rfl (guard_none rfl) rfl rfl (ex_neq rfl rfl rfl) ?_
            refine ops_nil ?_
            refine at_then ?_
            refine run_cond (b := (((gt x0 a6201).fRule.fAfter) != (wrap64 (t6253 + 1)))) rfl (fun hb6272 => ?_) (fun hb6272 => ?_)
            · replace ho6165 := cond_t hb6272 ho6165
              refine run_seq ?_
              refine run_region rfl ?_
              refine ops_ex rfl (guard_none rfl) rfl rfl (ex_assign rfl rfl) ?_
              refine ops_nil ?_
              refine at_then ?_
              refine run_ret ?_
              refine at_then_ret ?_
              refine at_block_ret ?_
              refine at_then_ret ?_
              refine at_then_ret ?_
              refine at_block_ret ?_
              refine at_then_ret ?_
              have hR := Option.some.inj ho6165
              subst hR
              have hT := thn_inl H
              have hR := Option.some.inj hT
              subst hR
              exact at_ret1 rfl rfl ⟨_, rfl, rfl, HM⟩
            · replace ho6165 := cond_f hb6272 ho6165
              refine run_skip ?_
              refine at_then ?_
              refine run_region rfl ?_
              refine ops_ex rfl (guard_none rfl) rfl rfl (ex_move rfl rfl) ?_
              refine ops_ex rfl (guard_none rfl) rfl rfl (ex_add rfl rfl rfl) ?_
              refine ops_ex rfl (guard_none rfl) rfl rfl (ex_assign rfl rfl) ?_
              refine ops_nil ?_
              refine at_block ?_
              refine at_then ?_
              refine run_region rfl ?_
              refine ops_ex rfl (guard_none rfl) rfl rfl (ex_move rfl rfl) ?_
              refine ops_ex rfl (guard_none rfl) rfl rfl (ex_add rfl rfl rfl) ?_
              refine ops_ex rfl (guard_none rfl) rfl rfl (ex_assign rfl rfl) ?_
              refine ops_nil ?_
              exact at_again k6236 (ρ1 := [(0, p0), (1, .int .i64 (wrap64 ((wrap64 (t6253 + 1)) + 1))), (5, .int .i64 (wrap64 (a6201 + 1)))]) (Nat.lt_succ_self _) ⟨_, _, ho6165, rfl, HM⟩ (Sub.cons rfl (Sub.cons rfl (Sub.cons rfl Sub.nil)))
    · replace ho6165 := cond_f hb6238 ho6165
      refine run_exit ?_
      refine at_then_exit ?_
      refine at_then_exit ?_
      refine at_block_exit ?_
      exact at_mid (ρ' := [(1, .int .i64 a6200)]) ⟨_, (Option.some.inj ho6165), rfl, HM⟩ (Sub.cons rfl Sub.nil)
  · rintro _ w6273 ⟨a6163, rfl, rfl, HM⟩
    replace H := (thn_inr H)
    refine run_seq ?_
    refine run_region rfl ?_
    refine ops_ex rfl (guard_none rfl) rfl rfl (ex_move rfl rfl) ?_
    refine ops_ex rfl (guard_none rfl) rfl rfl (ex_assign rfl rfl) ?_
    refine ops_nil ?_
    refine at_then ?_
    refine run_ret ?_
    have hR := Option.some.inj H
    subst hR
    exact at_ret1 rfl rfl ⟨_, rfl, rfl, HM⟩

def laws_heldTx.f (k : Nat) (x0 : Tx) (x1 : Int) : Option Int := ((laws_heldRefS.f k x0.fIns x1).bind fun t6281 => (bif (decide (t6281 < 0)) then some (-1) else ((laws_heldOutS.f k x0.fOuts t6281).bind fun t6286 => (bif (decide (t6286 < 0)) then some (-1) else some t6286))))
theorem laws_heldTx.calls {k : Nat} {x0 : Tx} {x1 : Int} {p0_0 : Value} {p0_1 : Value} {w : World} (hp0_0 : RdS kRef w p0_0 x0.fIns) (hp0_1 : RdS kOut w p0_1 x0.fOuts) {r : Int} (H : laws_heldTx.f k x0 x1 = some r) :
    Calls Tryz.prog 13 ([.agg #[(.int .i64 x0.fKind), (.int .i64 x0.fMember), p0_0, p0_1], .int .i64 x1] : List Value).toArray w (fun e w_ => ∃ v, e = .returned v ∧ v = (.int .i64 r) ∧ Mem w [] w_ []) := by
  have HM := Mem.start w
  refine calls_run (N := 18) Tryz.func13 rfl rfl rfl rfl ?_
  unfold laws_heldTx.f at H
  refine run_seq ?_
  refine run_region rfl ?_
  refine ops_does rfl (guard_none rfl) rfl rfl (does_box (cs := [.int .i64 x0.fKind, .int .i64 x0.fMember, p0_0, p0_1]) rfl rfl rfl HM) ?_
  rintro _ w6280 ⟨b6277, rfl, HM⟩
  refine ops_ex rfl (guard_none rfl) rfl rfl (ex_assign rfl rfl) ?_
  refine ops_nil ?_
  refine at_then ?_
  refine run_seq ?_
  obtain ⟨t6281, h6282, H⟩ := bind_some H
  refine run_region rfl ?_
  refine ops_ex rfl (guard_none rfl) rfl rfl (ex_fieldAddr (off' := 2) rfl rfl Tryz.underlying25 rfl tsz22 rfl) ?_
  refine ops_ex rfl (guard_none rfl) rfl rfl (ex_load1 rfl rfl Tryz.underlying22 rfl ((HM.box_at 0 rfl) 2 _ rfl)) ?_
  refine ops_ex rfl (guard_none rfl) rfl rfl (ex_move rfl rfl) ?_
  refine ops_does rfl (guard_none rfl) rfl rfl (does_callk rfl callok33 rfl (laws_heldRefS.calls (x0 := x0.fIns) (x1 := x1) (HM.rd hp0_0) h6282)) ?_
  rintro _ w6283 ⟨rfl, hn⟩
  replace HM : Mem w [] w6283 [box b6277 25 [.int .i64 x0.fKind, .int .i64 x0.fMember, p0_0, p0_1]] := HM.call hn
  refine ops_ex rfl (guard_none rfl) rfl rfl (ex_assign rfl rfl) ?_
  refine ops_nil ?_
  refine at_then ?_
  refine run_seq ?_
  refine run_seq ?_
  refine run_region rfl ?_
  refine ops_ex rfl (guard_none rfl) rfl rfl (ex_move rfl rfl) ?_
  refine ops_ex rfl (guard_none rfl) rfl rfl (ex_lss rfl rfl rfl) ?_
  refine ops_nil ?_
  refine at_then ?_
  refine run_cond (b := (decide (t6281 < 0))) rfl (fun hb6285 => ?_) (fun hb6285 => ?_)
  · replace H := cond_t hb6285 H
    refine run_seq ?_
    refine run_region rfl ?_
    refine ops_ex rfl (guard_none rfl) rfl rfl (ex_assign rfl rfl) ?_
    refine ops_nil ?_
    refine at_then ?_
    refine run_ret ?_
    refine at_then_ret ?_
    replace HM := (HM.front 0 rfl rfl).drop
    have hR := Option.some.inj H
    subst hR
    exact at_ret1 rfl rfl ⟨_, rfl, rfl, HM⟩
  · replace H := cond_f hb6285 H
    refine run_skip ?_
    refine at_then ?_
    refine run_seq ?_
    obtain ⟨t6286, h6287, H⟩ := bind_some H
    refine run_region rfl ?_
    refine ops_ex rfl (guard_none rfl) rfl rfl (ex_fieldAddr (off' := 3) rfl rfl Tryz.underlying25 rfl tsz23 rfl) ?_
    refine ops_ex rfl (guard_none rfl) rfl rfl (ex_load1 rfl rfl Tryz.underlying23 rfl ((HM.box_at 0 rfl) 3 _ rfl)) ?_
    refine ops_ex rfl (guard_none rfl) rfl rfl (ex_move rfl rfl) ?_
    refine ops_does rfl (guard_none rfl) rfl rfl (does_callk rfl callok34 rfl (laws_heldOutS.calls (x0 := x0.fOuts) (x1 := t6281) (HM.rd hp0_1) h6287)) ?_
    rintro _ w6288 ⟨rfl, hn⟩
    replace HM : Mem w [] w6288 [box b6277 25 [.int .i64 x0.fKind, .int .i64 x0.fMember, p0_0, p0_1]] := HM.call hn
    refine ops_ex rfl (guard_none rfl) rfl rfl (ex_assign rfl rfl) ?_
    refine ops_nil ?_
    refine at_then ?_
    refine run_seq ?_
    refine run_seq ?_
    refine run_region rfl ?_
    refine ops_ex rfl (guard_none rfl) rfl rfl (ex_move rfl rfl) ?_
    refine ops_ex rfl (guard_none rfl) rfl rfl (ex_lss rfl rfl rfl) ?_
    refine ops_nil ?_
    refine at_then ?_
    refine run_cond (b := (decide (t6286 < 0))) rfl (fun hb6289 => ?_) (fun hb6289 => ?_)
    · replace H := cond_t hb6289 H
      refine run_seq ?_
      refine run_region rfl ?_
      refine ops_ex rfl (guard_none rfl) rfl rfl (ex_assign rfl rfl) ?_
      refine ops_nil ?_
      refine at_then ?_
      refine run_ret ?_
      refine at_then_ret ?_
      replace HM := (HM.front 0 rfl rfl).drop
      have hR := Option.some.inj H
      subst hR
      exact at_ret1 rfl rfl ⟨_, rfl, rfl, HM⟩
    · replace H := cond_f hb6289 H
      refine run_skip ?_
      refine at_then ?_
      refine run_seq ?_
      refine run_region rfl ?_
      refine ops_ex rfl (guard_none rfl) rfl rfl (ex_move rfl rfl) ?_
      refine ops_ex rfl (guard_none rfl) rfl rfl (ex_assign rfl rfl) ?_
      refine ops_nil ?_
      refine at_then ?_
      refine run_ret ?_
      replace HM := (HM.front 0 rfl rfl).drop
      have hR := Option.some.inj H
      subst hR
      exact at_ret1 rfl rfl ⟨_, rfl, rfl, HM⟩
end Go.Proofs.YtcpacdbdehphkaaGreatDoor.Zk
