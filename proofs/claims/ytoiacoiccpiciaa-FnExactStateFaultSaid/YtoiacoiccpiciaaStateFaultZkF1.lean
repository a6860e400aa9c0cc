/- What functions of the program compute, each as a plain function, and that they do. Conditions: as each theorem states them. -/
import Derived.Test.YtoiacoiccpiciaaStateFaultZkF0
namespace Go.Proofs.Ytoiacoiccpiciaa.Zk
open Go Go.RowKit Go.IntWalk Go.Proofs
set_option linter.unusedVariables false
set_option linter.unusedSimpArgs false
set_option maxRecDepth 100000
set_option maxHeartbeats 4000000
def laws_toMember.f (k : Nat) (x0 : Member) : Option Member := ((laws_toRef.f k x0.fRef).bind fun t546 => some (⟨x0.fKey, t546⟩ : Member))
theorem laws_toMember.calls {k : Nat} {x0 : Member}  {w : World}  {r : Member} (H : laws_toMember.f k x0 = some r) :
    Calls Try.prog 111 ([.agg #[(.int .i64 x0.fKey), (.int .i64 x0.fRef.fTx), (.int .i64 x0.fRef.fAt)]] : List Value).toArray w (fun e w_ => ∃ v, e = .returned v ∧ v = (.agg #[.int .i64 r.fKey, .int .i64 r.fRef.fTx, .int .i64 r.fRef.fAt]) ∧ Mem w [] w_ []) := by
  have HM := Mem.start w
  refine calls_run (N := 12) Try.func111 rfl rfl rfl rfl ?_
  unfold laws_toMember.f at H
  refine run_seq ?_
  refine run_region rfl ?_
  refine ops_does rfl (guard_none rfl) rfl rfl (does_box (cs := [.int .i64 x0.fKey, .int .i64 x0.fRef.fTx, .int .i64 x0.fRef.fAt]) rfl rfl rfl HM) ?_
  rintro _ w539 ⟨b533, rfl, HM⟩
  refine ops_does rfl (guard_none rfl) rfl rfl (does_alloc (cs := [.int .i64 0, .int .i64 0, .int .i64 0]) rfl tz144 rfl HM) ?_
  rintro _ w540 ⟨b536, rfl, HM⟩
  refine ops_nil ?_
  refine at_then ?_
  refine run_seq ?_
  refine run_region rfl ?_
  refine ops_does rfl (guard_none rfl) rfl rfl (does_alloc (cs := [.int .i64 0, .int .i64 0, .int .i64 0]) rfl tz144 rfl HM) ?_
  rintro _ w544 ⟨b541, rfl, HM⟩
  refine ops_nil ?_
  refine at_then ?_
  refine run_seq ?_
  refine run_region rfl ?_
  refine ops_ex rfl (guard_none rfl) rfl rfl (ex_fieldAddr (off' := 0) rfl rfl Try.underlying147 rfl tsz2 rfl) ?_
  refine ops_ex rfl (guard_none rfl) rfl rfl (ex_load1 rfl rfl Try.underlying2 rfl ((HM.box_at 2 rfl) 0 _ rfl)) ?_
  refine ops_ex rfl (guard_none rfl) rfl rfl (ex_fieldAddr (off' := 0) rfl rfl Try.underlying144 rfl tsz2 rfl) ?_
  refine ops_doesS rfl (guard_none rfl) rfl (does_store (vs := [.int .i64 x0.fKey]) (cs' := [.int .i64 x0.fKey, .int .i64 0, .int .i64 0]) rfl rfl rfl rfl tsz2 (Ones.int Ones.nil) rfl rfl HM) ?_
  rintro w545 HM
  refine ops_nil ?_
  refine at_then ?_
  refine run_seq ?_
  obtain ⟨t546, h547, H⟩ := bind_some H
  refine run_region rfl ?_
  refine ops_ex rfl (guard_none rfl) rfl rfl (ex_fieldAddr (off' := 1) rfl rfl Try.underlying147 rfl tsz92 rfl) ?_
  refine ops_ex rfl (guard_none rfl) rfl rfl (ex_loadN (cs := [(.int .i64 x0.fRef.fTx), (.int .i64 x0.fRef.fAt)]) rfl rfl Try.underlying92 rfl tsz92 rfl ((HM.box_at 2 rfl).sub 1 2 rfl)) ?_
  refine ops_does rfl (guard_none rfl) rfl rfl (does_callk rfl callok122 rfl (laws_toRef.calls (x0 := x0.fRef) h547)) ?_
  rintro _ w548 ⟨rfl, hn⟩
  replace HM : Mem w [] w548 [box b541 144 [.int .i64 x0.fKey, .int .i64 0, .int .i64 0], box b536 144 [.int .i64 0, .int .i64 0, .int .i64 0], box b533 147 [.int .i64 x0.fKey, .int .i64 x0.fRef.fTx, .int .i64 x0.fRef.fAt]] := HM.call hn
  refine ops_ex rfl (guard_none rfl) rfl rfl (ex_fieldAddr (off' := 1) rfl rfl Try.underlying144 rfl tsz99 rfl) ?_
  refine ops_doesS rfl (guard_none rfl) rfl (does_store (vs := [.int .i64 t546.fTx, .int .i64 t546.fAt]) (cs' := [.int .i64 x0.fKey, .int .i64 t546.fTx, .int .i64 t546.fAt]) rfl rfl rfl rfl tsz99 (Ones.int (Ones.int Ones.nil)) rfl rfl HM) ?_
  rintro w549 HM
  refine ops_nil ?_
  refine at_then ?_
  refine run_seq ?_
  refine run_region rfl ?_
  refine ops_ex rfl (guard_none rfl) rfl rfl (ex_loadN (cs := [(.int .i64 x0.fKey), (.int .i64 t546.fTx), (.int .i64 t546.fAt)]) rfl rfl Try.underlying144 rfl tsz144 rfl ((HM.box_at 0 rfl).sub 0 3 rfl)) ?_
  replace HM := HM.front 1 rfl rfl
  refine ops_doesS rfl (guard_none rfl) rfl (does_store (vs := [.int .i64 x0.fKey, .int .i64 t546.fTx, .int .i64 t546.fAt]) (cs' := [.int .i64 x0.fKey, .int .i64 t546.fTx, .int .i64 t546.fAt]) rfl rfl rfl rfl tsz144 (Ones.int (Ones.int (Ones.int Ones.nil))) rfl rfl HM) ?_
  rintro w550 HM
  refine ops_nil ?_
  refine at_then ?_
  refine run_ret ?_
  replace HM := (HM.front 1 rfl rfl).drop
  replace HM := (HM.front 1 rfl rfl).drop
  have hcb0 := HM.box_at 0 rfl
  replace HM := (HM.front 0 rfl rfl).drop
  have hR := Option.some.inj H
  subst hR
  exact at_retN rfl rfl Try.underlying144 rfl tsz144 rfl hcb0 ⟨_, rfl, rfl, HM⟩

def laws_toMemberS.l0 (x0 : List Member) : Nat → (List Member) → Int → Option ((List Member))
  | 0, _, _ => none
  | k + 1, a615, a617 => (bif (decide (a617 < (x0.length : Int))) then (chk (idxOk a617 x0.length) ((laws_toMember.f k (gt x0 a617)).bind fun t629 => (chk (idxOk a617 a615.length) (laws_toMemberS.l0 x0 k (a615.set (a617).toNat t629) (wrap64 (a617 + 1)))))) else some a615)
theorem laws_toMemberS.l0_z (x0 : List Member) (a615 : List Member) (a617 : Int) : laws_toMemberS.l0 x0 0 a615 a617 = none := rfl
theorem laws_toMemberS.l0_s (x0 : List Member) (k : Nat) (a615 : List Member) (a617 : Int) : laws_toMemberS.l0 x0 (k + 1) a615 a617 = (bif (decide (a617 < (x0.length : Int))) then (chk (idxOk a617 x0.length) ((laws_toMember.f k (gt x0 a617)).bind fun t629 => (chk (idxOk a617 a615.length) (laws_toMemberS.l0 x0 k (a615.set (a617).toNat t629) (wrap64 (a617 + 1)))))) else some a615) := rfl
def laws_toMemberS.f (k : Nat) (x0 : List Member) : Option ((List Member)) := (chk (decide (0 ≤ (x0.length : Int))) (chk (leB (((x0.length : Int)).toNat * 24) 281474976710656) ((laws_toMemberS.l0 x0 k (List.replicate ((x0.length : Int)).toNat (⟨0, (⟨0, 0⟩ : Ref)⟩ : Member)) 0).bind (fun a604 => some a604))))
theorem laws_toMemberS.calls {k : Nat} {x0 : List Member} {p0 : Value} {w : World} (hp0 : RdS kMember w p0 x0) {r : (List Member)} (H : laws_toMemberS.f k x0 = some r) :
    Calls Try.prog 50 ([p0] : List Value).toArray w (fun e w_ => ∃ v, e = .returned v ∧ ∃ u0 : Value, v = u0 ∧ Mem w [] w_ [own kMember 144 u0 r]) := by
  have HM := Mem.start w
  refine calls_run (N := 23) Try.func50 rfl rfl rfl rfl ?_
  unfold laws_toMemberS.f at H
  refine run_seq ?_
  refine run_region rfl ?_
  refine ops_ex rfl (guard_none rfl) rfl rfl (ex_assign rfl rfl) ?_
  refine ops_nil ?_
  refine at_then ?_
  refine run_seq ?_
  obtain ⟨e578, H⟩ := chk_some H
  obtain ⟨e579, H⟩ := chk_some H
  refine run_region rfl ?_
  refine ops_ex rfl (guard_none rfl) rfl rfl (ex_move rfl rfl) ?_
  refine ops_ex rfl (guard_none rfl) rfl rfl (ex_len (d := kMember) (xs := x0) rfl rfl Try.underlying44 hp0) ?_
  refine ops_does rfl (guard_none rfl) rfl rfl (does_make (x := (⟨0, (⟨0, 0⟩ : Ref)⟩ : Member)) kMember rfl rfl rfl Try.underlying49 tsz144 tby144 tz144 rfl rfl (fun _ => ⟨rfl, rfl⟩) (of_decide_eq_true e578) rfl (leB_le e579) rfl HM) ?_
  rintro v575 w580 HM
  refine ops_ex rfl (guard_none rfl) rfl rfl (ex_assign rfl rfl) ?_
  refine ops_nil ?_
  refine at_then ?_
  obtain ⟨o606, ho607, H⟩ := bind_some H
  refine run_mid (fun ρ_ w_ => ∃ v603 : Value, ∃ a604 : List Member, a604 = o606 ∧ ρ_ = [(3, v603)] ∧ Mem w [] w_ [own kMember 144 v603 a604]) ?_ ?_
  · clear H
    refine run_seq ?_
    refine run_region rfl ?_
    refine ops_ex rfl (guard_none rfl) rfl rfl (ex_assign rfl rfl) ?_
    refine ops_nil ?_
    refine at_then ?_
    refine run_block ?_
    refine run_loop (fun k_ ρ_ w_ => ∃ v614 : Value, ∃ a615 : List Member, ∃ a617 : Int, laws_toMemberS.l0 x0 k_ a615 a617 = some o606 ∧ ρ_ = [(0, p0), (3, v614), (4, .int .i64 a617)] ∧ Mem w [] w_ [own kMember 144 v614 a615]) k (ρ1 := [(0, p0), (3, v575), (4, .int .i64 0)]) ⟨_, _, _, ho607, rfl, HM⟩ (Sub.cons rfl (Sub.cons rfl (Sub.cons rfl Sub.nil))) ?_
    clear HM ho607
    rintro k624 _ w625 ⟨v614, a615, a617, ho607, rfl, HM⟩
    obtain _ | k624 := k624
    · exact nomatch ((laws_toMemberS.l0_z x0 a615 a617).symm.trans ho607)
    replace ho607 := (laws_toMemberS.l0_s x0 k624 a615 a617).symm.trans ho607
    refine run_seq ?_
    refine run_seq ?_
    refine run_region rfl ?_
    refine ops_ex rfl (guard_none rfl) rfl rfl (ex_move rfl rfl) ?_
    refine ops_ex rfl (guard_none rfl) rfl rfl (ex_move rfl rfl) ?_
    refine ops_ex rfl (guard_none rfl) rfl rfl (ex_len (d := kMember) (xs := x0) rfl rfl Try.underlying44 hp0) ?_
    refine ops_ex rfl (guard_none rfl) rfl rfl (ex_lss rfl rfl rfl) ?_
    refine ops_nil ?_
    refine at_then ?_
    refine run_cond (b := (decide (a617 < (x0.length : Int)))) rfl (fun hb626 => ?_) (fun hb626 => ?_)
    · replace ho607 := cond_t hb626 ho607
      refine run_skip ?_
      refine at_then ?_
      refine run_seq ?_
      refine run_block ?_
      obtain ⟨e627, ho607⟩ := chk_some ho607
      obtain ⟨t629, h630, ho607⟩ := bind_some ho607
      obtain ⟨e631, ho607⟩ := chk_some ho607
      refine run_region rfl ?_
      refine ops_ex rfl (guard_none rfl) rfl rfl (ex_move rfl rfl) ?_
      refine ops_ex rfl (guard_none rfl) rfl rfl (ex_move rfl rfl) ?_
      refine ops_ex rfl (guard_none rfl) rfl rfl (ex_move rfl rfl) ?_
      refine ops_ex rfl (guard_none rfl) rfl rfl (ex_move rfl rfl) ?_
      have hc628 : CellsAt _ (sb p0) (so p0 + (a617).toNat * 3) [(.int .i64 ((gt x0 a617).fKey)), (.int .i64 ((gt x0 a617).fRef.fTx)), (.int .i64 ((gt x0 a617).fRef.fAt))] := rd_plain hp0 e627
      refine ops_ex rfl (guard_none rfl) rfl rfl (ex_indexAddr (d := kMember) rfl rfl rfl Try.underlying44 tsz147 hp0 (idx_lo e627) (idx_hi e627)) ?_
      refine ops_ex rfl (guard_none rfl) rfl rfl (ex_loadN (cs := [(.int .i64 ((gt x0 a617).fKey)), (.int .i64 ((gt x0 a617).fRef.fTx)), (.int .i64 ((gt x0 a617).fRef.fAt))]) rfl rfl Try.underlying147 rfl tsz147 rfl ((HM.at_ hc628).sub 0 3 rfl)) ?_
      refine ops_does rfl (guard_none rfl) rfl rfl (does_callk rfl callok111 rfl (laws_toMember.calls (x0 := (gt x0 a617)) h630)) ?_
      rintro _ w632 ⟨rfl, hn⟩
      replace HM : Mem w [] w632 [own kMember 144 v614 a615] := HM.call hn
      refine ops_ex rfl (guard_none rfl) rfl rfl (ex_indexAddr (d := kMember) rfl rfl rfl Try.underlying49 tsz144 (HM.own_rd 0 rfl) (idx_lo e631) (idx_hi e631)) ?_
      refine ops_doesS rfl (guard_none rfl) rfl (does_setElem (vs := [(.int .i64 t629.fKey), (.int .i64 t629.fRef.fTx), (.int .i64 t629.fRef.fAt)]) (y := t629) kMember rfl rfl rfl rfl rfl tsz144 rfl rfl (idx_nat e631) (fun _ _ h => ⟨rfl, h⟩) (HM.emp.front 1 rfl rfl)) ?_
      rintro w633 HM
      refine ops_nil ?_
      refine at_block ?_
      refine at_then ?_
      refine run_region rfl ?_
      refine ops_ex rfl (guard_none rfl) rfl rfl (ex_move rfl rfl) ?_
      refine ops_ex rfl (guard_none rfl) rfl rfl (ex_add rfl rfl rfl) ?_
      refine ops_ex rfl (guard_none rfl) rfl rfl (ex_assign rfl rfl) ?_
      refine ops_nil ?_
      exact at_again k624 (ρ1 := [(0, p0), (3, v614), (4, .int .i64 (wrap64 (a617 + 1)))]) (Nat.lt_succ_self _) ⟨_, _, _, ho607, rfl, HM⟩ (Sub.cons rfl (Sub.cons rfl (Sub.cons rfl Sub.nil)))
    · replace ho607 := cond_f hb626 ho607
      refine run_exit ?_
      refine at_then_exit ?_
      refine at_then_exit ?_
      refine at_block_exit ?_
      exact at_mid (ρ' := [(3, v614)]) ⟨_, _, (Option.some.inj ho607), rfl, HM⟩ (Sub.cons rfl Sub.nil)
  · rintro _ w634 ⟨v603, a604, rfl, rfl, HM⟩
    refine run_seq ?_
    refine run_region rfl ?_
    refine ops_ex rfl (guard_none rfl) rfl rfl (ex_move rfl rfl) ?_
    refine ops_ex rfl (guard_none rfl) rfl rfl (ex_assign rfl rfl) ?_
    refine ops_nil ?_
    refine at_then ?_
    refine run_ret ?_
    have hR := Option.some.inj H
    subst hR
    exact at_ret1 rfl rfl ⟨_, rfl, _, rfl, HM⟩

def laws_toState.f (k : Nat) (x0 : State) : Option State := ((laws_toCoinS.f k x0.fCoins).bind fun t653 => ((laws_toMemberS.f k x0.fMembers).bind fun t659 => some (⟨x0.fTip, x0.fHeight, t653, t659⟩ : State)))
theorem laws_toState.calls {k : Nat} {x0 : State} {p0_0 : Value} {p0_1 : Value} {w : World} (hp0_0 : RdS kCoin w p0_0 x0.fCoins) (hp0_1 : RdS kMember w p0_1 x0.fMembers) {r : State} (H : laws_toState.f k x0 = some r) :
    Calls Try.prog 31 ([.agg #[(.int .i64 x0.fTip), (.int .i64 x0.fHeight), p0_0, p0_1]] : List Value).toArray w (fun e w_ => ∃ v, e = .returned v ∧ ∃ u0 : Value, ∃ u1 : Value, v = (.agg #[.int .i64 r.fTip, .int .i64 r.fHeight, u0, u1]) ∧ Mem w [] w_ [own kCoin 104 u0 r.fCoins, own kMember 144 u1 r.fMembers]) := by
  have HM := Mem.start w
  refine calls_run (N := 19) Try.func31 rfl rfl rfl rfl ?_
  unfold laws_toState.f at H
  refine run_seq ?_
  refine run_region rfl ?_
  refine ops_does rfl (guard_none rfl) rfl rfl (does_box (cs := [.int .i64 x0.fTip, .int .i64 x0.fHeight, p0_0, p0_1]) rfl rfl rfl HM) ?_
  rintro _ w645 ⟨b639, rfl, HM⟩
  refine ops_does rfl (guard_none rfl) rfl rfl (does_alloc (cs := [.int .i64 0, .int .i64 0, .slice none 0 0, .slice none 0 0]) rfl tz51 rfl HM) ?_
  rintro _ w646 ⟨b642, rfl, HM⟩
  refine ops_nil ?_
  refine at_then ?_
  refine run_seq ?_
  refine run_region rfl ?_
  refine ops_does rfl (guard_none rfl) rfl rfl (does_alloc (cs := [.int .i64 0, .int .i64 0, .slice none 0 0, .slice none 0 0]) rfl tz51 rfl HM) ?_
  rintro _ w650 ⟨b647, rfl, HM⟩
  refine ops_nil ?_
  refine at_then ?_
  refine run_seq ?_
  refine run_region rfl ?_
  refine ops_ex rfl (guard_none rfl) rfl rfl (ex_fieldAddr (off' := 0) rfl rfl Try.underlying46 rfl tsz2 rfl) ?_
  refine ops_ex rfl (guard_none rfl) rfl rfl (ex_load1 rfl rfl Try.underlying2 rfl ((HM.box_at 2 rfl) 0 _ rfl)) ?_
  refine ops_ex rfl (guard_none rfl) rfl rfl (ex_fieldAddr (off' := 0) rfl rfl Try.underlying51 rfl tsz2 rfl) ?_
  refine ops_doesS rfl (guard_none rfl) rfl (does_store (vs := [.int .i64 x0.fTip]) (cs' := [.int .i64 x0.fTip, .int .i64 0, .slice none 0 0, .slice none 0 0]) rfl rfl rfl rfl tsz2 (Ones.int Ones.nil) rfl rfl HM) ?_
  rintro w651 HM
  refine ops_nil ?_
  refine at_then ?_
  refine run_seq ?_
  refine run_region rfl ?_
  refine ops_ex rfl (guard_none rfl) rfl rfl (ex_fieldAddr (off' := 1) rfl rfl Try.underlying46 rfl tsz2 rfl) ?_
  refine ops_ex rfl (guard_none rfl) rfl rfl (ex_load1 rfl rfl Try.underlying2 rfl ((HM.box_at 2 rfl) 1 _ rfl)) ?_
  refine ops_ex rfl (guard_none rfl) rfl rfl (ex_fieldAddr (off' := 1) rfl rfl Try.underlying51 rfl tsz2 rfl) ?_
  refine ops_doesS rfl (guard_none rfl) rfl (does_store (vs := [.int .i64 x0.fHeight]) (cs' := [.int .i64 x0.fTip, .int .i64 x0.fHeight, .slice none 0 0, .slice none 0 0]) rfl rfl rfl rfl tsz2 (Ones.int Ones.nil) rfl rfl HM) ?_
  rintro w652 HM
  refine ops_nil ?_
  refine at_then ?_
  refine run_seq ?_
  obtain ⟨t653, h654, H⟩ := bind_some H
  refine run_region rfl ?_
  refine ops_ex rfl (guard_none rfl) rfl rfl (ex_fieldAddr (off' := 2) rfl rfl Try.underlying46 rfl tsz22 rfl) ?_
  refine ops_ex rfl (guard_none rfl) rfl rfl (ex_load1 rfl rfl Try.underlying22 rfl ((HM.box_at 2 rfl) 2 _ rfl)) ?_
  refine ops_does rfl (guard_none rfl) rfl rfl (does_callk rfl callok17 rfl (laws_toCoinS.calls (x0 := x0.fCoins) (HM.rd hp0_0) h654)) ?_
  rintro u655 w657 ⟨_, rfl, hn⟩
  replace HM : Mem w [] w657 [own kCoin 104 u655 t653, box b647 51 [.int .i64 x0.fTip, .int .i64 x0.fHeight, .slice none 0 0, .slice none 0 0], box b642 51 [.int .i64 0, .int .i64 0, .slice none 0 0, .slice none 0 0], box b639 46 [.int .i64 x0.fTip, .int .i64 x0.fHeight, p0_0, p0_1]] := HM.call hn
  refine ops_ex rfl (guard_none rfl) rfl rfl (ex_fieldAddr (off' := 2) rfl rfl Try.underlying51 rfl tsz25 rfl) ?_
  replace HM := HM.front 1 rfl rfl
  refine ops_doesS rfl (guard_none rfl) rfl (does_store (vs := [u655]) (cs' := [.int .i64 x0.fTip, .int .i64 x0.fHeight, u655, .slice none 0 0]) rfl rfl rfl (rd_cells (HM.own_rd 1 rfl)) tsz25 (Ones.rd (HM.own_rd 1 rfl) Ones.nil) rfl rfl HM) ?_
  rintro w658 HM
  refine ops_nil ?_
  refine at_then ?_
  refine run_seq ?_
  obtain ⟨t659, h660, H⟩ := bind_some H
  refine run_region rfl ?_
  refine ops_ex rfl (guard_none rfl) rfl rfl (ex_fieldAddr (off' := 3) rfl rfl Try.underlying46 rfl tsz44 rfl) ?_
  refine ops_ex rfl (guard_none rfl) rfl rfl (ex_load1 rfl rfl Try.underlying44 rfl ((HM.box_at 3 rfl) 3 _ rfl)) ?_
  refine ops_does rfl (guard_none rfl) rfl rfl (does_callk rfl callok50 rfl (laws_toMemberS.calls (x0 := x0.fMembers) (HM.rd hp0_1) h660)) ?_
  rintro u661 w663 ⟨_, rfl, hn⟩
  replace HM : Mem w [] w663 [own kMember 144 u661 t659, box b647 51 [.int .i64 x0.fTip, .int .i64 x0.fHeight, u655, .slice none 0 0], own kCoin 104 u655 t653, box b642 51 [.int .i64 0, .int .i64 0, .slice none 0 0, .slice none 0 0], box b639 46 [.int .i64 x0.fTip, .int .i64 x0.fHeight, p0_0, p0_1]] := HM.call hn
  refine ops_ex rfl (guard_none rfl) rfl rfl (ex_fieldAddr (off' := 3) rfl rfl Try.underlying51 rfl tsz49 rfl) ?_
  replace HM := HM.front 1 rfl rfl
  refine ops_doesS rfl (guard_none rfl) rfl (does_store (vs := [u661]) (cs' := [.int .i64 x0.fTip, .int .i64 x0.fHeight, u655, u661]) rfl rfl rfl (rd_cells (HM.own_rd 1 rfl)) tsz49 (Ones.rd (HM.own_rd 1 rfl) Ones.nil) rfl rfl HM) ?_
  rintro w664 HM
  refine ops_nil ?_
  refine at_then ?_
  refine run_seq ?_
  refine run_region rfl ?_
  refine ops_ex rfl (guard_none rfl) rfl rfl (ex_loadN (cs := [(.int .i64 x0.fTip), (.int .i64 x0.fHeight), u655, u661]) rfl rfl Try.underlying51 rfl tsz51 rfl ((HM.box_at 0 rfl).sub 0 4 rfl)) ?_
  replace HM := HM.front 3 rfl rfl
  refine ops_doesS rfl (guard_none rfl) rfl (does_store (vs := [.int .i64 x0.fTip, .int .i64 x0.fHeight, u655, u661]) (cs' := [.int .i64 x0.fTip, .int .i64 x0.fHeight, u655, u661]) rfl rfl rfl rfl tsz51 (Ones.int (Ones.int (Ones.rd (HM.own_rd 3 rfl) (Ones.rd (HM.own_rd 2 rfl) Ones.nil)))) rfl rfl HM) ?_
  rintro w665 HM
  refine ops_nil ?_
  refine at_then ?_
  refine run_ret ?_
  replace HM := (HM.front 1 rfl rfl).drop
  replace HM := (HM.front 3 rfl rfl).drop
  replace HM := HM.front 1 rfl rfl
  replace HM := HM.front 2 rfl rfl
  replace HM := HM.front 2 rfl rfl
  have hcb0 := HM.box_at 0 rfl
  replace HM := (HM.front 0 rfl rfl).drop
  have hR := Option.some.inj H
  subst hR
  exact at_retN rfl rfl Try.underlying51 rfl tsz51 rfl hcb0 ⟨_, rfl, _, _, rfl, HM⟩

def spec_l1In.f (k : Nat) (x0 : Int) (x1 : Int) (x2 : Int) : Option Bool := some ((decide (x1 ≤ x0)) && (decide (x0 ≤ x2)))
theorem spec_l1In.calls {k : Nat} {x0 : Int} {x1 : Int} {x2 : Int}  {w : World}  {r : Bool} (H : spec_l1In.f k x0 x1 x2 = some r) :
    Calls Try.prog 136 ([.int .i64 x0, .int .i64 x1, .int .i64 x2] : List Value).toArray w (fun e w_ => ∃ v, e = .returned v ∧ v = (.bool r) ∧ Mem w [] w_ []) := by
  have HM := Mem.start w
  refine calls_run (N := 15) Try.func136 rfl rfl rfl rfl ?_
  unfold spec_l1In.f at H
  refine run_seq ?_
  refine run_region rfl ?_
  refine ops_ex rfl (guard_none rfl) rfl rfl (ex_assign rfl rfl) ?_
  refine ops_nil ?_
  refine at_then ?_
  refine run_seq ?_
  refine run_meet (fun ρ_ w_ => ρ_ = [(6, .bool ((decide (x1 ≤ x0)) && (decide (x0 ≤ x2))))] ∧ Mem w [] w_ []) ?_ ?_
  · skip
    refine run_region rfl ?_
    refine ops_ex rfl (guard_none rfl) rfl rfl (ex_move rfl rfl) ?_
    refine ops_ex rfl (guard_none rfl) rfl rfl (ex_move rfl rfl) ?_
    refine ops_ex rfl (guard_none rfl) rfl rfl (ex_geq rfl rfl rfl) ?_
    refine ops_ex rfl (guard_none rfl) rfl rfl (ex_move rfl rfl) ?_
    refine bool_cases (decide (x1 ≤ x0)) (fun hg675 => ?_) (fun hg675 => ?_)
    · skip
      refine ops_ex rfl (guard_on rfl rfl rfl hg675) rfl rfl (ex_move rfl rfl) ?_
      refine ops_ex rfl (guard_on rfl rfl rfl hg675) rfl rfl (ex_move rfl rfl) ?_
      refine ops_ex rfl (guard_on rfl rfl rfl hg675) rfl rfl (ex_leq rfl rfl rfl) ?_
      refine ops_ex (v := .bool ((decide (x1 ≤ x0)) && (decide (x0 ≤ x2)))) rfl (guard_none rfl) rfl rfl (ex_pand_t rfl rfl hg675 rfl) ?_
      refine ops_ex rfl (guard_none rfl) rfl rfl (ex_assign rfl rfl) ?_
      refine ops_nil ?_
      exact at_meet [(6, .bool ((decide (x1 ≤ x0)) && (decide (x0 ≤ x2))))] ⟨rfl, HM⟩ (Sub.cons rfl Sub.nil)
    · skip
      refine ops_off rfl (guard_off rfl rfl rfl hg675) rfl rfl ?_
      refine ops_off rfl (guard_off rfl rfl rfl hg675) rfl rfl ?_
      refine ops_off rfl (guard_off rfl rfl rfl hg675) rfl rfl ?_
      have hg676 : ((decide (x1 ≤ x0)) && (decide (x0 ≤ x2))) = false := by simp only [hg675, Bool.and_true, Bool.true_and, Bool.and_false, Bool.false_and, Bool.or_true, Bool.true_or, Bool.or_false, Bool.false_or, Bool.not_true, Bool.not_false, Bool.not_not]
      refine ops_ex (v := .bool ((decide (x1 ≤ x0)) && (decide (x0 ≤ x2)))) rfl (guard_none rfl) rfl rfl (ex_pand_f rfl rfl hg675) ?_
      refine ops_ex rfl (guard_none rfl) rfl rfl (ex_assign rfl rfl) ?_
      refine ops_nil ?_
      exact at_meet [(6, .bool ((decide (x1 ≤ x0)) && (decide (x0 ≤ x2))))] ⟨rfl, HM⟩ (Sub.cons rfl Sub.nil)
  · rintro _ w677 ⟨rfl, HM⟩
    refine at_then ?_
    refine run_ret ?_
    have hR := Option.some.inj H
    subst hR
    exact at_ret1 rfl rfl ⟨_, rfl, rfl, HM⟩

def spec_l3Ref.f (k : Nat) (x0 : Ref) : Option Bool := ((spec_l1In.f k x0.fTx 1 60).bind fun t708 => ((bif t708 then spec_l1In.f k x0.fAt 0 3 else some default).bind fun t710 => some (t708 && t710)))
theorem spec_l3Ref.calls {k : Nat} {x0 : Ref}  {w : World}  {r : Bool} (H : spec_l3Ref.f k x0 = some r) :
    Calls Try.prog 127 ([.agg #[(.int .i64 x0.fTx), (.int .i64 x0.fAt)]] : List Value).toArray w (fun e w_ => ∃ v, e = .returned v ∧ v = (.bool r) ∧ Mem w [] w_ []) := by
  have HM := Mem.start w
  refine calls_run (N := 11) Try.func127 rfl rfl rfl rfl ?_
  unfold spec_l3Ref.f at H
  refine run_seq ?_
  refine run_region rfl ?_
  refine ops_does rfl (guard_none rfl) rfl rfl (does_box (cs := [.int .i64 x0.fTx, .int .i64 x0.fAt]) rfl rfl rfl HM) ?_
  rintro _ w707 ⟨b704, rfl, HM⟩
  refine ops_ex rfl (guard_none rfl) rfl rfl (ex_assign rfl rfl) ?_
  refine ops_nil ?_
  refine at_then ?_
  refine run_seq ?_
  obtain ⟨t708, h709, H⟩ := bind_some H
  obtain ⟨t710, h711, H⟩ := bind_some H
  refine run_meet (fun ρ_ w_ => ρ_ = [(2, .bool (t708 && t710))] ∧ Mem w [] w_ []) ?_ ?_
  · skip
    refine run_region rfl ?_
    refine ops_ex rfl (guard_none rfl) rfl rfl (ex_fieldAddr (off' := 0) rfl rfl Try.underlying99 rfl tsz2 rfl) ?_
    refine ops_ex rfl (guard_none rfl) rfl rfl (ex_load1 rfl rfl Try.underlying2 rfl ((HM.box_at 0 rfl) 0 _ rfl)) ?_
    refine ops_does rfl (guard_none rfl) rfl rfl (does_callk rfl callok136 rfl (spec_l1In.calls (x0 := x0.fTx) (x1 := 1) (x2 := 60) h709)) ?_
    rintro _ w712 ⟨rfl, hn⟩
    replace HM : Mem w [] w712 [box b704 99 [.int .i64 x0.fTx, .int .i64 x0.fAt]] := HM.call hn
    refine ops_ex rfl (guard_none rfl) rfl rfl (ex_move rfl rfl) ?_
    refine bool_cases t708 (fun hg713 => ?_) (fun hg713 => ?_)
    · skip
      refine ops_ex rfl (guard_on rfl rfl rfl hg713) rfl rfl (ex_fieldAddr (off' := 1) rfl rfl Try.underlying99 rfl tsz2 rfl) ?_
      refine ops_ex rfl (guard_on rfl rfl rfl hg713) rfl rfl (ex_load1 rfl rfl Try.underlying2 rfl ((HM.box_at 0 rfl) 1 _ rfl)) ?_
      refine ops_does rfl (guard_on rfl rfl rfl hg713) rfl rfl (does_callk rfl callok136 rfl (spec_l1In.calls (x0 := x0.fAt) (x1 := 0) (x2 := 3) (cond_t hg713 h711))) ?_
      rintro _ w714 ⟨rfl, hn⟩
      replace HM : Mem w [] w714 [box b704 99 [.int .i64 x0.fTx, .int .i64 x0.fAt]] := HM.call hn
      refine ops_ex (v := .bool (t708 && t710)) rfl (guard_none rfl) rfl rfl (ex_pand_t rfl rfl hg713 rfl) ?_
      refine ops_ex rfl (guard_none rfl) rfl rfl (ex_assign rfl rfl) ?_
      refine ops_nil ?_
      replace HM := (HM.front 0 rfl rfl).drop
      exact at_meet [(2, .bool (t708 && t710))] ⟨rfl, HM⟩ (Sub.cons rfl Sub.nil)
    · skip
      refine ops_off rfl (guard_off rfl rfl rfl hg713) rfl rfl ?_
      refine ops_off rfl (guard_off rfl rfl rfl hg713) rfl rfl ?_
      refine ops_off rfl (guard_off rfl rfl rfl hg713) rfl rfl ?_
      have hg715 : (t708 && t710) = false := by simp only [hg713, Bool.and_true, Bool.true_and, Bool.and_false, Bool.false_and, Bool.or_true, Bool.true_or, Bool.or_false, Bool.false_or, Bool.not_true, Bool.not_false, Bool.not_not]
      refine ops_ex (v := .bool (t708 && t710)) rfl (guard_none rfl) rfl rfl (ex_pand_f rfl rfl hg713) ?_
      refine ops_ex rfl (guard_none rfl) rfl rfl (ex_assign rfl rfl) ?_
      refine ops_nil ?_
      replace HM := (HM.front 0 rfl rfl).drop
      exact at_meet [(2, .bool (t708 && t710))] ⟨rfl, HM⟩ (Sub.cons rfl Sub.nil)
  · rintro _ w716 ⟨rfl, HM⟩
    refine at_then ?_
    refine run_ret ?_
    have hR := Option.some.inj H
    subst hR
    exact at_ret1 rfl rfl ⟨_, rfl, rfl, HM⟩

def spec_l2Height.f (k : Nat) (x0 : Int) : Option Bool := ((spec_l1In.f k x0 0 999).bind fun t725 => some t725)
theorem spec_l2Height.calls {k : Nat} {x0 : Int}  {w : World}  {r : Bool} (H : spec_l2Height.f k x0 = some r) :
    Calls Try.prog 128 ([.int .i64 x0] : List Value).toArray w (fun e w_ => ∃ v, e = .returned v ∧ v = (.bool r) ∧ Mem w [] w_ []) := by
  have HM := Mem.start w
  refine calls_run (N := 5) Try.func128 rfl rfl rfl rfl ?_
  unfold spec_l2Height.f at H
  refine run_seq ?_
  refine run_region rfl ?_
  refine ops_ex rfl (guard_none rfl) rfl rfl (ex_assign rfl rfl) ?_
  refine ops_nil ?_
  refine at_then ?_
  refine run_seq ?_
  obtain ⟨t725, h726, H⟩ := bind_some H
  refine run_region rfl ?_
  refine ops_ex rfl (guard_none rfl) rfl rfl (ex_move rfl rfl) ?_
  refine ops_does rfl (guard_none rfl) rfl rfl (does_callk rfl callok136 rfl (spec_l1In.calls (x0 := x0) (x1 := 0) (x2 := 999) h726)) ?_
  rintro _ w727 ⟨rfl, hn⟩
  replace HM : Mem w [] w727 [] := HM.call hn
  refine ops_ex rfl (guard_none rfl) rfl rfl (ex_assign rfl rfl) ?_
  refine ops_nil ?_
  refine at_then ?_
  refine run_ret ?_
  have hR := Option.some.inj H
  subst hR
  exact at_ret1 rfl rfl ⟨_, rfl, rfl, HM⟩

def spec_l1Key.f (k : Nat) (x0 : Int) : Option Bool := ((spec_l1In.f k x0 1 999).bind fun t765 => some t765)
theorem spec_l1Key.calls {k : Nat} {x0 : Int}  {w : World}  {r : Bool} (H : spec_l1Key.f k x0 = some r) :
    Calls Try.prog 137 ([.int .i64 x0] : List Value).toArray w (fun e w_ => ∃ v, e = .returned v ∧ v = (.bool r) ∧ Mem w [] w_ []) := by
  have HM := Mem.start w
  refine calls_run (N := 5) Try.func137 rfl rfl rfl rfl ?_
  unfold spec_l1Key.f at H
  refine run_seq ?_
  refine run_region rfl ?_
  refine ops_ex rfl (guard_none rfl) rfl rfl (ex_assign rfl rfl) ?_
  refine ops_nil ?_
  refine at_then ?_
  refine run_seq ?_
  obtain ⟨t765, h766, H⟩ := bind_some H
  refine run_region rfl ?_
  refine ops_ex rfl (guard_none rfl) rfl rfl (ex_move rfl rfl) ?_
  refine ops_does rfl (guard_none rfl) rfl rfl (does_callk rfl callok136 rfl (spec_l1In.calls (x0 := x0) (x1 := 1) (x2 := 999) h766)) ?_
  rintro _ w767 ⟨rfl, hn⟩
  replace HM : Mem w [] w767 [] := HM.call hn
  refine ops_ex rfl (guard_none rfl) rfl rfl (ex_assign rfl rfl) ?_
  refine ops_nil ?_
  refine at_then ?_
  refine run_ret ?_
  have hR := Option.some.inj H
  subst hR
  exact at_ret1 rfl rfl ⟨_, rfl, rfl, HM⟩

def spec_l2Fault.l0 (x0 : Rule) : Nat → Int → Option (Int ⊕ Unit)
  | 0, _ => none
  | k + 1, a851 => (bif (decide (a851 < (x0.fKeys.length : Int))) then (chk (idxOk a851 x0.fKeys.length) ((spec_l1Key.f k (gt x0.fKeys a851)).bind fun t863 => (bif !t863 then some (.inl 3) else spec_l2Fault.l0 x0 k (wrap64 (a851 + 1))))) else some (.inr ()))
theorem spec_l2Fault.l0_z (x0 : Rule) (a851 : Int) : spec_l2Fault.l0 x0 0 a851 = none := rfl
theorem spec_l2Fault.l0_s (x0 : Rule) (k : Nat) (a851 : Int) : spec_l2Fault.l0 x0 (k + 1) a851 = (bif (decide (a851 < (x0.fKeys.length : Int))) then (chk (idxOk a851 x0.fKeys.length) ((spec_l1Key.f k (gt x0.fKeys a851)).bind fun t863 => (bif !t863 then some (.inl 3) else spec_l2Fault.l0 x0 k (wrap64 (a851 + 1))))) else some (.inr ())) := rfl
def spec_l2Fault.l1 (x0 : Rule) : Nat → Int → Option (Int ⊕ Unit)
  | 0, _ => none
  | k + 1, a910 => (bif (decide (a910 < (x0.fKeys.length : Int))) then (chk (idxOk a910 x0.fKeys.length) (chk (idxOk (wrap64 (a910 - 1)) x0.fKeys.length) (bif (decide ((gt x0.fKeys a910) ≤ (gt x0.fKeys (wrap64 (a910 - 1))))) then some (.inl 1) else spec_l2Fault.l1 x0 k (wrap64 (a910 + 1))))) else some (.inr ()))
theorem spec_l2Fault.l1_z (x0 : Rule) (a910 : Int) : spec_l2Fault.l1 x0 0 a910 = none := rfl
theorem spec_l2Fault.l1_s (x0 : Rule) (k : Nat) (a910 : Int) : spec_l2Fault.l1 x0 (k + 1) a910 = (bif (decide (a910 < (x0.fKeys.length : Int))) then (chk (idxOk a910 x0.fKeys.length) (chk (idxOk (wrap64 (a910 - 1)) x0.fKeys.length) (bif (decide ((gt x0.fKeys a910) ≤ (gt x0.fKeys (wrap64 (a910 - 1))))) then some (.inl 1) else spec_l2Fault.l1 x0 k (wrap64 (a910 + 1))))) else some (.inr ())) := rfl
def spec_l2Fault.f (k : Nat) (x0 : Rule) : Option Int := ((spec_l1In.f k (x0.fKeys.length : Int) 1 3).bind fun t820 => (bif !t820 then some 2 else ((spec_l2Fault.l0 x0 k 0).bind fun o843 => thn o843 (fun r => some r) (fun _ => ((spec_l1In.f k x0.fNeed 1 (x0.fKeys.length : Int)).bind fun t873 => ((bif (!(!t873)) then spec_l2Height.f k x0.fAfter else some default).bind fun t875 => (bif ((!t873) || (!t875)) then some 3 else ((spec_l2Fault.l1 x0 k 1).bind fun o902 => thn o902 (fun r => some r) (fun _ => some 0)))))))))
theorem spec_l2Fault.calls {k : Nat} {x0 : Rule} {b0 f0 : Nat} {p0_0 : Value} {w : World} (hc0 : CellsAt w b0 f0 [p0_0, .int .i64 x0.fNeed, .int .i64 x0.fAfter]) (hp0_0 : RdS kInt w p0_0 x0.fKeys) {r : Int} (H : spec_l2Fault.f k x0 = some r) :
    Calls Try.prog 161 ([.pointer (some ⟨b0, f0, none⟩)] : List Value).toArray w (fun e w_ => ∃ v, e = .returned v ∧ v = (.int .i64 r) ∧ Mem w [] w_ []) := by
  have HM := Mem.start w
  refine calls_run (N := 72) Try.func161 rfl rfl rfl rfl ?_
  unfold spec_l2Fault.f at H
  refine run_seq ?_
  refine run_region rfl ?_
  refine ops_ex rfl (guard_none rfl) rfl rfl (ex_assign rfl rfl) ?_
  refine ops_nil ?_
  refine at_then ?_
  refine run_seq ?_
  refine run_region rfl ?_
  refine ops_ex rfl (guard_none rfl) rfl rfl (ex_move rfl rfl) ?_
  refine ops_ex rfl (guard_none rfl) rfl rfl (ex_nilCheck rfl rfl) ?_
  refine ops_ex rfl (guard_none rfl) rfl rfl (ex_fieldAddr (off' := f0) rfl rfl Try.underlying100 rfl tsz74 rfl) ?_
  refine ops_ex rfl (guard_none rfl) rfl rfl (ex_load1 rfl rfl Try.underlying74 rfl ((HM.at_ hc0) 0 _ rfl)) ?_
  refine ops_ex rfl (guard_none rfl) rfl rfl (ex_len (d := kInt) (xs := x0.fKeys) rfl rfl Try.underlying74 hp0_0) ?_
  refine ops_ex rfl (guard_none rfl) rfl rfl (ex_assign rfl rfl) ?_
  refine ops_nil ?_
  refine at_then ?_
  refine run_seq ?_
  refine run_seq ?_
  obtain ⟨t820, h821, H⟩ := bind_some H
  refine run_region rfl ?_
  refine ops_ex rfl (guard_none rfl) rfl rfl (ex_move rfl rfl) ?_
  refine ops_does rfl (guard_none rfl) rfl rfl (does_callk rfl callok136 rfl (spec_l1In.calls (x0 := (x0.fKeys.length : Int)) (x1 := 1) (x2 := 3) h821)) ?_
  rintro _ w822 ⟨rfl, hn⟩
  replace HM : Mem w [] w822 [] := HM.call hn
  refine ops_ex rfl (guard_none rfl) rfl rfl (ex_not rfl rfl) ?_
  refine ops_nil ?_
  refine at_then ?_
  refine run_cond (b := !t820) rfl (fun hb823 => ?_) (fun hb823 => ?_)
  · replace H := cond_t hb823 H
    refine run_seq ?_
    refine run_region rfl ?_
    refine ops_ex rfl (guard_none rfl) rfl rfl (ex_assign rfl rfl) ?_
    refine ops_nil ?_
    refine at_then ?_
    refine run_ret ?_
    refine at_then_ret ?_
    have hR := Option.some.inj H
    subst hR
    exact at_ret1 rfl rfl ⟨_, rfl, rfl, HM⟩
  · replace H := cond_f hb823 H
    refine run_skip ?_
    refine at_then ?_
    obtain ⟨o843, ho844, H⟩ := bind_some H
    refine run_mid (fun ρ_ w_ => Sum.inr () = o843 ∧ ρ_ = [(0, .pointer (some ⟨b0, f0, none⟩)), (3, .int .i64 (x0.fKeys.length : Int))] ∧ Mem w [] w_ []) ?_ ?_
    · skip
      refine run_seq ?_
      refine run_region rfl ?_
      refine ops_ex rfl (guard_none rfl) rfl rfl (ex_assign rfl rfl) ?_
      refine ops_nil ?_
      refine at_then ?_
      refine run_block ?_
      refine run_loop (fun k_ ρ_ w_ => ∃ a851 : Int, spec_l2Fault.l0 x0 k_ a851 = some o843 ∧ ρ_ = [(0, .pointer (some ⟨b0, f0, none⟩)), (3, .int .i64 (x0.fKeys.length : Int)), (4, .int .i64 a851)] ∧ Mem w [] w_ []) k (ρ1 := [(0, .pointer (some ⟨b0, f0, none⟩)), (3, .int .i64 (x0.fKeys.length : Int)), (4, .int .i64 0)]) ⟨_, ho844, rfl, HM⟩ (Sub.cons rfl (Sub.cons rfl (Sub.cons rfl Sub.nil))) ?_
      clear HM ho844
      rintro k858 _ w859 ⟨a851, ho844, rfl, HM⟩
      obtain _ | k858 := k858
      · exact nomatch ((spec_l2Fault.l0_z x0 a851).symm.trans ho844)
      replace ho844 := (spec_l2Fault.l0_s x0 k858 a851).symm.trans ho844
      refine run_seq ?_
      refine run_seq ?_
      refine run_region rfl ?_
      refine ops_ex rfl (guard_none rfl) rfl rfl (ex_move rfl rfl) ?_
      refine ops_ex rfl (guard_none rfl) rfl rfl (ex_move rfl rfl) ?_
      refine ops_ex rfl (guard_none rfl) rfl rfl (ex_nilCheck rfl rfl) ?_
      refine ops_ex rfl (guard_none rfl) rfl rfl (ex_fieldAddr (off' := f0) rfl rfl Try.underlying100 rfl tsz74 rfl) ?_
      refine ops_ex rfl (guard_none rfl) rfl rfl (ex_load1 rfl rfl Try.underlying74 rfl ((HM.at_ hc0) 0 _ rfl)) ?_
      refine ops_ex rfl (guard_none rfl) rfl rfl (ex_len (d := kInt) (xs := x0.fKeys) rfl rfl Try.underlying74 hp0_0) ?_
      refine ops_ex rfl (guard_none rfl) rfl rfl (ex_lss rfl rfl rfl) ?_
      refine ops_nil ?_
      refine at_then ?_
      refine run_cond (b := (decide (a851 < (x0.fKeys.length : Int)))) rfl (fun hb860 => ?_) (fun hb860 => ?_)
      · replace ho844 := cond_t hb860 ho844
        refine run_skip ?_
        refine at_then ?_
        refine run_seq ?_
        refine run_block ?_
        refine run_seq ?_
        obtain ⟨e861, ho844⟩ := chk_some ho844
        obtain ⟨t863, h864, ho844⟩ := bind_some ho844
        refine run_region rfl ?_
        refine ops_ex rfl (guard_none rfl) rfl rfl (ex_move rfl rfl) ?_
        refine ops_ex rfl (guard_none rfl) rfl rfl (ex_nilCheck rfl rfl) ?_
        refine ops_ex rfl (guard_none rfl) rfl rfl (ex_fieldAddr (off' := f0) rfl rfl Try.underlying100 rfl tsz74 rfl) ?_
        refine ops_ex rfl (guard_none rfl) rfl rfl (ex_load1 rfl rfl Try.underlying74 rfl ((HM.at_ hc0) 0 _ rfl)) ?_
        refine ops_ex rfl (guard_none rfl) rfl rfl (ex_move rfl rfl) ?_
        have hc862 : CellsAt _ (sb p0_0) (so p0_0 + (a851).toNat * 1) [(.int .i64 (gt x0.fKeys a851))] := rd_plain hp0_0 e861
        refine ops_ex rfl (guard_none rfl) rfl rfl (ex_indexAddr (d := kInt) rfl rfl rfl Try.underlying74 tsz2 hp0_0 (idx_lo e861) (idx_hi e861)) ?_
        refine ops_ex rfl (guard_none rfl) rfl rfl (ex_load1 rfl rfl Try.underlying2 rfl ((HM.at_ hc862) 0 _ rfl)) ?_
        refine ops_does rfl (guard_none rfl) rfl rfl (does_callk rfl callok137 rfl (spec_l1Key.calls (x0 := (gt x0.fKeys a851)) h864)) ?_
        rintro _ w865 ⟨rfl, hn⟩
        replace HM : Mem w [] w865 [] := HM.call hn
        refine ops_ex rfl (guard_none rfl) rfl rfl (ex_not rfl rfl) ?_
        refine ops_nil ?_
        refine at_then ?_
        refine run_cond (b := !t863) rfl (fun hb866 => ?_) (fun hb866 => ?_)
        · replace ho844 := cond_t hb866 ho844
          refine run_seq ?_
          refine run_region rfl ?_
          refine ops_ex rfl (guard_none rfl) rfl rfl (ex_assign rfl rfl) ?_
          refine ops_nil ?_
          refine at_then ?_
          refine run_ret ?_
          refine at_block_ret ?_
          refine at_then_ret ?_
          refine at_then_ret ?_
          refine at_block_ret ?_
          refine at_then_ret ?_
          have hR := Option.some.inj ho844
          subst hR
          have hT := thn_inl H
          have hR := Option.some.inj hT
          subst hR
          exact at_ret1 rfl rfl ⟨_, rfl, rfl, HM⟩
        · replace ho844 := cond_f hb866 ho844
          refine run_skip ?_
          refine at_block ?_
          refine at_then ?_
          refine run_region rfl ?_
          refine ops_ex rfl (guard_none rfl) rfl rfl (ex_move rfl rfl) ?_
          refine ops_ex rfl (guard_none rfl) rfl rfl (ex_add rfl rfl rfl) ?_
          refine ops_ex rfl (guard_none rfl) rfl rfl (ex_assign rfl rfl) ?_
          refine ops_nil ?_
          exact at_again k858 (ρ1 := [(0, .pointer (some ⟨b0, f0, none⟩)), (3, .int .i64 (x0.fKeys.length : Int)), (4, .int .i64 (wrap64 (a851 + 1)))]) (Nat.lt_succ_self _) ⟨_, ho844, rfl, HM⟩ (Sub.cons rfl (Sub.cons rfl (Sub.cons rfl Sub.nil)))
      · replace ho844 := cond_f hb860 ho844
        refine run_exit ?_
        refine at_then_exit ?_
        refine at_then_exit ?_
        refine at_block_exit ?_
        exact at_mid (ρ' := [(0, .pointer (some ⟨b0, f0, none⟩)), (3, .int .i64 (x0.fKeys.length : Int))]) ⟨(Option.some.inj ho844), rfl, HM⟩ (Sub.cons rfl (Sub.cons rfl Sub.nil))
    · rintro _ w867 ⟨rfl, rfl, HM⟩
      replace H := (thn_inr H)
      refine run_seq ?_
      refine run_seq ?_
      obtain ⟨t873, h874, H⟩ := bind_some H
      obtain ⟨t875, h876, H⟩ := bind_some H
      refine run_meet (fun ρ_ w_ => ρ_ = [(0, .pointer (some ⟨b0, f0, none⟩)), (46, .bool ((!t873) || (!t875)))] ∧ Mem w [] w_ []) ?_ ?_
      · skip
        refine run_region rfl ?_
        refine ops_ex rfl (guard_none rfl) rfl rfl (ex_move rfl rfl) ?_
        refine ops_ex rfl (guard_none rfl) rfl rfl (ex_nilCheck rfl rfl) ?_
        refine ops_ex rfl (guard_none rfl) rfl rfl (ex_fieldAddr (off' := f0 + 1) rfl rfl Try.underlying100 rfl tsz2 rfl) ?_
        refine ops_ex rfl (guard_none rfl) rfl rfl (ex_load1 rfl rfl Try.underlying2 rfl ((HM.at_ hc0) 1 _ rfl)) ?_
        refine ops_ex rfl (guard_none rfl) rfl rfl (ex_move rfl rfl) ?_
        refine ops_does rfl (guard_none rfl) rfl rfl (does_callk rfl callok136 rfl (spec_l1In.calls (x0 := x0.fNeed) (x1 := 1) (x2 := (x0.fKeys.length : Int)) h874)) ?_
        rintro _ w877 ⟨rfl, hn⟩
        replace HM : Mem w [] w877 [] := HM.call hn
        refine ops_ex rfl (guard_none rfl) rfl rfl (ex_not rfl rfl) ?_
        refine ops_ex rfl (guard_none rfl) rfl rfl (ex_move rfl rfl) ?_
        refine bool_cases (!t873) (fun hg878 => ?_) (fun hg878 => ?_)
        · skip
          refine ops_off rfl (guard_off rfl rfl rfl hg878) rfl rfl ?_
          refine ops_off rfl (guard_off rfl rfl rfl hg878) rfl rfl ?_
          refine ops_off rfl (guard_off rfl rfl rfl hg878) rfl rfl ?_
          refine ops_off rfl (guard_off rfl rfl rfl hg878) rfl rfl ?_
          refine ops_off rfl (guard_off rfl rfl rfl hg878) rfl rfl ?_
          refine ops_off rfl (guard_off rfl rfl rfl hg878) rfl rfl ?_
          have hg879 : ((!t873) || (!t875)) = true := by simp only [hg878, Bool.and_true, Bool.true_and, Bool.and_false, Bool.false_and, Bool.or_true, Bool.true_or, Bool.or_false, Bool.false_or, Bool.not_true, Bool.not_false, Bool.not_not]
          refine ops_ex (v := .bool ((!t873) || (!t875))) rfl (guard_none rfl) rfl rfl (ex_por_t rfl rfl hg878) ?_
          refine ops_nil ?_
          exact at_meet [(0, .pointer (some ⟨b0, f0, none⟩)), (46, .bool ((!t873) || (!t875)))] ⟨rfl, HM⟩ (Sub.cons rfl (Sub.cons rfl Sub.nil))
        · skip
          refine ops_ex rfl (guard_on rfl rfl rfl hg878) rfl rfl (ex_move rfl rfl) ?_
          refine ops_ex rfl (guard_on rfl rfl rfl hg878) rfl rfl (ex_nilCheck rfl rfl) ?_
          refine ops_ex rfl (guard_on rfl rfl rfl hg878) rfl rfl (ex_fieldAddr (off' := f0 + 2) rfl rfl Try.underlying100 rfl tsz2 rfl) ?_
          refine ops_ex rfl (guard_on rfl rfl rfl hg878) rfl rfl (ex_load1 rfl rfl Try.underlying2 rfl ((HM.at_ hc0) 2 _ rfl)) ?_
          refine ops_does rfl (guard_on rfl rfl rfl hg878) rfl rfl (does_callk rfl callok128 rfl (spec_l2Height.calls (x0 := x0.fAfter) (cond_t (not_mk hg878) h876))) ?_
          rintro _ w880 ⟨rfl, hn⟩
          replace HM : Mem w [] w880 [] := HM.call hn
          refine ops_ex rfl (guard_on rfl rfl rfl hg878) rfl rfl (ex_not rfl rfl) ?_
          refine ops_ex (v := .bool ((!t873) || (!t875))) rfl (guard_none rfl) rfl rfl (ex_por_f rfl rfl hg878 rfl) ?_
          refine ops_nil ?_
          exact at_meet [(0, .pointer (some ⟨b0, f0, none⟩)), (46, .bool ((!t873) || (!t875)))] ⟨rfl, HM⟩ (Sub.cons rfl (Sub.cons rfl Sub.nil))
      · rintro _ w881 ⟨rfl, HM⟩
        refine at_then ?_
        refine run_cond (b := ((!t873) || (!t875))) rfl (fun hb882 => ?_) (fun hb882 => ?_)
        · replace H := cond_t hb882 H
          refine run_seq ?_
          refine run_region rfl ?_
          refine ops_ex rfl (guard_none rfl) rfl rfl (ex_assign rfl rfl) ?_
          refine ops_nil ?_
          refine at_then ?_
          refine run_ret ?_
          refine at_then_ret ?_
          have hR := Option.some.inj H
          subst hR
          exact at_ret1 rfl rfl ⟨_, rfl, rfl, HM⟩
        · replace H := cond_f hb882 H
          refine run_skip ?_
          refine at_then ?_
          obtain ⟨o902, ho903, H⟩ := bind_some H
          refine run_mid (fun ρ_ w_ => Sum.inr () = o902 ∧ ρ_ = [] ∧ Mem w [] w_ []) ?_ ?_
          · skip
            refine run_seq ?_
            refine run_region rfl ?_
            refine ops_ex rfl (guard_none rfl) rfl rfl (ex_assign rfl rfl) ?_
            refine ops_nil ?_
            refine at_then ?_
            refine run_block ?_
            refine run_loop (fun k_ ρ_ w_ => ∃ a910 : Int, spec_l2Fault.l1 x0 k_ a910 = some o902 ∧ ρ_ = [(0, .pointer (some ⟨b0, f0, none⟩)), (5, .int .i64 a910)] ∧ Mem w [] w_ []) k (ρ1 := [(0, .pointer (some ⟨b0, f0, none⟩)), (5, .int .i64 1)]) ⟨_, ho903, rfl, HM⟩ (Sub.cons rfl (Sub.cons rfl Sub.nil)) ?_
            clear HM ho903
            rintro k917 _ w918 ⟨a910, ho903, rfl, HM⟩
            obtain _ | k917 := k917
            · exact nomatch ((spec_l2Fault.l1_z x0 a910).symm.trans ho903)
            replace ho903 := (spec_l2Fault.l1_s x0 k917 a910).symm.trans ho903
            refine run_seq ?_
            refine run_seq ?_
            refine run_region rfl ?_
            refine ops_ex rfl (guard_none rfl) rfl rfl (ex_move rfl rfl) ?_
            refine ops_ex rfl (guard_none rfl) rfl rfl (ex_move rfl rfl) ?_
            refine ops_ex rfl (guard_none rfl) rfl rfl (ex_nilCheck rfl rfl) ?_
            refine ops_ex rfl (guard_none rfl) rfl rfl (ex_fieldAddr (off' := f0) rfl rfl Try.underlying100 rfl tsz74 rfl) ?_
            refine ops_ex rfl (guard_none rfl) rfl rfl (ex_load1 rfl rfl Try.underlying74 rfl ((HM.at_ hc0) 0 _ rfl)) ?_
            refine ops_ex rfl (guard_none rfl) rfl rfl (ex_len (d := kInt) (xs := x0.fKeys) rfl rfl Try.underlying74 hp0_0) ?_
            refine ops_ex rfl (guard_none rfl) rfl rfl (ex_lss rfl rfl rfl) ?_
            refine ops_nil ?_
            refine at_then ?_
            refine run_cond (b := (decide (a910 < (x0.fKeys.length : Int)))) rfl (fun hb919 => ?_) (fun hb919 => ?_)
            · replace ho903 := cond_t hb919 ho903
              refine run_skip ?_
              refine at_then ?_
              refine run_seq ?_
              refine run_block ?_
              refine run_seq ?_
              obtain ⟨e920, ho903⟩ := chk_some ho903
              obtain ⟨e922, ho903⟩ := chk_some ho903
              refine run_drawf (fun w_ => Mem w [] w_ []) [(0, true), (1, true), (2, true), (3, true), (4, true), (5, true), (6, true), (7, true), (8, true), (9, true), (10, true), (11, true), (12, true), (13, true), (14, true), (15, true)] mixed rfl rfl (by kernel_rfl) ?_
              replace HM := HM.grow (fr_drew _)
              have hS := Mem.suf (M := []) HM
              refine drwp_take rfl (guard_none rfl) rfl rfl (fun w_ hS_ => (ex_move rfl rfl)) hS ?_
              refine drwp_take rfl (guard_none rfl) rfl rfl (fun w_ hS_ => (ex_nilCheck rfl rfl)) hS ?_
              refine drwp_take rfl (guard_none rfl) rfl rfl (fun w_ hS_ => (ex_fieldAddr (off' := f0) rfl rfl Try.underlying100 rfl tsz74 rfl)) hS ?_
              refine drwp_take rfl (guard_none rfl) rfl rfl (fun w_ hS_ => (ex_load1 rfl rfl Try.underlying74 rfl ((hS_.at_ hc0) 0 _ rfl))) hS ?_
              refine drwp_take rfl (guard_none rfl) rfl rfl (fun w_ hS_ => (ex_move rfl rfl)) hS ?_
              have hc921 : CellsAt _ (sb p0_0) (so p0_0 + (a910).toNat * 1) [(.int .i64 (gt x0.fKeys a910))] := rd_plain hp0_0 e920
              refine drwp_take rfl (guard_none rfl) rfl rfl (fun w_ hS_ => (ex_indexAddr (d := kInt) rfl rfl rfl Try.underlying74 tsz2 hp0_0 (idx_lo e920) (idx_hi e920))) hS ?_
              refine drwp_take rfl (guard_none rfl) rfl rfl (fun w_ hS_ => (ex_load1 rfl rfl Try.underlying2 rfl ((hS_.at_ hc921) 0 _ rfl))) hS ?_
              refine drwp_take rfl (guard_none rfl) rfl rfl (fun w_ hS_ => (ex_move rfl rfl)) hS ?_
              refine drwp_take rfl (guard_none rfl) rfl rfl (fun w_ hS_ => (ex_nilCheck rfl rfl)) hS ?_
              refine drwp_take rfl (guard_none rfl) rfl rfl (fun w_ hS_ => (ex_fieldAddr (off' := f0) rfl rfl Try.underlying100 rfl tsz74 rfl)) hS ?_
              refine drwp_take rfl (guard_none rfl) rfl rfl (fun w_ hS_ => (ex_load1 rfl rfl Try.underlying74 rfl ((hS_.at_ hc0) 0 _ rfl))) hS ?_
              refine drwp_take rfl (guard_none rfl) rfl rfl (fun w_ hS_ => (ex_move rfl rfl)) hS ?_
              refine drwp_take rfl (guard_none rfl) rfl rfl (fun w_ hS_ => (ex_sub rfl rfl rfl)) hS ?_
              have hc923 : CellsAt _ (sb p0_0) (so p0_0 + (wrap64 (a910 - 1)).toNat * 1) [(.int .i64 (gt x0.fKeys (wrap64 (a910 - 1))))] := rd_plain hp0_0 e922
              refine drwp_take rfl (guard_none rfl) rfl rfl (fun w_ hS_ => (ex_indexAddr (d := kInt) rfl rfl rfl Try.underlying74 tsz2 hp0_0 (idx_lo e922) (idx_hi e922))) hS ?_
              refine drwp_take rfl (guard_none rfl) rfl rfl (fun w_ hS_ => (ex_load1 rfl rfl Try.underlying2 rfl ((hS_.at_ hc923) 0 _ rfl))) hS ?_
              refine drwp_take rfl (guard_none rfl) rfl rfl (fun w_ hS_ => (ex_leq rfl rfl rfl)) hS ?_
              refine drwp_done ?_
              refine at_then ?_
              refine run_cond (b := (decide ((gt x0.fKeys a910) ≤ (gt x0.fKeys (wrap64 (a910 - 1)))))) rfl (fun hb924 => ?_) (fun hb924 => ?_)
              · replace ho903 := cond_t hb924 ho903
                refine run_seq ?_
                refine run_region rfl ?_
                refine ops_ex rfl (guard_none rfl) rfl rfl (ex_assign rfl rfl) ?_
                refine ops_nil ?_
                refine at_then ?_
                refine run_ret ?_
                refine at_block_ret ?_
                refine at_then_ret ?_
                refine at_then_ret ?_
                refine at_block_ret ?_
                refine at_then_ret ?_
                have hR := Option.some.inj ho903
                subst hR
                have hT := thn_inl H
                have hR := Option.some.inj hT
                subst hR
                exact at_ret1 rfl rfl ⟨_, rfl, rfl, HM⟩
              · replace ho903 := cond_f hb924 ho903
                refine run_skip ?_
                refine at_block ?_
                refine at_then ?_
                refine run_region rfl ?_
                refine ops_ex rfl (guard_none rfl) rfl rfl (ex_move rfl rfl) ?_
                refine ops_ex rfl (guard_none rfl) rfl rfl (ex_add rfl rfl rfl) ?_
                refine ops_ex rfl (guard_none rfl) rfl rfl (ex_assign rfl rfl) ?_
                refine ops_nil ?_
                exact at_again k917 (ρ1 := [(0, .pointer (some ⟨b0, f0, none⟩)), (5, .int .i64 (wrap64 (a910 + 1)))]) (Nat.lt_succ_self _) ⟨_, ho903, rfl, HM⟩ (Sub.cons rfl (Sub.cons rfl Sub.nil))
            · replace ho903 := cond_f hb919 ho903
              refine run_exit ?_
              refine at_then_exit ?_
              refine at_then_exit ?_
              refine at_block_exit ?_
              exact at_mid (ρ' := []) ⟨(Option.some.inj ho903), rfl, HM⟩ Sub.nil
          · rintro _ w925 ⟨rfl, rfl, HM⟩
            replace H := (thn_inr H)
            refine run_seq ?_
            refine run_region rfl ?_
            refine ops_ex rfl (guard_none rfl) rfl rfl (ex_assign rfl rfl) ?_
            refine ops_nil ?_
            refine at_then ?_
            refine run_ret ?_
            have hR := Option.some.inj H
            subst hR
            exact at_ret1 rfl rfl ⟨_, rfl, rfl, HM⟩

def spec_l4Out.f (k : Nat) (x0 : Out) : Option Int := ((spec_l1In.f k x0.fValue 1 1000000).bind fun t931 => (bif !t931 then some 3 else ((spec_l2Fault.f k x0.fRule).bind fun t935 => some t935)))
theorem spec_l4Out.calls {k : Nat} {x0 : Out} {b0 f0 : Nat} {p0_0 : Value} {w : World} (hc0 : CellsAt w b0 f0 [.int .i64 x0.fValue, p0_0, .int .i64 x0.fRule.fNeed, .int .i64 x0.fRule.fAfter]) (hp0_0 : RdS kInt w p0_0 x0.fRule.fKeys) {r : Int} (H : spec_l4Out.f k x0 = some r) :
    Calls Try.prog 129 ([.pointer (some ⟨b0, f0, none⟩)] : List Value).toArray w (fun e w_ => ∃ v, e = .returned v ∧ v = (.int .i64 r) ∧ Mem w [] w_ []) := by
  have HM := Mem.start w
  refine calls_run (N := 13) Try.func129 rfl rfl rfl rfl ?_
  unfold spec_l4Out.f at H
  refine run_seq ?_
  refine run_region rfl ?_
  refine ops_ex rfl (guard_none rfl) rfl rfl (ex_assign rfl rfl) ?_
  refine ops_nil ?_
  refine at_then ?_
  refine run_seq ?_
  refine run_seq ?_
  obtain ⟨t931, h932, H⟩ := bind_some H
  refine run_region rfl ?_
  refine ops_ex rfl (guard_none rfl) rfl rfl (ex_move rfl rfl) ?_
  refine ops_ex rfl (guard_none rfl) rfl rfl (ex_nilCheck rfl rfl) ?_
  refine ops_ex rfl (guard_none rfl) rfl rfl (ex_fieldAddr (off' := f0) rfl rfl Try.underlying102 rfl tsz2 rfl) ?_
  refine ops_ex rfl (guard_none rfl) rfl rfl (ex_load1 rfl rfl Try.underlying2 rfl ((HM.at_ hc0) 0 _ rfl)) ?_
  refine ops_does rfl (guard_none rfl) rfl rfl (does_callk rfl callok136 rfl (spec_l1In.calls (x0 := x0.fValue) (x1 := 1) (x2 := 1000000) h932)) ?_
  rintro _ w933 ⟨rfl, hn⟩
  replace HM : Mem w [] w933 [] := HM.call hn
  refine ops_ex rfl (guard_none rfl) rfl rfl (ex_not rfl rfl) ?_
  refine ops_nil ?_
  refine at_then ?_
  refine run_cond (b := !t931) rfl (fun hb934 => ?_) (fun hb934 => ?_)
  · replace H := cond_t hb934 H
    refine run_seq ?_
    refine run_region rfl ?_
    refine ops_ex rfl (guard_none rfl) rfl rfl (ex_assign rfl rfl) ?_
    refine ops_nil ?_
    refine at_then ?_
    refine run_ret ?_
    refine at_then_ret ?_
    have hR := Option.some.inj H
    subst hR
    exact at_ret1 rfl rfl ⟨_, rfl, rfl, HM⟩
  · replace H := cond_f hb934 H
    refine run_skip ?_
    refine at_then ?_
    refine run_seq ?_
    obtain ⟨t935, h936, H⟩ := bind_some H
    refine run_region rfl ?_
    refine ops_ex rfl (guard_none rfl) rfl rfl (ex_move rfl rfl) ?_
    refine ops_ex rfl (guard_none rfl) rfl rfl (ex_nilCheck rfl rfl) ?_
    refine ops_ex rfl (guard_none rfl) rfl rfl (ex_fieldAddr (off' := f0 + 1) rfl rfl Try.underlying102 rfl tsz100 rfl) ?_
    refine ops_does rfl (guard_none rfl) rfl rfl (does_callk rfl callok161 rfl (spec_l2Fault.calls (x0 := x0.fRule) (CellsAt.sub (HM.at_ hc0) 1 3 rfl) (HM.rd hp0_0) h936)) ?_
    rintro _ w937 ⟨rfl, hn⟩
    replace HM : Mem w [] w937 [] := HM.call hn
    refine ops_ex rfl (guard_none rfl) rfl rfl (ex_assign rfl rfl) ?_
    refine ops_nil ?_
    refine at_then ?_
    refine run_ret ?_
    have hR := Option.some.inj H
    subst hR
    exact at_ret1 rfl rfl ⟨_, rfl, rfl, HM⟩

def spec_l4Ahead.f (k : Nat) (x0 : Ref) (x1 : Ref) : Option Bool := (bif (x0.fTx != x1.fTx) then some (decide (x0.fTx < x1.fTx)) else some (decide (x0.fAt < x1.fAt)))
theorem spec_l4Ahead.calls {k : Nat} {x0 : Ref} {x1 : Ref}  {w : World}  {r : Bool} (H : spec_l4Ahead.f k x0 x1 = some r) :
    Calls Try.prog 130 ([.agg #[(.int .i64 x0.fTx), (.int .i64 x0.fAt)], .agg #[(.int .i64 x1.fTx), (.int .i64 x1.fAt)]] : List Value).toArray w (fun e w_ => ∃ v, e = .returned v ∧ v = (.bool r) ∧ Mem w [] w_ []) := by
  have HM := Mem.start w
  refine calls_run (N := 20) Try.func130 rfl rfl rfl rfl ?_
  unfold spec_l4Ahead.f at H
  refine run_seq ?_
  refine run_region rfl ?_
  refine ops_does rfl (guard_none rfl) rfl rfl (does_box (cs := [.int .i64 x0.fTx, .int .i64 x0.fAt]) rfl rfl rfl HM) ?_
  rintro _ w970 ⟨b964, rfl, HM⟩
  refine ops_does rfl (guard_none rfl) rfl rfl (does_box (cs := [.int .i64 x1.fTx, .int .i64 x1.fAt]) rfl rfl rfl HM) ?_
  rintro _ w971 ⟨b967, rfl, HM⟩
  refine ops_ex rfl (guard_none rfl) rfl rfl (ex_assign rfl rfl) ?_
  refine ops_nil ?_
  refine at_then ?_
  refine run_seq ?_
  refine run_seq ?_
  refine run_region rfl ?_
  refine ops_ex rfl (guard_none rfl) rfl rfl (ex_fieldAddr (off' := 0) rfl rfl Try.underlying99 rfl tsz2 rfl) ?_
  refine ops_ex rfl (guard_none rfl) rfl rfl (ex_load1 rfl rfl Try.underlying2 rfl ((HM.box_at 1 rfl) 0 _ rfl)) ?_
  refine ops_ex rfl (guard_none rfl) rfl rfl (ex_fieldAddr (off' := 0) rfl rfl Try.underlying99 rfl tsz2 rfl) ?_
  refine ops_ex rfl (guard_none rfl) rfl rfl (ex_load1 rfl rfl Try.underlying2 rfl ((HM.box_at 0 rfl) 0 _ rfl)) ?_
  refine ops_ex rfl (guard_none rfl) rfl rfl (ex_neq rfl rfl rfl) ?_
  refine ops_nil ?_
  refine at_then ?_
  refine run_cond (b := (x0.fTx != x1.fTx)) rfl (fun hb973 => ?_) (fun hb973 => ?_)
  · replace H := cond_t hb973 H
    refine run_seq ?_
    refine run_region rfl ?_
    refine ops_ex rfl (guard_none rfl) rfl rfl (ex_fieldAddr (off' := 0) rfl rfl Try.underlying99 rfl tsz2 rfl) ?_
    refine ops_ex rfl (guard_none rfl) rfl rfl (ex_load1 rfl rfl Try.underlying2 rfl ((HM.box_at 1 rfl) 0 _ rfl)) ?_
    refine ops_ex rfl (guard_none rfl) rfl rfl (ex_fieldAddr (off' := 0) rfl rfl Try.underlying99 rfl tsz2 rfl) ?_
    refine ops_ex rfl (guard_none rfl) rfl rfl (ex_load1 rfl rfl Try.underlying2 rfl ((HM.box_at 0 rfl) 0 _ rfl)) ?_
    refine ops_ex rfl (guard_none rfl) rfl rfl (ex_lss rfl rfl rfl) ?_
    refine ops_ex rfl (guard_none rfl) rfl rfl (ex_assign rfl rfl) ?_
    refine ops_nil ?_
    refine at_then ?_
    refine run_ret ?_
    refine at_then_ret ?_
    replace HM := (HM.front 0 rfl rfl).drop
    replace HM := (HM.front 0 rfl rfl).drop
    have hR := Option.some.inj H
    subst hR
    exact at_ret1 rfl rfl ⟨_, rfl, rfl, HM⟩
  · replace H := cond_f hb973 H
    refine run_skip ?_
    refine at_then ?_
    refine run_seq ?_
    refine run_region rfl ?_
    refine ops_ex rfl (guard_none rfl) rfl rfl (ex_fieldAddr (off' := 1) rfl rfl Try.underlying99 rfl tsz2 rfl) ?_
    refine ops_ex rfl (guard_none rfl) rfl rfl (ex_load1 rfl rfl Try.underlying2 rfl ((HM.box_at 1 rfl) 1 _ rfl)) ?_
    refine ops_ex rfl (guard_none rfl) rfl rfl (ex_fieldAddr (off' := 1) rfl rfl Try.underlying99 rfl tsz2 rfl) ?_
    refine ops_ex rfl (guard_none rfl) rfl rfl (ex_load1 rfl rfl Try.underlying2 rfl ((HM.box_at 0 rfl) 1 _ rfl)) ?_
    refine ops_ex rfl (guard_none rfl) rfl rfl (ex_lss rfl rfl rfl) ?_
    refine ops_ex rfl (guard_none rfl) rfl rfl (ex_assign rfl rfl) ?_
    refine ops_nil ?_
    refine at_then ?_
    refine run_ret ?_
    replace HM := (HM.front 0 rfl rfl).drop
    replace HM := (HM.front 0 rfl rfl).drop
    have hR := Option.some.inj H
    subst hR
    exact at_ret1 rfl rfl ⟨_, rfl, rfl, HM⟩

def spec_l4Fault.l0 (x0 : List Coin) : Nat → Int → Option (Int ⊕ Unit)
  | 0, _ => none
  | k + 1, a1297 => (bif (decide (a1297 < (x0.length : Int))) then (chk (idxOk a1297 x0.length) ((spec_l3Ref.f k ((gt x0 a1297).fRef)).bind fun t1370 => (chk (!(!(!t1370)) || (idxOk a1297 x0.length)) ((bif (!(!t1370)) then spec_l2Height.f k ((gt x0 a1297).fHeight) else some default).bind fun t1376 => (bif ((!t1370) || (!t1376)) then some (.inl 3) else (chk (idxOk a1297 x0.length) ((spec_l4Out.f k ((gt x0 a1297).fOut)).bind fun t1395 => (bif (t1395 != 0) then some (.inl t1395) else (chk (!(decide (0 < a1297)) || (idxOk (wrap64 (a1297 - 1)) x0.length)) (chk (!(decide (0 < a1297)) || (idxOk a1297 x0.length)) ((bif (decide (0 < a1297)) then spec_l4Ahead.f k ((gt x0 (wrap64 (a1297 - 1))).fRef) ((gt x0 a1297).fRef) else some default).bind fun t1407 => (bif ((decide (0 < a1297)) && (!t1407)) then some (.inl 1) else spec_l4Fault.l0 x0 k (wrap64 (a1297 + 1)))))))))))))) else some (.inr ()))
theorem spec_l4Fault.l0_z (x0 : List Coin) (a1297 : Int) : spec_l4Fault.l0 x0 0 a1297 = none := rfl
theorem spec_l4Fault.l0_s (x0 : List Coin) (k : Nat) (a1297 : Int) : spec_l4Fault.l0 x0 (k + 1) a1297 = (bif (decide (a1297 < (x0.length : Int))) then (chk (idxOk a1297 x0.length) ((spec_l3Ref.f k ((gt x0 a1297).fRef)).bind fun t1370 => (chk (!(!(!t1370)) || (idxOk a1297 x0.length)) ((bif (!(!t1370)) then spec_l2Height.f k ((gt x0 a1297).fHeight) else some default).bind fun t1376 => (bif ((!t1370) || (!t1376)) then some (.inl 3) else (chk (idxOk a1297 x0.length) ((spec_l4Out.f k ((gt x0 a1297).fOut)).bind fun t1395 => (bif (t1395 != 0) then some (.inl t1395) else (chk (!(decide (0 < a1297)) || (idxOk (wrap64 (a1297 - 1)) x0.length)) (chk (!(decide (0 < a1297)) || (idxOk a1297 x0.length)) ((bif (decide (0 < a1297)) then spec_l4Ahead.f k ((gt x0 (wrap64 (a1297 - 1))).fRef) ((gt x0 a1297).fRef) else some default).bind fun t1407 => (bif ((decide (0 < a1297)) && (!t1407)) then some (.inl 1) else spec_l4Fault.l0 x0 k (wrap64 (a1297 + 1)))))))))))))) else some (.inr ())) := rfl
def spec_l4Fault.f (k : Nat) (x0 : List Coin) : Option Int := (bif (decide (40 < (x0.length : Int))) then some 2 else ((spec_l4Fault.l0 x0 k 0).bind fun o1243 => thn o1243 (fun r => some r) (fun _ => some 0)))
theorem spec_l4Fault.calls {k : Nat} {x0 : List Coin} {p0 : Value} {w : World} (hp0 : RdS kCoin w p0 x0) {r : Int} (H : spec_l4Fault.f k x0 = some r) :
    Calls Try.prog 78 ([p0] : List Value).toArray w (fun e w_ => ∃ v, e = .returned v ∧ v = (.int .i64 r) ∧ Mem w [] w_ []) := by
  have HM := Mem.start w
  refine calls_run (N := 55) Try.func78 rfl rfl rfl rfl ?_
  unfold spec_l4Fault.f at H
  refine run_seq ?_
  refine run_region rfl ?_
  refine ops_ex rfl (guard_none rfl) rfl rfl (ex_assign rfl rfl) ?_
  refine ops_nil ?_
  refine at_then ?_
  refine run_seq ?_
  refine run_seq ?_
  refine run_region rfl ?_
  refine ops_ex rfl (guard_none rfl) rfl rfl (ex_move rfl rfl) ?_
  refine ops_ex rfl (guard_none rfl) rfl rfl (ex_len (d := kCoin) (xs := x0) rfl rfl Try.underlying25 hp0) ?_
  refine ops_ex rfl (guard_none rfl) rfl rfl (ex_gtr rfl rfl rfl) ?_
  refine ops_nil ?_
  refine at_then ?_
  refine run_cond (b := (decide (40 < (x0.length : Int)))) rfl (fun hb1085 => ?_) (fun hb1085 => ?_)
  · replace H := cond_t hb1085 H
    refine run_seq ?_
    refine run_region rfl ?_
    refine ops_ex rfl (guard_none rfl) rfl rfl (ex_assign rfl rfl) ?_
    refine ops_nil ?_
    refine at_then ?_
    refine run_ret ?_
    refine at_then_ret ?_
    have hR := Option.some.inj H
    subst hR
    exact at_ret1 rfl rfl ⟨_, rfl, rfl, HM⟩
  · replace H := cond_f hb1085 H
    refine run_skip ?_
    refine at_then ?_
    obtain ⟨o1243, ho1244, H⟩ := bind_some H
    refine run_mid (fun ρ_ w_ => Sum.inr () = o1243 ∧ ρ_ = [] ∧ Mem w [] w_ []) ?_ ?_
    · skip
      refine run_seq ?_
      refine run_region rfl ?_
      refine ops_ex rfl (guard_none rfl) rfl rfl (ex_assign rfl rfl) ?_
      refine ops_nil ?_
      refine at_then ?_
      refine run_block ?_
      refine run_loop (fun k_ ρ_ w_ => ∃ a1297 : Int, spec_l4Fault.l0 x0 k_ a1297 = some o1243 ∧ ρ_ = [(0, p0), (3, .int .i64 a1297)] ∧ Mem w [] w_ []) k (ρ1 := [(0, p0), (3, .int .i64 0)]) ⟨_, ho1244, rfl, HM⟩ (Sub.cons rfl (Sub.cons rfl Sub.nil)) ?_
      clear HM ho1244
      rintro k1350 _ w1351 ⟨a1297, ho1244, rfl, HM⟩
      obtain _ | k1350 := k1350
      · exact nomatch ((spec_l4Fault.l0_z x0 a1297).symm.trans ho1244)
      replace ho1244 := (spec_l4Fault.l0_s x0 k1350 a1297).symm.trans ho1244
      refine run_seq ?_
      refine run_seq ?_
      refine run_region rfl ?_
      refine ops_ex rfl (guard_none rfl) rfl rfl (ex_move rfl rfl) ?_
      refine ops_ex rfl (guard_none rfl) rfl rfl (ex_move rfl rfl) ?_
      refine ops_ex rfl (guard_none rfl) rfl rfl (ex_len (d := kCoin) (xs := x0) rfl rfl Try.underlying25 hp0) ?_
      refine ops_ex rfl (guard_none rfl) rfl rfl (ex_lss rfl rfl rfl) ?_
      refine ops_nil ?_
      refine at_then ?_
      refine run_cond (b := (decide (a1297 < (x0.length : Int)))) rfl (fun hb1352 => ?_) (fun hb1352 => ?_)
      · replace ho1244 := cond_t hb1352 ho1244
        refine run_skip ?_
        refine at_then ?_
        refine run_seq ?_
        refine run_block ?_
        refine run_seq ?_
        refine run_seq ?_
        obtain ⟨e1366, ho1244⟩ := chk_some ho1244
        obtain ⟨t1370, h1371, ho1244⟩ := bind_some ho1244
        obtain ⟨e1372, ho1244⟩ := chk_some ho1244
        obtain ⟨t1376, h1377, ho1244⟩ := bind_some ho1244
        refine run_meet (fun ρ_ w_ => ρ_ = [(0, p0), (3, .int .i64 a1297), (29, .bool ((!t1370) || (!t1376)))] ∧ Mem w [] w_ []) ?_ ?_
        · skip
          refine run_region rfl ?_
          refine ops_ex rfl (guard_none rfl) rfl rfl (ex_move rfl rfl) ?_
          refine ops_ex rfl (guard_none rfl) rfl rfl (ex_move rfl rfl) ?_
          obtain ⟨kv1368, hc1367, hk1369⟩ : ∃ u, CellsAt _ (sb p0) (so p0 + (a1297).toNat * 8) [(.int .i64 ((gt x0 a1297).fRef.fTx)), (.int .i64 ((gt x0 a1297).fRef.fAt)), (.int .i64 ((gt x0 a1297).fOut.fValue)), u, (.int .i64 ((gt x0 a1297).fOut.fRule.fNeed)), (.int .i64 ((gt x0 a1297).fOut.fRule.fAfter)), (.int .i64 ((gt x0 a1297).fHeight)), (.bool ((gt x0 a1297).fMined))] ∧ RdS kInt _ u ((gt x0 a1297).fOut.fRule.fKeys) := rd_with1 hp0 e1366
          refine ops_ex rfl (guard_none rfl) rfl rfl (ex_indexAddr (d := kCoin) rfl rfl rfl Try.underlying25 tsz104 hp0 (idx_lo e1366) (idx_hi e1366)) ?_
          refine ops_ex rfl (guard_none rfl) rfl rfl (ex_fieldAddr (off' := so p0 + (a1297).toNat * 8) rfl rfl Try.underlying104 rfl tsz99 rfl) ?_
          refine ops_ex rfl (guard_none rfl) rfl rfl (ex_loadN (cs := [(.int .i64 ((gt x0 a1297).fRef.fTx)), (.int .i64 ((gt x0 a1297).fRef.fAt))]) rfl rfl Try.underlying99 rfl tsz99 rfl ((HM.at_ hc1367).sub 0 2 rfl)) ?_
          refine ops_does rfl (guard_none rfl) rfl rfl (does_callk rfl callok127 rfl (spec_l3Ref.calls (x0 := (gt x0 a1297).fRef) h1371)) ?_
          rintro _ w1378 ⟨rfl, hn⟩
          replace HM : Mem w [] w1378 [] := HM.call hn
          refine ops_ex rfl (guard_none rfl) rfl rfl (ex_not rfl rfl) ?_
          refine ops_ex rfl (guard_none rfl) rfl rfl (ex_move rfl rfl) ?_
          refine bool_cases (!t1370) (fun hg1379 => ?_) (fun hg1379 => ?_)
          · skip
            refine ops_off rfl (guard_off rfl rfl rfl hg1379) rfl rfl ?_
            refine ops_off rfl (guard_off rfl rfl rfl hg1379) rfl rfl ?_
            refine ops_off rfl (guard_off rfl rfl rfl hg1379) rfl rfl ?_
            refine ops_off rfl (guard_off rfl rfl rfl hg1379) rfl rfl ?_
            refine ops_off rfl (guard_off rfl rfl rfl hg1379) rfl rfl ?_
            refine ops_off rfl (guard_off rfl rfl rfl hg1379) rfl rfl ?_
            refine ops_off rfl (guard_off rfl rfl rfl hg1379) rfl rfl ?_
            have hg1380 : ((!t1370) || (!t1376)) = true := by simp only [hg1379, Bool.and_true, Bool.true_and, Bool.and_false, Bool.false_and, Bool.or_true, Bool.true_or, Bool.or_false, Bool.false_or, Bool.not_true, Bool.not_false, Bool.not_not]
            refine ops_ex (v := .bool ((!t1370) || (!t1376))) rfl (guard_none rfl) rfl rfl (ex_por_t rfl rfl hg1379) ?_
            refine ops_nil ?_
            exact at_meet [(0, p0), (3, .int .i64 a1297), (29, .bool ((!t1370) || (!t1376)))] ⟨rfl, HM⟩ (Sub.cons rfl (Sub.cons rfl (Sub.cons rfl Sub.nil)))
          · skip
            refine ops_ex rfl (guard_on rfl rfl rfl hg1379) rfl rfl (ex_move rfl rfl) ?_
            refine ops_ex rfl (guard_on rfl rfl rfl hg1379) rfl rfl (ex_move rfl rfl) ?_
            obtain ⟨kv1374, hc1373, hk1375⟩ : ∃ u, CellsAt _ (sb p0) (so p0 + (a1297).toNat * 8) [(.int .i64 ((gt x0 a1297).fRef.fTx)), (.int .i64 ((gt x0 a1297).fRef.fAt)), (.int .i64 ((gt x0 a1297).fOut.fValue)), u, (.int .i64 ((gt x0 a1297).fOut.fRule.fNeed)), (.int .i64 ((gt x0 a1297).fOut.fRule.fAfter)), (.int .i64 ((gt x0 a1297).fHeight)), (.bool ((gt x0 a1297).fMined))] ∧ RdS kInt _ u ((gt x0 a1297).fOut.fRule.fKeys) := rd_with1 hp0 (or_t e1372 (not_mk hg1379))
            refine ops_ex rfl (guard_on rfl rfl rfl hg1379) rfl rfl (ex_indexAddr (d := kCoin) rfl rfl rfl Try.underlying25 tsz104 hp0 (idx_lo (or_t e1372 (not_mk hg1379))) (idx_hi (or_t e1372 (not_mk hg1379)))) ?_
            refine ops_ex rfl (guard_on rfl rfl rfl hg1379) rfl rfl (ex_fieldAddr (off' := so p0 + (a1297).toNat * 8 + 6) rfl rfl Try.underlying104 rfl tsz2 rfl) ?_
            refine ops_ex rfl (guard_on rfl rfl rfl hg1379) rfl rfl (ex_load1 rfl rfl Try.underlying2 rfl ((HM.at_ hc1373) 6 _ rfl)) ?_
            refine ops_does rfl (guard_on rfl rfl rfl hg1379) rfl rfl (does_callk rfl callok128 rfl (spec_l2Height.calls (x0 := (gt x0 a1297).fHeight) (cond_t (not_mk hg1379) h1377))) ?_
            rintro _ w1381 ⟨rfl, hn⟩
            replace HM : Mem w [] w1381 [] := HM.call hn
            refine ops_ex rfl (guard_on rfl rfl rfl hg1379) rfl rfl (ex_not rfl rfl) ?_
            refine ops_ex (v := .bool ((!t1370) || (!t1376))) rfl (guard_none rfl) rfl rfl (ex_por_f rfl rfl hg1379 rfl) ?_
            refine ops_nil ?_
            exact at_meet [(0, p0), (3, .int .i64 a1297), (29, .bool ((!t1370) || (!t1376)))] ⟨rfl, HM⟩ (Sub.cons rfl (Sub.cons rfl (Sub.cons rfl Sub.nil)))
        · rintro _ w1382 ⟨rfl, HM⟩
          refine at_then ?_
          refine run_cond (b := ((!t1370) || (!t1376))) rfl (fun hb1383 => ?_) (fun hb1383 => ?_)
          · replace ho1244 := cond_t hb1383 ho1244
            refine run_seq ?_
            refine run_region rfl ?_
            refine ops_ex rfl (guard_none rfl) rfl rfl (ex_assign rfl rfl) ?_
            refine ops_nil ?_
            refine at_then ?_
            refine run_ret ?_
            refine at_then_ret ?_
            refine at_block_ret ?_
            refine at_then_ret ?_
            refine at_then_ret ?_
            refine at_block_ret ?_
            refine at_then_ret ?_
            have hR := Option.some.inj ho1244
            subst hR
            have hT := thn_inl H
            have hR := Option.some.inj hT
            subst hR
            exact at_ret1 rfl rfl ⟨_, rfl, rfl, HM⟩
          · replace ho1244 := cond_f hb1383 ho1244
            refine run_skip ?_
            refine at_then ?_
            refine run_seq ?_
            refine run_seq ?_
            obtain ⟨e1391, ho1244⟩ := chk_some ho1244
            obtain ⟨t1395, h1396, ho1244⟩ := bind_some ho1244
            refine run_region rfl ?_
            refine ops_ex rfl (guard_none rfl) rfl rfl (ex_move rfl rfl) ?_
            refine ops_ex rfl (guard_none rfl) rfl rfl (ex_move rfl rfl) ?_
            obtain ⟨kv1393, hc1392, hk1394⟩ : ∃ u, CellsAt _ (sb p0) (so p0 + (a1297).toNat * 8) [(.int .i64 ((gt x0 a1297).fRef.fTx)), (.int .i64 ((gt x0 a1297).fRef.fAt)), (.int .i64 ((gt x0 a1297).fOut.fValue)), u, (.int .i64 ((gt x0 a1297).fOut.fRule.fNeed)), (.int .i64 ((gt x0 a1297).fOut.fRule.fAfter)), (.int .i64 ((gt x0 a1297).fHeight)), (.bool ((gt x0 a1297).fMined))] ∧ RdS kInt _ u ((gt x0 a1297).fOut.fRule.fKeys) := rd_with1 hp0 e1391
            refine ops_ex rfl (guard_none rfl) rfl rfl (ex_indexAddr (d := kCoin) rfl rfl rfl Try.underlying25 tsz104 hp0 (idx_lo e1391) (idx_hi e1391)) ?_
            refine ops_ex rfl (guard_none rfl) rfl rfl (ex_fieldAddr (off' := so p0 + (a1297).toNat * 8 + 2) rfl rfl Try.underlying104 rfl tsz102 rfl) ?_
            refine ops_does rfl (guard_none rfl) rfl rfl (does_callk rfl callok129 rfl (spec_l4Out.calls (x0 := (gt x0 a1297).fOut) (CellsAt.sub (HM.at_ hc1392) 2 4 rfl) (HM.rd hk1394) h1396)) ?_
            rintro _ w1397 ⟨rfl, hn⟩
            replace HM : Mem w [] w1397 [] := HM.call hn
            refine ops_ex rfl (guard_none rfl) rfl rfl (ex_assign rfl rfl) ?_
            refine ops_nil ?_
            refine at_then ?_
            refine run_seq ?_
            refine run_region rfl ?_
            refine ops_ex rfl (guard_none rfl) rfl rfl (ex_move rfl rfl) ?_
            refine ops_ex rfl (guard_none rfl) rfl rfl (ex_neq rfl rfl rfl) ?_
            refine ops_nil ?_
            refine at_then ?_
            refine run_cond (b := (t1395 != 0)) rfl (fun hb1398 => ?_) (fun hb1398 => ?_)
            · replace ho1244 := cond_t hb1398 ho1244
              refine run_seq ?_
              refine run_region rfl ?_
              refine ops_ex rfl (guard_none rfl) rfl rfl (ex_move rfl rfl) ?_
              refine ops_ex rfl (guard_none rfl) rfl rfl (ex_assign rfl rfl) ?_
              refine ops_nil ?_
              refine at_then ?_
              refine run_ret ?_
              refine at_then_ret ?_
              refine at_block_ret ?_
              refine at_then_ret ?_
              refine at_then_ret ?_
              refine at_block_ret ?_
              refine at_then_ret ?_
              have hR := Option.some.inj ho1244
              subst hR
              have hT := thn_inl H
              have hR := Option.some.inj hT
              subst hR
              exact at_ret1 rfl rfl ⟨_, rfl, rfl, HM⟩
            · replace ho1244 := cond_f hb1398 ho1244
              refine run_skip ?_
              refine at_then ?_
              refine run_seq ?_
              obtain ⟨e1399, ho1244⟩ := chk_some ho1244
              obtain ⟨e1403, ho1244⟩ := chk_some ho1244
              obtain ⟨t1407, h1408, ho1244⟩ := bind_some ho1244
              refine run_meet (fun ρ_ w_ => ρ_ = [(0, p0), (3, .int .i64 a1297), (54, .bool ((decide (0 < a1297)) && (!t1407)))] ∧ Mem w [] w_ []) ?_ ?_
              · skip
                refine run_drawf (fun w_ => Mem w [] w_ []) [(0, true), (1, true), (2, true), (3, true), (4, true), (5, true), (6, true), (7, true), (8, true), (9, true), (10, true), (11, true), (12, true), (13, true), (14, false), (15, true), (16, true)] mixed rfl rfl (by kernel_rfl) ?_
                replace HM := HM.grow (fr_drew _)
                have hS := Mem.suf (M := []) HM
                refine drwp_take rfl (guard_none rfl) rfl rfl (fun w_ hS_ => (ex_move rfl rfl)) hS ?_
                refine drwp_take rfl (guard_none rfl) rfl rfl (fun w_ hS_ => (ex_gtr rfl rfl rfl)) hS ?_
                refine drwp_take rfl (guard_none rfl) rfl rfl (fun w_ hS_ => (ex_move rfl rfl)) hS ?_
                refine bool_cases (decide (0 < a1297)) (fun hg1409 => ?_) (fun hg1409 => ?_)
                · skip
                  refine drwp_take rfl (guard_on rfl rfl rfl hg1409) rfl rfl (fun w_ hS_ => (ex_move rfl rfl)) hS ?_
                  refine drwp_take rfl (guard_on rfl rfl rfl hg1409) rfl rfl (fun w_ hS_ => (ex_move rfl rfl)) hS ?_
                  refine drwp_take rfl (guard_on rfl rfl rfl hg1409) rfl rfl (fun w_ hS_ => (ex_sub rfl rfl rfl)) hS ?_
                  obtain ⟨kv1401, hc1400, hk1402⟩ : ∃ u, CellsAt _ (sb p0) (so p0 + (wrap64 (a1297 - 1)).toNat * 8) [(.int .i64 ((gt x0 (wrap64 (a1297 - 1))).fRef.fTx)), (.int .i64 ((gt x0 (wrap64 (a1297 - 1))).fRef.fAt)), (.int .i64 ((gt x0 (wrap64 (a1297 - 1))).fOut.fValue)), u, (.int .i64 ((gt x0 (wrap64 (a1297 - 1))).fOut.fRule.fNeed)), (.int .i64 ((gt x0 (wrap64 (a1297 - 1))).fOut.fRule.fAfter)), (.int .i64 ((gt x0 (wrap64 (a1297 - 1))).fHeight)), (.bool ((gt x0 (wrap64 (a1297 - 1))).fMined))] ∧ RdS kInt _ u ((gt x0 (wrap64 (a1297 - 1))).fOut.fRule.fKeys) := rd_with1 hp0 (or_t e1399 hg1409)
                  refine drwp_take rfl (guard_on rfl rfl rfl hg1409) rfl rfl (fun w_ hS_ => (ex_indexAddr (d := kCoin) rfl rfl rfl Try.underlying25 tsz104 hp0 (idx_lo (or_t e1399 hg1409)) (idx_hi (or_t e1399 hg1409)))) hS ?_
                  refine drwp_take rfl (guard_on rfl rfl rfl hg1409) rfl rfl (fun w_ hS_ => (ex_fieldAddr (off' := so p0 + (wrap64 (a1297 - 1)).toNat * 8) rfl rfl Try.underlying104 rfl tsz99 rfl)) hS ?_
                  refine drwp_take rfl (guard_on rfl rfl rfl hg1409) rfl rfl (fun w_ hS_ => (ex_loadN (cs := [(.int .i64 ((gt x0 (wrap64 (a1297 - 1))).fRef.fTx)), (.int .i64 ((gt x0 (wrap64 (a1297 - 1))).fRef.fAt))]) rfl rfl Try.underlying99 rfl tsz99 rfl ((hS_.at_ hc1400).sub 0 2 rfl))) hS ?_
                  refine drwp_take rfl (guard_on rfl rfl rfl hg1409) rfl rfl (fun w_ hS_ => (ex_move rfl rfl)) hS ?_
                  refine drwp_take rfl (guard_on rfl rfl rfl hg1409) rfl rfl (fun w_ hS_ => (ex_move rfl rfl)) hS ?_
                  obtain ⟨kv1405, hc1404, hk1406⟩ : ∃ u, CellsAt _ (sb p0) (so p0 + (a1297).toNat * 8) [(.int .i64 ((gt x0 a1297).fRef.fTx)), (.int .i64 ((gt x0 a1297).fRef.fAt)), (.int .i64 ((gt x0 a1297).fOut.fValue)), u, (.int .i64 ((gt x0 a1297).fOut.fRule.fNeed)), (.int .i64 ((gt x0 a1297).fOut.fRule.fAfter)), (.int .i64 ((gt x0 a1297).fHeight)), (.bool ((gt x0 a1297).fMined))] ∧ RdS kInt _ u ((gt x0 a1297).fOut.fRule.fKeys) := rd_with1 hp0 (or_t e1403 hg1409)
                  refine drwp_take rfl (guard_on rfl rfl rfl hg1409) rfl rfl (fun w_ hS_ => (ex_indexAddr (d := kCoin) rfl rfl rfl Try.underlying25 tsz104 hp0 (idx_lo (or_t e1403 hg1409)) (idx_hi (or_t e1403 hg1409)))) hS ?_
                  refine drwp_take rfl (guard_on rfl rfl rfl hg1409) rfl rfl (fun w_ hS_ => (ex_fieldAddr (off' := so p0 + (a1297).toNat * 8) rfl rfl Try.underlying104 rfl tsz99 rfl)) hS ?_
                  refine drwp_take rfl (guard_on rfl rfl rfl hg1409) rfl rfl (fun w_ hS_ => (ex_loadN (cs := [(.int .i64 ((gt x0 a1297).fRef.fTx)), (.int .i64 ((gt x0 a1297).fRef.fAt))]) rfl rfl Try.underlying99 rfl tsz99 rfl ((hS_.at_ hc1404).sub 0 2 rfl))) hS ?_
                  refine drwp_one rfl (guard_on rfl rfl rfl hg1409) rfl rfl (does_callk rfl callok130 rfl (spec_l4Ahead.calls (x0 := (gt x0 (wrap64 (a1297 - 1))).fRef) (x1 := (gt x0 a1297).fRef) (cond_t hg1409 h1408))) ?_
                  rintro _ w1410 ⟨rfl, hn⟩
                  replace HM : Mem w [] w1410 [] := HM.call hn
                  refine ⟨Mem.suf (M := []) HM, ?_⟩
                  have hS := Mem.suf (M := []) HM
                  refine drwp_take rfl (guard_on rfl rfl rfl hg1409) rfl rfl (fun w_ hS_ => (ex_not rfl rfl)) hS ?_
                  refine drwp_take (v := .bool ((decide (0 < a1297)) && (!t1407))) rfl (guard_none rfl) rfl rfl (fun w_ hS_ => (ex_pand_t rfl rfl hg1409 rfl)) hS ?_
                  refine drwp_done ?_
                  exact at_meet [(0, p0), (3, .int .i64 a1297), (54, .bool ((decide (0 < a1297)) && (!t1407)))] ⟨rfl, HM⟩ (Sub.cons rfl (Sub.cons rfl (Sub.cons rfl Sub.nil)))
                · skip
                  refine drwp_off rfl (guard_off rfl rfl rfl hg1409) rfl rfl hS ?_
                  refine drwp_off rfl (guard_off rfl rfl rfl hg1409) rfl rfl hS ?_
                  refine drwp_off rfl (guard_off rfl rfl rfl hg1409) rfl rfl hS ?_
                  refine drwp_off rfl (guard_off rfl rfl rfl hg1409) rfl rfl hS ?_
                  refine drwp_off rfl (guard_off rfl rfl rfl hg1409) rfl rfl hS ?_
                  refine drwp_off rfl (guard_off rfl rfl rfl hg1409) rfl rfl hS ?_
                  refine drwp_off rfl (guard_off rfl rfl rfl hg1409) rfl rfl hS ?_
                  refine drwp_off rfl (guard_off rfl rfl rfl hg1409) rfl rfl hS ?_
                  refine drwp_off rfl (guard_off rfl rfl rfl hg1409) rfl rfl hS ?_
                  refine drwp_off rfl (guard_off rfl rfl rfl hg1409) rfl rfl hS ?_
                  refine drwp_off rfl (guard_off rfl rfl rfl hg1409) rfl rfl hS ?_
                  refine drwp_off1 rfl (guard_off rfl rfl rfl hg1409) rfl rfl ⟨hS, ?_⟩
                  refine drwp_off rfl (guard_off rfl rfl rfl hg1409) rfl rfl hS ?_
                  have hg1411 : ((decide (0 < a1297)) && (!t1407)) = false := by simp only [hg1409, Bool.and_true, Bool.true_and, Bool.and_false, Bool.false_and, Bool.or_true, Bool.true_or, Bool.or_false, Bool.false_or, Bool.not_true, Bool.not_false, Bool.not_not]
                  refine drwp_take (v := .bool ((decide (0 < a1297)) && (!t1407))) rfl (guard_none rfl) rfl rfl (fun w_ hS_ => (ex_pand_f rfl rfl hg1409)) hS ?_
                  refine drwp_done ?_
                  exact at_meet [(0, p0), (3, .int .i64 a1297), (54, .bool ((decide (0 < a1297)) && (!t1407)))] ⟨rfl, HM⟩ (Sub.cons rfl (Sub.cons rfl (Sub.cons rfl Sub.nil)))
              · rintro _ w1412 ⟨rfl, HM⟩
                refine at_then ?_
                refine run_cond (b := ((decide (0 < a1297)) && (!t1407))) rfl (fun hb1413 => ?_) (fun hb1413 => ?_)
                · replace ho1244 := cond_t hb1413 ho1244
                  refine run_seq ?_
                  refine run_region rfl ?_
                  refine ops_ex rfl (guard_none rfl) rfl rfl (ex_assign rfl rfl) ?_
                  refine ops_nil ?_
                  refine at_then ?_
                  refine run_ret ?_
                  refine at_block_ret ?_
                  refine at_then_ret ?_
                  refine at_then_ret ?_
                  refine at_block_ret ?_
                  refine at_then_ret ?_
                  have hR := Option.some.inj ho1244
                  subst hR
                  have hT := thn_inl H
                  have hR := Option.some.inj hT
                  subst hR
                  exact at_ret1 rfl rfl ⟨_, rfl, rfl, HM⟩
                · replace ho1244 := cond_f hb1413 ho1244
                  refine run_skip ?_
                  refine at_block ?_
                  refine at_then ?_
                  refine run_region rfl ?_
                  refine ops_ex rfl (guard_none rfl) rfl rfl (ex_move rfl rfl) ?_
                  refine ops_ex rfl (guard_none rfl) rfl rfl (ex_add rfl rfl rfl) ?_
                  refine ops_ex rfl (guard_none rfl) rfl rfl (ex_assign rfl rfl) ?_
                  refine ops_nil ?_
                  exact at_again k1350 (ρ1 := [(0, p0), (3, .int .i64 (wrap64 (a1297 + 1)))]) (Nat.lt_succ_self _) ⟨_, ho1244, rfl, HM⟩ (Sub.cons rfl (Sub.cons rfl Sub.nil))
      · replace ho1244 := cond_f hb1352 ho1244
        refine run_exit ?_
        refine at_then_exit ?_
        refine at_then_exit ?_
        refine at_block_exit ?_
        exact at_mid (ρ' := []) ⟨(Option.some.inj ho1244), rfl, HM⟩ Sub.nil
    · rintro _ w1414 ⟨rfl, rfl, HM⟩
      replace H := (thn_inr H)
      refine run_seq ?_
      refine run_region rfl ?_
      refine ops_ex rfl (guard_none rfl) rfl rfl (ex_assign rfl rfl) ?_
      refine ops_nil ?_
      refine at_then ?_
      refine run_ret ?_
      have hR := Option.some.inj H
      subst hR
      exact at_ret1 rfl rfl ⟨_, rfl, rfl, HM⟩
end Go.Proofs.Ytoiacoiccpiciaa.Zk
