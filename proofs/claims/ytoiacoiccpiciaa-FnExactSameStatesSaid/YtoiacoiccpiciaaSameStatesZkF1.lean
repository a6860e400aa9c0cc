/- What functions of the program compute, each as a plain function, and that they do. Conditions: as each theorem states them. -/
import Derived.Test.YtoiacoiccpiciaaSameStatesZkF0
namespace Go.Proofs.Ytoiacoiccpiciaa.Zk
open Go Go.RowKit Go.IntWalk Go.Proofs
set_option linter.unusedVariables false
set_option linter.unusedSimpArgs false
set_option maxRecDepth 100000
set_option maxHeartbeats 4000000
def laws_toMember.f (k : Nat) (x0 : Member) : Option Member := ((laws_toRef.f k x0.fRef).bind fun t553 => some (⟨x0.fKey, t553⟩ : Member))
theorem laws_toMember.calls {k : Nat} {x0 : Member}  {w : World}  {r : Member} (H : laws_toMember.f k x0 = some r) :
    Calls Try.prog 111 ([.agg #[(.int .i64 x0.fKey), (.int .i64 x0.fRef.fTx), (.int .i64 x0.fRef.fAt)]] : List Value).toArray w (fun e w_ => ∃ v, e = .returned v ∧ v = (.agg #[.int .i64 r.fKey, .int .i64 r.fRef.fTx, .int .i64 r.fRef.fAt]) ∧ Mem w [] w_ []) := by
  have HM := Mem.start w
  refine calls_run (N := 12) Try.func111 rfl rfl rfl rfl ?_
  unfold laws_toMember.f at H
  refine run_seq ?_
  refine run_region rfl ?_
  refine ops_does rfl (guard_none rfl) rfl rfl (does_box (cs := [.int .i64 x0.fKey, .int .i64 x0.fRef.fTx, .int .i64 x0.fRef.fAt]) rfl rfl rfl HM) ?_
  rintro _ w546 ⟨b540, rfl, HM⟩
  refine ops_does rfl (guard_none rfl) rfl rfl (does_alloc (cs := [.int .i64 0, .int .i64 0, .int .i64 0]) rfl tz144 rfl HM) ?_
  rintro _ w547 ⟨b543, rfl, HM⟩
  refine ops_nil ?_
  refine at_then ?_
  refine run_seq ?_
  refine run_region rfl ?_
  refine ops_does rfl (guard_none rfl) rfl rfl (does_alloc (cs := [.int .i64 0, .int .i64 0, .int .i64 0]) rfl tz144 rfl HM) ?_
  rintro _ w551 ⟨b548, rfl, HM⟩
  refine ops_nil ?_
  refine at_then ?_
  refine run_seq ?_
  refine run_region rfl ?_
  refine ops_ex rfl (guard_none rfl) rfl rfl (ex_fieldAddr (off' := 0) rfl rfl Try.underlying147 rfl tsz2 rfl) ?_
  refine ops_ex rfl (guard_none rfl) rfl rfl (ex_load1 rfl rfl Try.underlying2 rfl ((HM.box_at 2 rfl) 0 _ rfl)) ?_
  refine ops_ex rfl (guard_none rfl) rfl rfl (ex_fieldAddr (off' := 0) rfl rfl Try.underlying144 rfl tsz2 rfl) ?_
  refine ops_doesS rfl (guard_none rfl) rfl (does_store (vs := [.int .i64 x0.fKey]) (cs' := [.int .i64 x0.fKey, .int .i64 0, .int .i64 0]) rfl rfl rfl rfl tsz2 (Ones.int Ones.nil) rfl rfl HM) ?_
  rintro w552 HM
  refine ops_nil ?_
  refine at_then ?_
  refine run_seq ?_
  obtain ⟨t553, h554, H⟩ := bind_some H
  refine run_region rfl ?_
  refine ops_ex rfl (guard_none rfl) rfl rfl (ex_fieldAddr (off' := 1) rfl rfl Try.underlying147 rfl tsz92 rfl) ?_
  refine ops_ex rfl (guard_none rfl) rfl rfl (ex_loadN (cs := [(.int .i64 x0.fRef.fTx), (.int .i64 x0.fRef.fAt)]) rfl rfl Try.underlying92 rfl tsz92 rfl ((HM.box_at 2 rfl).sub 1 2 rfl)) ?_
  refine ops_does rfl (guard_none rfl) rfl rfl (does_callk rfl callok122 rfl (laws_toRef.calls (x0 := x0.fRef) h554)) ?_
  rintro _ w555 ⟨rfl, hn⟩
  replace HM : Mem w [] w555 [box b548 144 [.int .i64 x0.fKey, .int .i64 0, .int .i64 0], box b543 144 [.int .i64 0, .int .i64 0, .int .i64 0], box b540 147 [.int .i64 x0.fKey, .int .i64 x0.fRef.fTx, .int .i64 x0.fRef.fAt]] := HM.call hn
  refine ops_ex rfl (guard_none rfl) rfl rfl (ex_fieldAddr (off' := 1) rfl rfl Try.underlying144 rfl tsz99 rfl) ?_
  refine ops_doesS rfl (guard_none rfl) rfl (does_store (vs := [.int .i64 t553.fTx, .int .i64 t553.fAt]) (cs' := [.int .i64 x0.fKey, .int .i64 t553.fTx, .int .i64 t553.fAt]) rfl rfl rfl rfl tsz99 (Ones.int (Ones.int Ones.nil)) rfl rfl HM) ?_
  rintro w556 HM
  refine ops_nil ?_
  refine at_then ?_
  refine run_seq ?_
  refine run_region rfl ?_
  refine ops_ex rfl (guard_none rfl) rfl rfl (ex_loadN (cs := [(.int .i64 x0.fKey), (.int .i64 t553.fTx), (.int .i64 t553.fAt)]) rfl rfl Try.underlying144 rfl tsz144 rfl ((HM.box_at 0 rfl).sub 0 3 rfl)) ?_
  replace HM := HM.front 1 rfl rfl
  refine ops_doesS rfl (guard_none rfl) rfl (does_store (vs := [.int .i64 x0.fKey, .int .i64 t553.fTx, .int .i64 t553.fAt]) (cs' := [.int .i64 x0.fKey, .int .i64 t553.fTx, .int .i64 t553.fAt]) rfl rfl rfl rfl tsz144 (Ones.int (Ones.int (Ones.int Ones.nil))) rfl rfl HM) ?_
  rintro w557 HM
  refine ops_nil ?_
  refine at_then ?_
  refine run_ret ?_
  replace HM := (HM.front 1 rfl rfl).drop
  replace HM := (HM.front 1 rfl rfl).drop
  have hcb0 := HM.box_at 0 rfl
  replace HM := (HM.front 0 rfl rfl).drop
  have hR := Option.some.inj H
  subst hR
  exact at_retN rfl rfl Try.underlying144 rfl tsz144 rfl hcb0 ⟨_, rfl, rfl, HM⟩

def laws_toMemberS.l0 (x0 : List Member) : Nat → (List Member) → Int → Option ((List Member))
  | 0, _, _ => none
  | k + 1, a622, a624 => (bif (decide (a624 < (x0.length : Int))) then (chk (idxOk a624 x0.length) ((laws_toMember.f k (gt x0 a624)).bind fun t636 => (chk (idxOk a624 a622.length) (laws_toMemberS.l0 x0 k (a622.set (a624).toNat t636) (wrap64 (a624 + 1)))))) else some a622)
theorem laws_toMemberS.l0_z (x0 : List Member) (a622 : List Member) (a624 : Int) : laws_toMemberS.l0 x0 0 a622 a624 = none := rfl
theorem laws_toMemberS.l0_s (x0 : List Member) (k : Nat) (a622 : List Member) (a624 : Int) : laws_toMemberS.l0 x0 (k + 1) a622 a624 = (bif (decide (a624 < (x0.length : Int))) then (chk (idxOk a624 x0.length) ((laws_toMember.f k (gt x0 a624)).bind fun t636 => (chk (idxOk a624 a622.length) (laws_toMemberS.l0 x0 k (a622.set (a624).toNat t636) (wrap64 (a624 + 1)))))) else some a622) := rfl
def laws_toMemberS.f (k : Nat) (x0 : List Member) : Option ((List Member)) := (chk (decide (0 ≤ (x0.length : Int))) (chk (leB (((x0.length : Int)).toNat * 24) 281474976710656) ((laws_toMemberS.l0 x0 k (List.replicate ((x0.length : Int)).toNat (⟨0, (⟨0, 0⟩ : Ref)⟩ : Member)) 0).bind (fun a611 => some a611))))
theorem laws_toMemberS.calls {k : Nat} {x0 : List Member} {p0 : Value} {w : World} (hp0 : RdS kMember w p0 x0) {r : (List Member)} (H : laws_toMemberS.f k x0 = some r) :
    Calls Try.prog 50 ([p0] : List Value).toArray w (fun e w_ => ∃ v, e = .returned v ∧ ∃ u0 : Value, v = u0 ∧ Mem w [] w_ [own kMember 144 u0 r]) := by
  have HM := Mem.start w
  refine calls_run (N := 23) Try.func50 rfl rfl rfl rfl ?_
  unfold laws_toMemberS.f at H
  refine run_seq ?_
  refine run_region rfl ?_
  refine ops_ex rfl (guard_none rfl) rfl rfl (ex_assign rfl rfl) ?_
  refine ops_nil ?_
  refine at_then ?_
  refine run_seq ?_
  obtain ⟨e585, H⟩ := chk_some H
  obtain ⟨e586, H⟩ := chk_some H
  refine run_region rfl ?_
  refine ops_ex rfl (guard_none rfl) rfl rfl (ex_move rfl rfl) ?_
  refine ops_ex rfl (guard_none rfl) rfl rfl (ex_len (d := kMember) (xs := x0) rfl rfl Try.underlying44 hp0) ?_
  refine ops_does rfl (guard_none rfl) rfl rfl (does_make (x := (⟨0, (⟨0, 0⟩ : Ref)⟩ : Member)) kMember rfl rfl rfl Try.underlying49 tsz144 tby144 tz144 rfl rfl (fun _ => ⟨rfl, rfl⟩) (of_decide_eq_true e585) rfl (leB_le e586) rfl HM) ?_
  rintro v582 w587 HM
  refine ops_ex rfl (guard_none rfl) rfl rfl (ex_assign rfl rfl) ?_
  refine ops_nil ?_
  refine at_then ?_
  obtain ⟨o613, ho614, H⟩ := bind_some H
  refine run_mid (fun ρ_ w_ => ∃ v610 : Value, ∃ a611 : List Member, a611 = o613 ∧ ρ_ = [(3, v610)] ∧ Mem w [] w_ [own kMember 144 v610 a611]) ?_ ?_
  · clear H
    refine run_seq ?_
    refine run_region rfl ?_
    refine ops_ex rfl (guard_none rfl) rfl rfl (ex_assign rfl rfl) ?_
    refine ops_nil ?_
    refine at_then ?_
    refine run_block ?_
    refine run_loop (fun k_ ρ_ w_ => ∃ v621 : Value, ∃ a622 : List Member, ∃ a624 : Int, laws_toMemberS.l0 x0 k_ a622 a624 = some o613 ∧ ρ_ = [(0, p0), (3, v621), (4, .int .i64 a624)] ∧ Mem w [] w_ [own kMember 144 v621 a622]) k (ρ1 := [(0, p0), (3, v582), (4, .int .i64 0)]) ⟨_, _, _, ho614, rfl, HM⟩ (Sub.cons rfl (Sub.cons rfl (Sub.cons rfl Sub.nil))) ?_
    clear HM ho614
    rintro k631 _ w632 ⟨v621, a622, a624, ho614, rfl, HM⟩
    obtain _ | k631 := k631
    · exact nomatch ((laws_toMemberS.l0_z x0 a622 a624).symm.trans ho614)
    replace ho614 := (laws_toMemberS.l0_s x0 k631 a622 a624).symm.trans ho614
    refine run_seq ?_
    refine run_seq ?_
    refine run_region rfl ?_
    refine ops_ex rfl (guard_none rfl) rfl rfl (ex_move rfl rfl) ?_
    refine ops_ex rfl (guard_none rfl) rfl rfl (ex_move rfl rfl) ?_
    refine ops_ex rfl (guard_none rfl) rfl rfl (ex_len (d := kMember) (xs := x0) rfl rfl Try.underlying44 hp0) ?_
    refine ops_ex rfl (guard_none rfl) rfl rfl (ex_lss rfl rfl rfl) ?_
    refine ops_nil ?_
    refine at_then ?_
    refine run_cond (b := (decide (a624 < (x0.length : Int)))) rfl (fun hb633 => ?_) (fun hb633 => ?_)
    · replace ho614 := cond_t hb633 ho614
      refine run_skip ?_
      refine at_then ?_
      refine run_seq ?_
      refine run_block ?_
      obtain ⟨e634, ho614⟩ := chk_some ho614
      obtain ⟨t636, h637, ho614⟩ := bind_some ho614
      obtain ⟨e638, ho614⟩ := chk_some ho614
      refine run_region rfl ?_
      refine ops_ex rfl (guard_none rfl) rfl rfl (ex_move rfl rfl) ?_
      refine ops_ex rfl (guard_none rfl) rfl rfl (ex_move rfl rfl) ?_
      refine ops_ex rfl (guard_none rfl) rfl rfl (ex_move rfl rfl) ?_
      refine ops_ex rfl (guard_none rfl) rfl rfl (ex_move rfl rfl) ?_
      have hc635 : CellsAt _ (sb p0) (so p0 + (a624).toNat * 3) [(.int .i64 ((gt x0 a624).fKey)), (.int .i64 ((gt x0 a624).fRef.fTx)), (.int .i64 ((gt x0 a624).fRef.fAt))] := rd_plain hp0 e634
      refine ops_ex rfl (guard_none rfl) rfl rfl (ex_indexAddr (d := kMember) rfl rfl rfl Try.underlying44 tsz147 hp0 (idx_lo e634) (idx_hi e634)) ?_
      refine ops_ex rfl (guard_none rfl) rfl rfl (ex_loadN (cs := [(.int .i64 ((gt x0 a624).fKey)), (.int .i64 ((gt x0 a624).fRef.fTx)), (.int .i64 ((gt x0 a624).fRef.fAt))]) rfl rfl Try.underlying147 rfl tsz147 rfl ((HM.at_ hc635).sub 0 3 rfl)) ?_
      refine ops_does rfl (guard_none rfl) rfl rfl (does_callk rfl callok111 rfl (laws_toMember.calls (x0 := (gt x0 a624)) h637)) ?_
      rintro _ w639 ⟨rfl, hn⟩
      replace HM : Mem w [] w639 [own kMember 144 v621 a622] := HM.call hn
      refine ops_ex rfl (guard_none rfl) rfl rfl (ex_indexAddr (d := kMember) rfl rfl rfl Try.underlying49 tsz144 (HM.own_rd 0 rfl) (idx_lo e638) (idx_hi e638)) ?_
      refine ops_doesS rfl (guard_none rfl) rfl (does_setElem (vs := [(.int .i64 t636.fKey), (.int .i64 t636.fRef.fTx), (.int .i64 t636.fRef.fAt)]) (y := t636) kMember rfl rfl rfl rfl rfl tsz144 rfl rfl (idx_nat e638) (fun _ _ h => ⟨rfl, h⟩) (HM.emp.front 1 rfl rfl)) ?_
      rintro w640 HM
      refine ops_nil ?_
      refine at_block ?_
      refine at_then ?_
      refine run_region rfl ?_
      refine ops_ex rfl (guard_none rfl) rfl rfl (ex_move rfl rfl) ?_
      refine ops_ex rfl (guard_none rfl) rfl rfl (ex_add rfl rfl rfl) ?_
      refine ops_ex rfl (guard_none rfl) rfl rfl (ex_assign rfl rfl) ?_
      refine ops_nil ?_
      exact at_again k631 (ρ1 := [(0, p0), (3, v621), (4, .int .i64 (wrap64 (a624 + 1)))]) (Nat.lt_succ_self _) ⟨_, _, _, ho614, rfl, HM⟩ (Sub.cons rfl (Sub.cons rfl (Sub.cons rfl Sub.nil)))
    · replace ho614 := cond_f hb633 ho614
      refine run_exit ?_
      refine at_then_exit ?_
      refine at_then_exit ?_
      refine at_block_exit ?_
      exact at_mid (ρ' := [(3, v621)]) ⟨_, _, (Option.some.inj ho614), rfl, HM⟩ (Sub.cons rfl Sub.nil)
  · rintro _ w641 ⟨v610, a611, rfl, rfl, HM⟩
    refine run_seq ?_
    refine run_region rfl ?_
    refine ops_ex rfl (guard_none rfl) rfl rfl (ex_move rfl rfl) ?_
    refine ops_ex rfl (guard_none rfl) rfl rfl (ex_assign rfl rfl) ?_
    refine ops_nil ?_
    refine at_then ?_
    refine run_ret ?_
    have hR := Option.some.inj H
    subst hR
    exact at_ret1 rfl rfl ⟨_, rfl, _, rfl, HM⟩

def laws_toState.f (k : Nat) (x0 : State) : Option State := ((laws_toCoinS.f k x0.fCoins).bind fun t660 => ((laws_toMemberS.f k x0.fMembers).bind fun t666 => some (⟨x0.fTip, x0.fHeight, t660, t666⟩ : State)))
theorem laws_toState.calls {k : Nat} {x0 : State} {p0_0 : Value} {p0_1 : Value} {w : World} (hp0_0 : RdS kCoin w p0_0 x0.fCoins) (hp0_1 : RdS kMember w p0_1 x0.fMembers) {r : State} (H : laws_toState.f k x0 = some r) :
    Calls Try.prog 31 ([.agg #[(.int .i64 x0.fTip), (.int .i64 x0.fHeight), p0_0, p0_1]] : List Value).toArray w (fun e w_ => ∃ v, e = .returned v ∧ ∃ u0 : Value, ∃ u1 : Value, v = (.agg #[.int .i64 r.fTip, .int .i64 r.fHeight, u0, u1]) ∧ Mem w [] w_ [own kCoin 104 u0 r.fCoins, own kMember 144 u1 r.fMembers]) := by
  have HM := Mem.start w
  refine calls_run (N := 19) Try.func31 rfl rfl rfl rfl ?_
  unfold laws_toState.f at H
  refine run_seq ?_
  refine run_region rfl ?_
  refine ops_does rfl (guard_none rfl) rfl rfl (does_box (cs := [.int .i64 x0.fTip, .int .i64 x0.fHeight, p0_0, p0_1]) rfl rfl rfl HM) ?_
  rintro _ w652 ⟨b646, rfl, HM⟩
  refine ops_does rfl (guard_none rfl) rfl rfl (does_alloc (cs := [.int .i64 0, .int .i64 0, .slice none 0 0, .slice none 0 0]) rfl tz51 rfl HM) ?_
  rintro _ w653 ⟨b649, rfl, HM⟩
  refine ops_nil ?_
  refine at_then ?_
  refine run_seq ?_
  refine run_region rfl ?_
  refine ops_does rfl (guard_none rfl) rfl rfl (does_alloc (cs := [.int .i64 0, .int .i64 0, .slice none 0 0, .slice none 0 0]) rfl tz51 rfl HM) ?_
  rintro _ w657 ⟨b654, rfl, HM⟩
  refine ops_nil ?_
  refine at_then ?_
  refine run_seq ?_
  refine run_region rfl ?_
  refine ops_ex rfl (guard_none rfl) rfl rfl (ex_fieldAddr (off' := 0) rfl rfl Try.underlying46 rfl tsz2 rfl) ?_
  refine ops_ex rfl (guard_none rfl) rfl rfl (ex_load1 rfl rfl Try.underlying2 rfl ((HM.box_at 2 rfl) 0 _ rfl)) ?_
  refine ops_ex rfl (guard_none rfl) rfl rfl (ex_fieldAddr (off' := 0) rfl rfl Try.underlying51 rfl tsz2 rfl) ?_
  refine ops_doesS rfl (guard_none rfl) rfl (does_store (vs := [.int .i64 x0.fTip]) (cs' := [.int .i64 x0.fTip, .int .i64 0, .slice none 0 0, .slice none 0 0]) rfl rfl rfl rfl tsz2 (Ones.int Ones.nil) rfl rfl HM) ?_
  rintro w658 HM
  refine ops_nil ?_
  refine at_then ?_
  refine run_seq ?_
  refine run_region rfl ?_
  refine ops_ex rfl (guard_none rfl) rfl rfl (ex_fieldAddr (off' := 1) rfl rfl Try.underlying46 rfl tsz2 rfl) ?_
  refine ops_ex rfl (guard_none rfl) rfl rfl (ex_load1 rfl rfl Try.underlying2 rfl ((HM.box_at 2 rfl) 1 _ rfl)) ?_
  refine ops_ex rfl (guard_none rfl) rfl rfl (ex_fieldAddr (off' := 1) rfl rfl Try.underlying51 rfl tsz2 rfl) ?_
  refine ops_doesS rfl (guard_none rfl) rfl (does_store (vs := [.int .i64 x0.fHeight]) (cs' := [.int .i64 x0.fTip, .int .i64 x0.fHeight, .slice none 0 0, .slice none 0 0]) rfl rfl rfl rfl tsz2 (Ones.int Ones.nil) rfl rfl HM) ?_
  rintro w659 HM
  refine ops_nil ?_
  refine at_then ?_
  refine run_seq ?_
  obtain ⟨t660, h661, H⟩ := bind_some H
  refine run_region rfl ?_
  refine ops_ex rfl (guard_none rfl) rfl rfl (ex_fieldAddr (off' := 2) rfl rfl Try.underlying46 rfl tsz22 rfl) ?_
  refine ops_ex rfl (guard_none rfl) rfl rfl (ex_load1 rfl rfl Try.underlying22 rfl ((HM.box_at 2 rfl) 2 _ rfl)) ?_
  refine ops_does rfl (guard_none rfl) rfl rfl (does_callk rfl callok17 rfl (laws_toCoinS.calls (x0 := x0.fCoins) (HM.rd hp0_0) h661)) ?_
  rintro u662 w664 ⟨_, rfl, hn⟩
  replace HM : Mem w [] w664 [own kCoin 104 u662 t660, box b654 51 [.int .i64 x0.fTip, .int .i64 x0.fHeight, .slice none 0 0, .slice none 0 0], box b649 51 [.int .i64 0, .int .i64 0, .slice none 0 0, .slice none 0 0], box b646 46 [.int .i64 x0.fTip, .int .i64 x0.fHeight, p0_0, p0_1]] := HM.call hn
  refine ops_ex rfl (guard_none rfl) rfl rfl (ex_fieldAddr (off' := 2) rfl rfl Try.underlying51 rfl tsz25 rfl) ?_
  replace HM := HM.front 1 rfl rfl
  refine ops_doesS rfl (guard_none rfl) rfl (does_store (vs := [u662]) (cs' := [.int .i64 x0.fTip, .int .i64 x0.fHeight, u662, .slice none 0 0]) rfl rfl rfl (rd_cells (HM.own_rd 1 rfl)) tsz25 (Ones.rd (HM.own_rd 1 rfl) Ones.nil) rfl rfl HM) ?_
  rintro w665 HM
  refine ops_nil ?_
  refine at_then ?_
  refine run_seq ?_
  obtain ⟨t666, h667, H⟩ := bind_some H
  refine run_region rfl ?_
  refine ops_ex rfl (guard_none rfl) rfl rfl (ex_fieldAddr (off' := 3) rfl rfl Try.underlying46 rfl tsz44 rfl) ?_
  refine ops_ex rfl (guard_none rfl) rfl rfl (ex_load1 rfl rfl Try.underlying44 rfl ((HM.box_at 3 rfl) 3 _ rfl)) ?_
  refine ops_does rfl (guard_none rfl) rfl rfl (does_callk rfl callok50 rfl (laws_toMemberS.calls (x0 := x0.fMembers) (HM.rd hp0_1) h667)) ?_
  rintro u668 w670 ⟨_, rfl, hn⟩
  replace HM : Mem w [] w670 [own kMember 144 u668 t666, box b654 51 [.int .i64 x0.fTip, .int .i64 x0.fHeight, u662, .slice none 0 0], own kCoin 104 u662 t660, box b649 51 [.int .i64 0, .int .i64 0, .slice none 0 0, .slice none 0 0], box b646 46 [.int .i64 x0.fTip, .int .i64 x0.fHeight, p0_0, p0_1]] := HM.call hn
  refine ops_ex rfl (guard_none rfl) rfl rfl (ex_fieldAddr (off' := 3) rfl rfl Try.underlying51 rfl tsz49 rfl) ?_
  replace HM := HM.front 1 rfl rfl
  refine ops_doesS rfl (guard_none rfl) rfl (does_store (vs := [u668]) (cs' := [.int .i64 x0.fTip, .int .i64 x0.fHeight, u662, u668]) rfl rfl rfl (rd_cells (HM.own_rd 1 rfl)) tsz49 (Ones.rd (HM.own_rd 1 rfl) Ones.nil) rfl rfl HM) ?_
  rintro w671 HM
  refine ops_nil ?_
  refine at_then ?_
  refine run_seq ?_
  refine run_region rfl ?_
  refine ops_ex rfl (guard_none rfl) rfl rfl (ex_loadN (cs := [(.int .i64 x0.fTip), (.int .i64 x0.fHeight), u662, u668]) rfl rfl Try.underlying51 rfl tsz51 rfl ((HM.box_at 0 rfl).sub 0 4 rfl)) ?_
  replace HM := HM.front 3 rfl rfl
  refine ops_doesS rfl (guard_none rfl) rfl (does_store (vs := [.int .i64 x0.fTip, .int .i64 x0.fHeight, u662, u668]) (cs' := [.int .i64 x0.fTip, .int .i64 x0.fHeight, u662, u668]) rfl rfl rfl rfl tsz51 (Ones.int (Ones.int (Ones.rd (HM.own_rd 3 rfl) (Ones.rd (HM.own_rd 2 rfl) Ones.nil)))) rfl rfl HM) ?_
  rintro w672 HM
  refine ops_nil ?_
  refine at_then ?_
  refine run_ret ?_
  replace HM := (HM.front 1 rfl rfl).drop
  replace HM := (HM.front 3 rfl rfl).drop
  replace HM := HM.front 1 rfl rfl
  replace HM := HM.front 2 rfl rfl
  replace HM := HM.front 2 rfl rfl
  have hcb0 := HM.box_at 0 rfl
  replace HM := (HM.front 0 rfl rfl).drop
  have hR := Option.some.inj H
  subst hR
  exact at_retN rfl rfl Try.underlying51 rfl tsz51 rfl hcb0 ⟨_, rfl, _, _, rfl, HM⟩

def spec_l2Ints.l0 (x0 : List Int) (x1 : List Int) : Nat → Int → Option (Bool ⊕ Unit)
  | 0, _ => none
  | k + 1, a786 => (bif (decide (a786 < (x0.length : Int))) then (chk (idxOk a786 x0.length) (chk (idxOk a786 x1.length) (bif ((gt x0 a786) != (gt x1 a786)) then some (.inl false) else spec_l2Ints.l0 x0 x1 k (wrap64 (a786 + 1))))) else some (.inr ()))
theorem spec_l2Ints.l0_z (x0 : List Int) (x1 : List Int) (a786 : Int) : spec_l2Ints.l0 x0 x1 0 a786 = none := rfl
theorem spec_l2Ints.l0_s (x0 : List Int) (x1 : List Int) (k : Nat) (a786 : Int) : spec_l2Ints.l0 x0 x1 (k + 1) a786 = (bif (decide (a786 < (x0.length : Int))) then (chk (idxOk a786 x0.length) (chk (idxOk a786 x1.length) (bif ((gt x0 a786) != (gt x1 a786)) then some (.inl false) else spec_l2Ints.l0 x0 x1 k (wrap64 (a786 + 1))))) else some (.inr ())) := rfl
def spec_l2Ints.f (k : Nat) (x0 : List Int) (x1 : List Int) : Option Bool := (bif ((x0.length : Int) != (x1.length : Int)) then some false else ((spec_l2Ints.l0 x0 x1 k 0).bind fun o778 => thn o778 (fun r => some r) (fun _ => some true)))
theorem spec_l2Ints.calls {k : Nat} {x0 : List Int} {x1 : List Int} {p0 : Value} {p1 : Value} {w : World} (hp0 : RdS kInt w p0 x0) (hp1 : RdS kInt w p1 x1) {r : Bool} (H : spec_l2Ints.f k x0 x1 = some r) :
    Calls Try.prog 157 ([p0, p1] : List Value).toArray w (fun e w_ => ∃ v, e = .returned v ∧ v = (.bool r) ∧ Mem w [] w_ []) := by
  have HM := Mem.start w
  refine calls_run (N := 26) Try.func157 rfl rfl rfl rfl ?_
  unfold spec_l2Ints.f at H
  refine run_seq ?_
  refine run_region rfl ?_
  refine ops_ex rfl (guard_none rfl) rfl rfl (ex_assign rfl rfl) ?_
  refine ops_nil ?_
  refine at_then ?_
  refine run_seq ?_
  refine run_seq ?_
  refine run_region rfl ?_
  refine ops_ex rfl (guard_none rfl) rfl rfl (ex_move rfl rfl) ?_
  refine ops_ex rfl (guard_none rfl) rfl rfl (ex_len (d := kInt) (xs := x0) rfl rfl Try.underlying74 hp0) ?_
  refine ops_ex rfl (guard_none rfl) rfl rfl (ex_move rfl rfl) ?_
  refine ops_ex rfl (guard_none rfl) rfl rfl (ex_len (d := kInt) (xs := x1) rfl rfl Try.underlying74 hp1) ?_
  refine ops_ex rfl (guard_none rfl) rfl rfl (ex_neq rfl rfl rfl) ?_
  refine ops_nil ?_
  refine at_then ?_
  refine run_cond (b := ((x0.length : Int) != (x1.length : Int))) rfl (fun hb758 => ?_) (fun hb758 => ?_)
  · replace H := cond_t hb758 H
    refine run_seq ?_
    refine run_region rfl ?_
    refine ops_ex rfl (guard_none rfl) rfl rfl (ex_assign rfl rfl) ?_
    refine ops_nil ?_
    refine at_then ?_
    refine run_ret ?_
    refine at_then_ret ?_
    have hR := Option.some.inj H
    subst hR
    exact at_ret1 rfl rfl ⟨_, rfl, rfl, HM⟩
  · replace H := cond_f hb758 H
    refine run_skip ?_
    refine at_then ?_
    obtain ⟨o778, ho779, H⟩ := bind_some H
    refine run_mid (fun ρ_ w_ => Sum.inr () = o778 ∧ ρ_ = [] ∧ Mem w [] w_ []) ?_ ?_
    · skip
      refine run_seq ?_
      refine run_region rfl ?_
      refine ops_ex rfl (guard_none rfl) rfl rfl (ex_assign rfl rfl) ?_
      refine ops_nil ?_
      refine at_then ?_
      refine run_block ?_
      refine run_loop (fun k_ ρ_ w_ => ∃ a786 : Int, spec_l2Ints.l0 x0 x1 k_ a786 = some o778 ∧ ρ_ = [(0, p0), (1, p1), (5, .int .i64 a786)] ∧ Mem w [] w_ []) k (ρ1 := [(0, p0), (1, p1), (5, .int .i64 0)]) ⟨_, ho779, rfl, HM⟩ (Sub.cons rfl (Sub.cons rfl (Sub.cons rfl Sub.nil))) ?_
      clear HM ho779
      rintro k793 _ w794 ⟨a786, ho779, rfl, HM⟩
      obtain _ | k793 := k793
      · exact nomatch ((spec_l2Ints.l0_z x0 x1 a786).symm.trans ho779)
      replace ho779 := (spec_l2Ints.l0_s x0 x1 k793 a786).symm.trans ho779
      refine run_seq ?_
      refine run_seq ?_
      refine run_region rfl ?_
      refine ops_ex rfl (guard_none rfl) rfl rfl (ex_move rfl rfl) ?_
      refine ops_ex rfl (guard_none rfl) rfl rfl (ex_move rfl rfl) ?_
      refine ops_ex rfl (guard_none rfl) rfl rfl (ex_len (d := kInt) (xs := x0) rfl rfl Try.underlying74 hp0) ?_
      refine ops_ex rfl (guard_none rfl) rfl rfl (ex_lss rfl rfl rfl) ?_
      refine ops_nil ?_
      refine at_then ?_
      refine run_cond (b := (decide (a786 < (x0.length : Int)))) rfl (fun hb795 => ?_) (fun hb795 => ?_)
      · replace ho779 := cond_t hb795 ho779
        refine run_skip ?_
        refine at_then ?_
        refine run_seq ?_
        refine run_block ?_
        refine run_seq ?_
        obtain ⟨e796, ho779⟩ := chk_some ho779
        obtain ⟨e798, ho779⟩ := chk_some ho779
        refine run_drawf (fun w_ => Mem w [] w_ []) [(0, true), (1, true), (2, true), (3, true), (4, true), (5, true), (6, true), (7, true), (8, true)] mixed rfl rfl (by kernel_rfl) ?_
        replace HM := HM.grow (fr_drew _)
        have hS := Mem.suf (M := []) HM
        refine drwp_take rfl (guard_none rfl) rfl rfl (fun w_ hS_ => (ex_move rfl rfl)) hS ?_
        refine drwp_take rfl (guard_none rfl) rfl rfl (fun w_ hS_ => (ex_move rfl rfl)) hS ?_
        have hc797 : CellsAt _ (sb p0) (so p0 + (a786).toNat * 1) [(.int .i64 (gt x0 a786))] := rd_plain hp0 e796
        refine drwp_take rfl (guard_none rfl) rfl rfl (fun w_ hS_ => (ex_indexAddr (d := kInt) rfl rfl rfl Try.underlying74 tsz2 hp0 (idx_lo e796) (idx_hi e796))) hS ?_
        refine drwp_take rfl (guard_none rfl) rfl rfl (fun w_ hS_ => (ex_load1 rfl rfl Try.underlying2 rfl ((hS_.at_ hc797) 0 _ rfl))) hS ?_
        refine drwp_take rfl (guard_none rfl) rfl rfl (fun w_ hS_ => (ex_move rfl rfl)) hS ?_
        refine drwp_take rfl (guard_none rfl) rfl rfl (fun w_ hS_ => (ex_move rfl rfl)) hS ?_
        have hc799 : CellsAt _ (sb p1) (so p1 + (a786).toNat * 1) [(.int .i64 (gt x1 a786))] := rd_plain hp1 e798
        refine drwp_take rfl (guard_none rfl) rfl rfl (fun w_ hS_ => (ex_indexAddr (d := kInt) rfl rfl rfl Try.underlying74 tsz2 hp1 (idx_lo e798) (idx_hi e798))) hS ?_
        refine drwp_take rfl (guard_none rfl) rfl rfl (fun w_ hS_ => (ex_load1 rfl rfl Try.underlying2 rfl ((hS_.at_ hc799) 0 _ rfl))) hS ?_
        refine drwp_take rfl (guard_none rfl) rfl rfl (fun w_ hS_ => (ex_neq rfl rfl rfl)) hS ?_
        refine drwp_done ?_
        refine at_then ?_
        refine run_cond (b := ((gt x0 a786) != (gt x1 a786))) rfl (fun hb800 => ?_) (fun hb800 => ?_)
        · replace ho779 := cond_t hb800 ho779
          refine run_seq ?_
          refine run_region rfl ?_
          refine ops_ex rfl (guard_none rfl) rfl rfl (ex_assign rfl rfl) ?_
          refine ops_nil ?_
          refine at_then ?_
          refine run_ret ?_
          refine at_block_ret ?_
          refine at_then_ret ?_
          refine at_then_ret ?_
          refine at_block_ret ?_
          refine at_then_ret ?_
          have hR := Option.some.inj ho779
          subst hR
          have hT := thn_inl H
          have hR := Option.some.inj hT
          subst hR
          exact at_ret1 rfl rfl ⟨_, rfl, rfl, HM⟩
        · replace ho779 := cond_f hb800 ho779
          refine run_skip ?_
          refine at_block ?_
          refine at_then ?_
          refine run_region rfl ?_
          refine ops_ex rfl (guard_none rfl) rfl rfl (ex_move rfl rfl) ?_
          refine ops_ex rfl (guard_none rfl) rfl rfl (ex_add rfl rfl rfl) ?_
          refine ops_ex rfl (guard_none rfl) rfl rfl (ex_assign rfl rfl) ?_
          refine ops_nil ?_
          exact at_again k793 (ρ1 := [(0, p0), (1, p1), (5, .int .i64 (wrap64 (a786 + 1)))]) (Nat.lt_succ_self _) ⟨_, ho779, rfl, HM⟩ (Sub.cons rfl (Sub.cons rfl (Sub.cons rfl Sub.nil)))
      · replace ho779 := cond_f hb795 ho779
        refine run_exit ?_
        refine at_then_exit ?_
        refine at_then_exit ?_
        refine at_block_exit ?_
        exact at_mid (ρ' := []) ⟨(Option.some.inj ho779), rfl, HM⟩ Sub.nil
    · rintro _ w801 ⟨rfl, rfl, HM⟩
      replace H := (thn_inr H)
      refine run_seq ?_
      refine run_region rfl ?_
      refine ops_ex rfl (guard_none rfl) rfl rfl (ex_assign rfl rfl) ?_
      refine ops_nil ?_
      refine at_then ?_
      refine run_ret ?_
      have hR := Option.some.inj H
      subst hR
      exact at_ret1 rfl rfl ⟨_, rfl, rfl, HM⟩

def spec_l2Same.f (k : Nat) (x0 : Rule) (x1 : Rule) : Option Bool := ((bif ((x0.fNeed == x1.fNeed) && (x0.fAfter == x1.fAfter)) then spec_l2Ints.f k x0.fKeys x1.fKeys else some default).bind fun t804 => some (((x0.fNeed == x1.fNeed) && (x0.fAfter == x1.fAfter)) && t804))
theorem spec_l2Same.calls {k : Nat} {x0 : Rule} {x1 : Rule} {b0 f0 : Nat} {p0_0 : Value} {b1 f1 : Nat} {p1_0 : Value} {w : World} (hc0 : CellsAt w b0 f0 [p0_0, .int .i64 x0.fNeed, .int .i64 x0.fAfter]) (hp0_0 : RdS kInt w p0_0 x0.fKeys) (hc1 : CellsAt w b1 f1 [p1_0, .int .i64 x1.fNeed, .int .i64 x1.fAfter]) (hp1_0 : RdS kInt w p1_0 x1.fKeys) {r : Bool} (H : spec_l2Same.f k x0 x1 = some r) :
    Calls Try.prog 121 ([.pointer (some ⟨b0, f0, none⟩), .pointer (some ⟨b1, f1, none⟩)] : List Value).toArray w (fun e w_ => ∃ v, e = .returned v ∧ v = (.bool r) ∧ Mem w [] w_ []) := by
  have HM := Mem.start w
  refine calls_run (N := 36) Try.func121 rfl rfl rfl rfl ?_
  unfold spec_l2Same.f at H
  refine run_seq ?_
  refine run_region rfl ?_
  refine ops_ex rfl (guard_none rfl) rfl rfl (ex_assign rfl rfl) ?_
  refine ops_nil ?_
  refine at_then ?_
  refine run_seq ?_
  obtain ⟨t804, h805, H⟩ := bind_some H
  refine run_meet (fun ρ_ w_ => ρ_ = [(4, .bool (((x0.fNeed == x1.fNeed) && (x0.fAfter == x1.fAfter)) && t804))] ∧ Mem w [] w_ []) ?_ ?_
  · skip
    refine run_drawf (fun w_ => Mem w [] w_ []) [(0, true), (1, true), (2, true), (3, true), (4, true), (5, true), (6, true), (7, true), (8, true), (9, true), (10, true), (11, true), (12, true), (13, true), (14, true), (15, true), (16, true), (17, true), (18, true), (19, true), (20, true), (21, true), (22, true), (23, true), (24, true), (25, true), (26, true), (27, true), (28, true), (29, false), (30, true), (31, true)] mixed rfl rfl (by kernel_rfl) ?_
    replace HM := HM.grow (fr_drew _)
    have hS := Mem.suf (M := []) HM
    refine drwp_take rfl (guard_none rfl) rfl rfl (fun w_ hS_ => (ex_move rfl rfl)) hS ?_
    refine drwp_take rfl (guard_none rfl) rfl rfl (fun w_ hS_ => (ex_nilCheck rfl rfl)) hS ?_
    refine drwp_take rfl (guard_none rfl) rfl rfl (fun w_ hS_ => (ex_fieldAddr (off' := f0 + 1) rfl rfl Try.underlying100 rfl tsz2 rfl)) hS ?_
    refine drwp_take rfl (guard_none rfl) rfl rfl (fun w_ hS_ => (ex_load1 rfl rfl Try.underlying2 rfl ((hS_.at_ hc0) 1 _ rfl))) hS ?_
    refine drwp_take rfl (guard_none rfl) rfl rfl (fun w_ hS_ => (ex_move rfl rfl)) hS ?_
    refine drwp_take rfl (guard_none rfl) rfl rfl (fun w_ hS_ => (ex_nilCheck rfl rfl)) hS ?_
    refine drwp_take rfl (guard_none rfl) rfl rfl (fun w_ hS_ => (ex_fieldAddr (off' := f1 + 1) rfl rfl Try.underlying100 rfl tsz2 rfl)) hS ?_
    refine drwp_take rfl (guard_none rfl) rfl rfl (fun w_ hS_ => (ex_load1 rfl rfl Try.underlying2 rfl ((hS_.at_ hc1) 1 _ rfl))) hS ?_
    refine drwp_take rfl (guard_none rfl) rfl rfl (fun w_ hS_ => (ex_eql rfl rfl rfl)) hS ?_
    refine drwp_take rfl (guard_none rfl) rfl rfl (fun w_ hS_ => (ex_move rfl rfl)) hS ?_
    refine bool_cases (x0.fNeed == x1.fNeed) (fun hg806 => ?_) (fun hg806 => ?_)
    · skip
      refine drwp_take rfl (guard_on rfl rfl rfl hg806) rfl rfl (fun w_ hS_ => (ex_move rfl rfl)) hS ?_
      refine drwp_take rfl (guard_on rfl rfl rfl hg806) rfl rfl (fun w_ hS_ => (ex_nilCheck rfl rfl)) hS ?_
      refine drwp_take rfl (guard_on rfl rfl rfl hg806) rfl rfl (fun w_ hS_ => (ex_fieldAddr (off' := f0 + 2) rfl rfl Try.underlying100 rfl tsz2 rfl)) hS ?_
      refine drwp_take rfl (guard_on rfl rfl rfl hg806) rfl rfl (fun w_ hS_ => (ex_load1 rfl rfl Try.underlying2 rfl ((hS_.at_ hc0) 2 _ rfl))) hS ?_
      refine drwp_take rfl (guard_on rfl rfl rfl hg806) rfl rfl (fun w_ hS_ => (ex_move rfl rfl)) hS ?_
      refine drwp_take rfl (guard_on rfl rfl rfl hg806) rfl rfl (fun w_ hS_ => (ex_nilCheck rfl rfl)) hS ?_
      refine drwp_take rfl (guard_on rfl rfl rfl hg806) rfl rfl (fun w_ hS_ => (ex_fieldAddr (off' := f1 + 2) rfl rfl Try.underlying100 rfl tsz2 rfl)) hS ?_
      refine drwp_take rfl (guard_on rfl rfl rfl hg806) rfl rfl (fun w_ hS_ => (ex_load1 rfl rfl Try.underlying2 rfl ((hS_.at_ hc1) 2 _ rfl))) hS ?_
      refine drwp_take rfl (guard_on rfl rfl rfl hg806) rfl rfl (fun w_ hS_ => (ex_eql rfl rfl rfl)) hS ?_
      refine drwp_take (v := .bool ((x0.fNeed == x1.fNeed) && (x0.fAfter == x1.fAfter))) rfl (guard_none rfl) rfl rfl (fun w_ hS_ => (ex_pand_t rfl rfl hg806 rfl)) hS ?_
      refine drwp_take rfl (guard_none rfl) rfl rfl (fun w_ hS_ => (ex_move rfl rfl)) hS ?_
      refine bool_cases ((x0.fNeed == x1.fNeed) && (x0.fAfter == x1.fAfter)) (fun hg807 => ?_) (fun hg807 => ?_)
      · skip
        refine drwp_take rfl (guard_on rfl rfl rfl hg807) rfl rfl (fun w_ hS_ => (ex_move rfl rfl)) hS ?_
        refine drwp_take rfl (guard_on rfl rfl rfl hg807) rfl rfl (fun w_ hS_ => (ex_nilCheck rfl rfl)) hS ?_
        refine drwp_take rfl (guard_on rfl rfl rfl hg807) rfl rfl (fun w_ hS_ => (ex_fieldAddr (off' := f0) rfl rfl Try.underlying100 rfl tsz74 rfl)) hS ?_
        refine drwp_take rfl (guard_on rfl rfl rfl hg807) rfl rfl (fun w_ hS_ => (ex_load1 rfl rfl Try.underlying74 rfl ((hS_.at_ hc0) 0 _ rfl))) hS ?_
        refine drwp_take rfl (guard_on rfl rfl rfl hg807) rfl rfl (fun w_ hS_ => (ex_move rfl rfl)) hS ?_
        refine drwp_take rfl (guard_on rfl rfl rfl hg807) rfl rfl (fun w_ hS_ => (ex_nilCheck rfl rfl)) hS ?_
        refine drwp_take rfl (guard_on rfl rfl rfl hg807) rfl rfl (fun w_ hS_ => (ex_fieldAddr (off' := f1) rfl rfl Try.underlying100 rfl tsz74 rfl)) hS ?_
        refine drwp_take rfl (guard_on rfl rfl rfl hg807) rfl rfl (fun w_ hS_ => (ex_load1 rfl rfl Try.underlying74 rfl ((hS_.at_ hc1) 0 _ rfl))) hS ?_
        refine drwp_one rfl (guard_on rfl rfl rfl hg807) rfl rfl (does_callk rfl callok157 rfl (spec_l2Ints.calls (x0 := x0.fKeys) (x1 := x1.fKeys) (HM.rd hp0_0) (HM.rd hp1_0) (cond_t hg807 h805))) ?_
        rintro _ w808 ⟨rfl, hn⟩
        replace HM : Mem w [] w808 [] := HM.call hn
        refine ⟨Mem.suf (M := []) HM, ?_⟩
        have hS := Mem.suf (M := []) HM
        refine drwp_take (v := .bool (((x0.fNeed == x1.fNeed) && (x0.fAfter == x1.fAfter)) && t804)) rfl (guard_none rfl) rfl rfl (fun w_ hS_ => (ex_pand_t rfl rfl hg807 rfl)) hS ?_
        refine drwp_take rfl (guard_none rfl) rfl rfl (fun w_ hS_ => (ex_assign rfl rfl)) hS ?_
        refine drwp_done ?_
        exact at_meet [(4, .bool (((x0.fNeed == x1.fNeed) && (x0.fAfter == x1.fAfter)) && t804))] ⟨rfl, HM⟩ (Sub.cons rfl Sub.nil)
      · skip
        refine drwp_off rfl (guard_off rfl rfl rfl hg807) rfl rfl hS ?_
        refine drwp_off rfl (guard_off rfl rfl rfl hg807) rfl rfl hS ?_
        refine drwp_off rfl (guard_off rfl rfl rfl hg807) rfl rfl hS ?_
        refine drwp_off rfl (guard_off rfl rfl rfl hg807) rfl rfl hS ?_
        refine drwp_off rfl (guard_off rfl rfl rfl hg807) rfl rfl hS ?_
        refine drwp_off rfl (guard_off rfl rfl rfl hg807) rfl rfl hS ?_
        refine drwp_off rfl (guard_off rfl rfl rfl hg807) rfl rfl hS ?_
        refine drwp_off rfl (guard_off rfl rfl rfl hg807) rfl rfl hS ?_
        refine drwp_off1 rfl (guard_off rfl rfl rfl hg807) rfl rfl ⟨hS, ?_⟩
        have hg809 : (((x0.fNeed == x1.fNeed) && (x0.fAfter == x1.fAfter)) && t804) = false := by simp only [hg807, Bool.and_true, Bool.true_and, Bool.and_false, Bool.false_and, Bool.or_true, Bool.true_or, Bool.or_false, Bool.false_or, Bool.not_true, Bool.not_false, Bool.not_not]
        refine drwp_take (v := .bool (((x0.fNeed == x1.fNeed) && (x0.fAfter == x1.fAfter)) && t804)) rfl (guard_none rfl) rfl rfl (fun w_ hS_ => (ex_pand_f rfl rfl hg807)) hS ?_
        refine drwp_take rfl (guard_none rfl) rfl rfl (fun w_ hS_ => (ex_assign rfl rfl)) hS ?_
        refine drwp_done ?_
        exact at_meet [(4, .bool (((x0.fNeed == x1.fNeed) && (x0.fAfter == x1.fAfter)) && t804))] ⟨rfl, HM⟩ (Sub.cons rfl Sub.nil)
    · skip
      refine drwp_off rfl (guard_off rfl rfl rfl hg806) rfl rfl hS ?_
      refine drwp_off rfl (guard_off rfl rfl rfl hg806) rfl rfl hS ?_
      refine drwp_off rfl (guard_off rfl rfl rfl hg806) rfl rfl hS ?_
      refine drwp_off rfl (guard_off rfl rfl rfl hg806) rfl rfl hS ?_
      refine drwp_off rfl (guard_off rfl rfl rfl hg806) rfl rfl hS ?_
      refine drwp_off rfl (guard_off rfl rfl rfl hg806) rfl rfl hS ?_
      refine drwp_off rfl (guard_off rfl rfl rfl hg806) rfl rfl hS ?_
      refine drwp_off rfl (guard_off rfl rfl rfl hg806) rfl rfl hS ?_
      refine drwp_off rfl (guard_off rfl rfl rfl hg806) rfl rfl hS ?_
      have hg810 : ((x0.fNeed == x1.fNeed) && (x0.fAfter == x1.fAfter)) = false := by simp only [hg806, Bool.and_true, Bool.true_and, Bool.and_false, Bool.false_and, Bool.or_true, Bool.true_or, Bool.or_false, Bool.false_or, Bool.not_true, Bool.not_false, Bool.not_not]
      refine drwp_take (v := .bool ((x0.fNeed == x1.fNeed) && (x0.fAfter == x1.fAfter))) rfl (guard_none rfl) rfl rfl (fun w_ hS_ => (ex_pand_f rfl rfl hg806)) hS ?_
      refine drwp_take rfl (guard_none rfl) rfl rfl (fun w_ hS_ => (ex_move rfl rfl)) hS ?_
      refine drwp_off rfl (guard_off rfl rfl rfl hg810) rfl rfl hS ?_
      refine drwp_off rfl (guard_off rfl rfl rfl hg810) rfl rfl hS ?_
      refine drwp_off rfl (guard_off rfl rfl rfl hg810) rfl rfl hS ?_
      refine drwp_off rfl (guard_off rfl rfl rfl hg810) rfl rfl hS ?_
      refine drwp_off rfl (guard_off rfl rfl rfl hg810) rfl rfl hS ?_
      refine drwp_off rfl (guard_off rfl rfl rfl hg810) rfl rfl hS ?_
      refine drwp_off rfl (guard_off rfl rfl rfl hg810) rfl rfl hS ?_
      refine drwp_off rfl (guard_off rfl rfl rfl hg810) rfl rfl hS ?_
      refine drwp_off1 rfl (guard_off rfl rfl rfl hg810) rfl rfl ⟨hS, ?_⟩
      have hg811 : (((x0.fNeed == x1.fNeed) && (x0.fAfter == x1.fAfter)) && t804) = false := by simp only [hg810, Bool.and_true, Bool.true_and, Bool.and_false, Bool.false_and, Bool.or_true, Bool.true_or, Bool.or_false, Bool.false_or, Bool.not_true, Bool.not_false, Bool.not_not]
      refine drwp_take (v := .bool (((x0.fNeed == x1.fNeed) && (x0.fAfter == x1.fAfter)) && t804)) rfl (guard_none rfl) rfl rfl (fun w_ hS_ => (ex_pand_f rfl rfl hg810)) hS ?_
      refine drwp_take rfl (guard_none rfl) rfl rfl (fun w_ hS_ => (ex_assign rfl rfl)) hS ?_
      refine drwp_done ?_
      exact at_meet [(4, .bool (((x0.fNeed == x1.fNeed) && (x0.fAfter == x1.fAfter)) && t804))] ⟨rfl, HM⟩ (Sub.cons rfl Sub.nil)
  · rintro _ w812 ⟨rfl, HM⟩
    refine at_then ?_
    refine run_ret ?_
    have hR := Option.some.inj H
    subst hR
    exact at_ret1 rfl rfl ⟨_, rfl, rfl, HM⟩

def spec_l4Same.l0 (x0 : List Coin) (x1 : List Coin) : Nat → Int → Option (Bool ⊕ Unit)
  | 0, _ => none
  | k + 1, a1088 => (bif (decide (a1088 < (x0.length : Int))) then (chk (idxOk a1088 x0.length) (chk (idxOk a1088 x1.length) (chk (!(!(!((((gt x0 a1088).fRef.fTx) == ((gt x1 a1088).fRef.fTx)) && (((gt x0 a1088).fRef.fAt) == ((gt x1 a1088).fRef.fAt))))) || (idxOk a1088 x0.length)) (chk (!(!(!((((gt x0 a1088).fRef.fTx) == ((gt x1 a1088).fRef.fTx)) && (((gt x0 a1088).fRef.fAt) == ((gt x1 a1088).fRef.fAt))))) || (idxOk a1088 x1.length)) (chk (!(!((!((((gt x0 a1088).fRef.fTx) == ((gt x1 a1088).fRef.fTx)) && (((gt x0 a1088).fRef.fAt) == ((gt x1 a1088).fRef.fAt)))) || (((gt x0 a1088).fHeight) != ((gt x1 a1088).fHeight)))) || (idxOk a1088 x0.length)) (chk (!(!((!((((gt x0 a1088).fRef.fTx) == ((gt x1 a1088).fRef.fTx)) && (((gt x0 a1088).fRef.fAt) == ((gt x1 a1088).fRef.fAt)))) || (((gt x0 a1088).fHeight) != ((gt x1 a1088).fHeight)))) || (idxOk a1088 x1.length)) (chk (!(!(((!((((gt x0 a1088).fRef.fTx) == ((gt x1 a1088).fRef.fTx)) && (((gt x0 a1088).fRef.fAt) == ((gt x1 a1088).fRef.fAt)))) || (((gt x0 a1088).fHeight) != ((gt x1 a1088).fHeight))) || (((gt x0 a1088).fMined) != ((gt x1 a1088).fMined)))) || (idxOk a1088 x0.length)) (chk (!(!(((!((((gt x0 a1088).fRef.fTx) == ((gt x1 a1088).fRef.fTx)) && (((gt x0 a1088).fRef.fAt) == ((gt x1 a1088).fRef.fAt)))) || (((gt x0 a1088).fHeight) != ((gt x1 a1088).fHeight))) || (((gt x0 a1088).fMined) != ((gt x1 a1088).fMined)))) || (idxOk a1088 x1.length)) (chk (!(!((((!((((gt x0 a1088).fRef.fTx) == ((gt x1 a1088).fRef.fTx)) && (((gt x0 a1088).fRef.fAt) == ((gt x1 a1088).fRef.fAt)))) || (((gt x0 a1088).fHeight) != ((gt x1 a1088).fHeight))) || (((gt x0 a1088).fMined) != ((gt x1 a1088).fMined))) || (((gt x0 a1088).fOut.fValue) != ((gt x1 a1088).fOut.fValue)))) || (idxOk a1088 x0.length)) (chk (!(!((((!((((gt x0 a1088).fRef.fTx) == ((gt x1 a1088).fRef.fTx)) && (((gt x0 a1088).fRef.fAt) == ((gt x1 a1088).fRef.fAt)))) || (((gt x0 a1088).fHeight) != ((gt x1 a1088).fHeight))) || (((gt x0 a1088).fMined) != ((gt x1 a1088).fMined))) || (((gt x0 a1088).fOut.fValue) != ((gt x1 a1088).fOut.fValue)))) || (idxOk a1088 x1.length)) ((bif (!((((!((((gt x0 a1088).fRef.fTx) == ((gt x1 a1088).fRef.fTx)) && (((gt x0 a1088).fRef.fAt) == ((gt x1 a1088).fRef.fAt)))) || (((gt x0 a1088).fHeight) != ((gt x1 a1088).fHeight))) || (((gt x0 a1088).fMined) != ((gt x1 a1088).fMined))) || (((gt x0 a1088).fOut.fValue) != ((gt x1 a1088).fOut.fValue)))) then spec_l2Same.f k ((gt x0 a1088).fOut.fRule) ((gt x1 a1088).fOut.fRule) else some default).bind fun t1176 => (bif (((((!((((gt x0 a1088).fRef.fTx) == ((gt x1 a1088).fRef.fTx)) && (((gt x0 a1088).fRef.fAt) == ((gt x1 a1088).fRef.fAt)))) || (((gt x0 a1088).fHeight) != ((gt x1 a1088).fHeight))) || (((gt x0 a1088).fMined) != ((gt x1 a1088).fMined))) || (((gt x0 a1088).fOut.fValue) != ((gt x1 a1088).fOut.fValue))) || (!t1176)) then some (.inl false) else spec_l4Same.l0 x0 x1 k (wrap64 (a1088 + 1)))))))))))))) else some (.inr ()))
theorem spec_l4Same.l0_z (x0 : List Coin) (x1 : List Coin) (a1088 : Int) : spec_l4Same.l0 x0 x1 0 a1088 = none := rfl
theorem spec_l4Same.l0_s (x0 : List Coin) (x1 : List Coin) (k : Nat) (a1088 : Int) : spec_l4Same.l0 x0 x1 (k + 1) a1088 = (bif (decide (a1088 < (x0.length : Int))) then (chk (idxOk a1088 x0.length) (chk (idxOk a1088 x1.length) (chk (!(!(!((((gt x0 a1088).fRef.fTx) == ((gt x1 a1088).fRef.fTx)) && (((gt x0 a1088).fRef.fAt) == ((gt x1 a1088).fRef.fAt))))) || (idxOk a1088 x0.length)) (chk (!(!(!((((gt x0 a1088).fRef.fTx) == ((gt x1 a1088).fRef.fTx)) && (((gt x0 a1088).fRef.fAt) == ((gt x1 a1088).fRef.fAt))))) || (idxOk a1088 x1.length)) (chk (!(!((!((((gt x0 a1088).fRef.fTx) == ((gt x1 a1088).fRef.fTx)) && (((gt x0 a1088).fRef.fAt) == ((gt x1 a1088).fRef.fAt)))) || (((gt x0 a1088).fHeight) != ((gt x1 a1088).fHeight)))) || (idxOk a1088 x0.length)) (chk (!(!((!((((gt x0 a1088).fRef.fTx) == ((gt x1 a1088).fRef.fTx)) && (((gt x0 a1088).fRef.fAt) == ((gt x1 a1088).fRef.fAt)))) || (((gt x0 a1088).fHeight) != ((gt x1 a1088).fHeight)))) || (idxOk a1088 x1.length)) (chk (!(!(((!((((gt x0 a1088).fRef.fTx) == ((gt x1 a1088).fRef.fTx)) && (((gt x0 a1088).fRef.fAt) == ((gt x1 a1088).fRef.fAt)))) || (((gt x0 a1088).fHeight) != ((gt x1 a1088).fHeight))) || (((gt x0 a1088).fMined) != ((gt x1 a1088).fMined)))) || (idxOk a1088 x0.length)) (chk (!(!(((!((((gt x0 a1088).fRef.fTx) == ((gt x1 a1088).fRef.fTx)) && (((gt x0 a1088).fRef.fAt) == ((gt x1 a1088).fRef.fAt)))) || (((gt x0 a1088).fHeight) != ((gt x1 a1088).fHeight))) || (((gt x0 a1088).fMined) != ((gt x1 a1088).fMined)))) || (idxOk a1088 x1.length)) (chk (!(!((((!((((gt x0 a1088).fRef.fTx) == ((gt x1 a1088).fRef.fTx)) && (((gt x0 a1088).fRef.fAt) == ((gt x1 a1088).fRef.fAt)))) || (((gt x0 a1088).fHeight) != ((gt x1 a1088).fHeight))) || (((gt x0 a1088).fMined) != ((gt x1 a1088).fMined))) || (((gt x0 a1088).fOut.fValue) != ((gt x1 a1088).fOut.fValue)))) || (idxOk a1088 x0.length)) (chk (!(!((((!((((gt x0 a1088).fRef.fTx) == ((gt x1 a1088).fRef.fTx)) && (((gt x0 a1088).fRef.fAt) == ((gt x1 a1088).fRef.fAt)))) || (((gt x0 a1088).fHeight) != ((gt x1 a1088).fHeight))) || (((gt x0 a1088).fMined) != ((gt x1 a1088).fMined))) || (((gt x0 a1088).fOut.fValue) != ((gt x1 a1088).fOut.fValue)))) || (idxOk a1088 x1.length)) ((bif (!((((!((((gt x0 a1088).fRef.fTx) == ((gt x1 a1088).fRef.fTx)) && (((gt x0 a1088).fRef.fAt) == ((gt x1 a1088).fRef.fAt)))) || (((gt x0 a1088).fHeight) != ((gt x1 a1088).fHeight))) || (((gt x0 a1088).fMined) != ((gt x1 a1088).fMined))) || (((gt x0 a1088).fOut.fValue) != ((gt x1 a1088).fOut.fValue)))) then spec_l2Same.f k ((gt x0 a1088).fOut.fRule) ((gt x1 a1088).fOut.fRule) else some default).bind fun t1176 => (bif (((((!((((gt x0 a1088).fRef.fTx) == ((gt x1 a1088).fRef.fTx)) && (((gt x0 a1088).fRef.fAt) == ((gt x1 a1088).fRef.fAt)))) || (((gt x0 a1088).fHeight) != ((gt x1 a1088).fHeight))) || (((gt x0 a1088).fMined) != ((gt x1 a1088).fMined))) || (((gt x0 a1088).fOut.fValue) != ((gt x1 a1088).fOut.fValue))) || (!t1176)) then some (.inl false) else spec_l4Same.l0 x0 x1 k (wrap64 (a1088 + 1)))))))))))))) else some (.inr ())) := rfl
def spec_l4Same.f (k : Nat) (x0 : List Coin) (x1 : List Coin) : Option Bool := (bif ((x0.length : Int) != (x1.length : Int)) then some false else ((spec_l4Same.l0 x0 x1 k 0).bind fun o1042 => thn o1042 (fun r => some r) (fun _ => some true)))
theorem spec_l4Same.calls {k : Nat} {x0 : List Coin} {x1 : List Coin} {p0 : Value} {p1 : Value} {w : World} (hp0 : RdS kCoin w p0 x0) (hp1 : RdS kCoin w p1 x1) {r : Bool} (H : spec_l4Same.f k x0 x1 = some r) :
    Calls Try.prog 63 ([p0, p1] : List Value).toArray w (fun e w_ => ∃ v, e = .returned v ∧ v = (.bool r) ∧ Mem w [] w_ []) := by
  have HM := Mem.start w
  refine calls_run (N := 83) Try.func63 rfl rfl rfl rfl ?_
  unfold spec_l4Same.f at H
  refine run_seq ?_
  refine run_region rfl ?_
  refine ops_ex rfl (guard_none rfl) rfl rfl (ex_assign rfl rfl) ?_
  refine ops_nil ?_
  refine at_then ?_
  refine run_seq ?_
  refine run_seq ?_
  refine run_region rfl ?_
  refine ops_ex rfl (guard_none rfl) rfl rfl (ex_move rfl rfl) ?_
  refine ops_ex rfl (guard_none rfl) rfl rfl (ex_len (d := kCoin) (xs := x0) rfl rfl Try.underlying25 hp0) ?_
  refine ops_ex rfl (guard_none rfl) rfl rfl (ex_move rfl rfl) ?_
  refine ops_ex rfl (guard_none rfl) rfl rfl (ex_len (d := kCoin) (xs := x1) rfl rfl Try.underlying25 hp1) ?_
  refine ops_ex rfl (guard_none rfl) rfl rfl (ex_neq rfl rfl rfl) ?_
  refine ops_nil ?_
  refine at_then ?_
  refine run_cond (b := ((x0.length : Int) != (x1.length : Int))) rfl (fun hb908 => ?_) (fun hb908 => ?_)
  · replace H := cond_t hb908 H
    refine run_seq ?_
    refine run_region rfl ?_
    refine ops_ex rfl (guard_none rfl) rfl rfl (ex_assign rfl rfl) ?_
    refine ops_nil ?_
    refine at_then ?_
    refine run_ret ?_
    refine at_then_ret ?_
    have hR := Option.some.inj H
    subst hR
    exact at_ret1 rfl rfl ⟨_, rfl, rfl, HM⟩
  · replace H := cond_f hb908 H
    refine run_skip ?_
    refine at_then ?_
    obtain ⟨o1042, ho1043, H⟩ := bind_some H
    refine run_mid (fun ρ_ w_ => Sum.inr () = o1042 ∧ ρ_ = [] ∧ Mem w [] w_ []) ?_ ?_
    · skip
      refine run_seq ?_
      refine run_region rfl ?_
      refine ops_ex rfl (guard_none rfl) rfl rfl (ex_assign rfl rfl) ?_
      refine ops_nil ?_
      refine at_then ?_
      refine run_block ?_
      refine run_loop (fun k_ ρ_ w_ => ∃ a1088 : Int, spec_l4Same.l0 x0 x1 k_ a1088 = some o1042 ∧ ρ_ = [(0, p0), (1, p1), (5, .int .i64 a1088)] ∧ Mem w [] w_ []) k (ρ1 := [(0, p0), (1, p1), (5, .int .i64 0)]) ⟨_, ho1043, rfl, HM⟩ (Sub.cons rfl (Sub.cons rfl (Sub.cons rfl Sub.nil))) ?_
      clear HM ho1043
      rintro k1133 _ w1134 ⟨a1088, ho1043, rfl, HM⟩
      obtain _ | k1133 := k1133
      · exact nomatch ((spec_l4Same.l0_z x0 x1 a1088).symm.trans ho1043)
      replace ho1043 := (spec_l4Same.l0_s x0 x1 k1133 a1088).symm.trans ho1043
      refine run_seq ?_
      refine run_seq ?_
      refine run_region rfl ?_
      refine ops_ex rfl (guard_none rfl) rfl rfl (ex_move rfl rfl) ?_
      refine ops_ex rfl (guard_none rfl) rfl rfl (ex_move rfl rfl) ?_
      refine ops_ex rfl (guard_none rfl) rfl rfl (ex_len (d := kCoin) (xs := x0) rfl rfl Try.underlying25 hp0) ?_
      refine ops_ex rfl (guard_none rfl) rfl rfl (ex_lss rfl rfl rfl) ?_
      refine ops_nil ?_
      refine at_then ?_
      refine run_cond (b := (decide (a1088 < (x0.length : Int)))) rfl (fun hb1135 => ?_) (fun hb1135 => ?_)
      · replace ho1043 := cond_t hb1135 ho1043
        refine run_skip ?_
        refine at_then ?_
        refine run_seq ?_
        refine run_block ?_
        refine run_seq ?_
        obtain ⟨e1136, ho1043⟩ := chk_some ho1043
        obtain ⟨e1140, ho1043⟩ := chk_some ho1043
        obtain ⟨e1144, ho1043⟩ := chk_some ho1043
        obtain ⟨e1148, ho1043⟩ := chk_some ho1043
        obtain ⟨e1152, ho1043⟩ := chk_some ho1043
        obtain ⟨e1156, ho1043⟩ := chk_some ho1043
        obtain ⟨e1160, ho1043⟩ := chk_some ho1043
        obtain ⟨e1164, ho1043⟩ := chk_some ho1043
        obtain ⟨e1168, ho1043⟩ := chk_some ho1043
        obtain ⟨e1172, ho1043⟩ := chk_some ho1043
        obtain ⟨t1176, h1177, ho1043⟩ := bind_some ho1043
        refine run_meet (fun ρ_ w_ => ρ_ = [(0, p0), (1, p1), (5, .int .i64 a1088), (82, .bool (((((!((((gt x0 a1088).fRef.fTx) == ((gt x1 a1088).fRef.fTx)) && (((gt x0 a1088).fRef.fAt) == ((gt x1 a1088).fRef.fAt)))) || (((gt x0 a1088).fHeight) != ((gt x1 a1088).fHeight))) || (((gt x0 a1088).fMined) != ((gt x1 a1088).fMined))) || (((gt x0 a1088).fOut.fValue) != ((gt x1 a1088).fOut.fValue))) || (!t1176)))] ∧ Mem w [] w_ []) ?_ ?_
        · skip
          refine run_drawf (fun w_ => Mem w [] w_ []) [(0, true), (1, true), (2, true), (3, true), (4, true), (5, true), (6, true), (7, true), (8, true), (9, true), (10, true), (11, true), (12, true), (13, true), (14, true), (15, true), (16, true), (17, true), (18, true), (19, true), (20, true), (21, true), (22, true), (23, true), (24, true), (25, true), (26, true), (27, true), (28, true), (29, true), (30, true), (31, true), (32, true), (33, true), (34, true), (35, true), (36, true), (37, true), (38, true), (39, true), (40, true), (41, true), (42, true), (43, true), (44, true), (45, true), (46, true), (47, true), (48, true), (49, true), (50, true), (51, true), (52, true), (53, true), (54, true), (55, true), (56, true), (57, true), (58, true), (59, true), (60, true), (61, true), (62, true), (63, false), (64, true), (65, true)] mixed rfl rfl (by kernel_rfl) ?_
          replace HM := HM.grow (fr_drew _)
          have hS := Mem.suf (M := []) HM
          refine drwp_take rfl (guard_none rfl) rfl rfl (fun w_ hS_ => (ex_move rfl rfl)) hS ?_
          refine drwp_take rfl (guard_none rfl) rfl rfl (fun w_ hS_ => (ex_move rfl rfl)) hS ?_
          obtain ⟨kv1138, hc1137, hk1139⟩ : ∃ u, CellsAt _ (sb p0) (so p0 + (a1088).toNat * 8) [(.int .i64 ((gt x0 a1088).fRef.fTx)), (.int .i64 ((gt x0 a1088).fRef.fAt)), (.int .i64 ((gt x0 a1088).fOut.fValue)), u, (.int .i64 ((gt x0 a1088).fOut.fRule.fNeed)), (.int .i64 ((gt x0 a1088).fOut.fRule.fAfter)), (.int .i64 ((gt x0 a1088).fHeight)), (.bool ((gt x0 a1088).fMined))] ∧ RdS kInt _ u ((gt x0 a1088).fOut.fRule.fKeys) := rd_with1 hp0 e1136
          refine drwp_take rfl (guard_none rfl) rfl rfl (fun w_ hS_ => (ex_indexAddr (d := kCoin) rfl rfl rfl Try.underlying25 tsz104 hp0 (idx_lo e1136) (idx_hi e1136))) hS ?_
          refine drwp_take rfl (guard_none rfl) rfl rfl (fun w_ hS_ => (ex_fieldAddr (off' := so p0 + (a1088).toNat * 8) rfl rfl Try.underlying104 rfl tsz99 rfl)) hS ?_
          refine drwp_take rfl (guard_none rfl) rfl rfl (fun w_ hS_ => (ex_loadN (cs := [(.int .i64 ((gt x0 a1088).fRef.fTx)), (.int .i64 ((gt x0 a1088).fRef.fAt))]) rfl rfl Try.underlying99 rfl tsz99 rfl ((hS_.at_ hc1137).sub 0 2 rfl))) hS ?_
          refine drwp_take rfl (guard_none rfl) rfl rfl (fun w_ hS_ => (ex_move rfl rfl)) hS ?_
          refine drwp_take rfl (guard_none rfl) rfl rfl (fun w_ hS_ => (ex_move rfl rfl)) hS ?_
          obtain ⟨kv1142, hc1141, hk1143⟩ : ∃ u, CellsAt _ (sb p1) (so p1 + (a1088).toNat * 8) [(.int .i64 ((gt x1 a1088).fRef.fTx)), (.int .i64 ((gt x1 a1088).fRef.fAt)), (.int .i64 ((gt x1 a1088).fOut.fValue)), u, (.int .i64 ((gt x1 a1088).fOut.fRule.fNeed)), (.int .i64 ((gt x1 a1088).fOut.fRule.fAfter)), (.int .i64 ((gt x1 a1088).fHeight)), (.bool ((gt x1 a1088).fMined))] ∧ RdS kInt _ u ((gt x1 a1088).fOut.fRule.fKeys) := rd_with1 hp1 e1140
          refine drwp_take rfl (guard_none rfl) rfl rfl (fun w_ hS_ => (ex_indexAddr (d := kCoin) rfl rfl rfl Try.underlying25 tsz104 hp1 (idx_lo e1140) (idx_hi e1140))) hS ?_
          refine drwp_take rfl (guard_none rfl) rfl rfl (fun w_ hS_ => (ex_fieldAddr (off' := so p1 + (a1088).toNat * 8) rfl rfl Try.underlying104 rfl tsz99 rfl)) hS ?_
          refine drwp_take rfl (guard_none rfl) rfl rfl (fun w_ hS_ => (ex_loadN (cs := [(.int .i64 ((gt x1 a1088).fRef.fTx)), (.int .i64 ((gt x1 a1088).fRef.fAt))]) rfl rfl Try.underlying99 rfl tsz99 rfl ((hS_.at_ hc1141).sub 0 2 rfl))) hS ?_
          refine drwp_take rfl (guard_none rfl) rfl rfl (fun w_ hS_ => (ex_aneq rfl rfl rfl (by kernel_rfl) (eqs99 _ _ _ _ _))) hS ?_
          refine drwp_take rfl (guard_none rfl) rfl rfl (fun w_ hS_ => (ex_move rfl rfl)) hS ?_
          refine bool_cases (!((((gt x0 a1088).fRef.fTx) == ((gt x1 a1088).fRef.fTx)) && (((gt x0 a1088).fRef.fAt) == ((gt x1 a1088).fRef.fAt)))) (fun hg1178 => ?_) (fun hg1178 => ?_)
          · skip
            refine drwp_off rfl (guard_off rfl rfl rfl hg1178) rfl rfl hS ?_
            refine drwp_off rfl (guard_off rfl rfl rfl hg1178) rfl rfl hS ?_
            refine drwp_off rfl (guard_off rfl rfl rfl hg1178) rfl rfl hS ?_
            refine drwp_off rfl (guard_off rfl rfl rfl hg1178) rfl rfl hS ?_
            refine drwp_off rfl (guard_off rfl rfl rfl hg1178) rfl rfl hS ?_
            refine drwp_off rfl (guard_off rfl rfl rfl hg1178) rfl rfl hS ?_
            refine drwp_off rfl (guard_off rfl rfl rfl hg1178) rfl rfl hS ?_
            refine drwp_off rfl (guard_off rfl rfl rfl hg1178) rfl rfl hS ?_
            refine drwp_off rfl (guard_off rfl rfl rfl hg1178) rfl rfl hS ?_
            refine drwp_off rfl (guard_off rfl rfl rfl hg1178) rfl rfl hS ?_
            refine drwp_off rfl (guard_off rfl rfl rfl hg1178) rfl rfl hS ?_
            have hg1179 : ((!((((gt x0 a1088).fRef.fTx) == ((gt x1 a1088).fRef.fTx)) && (((gt x0 a1088).fRef.fAt) == ((gt x1 a1088).fRef.fAt)))) || (((gt x0 a1088).fHeight) != ((gt x1 a1088).fHeight))) = true := by simp only [hg1178, Bool.and_true, Bool.true_and, Bool.and_false, Bool.false_and, Bool.or_true, Bool.true_or, Bool.or_false, Bool.false_or, Bool.not_true, Bool.not_false, Bool.not_not]
            refine drwp_take (v := .bool ((!((((gt x0 a1088).fRef.fTx) == ((gt x1 a1088).fRef.fTx)) && (((gt x0 a1088).fRef.fAt) == ((gt x1 a1088).fRef.fAt)))) || (((gt x0 a1088).fHeight) != ((gt x1 a1088).fHeight)))) rfl (guard_none rfl) rfl rfl (fun w_ hS_ => (ex_por_t rfl rfl hg1178)) hS ?_
            refine drwp_take rfl (guard_none rfl) rfl rfl (fun w_ hS_ => (ex_move rfl rfl)) hS ?_
            refine drwp_off rfl (guard_off rfl rfl rfl hg1179) rfl rfl hS ?_
            refine drwp_off rfl (guard_off rfl rfl rfl hg1179) rfl rfl hS ?_
            refine drwp_off rfl (guard_off rfl rfl rfl hg1179) rfl rfl hS ?_
            refine drwp_off rfl (guard_off rfl rfl rfl hg1179) rfl rfl hS ?_
            refine drwp_off rfl (guard_off rfl rfl rfl hg1179) rfl rfl hS ?_
            refine drwp_off rfl (guard_off rfl rfl rfl hg1179) rfl rfl hS ?_
            refine drwp_off rfl (guard_off rfl rfl rfl hg1179) rfl rfl hS ?_
            refine drwp_off rfl (guard_off rfl rfl rfl hg1179) rfl rfl hS ?_
            refine drwp_off rfl (guard_off rfl rfl rfl hg1179) rfl rfl hS ?_
            refine drwp_off rfl (guard_off rfl rfl rfl hg1179) rfl rfl hS ?_
            refine drwp_off rfl (guard_off rfl rfl rfl hg1179) rfl rfl hS ?_
            have hg1180 : (((!((((gt x0 a1088).fRef.fTx) == ((gt x1 a1088).fRef.fTx)) && (((gt x0 a1088).fRef.fAt) == ((gt x1 a1088).fRef.fAt)))) || (((gt x0 a1088).fHeight) != ((gt x1 a1088).fHeight))) || (((gt x0 a1088).fMined) != ((gt x1 a1088).fMined))) = true := by simp only [hg1179, Bool.and_true, Bool.true_and, Bool.and_false, Bool.false_and, Bool.or_true, Bool.true_or, Bool.or_false, Bool.false_or, Bool.not_true, Bool.not_false, Bool.not_not]
            refine drwp_take (v := .bool (((!((((gt x0 a1088).fRef.fTx) == ((gt x1 a1088).fRef.fTx)) && (((gt x0 a1088).fRef.fAt) == ((gt x1 a1088).fRef.fAt)))) || (((gt x0 a1088).fHeight) != ((gt x1 a1088).fHeight))) || (((gt x0 a1088).fMined) != ((gt x1 a1088).fMined)))) rfl (guard_none rfl) rfl rfl (fun w_ hS_ => (ex_por_t rfl rfl hg1179)) hS ?_
            refine drwp_take rfl (guard_none rfl) rfl rfl (fun w_ hS_ => (ex_move rfl rfl)) hS ?_
            refine drwp_off rfl (guard_off rfl rfl rfl hg1180) rfl rfl hS ?_
            refine drwp_off rfl (guard_off rfl rfl rfl hg1180) rfl rfl hS ?_
            refine drwp_off rfl (guard_off rfl rfl rfl hg1180) rfl rfl hS ?_
            refine drwp_off rfl (guard_off rfl rfl rfl hg1180) rfl rfl hS ?_
            refine drwp_off rfl (guard_off rfl rfl rfl hg1180) rfl rfl hS ?_
            refine drwp_off rfl (guard_off rfl rfl rfl hg1180) rfl rfl hS ?_
            refine drwp_off rfl (guard_off rfl rfl rfl hg1180) rfl rfl hS ?_
            refine drwp_off rfl (guard_off rfl rfl rfl hg1180) rfl rfl hS ?_
            refine drwp_off rfl (guard_off rfl rfl rfl hg1180) rfl rfl hS ?_
            refine drwp_off rfl (guard_off rfl rfl rfl hg1180) rfl rfl hS ?_
            refine drwp_off rfl (guard_off rfl rfl rfl hg1180) rfl rfl hS ?_
            refine drwp_off rfl (guard_off rfl rfl rfl hg1180) rfl rfl hS ?_
            refine drwp_off rfl (guard_off rfl rfl rfl hg1180) rfl rfl hS ?_
            have hg1181 : ((((!((((gt x0 a1088).fRef.fTx) == ((gt x1 a1088).fRef.fTx)) && (((gt x0 a1088).fRef.fAt) == ((gt x1 a1088).fRef.fAt)))) || (((gt x0 a1088).fHeight) != ((gt x1 a1088).fHeight))) || (((gt x0 a1088).fMined) != ((gt x1 a1088).fMined))) || (((gt x0 a1088).fOut.fValue) != ((gt x1 a1088).fOut.fValue))) = true := by simp only [hg1180, Bool.and_true, Bool.true_and, Bool.and_false, Bool.false_and, Bool.or_true, Bool.true_or, Bool.or_false, Bool.false_or, Bool.not_true, Bool.not_false, Bool.not_not]
            refine drwp_take (v := .bool ((((!((((gt x0 a1088).fRef.fTx) == ((gt x1 a1088).fRef.fTx)) && (((gt x0 a1088).fRef.fAt) == ((gt x1 a1088).fRef.fAt)))) || (((gt x0 a1088).fHeight) != ((gt x1 a1088).fHeight))) || (((gt x0 a1088).fMined) != ((gt x1 a1088).fMined))) || (((gt x0 a1088).fOut.fValue) != ((gt x1 a1088).fOut.fValue)))) rfl (guard_none rfl) rfl rfl (fun w_ hS_ => (ex_por_t rfl rfl hg1180)) hS ?_
            refine drwp_take rfl (guard_none rfl) rfl rfl (fun w_ hS_ => (ex_move rfl rfl)) hS ?_
            refine drwp_off rfl (guard_off rfl rfl rfl hg1181) rfl rfl hS ?_
            refine drwp_off rfl (guard_off rfl rfl rfl hg1181) rfl rfl hS ?_
            refine drwp_off rfl (guard_off rfl rfl rfl hg1181) rfl rfl hS ?_
            refine drwp_off rfl (guard_off rfl rfl rfl hg1181) rfl rfl hS ?_
            refine drwp_off rfl (guard_off rfl rfl rfl hg1181) rfl rfl hS ?_
            refine drwp_off rfl (guard_off rfl rfl rfl hg1181) rfl rfl hS ?_
            refine drwp_off rfl (guard_off rfl rfl rfl hg1181) rfl rfl hS ?_
            refine drwp_off rfl (guard_off rfl rfl rfl hg1181) rfl rfl hS ?_
            refine drwp_off rfl (guard_off rfl rfl rfl hg1181) rfl rfl hS ?_
            refine drwp_off rfl (guard_off rfl rfl rfl hg1181) rfl rfl hS ?_
            refine drwp_off1 rfl (guard_off rfl rfl rfl hg1181) rfl rfl ⟨hS, ?_⟩
            refine drwp_off rfl (guard_off rfl rfl rfl hg1181) rfl rfl hS ?_
            have hg1182 : (((((!((((gt x0 a1088).fRef.fTx) == ((gt x1 a1088).fRef.fTx)) && (((gt x0 a1088).fRef.fAt) == ((gt x1 a1088).fRef.fAt)))) || (((gt x0 a1088).fHeight) != ((gt x1 a1088).fHeight))) || (((gt x0 a1088).fMined) != ((gt x1 a1088).fMined))) || (((gt x0 a1088).fOut.fValue) != ((gt x1 a1088).fOut.fValue))) || (!t1176)) = true := by simp only [hg1181, Bool.and_true, Bool.true_and, Bool.and_false, Bool.false_and, Bool.or_true, Bool.true_or, Bool.or_false, Bool.false_or, Bool.not_true, Bool.not_false, Bool.not_not]
            refine drwp_take (v := .bool (((((!((((gt x0 a1088).fRef.fTx) == ((gt x1 a1088).fRef.fTx)) && (((gt x0 a1088).fRef.fAt) == ((gt x1 a1088).fRef.fAt)))) || (((gt x0 a1088).fHeight) != ((gt x1 a1088).fHeight))) || (((gt x0 a1088).fMined) != ((gt x1 a1088).fMined))) || (((gt x0 a1088).fOut.fValue) != ((gt x1 a1088).fOut.fValue))) || (!t1176))) rfl (guard_none rfl) rfl rfl (fun w_ hS_ => (ex_por_t rfl rfl hg1181)) hS ?_
            refine drwp_done ?_
            exact at_meet [(0, p0), (1, p1), (5, .int .i64 a1088), (82, .bool (((((!((((gt x0 a1088).fRef.fTx) == ((gt x1 a1088).fRef.fTx)) && (((gt x0 a1088).fRef.fAt) == ((gt x1 a1088).fRef.fAt)))) || (((gt x0 a1088).fHeight) != ((gt x1 a1088).fHeight))) || (((gt x0 a1088).fMined) != ((gt x1 a1088).fMined))) || (((gt x0 a1088).fOut.fValue) != ((gt x1 a1088).fOut.fValue))) || (!t1176)))] ⟨rfl, HM⟩ (Sub.cons rfl (Sub.cons rfl (Sub.cons rfl (Sub.cons rfl Sub.nil))))
          · skip
            refine drwp_take rfl (guard_on rfl rfl rfl hg1178) rfl rfl (fun w_ hS_ => (ex_move rfl rfl)) hS ?_
            refine drwp_take rfl (guard_on rfl rfl rfl hg1178) rfl rfl (fun w_ hS_ => (ex_move rfl rfl)) hS ?_
            obtain ⟨kv1146, hc1145, hk1147⟩ : ∃ u, CellsAt _ (sb p0) (so p0 + (a1088).toNat * 8) [(.int .i64 ((gt x0 a1088).fRef.fTx)), (.int .i64 ((gt x0 a1088).fRef.fAt)), (.int .i64 ((gt x0 a1088).fOut.fValue)), u, (.int .i64 ((gt x0 a1088).fOut.fRule.fNeed)), (.int .i64 ((gt x0 a1088).fOut.fRule.fAfter)), (.int .i64 ((gt x0 a1088).fHeight)), (.bool ((gt x0 a1088).fMined))] ∧ RdS kInt _ u ((gt x0 a1088).fOut.fRule.fKeys) := rd_with1 hp0 (or_t e1144 (not_mk hg1178))
            refine drwp_take rfl (guard_on rfl rfl rfl hg1178) rfl rfl (fun w_ hS_ => (ex_indexAddr (d := kCoin) rfl rfl rfl Try.underlying25 tsz104 hp0 (idx_lo (or_t e1144 (not_mk hg1178))) (idx_hi (or_t e1144 (not_mk hg1178))))) hS ?_
            refine drwp_take rfl (guard_on rfl rfl rfl hg1178) rfl rfl (fun w_ hS_ => (ex_fieldAddr (off' := so p0 + (a1088).toNat * 8 + 6) rfl rfl Try.underlying104 rfl tsz2 rfl)) hS ?_
            refine drwp_take rfl (guard_on rfl rfl rfl hg1178) rfl rfl (fun w_ hS_ => (ex_load1 rfl rfl Try.underlying2 rfl ((hS_.at_ hc1145) 6 _ rfl))) hS ?_
            refine drwp_take rfl (guard_on rfl rfl rfl hg1178) rfl rfl (fun w_ hS_ => (ex_move rfl rfl)) hS ?_
            refine drwp_take rfl (guard_on rfl rfl rfl hg1178) rfl rfl (fun w_ hS_ => (ex_move rfl rfl)) hS ?_
            obtain ⟨kv1150, hc1149, hk1151⟩ : ∃ u, CellsAt _ (sb p1) (so p1 + (a1088).toNat * 8) [(.int .i64 ((gt x1 a1088).fRef.fTx)), (.int .i64 ((gt x1 a1088).fRef.fAt)), (.int .i64 ((gt x1 a1088).fOut.fValue)), u, (.int .i64 ((gt x1 a1088).fOut.fRule.fNeed)), (.int .i64 ((gt x1 a1088).fOut.fRule.fAfter)), (.int .i64 ((gt x1 a1088).fHeight)), (.bool ((gt x1 a1088).fMined))] ∧ RdS kInt _ u ((gt x1 a1088).fOut.fRule.fKeys) := rd_with1 hp1 (or_t e1148 (not_mk hg1178))
            refine drwp_take rfl (guard_on rfl rfl rfl hg1178) rfl rfl (fun w_ hS_ => (ex_indexAddr (d := kCoin) rfl rfl rfl Try.underlying25 tsz104 hp1 (idx_lo (or_t e1148 (not_mk hg1178))) (idx_hi (or_t e1148 (not_mk hg1178))))) hS ?_
            refine drwp_take rfl (guard_on rfl rfl rfl hg1178) rfl rfl (fun w_ hS_ => (ex_fieldAddr (off' := so p1 + (a1088).toNat * 8 + 6) rfl rfl Try.underlying104 rfl tsz2 rfl)) hS ?_
            refine drwp_take rfl (guard_on rfl rfl rfl hg1178) rfl rfl (fun w_ hS_ => (ex_load1 rfl rfl Try.underlying2 rfl ((hS_.at_ hc1149) 6 _ rfl))) hS ?_
            refine drwp_take rfl (guard_on rfl rfl rfl hg1178) rfl rfl (fun w_ hS_ => (ex_neq rfl rfl rfl)) hS ?_
            refine drwp_take (v := .bool ((!((((gt x0 a1088).fRef.fTx) == ((gt x1 a1088).fRef.fTx)) && (((gt x0 a1088).fRef.fAt) == ((gt x1 a1088).fRef.fAt)))) || (((gt x0 a1088).fHeight) != ((gt x1 a1088).fHeight)))) rfl (guard_none rfl) rfl rfl (fun w_ hS_ => (ex_por_f rfl rfl hg1178 rfl)) hS ?_
            refine drwp_take rfl (guard_none rfl) rfl rfl (fun w_ hS_ => (ex_move rfl rfl)) hS ?_
            refine bool_cases ((!((((gt x0 a1088).fRef.fTx) == ((gt x1 a1088).fRef.fTx)) && (((gt x0 a1088).fRef.fAt) == ((gt x1 a1088).fRef.fAt)))) || (((gt x0 a1088).fHeight) != ((gt x1 a1088).fHeight))) (fun hg1183 => ?_) (fun hg1183 => ?_)
            · skip
              refine drwp_off rfl (guard_off rfl rfl rfl hg1183) rfl rfl hS ?_
              refine drwp_off rfl (guard_off rfl rfl rfl hg1183) rfl rfl hS ?_
              refine drwp_off rfl (guard_off rfl rfl rfl hg1183) rfl rfl hS ?_
              refine drwp_off rfl (guard_off rfl rfl rfl hg1183) rfl rfl hS ?_
              refine drwp_off rfl (guard_off rfl rfl rfl hg1183) rfl rfl hS ?_
              refine drwp_off rfl (guard_off rfl rfl rfl hg1183) rfl rfl hS ?_
              refine drwp_off rfl (guard_off rfl rfl rfl hg1183) rfl rfl hS ?_
              refine drwp_off rfl (guard_off rfl rfl rfl hg1183) rfl rfl hS ?_
              refine drwp_off rfl (guard_off rfl rfl rfl hg1183) rfl rfl hS ?_
              refine drwp_off rfl (guard_off rfl rfl rfl hg1183) rfl rfl hS ?_
              refine drwp_off rfl (guard_off rfl rfl rfl hg1183) rfl rfl hS ?_
              have hg1184 : (((!((((gt x0 a1088).fRef.fTx) == ((gt x1 a1088).fRef.fTx)) && (((gt x0 a1088).fRef.fAt) == ((gt x1 a1088).fRef.fAt)))) || (((gt x0 a1088).fHeight) != ((gt x1 a1088).fHeight))) || (((gt x0 a1088).fMined) != ((gt x1 a1088).fMined))) = true := by simp only [hg1183, Bool.and_true, Bool.true_and, Bool.and_false, Bool.false_and, Bool.or_true, Bool.true_or, Bool.or_false, Bool.false_or, Bool.not_true, Bool.not_false, Bool.not_not]
              refine drwp_take (v := .bool (((!((((gt x0 a1088).fRef.fTx) == ((gt x1 a1088).fRef.fTx)) && (((gt x0 a1088).fRef.fAt) == ((gt x1 a1088).fRef.fAt)))) || (((gt x0 a1088).fHeight) != ((gt x1 a1088).fHeight))) || (((gt x0 a1088).fMined) != ((gt x1 a1088).fMined)))) rfl (guard_none rfl) rfl rfl (fun w_ hS_ => (ex_por_t rfl rfl hg1183)) hS ?_
              refine drwp_take rfl (guard_none rfl) rfl rfl (fun w_ hS_ => (ex_move rfl rfl)) hS ?_
              refine drwp_off rfl (guard_off rfl rfl rfl hg1184) rfl rfl hS ?_
              refine drwp_off rfl (guard_off rfl rfl rfl hg1184) rfl rfl hS ?_
              refine drwp_off rfl (guard_off rfl rfl rfl hg1184) rfl rfl hS ?_
              refine drwp_off rfl (guard_off rfl rfl rfl hg1184) rfl rfl hS ?_
              refine drwp_off rfl (guard_off rfl rfl rfl hg1184) rfl rfl hS ?_
              refine drwp_off rfl (guard_off rfl rfl rfl hg1184) rfl rfl hS ?_
              refine drwp_off rfl (guard_off rfl rfl rfl hg1184) rfl rfl hS ?_
              refine drwp_off rfl (guard_off rfl rfl rfl hg1184) rfl rfl hS ?_
              refine drwp_off rfl (guard_off rfl rfl rfl hg1184) rfl rfl hS ?_
              refine drwp_off rfl (guard_off rfl rfl rfl hg1184) rfl rfl hS ?_
              refine drwp_off rfl (guard_off rfl rfl rfl hg1184) rfl rfl hS ?_
              refine drwp_off rfl (guard_off rfl rfl rfl hg1184) rfl rfl hS ?_
              refine drwp_off rfl (guard_off rfl rfl rfl hg1184) rfl rfl hS ?_
              have hg1185 : ((((!((((gt x0 a1088).fRef.fTx) == ((gt x1 a1088).fRef.fTx)) && (((gt x0 a1088).fRef.fAt) == ((gt x1 a1088).fRef.fAt)))) || (((gt x0 a1088).fHeight) != ((gt x1 a1088).fHeight))) || (((gt x0 a1088).fMined) != ((gt x1 a1088).fMined))) || (((gt x0 a1088).fOut.fValue) != ((gt x1 a1088).fOut.fValue))) = true := by simp only [hg1184, Bool.and_true, Bool.true_and, Bool.and_false, Bool.false_and, Bool.or_true, Bool.true_or, Bool.or_false, Bool.false_or, Bool.not_true, Bool.not_false, Bool.not_not]
              refine drwp_take (v := .bool ((((!((((gt x0 a1088).fRef.fTx) == ((gt x1 a1088).fRef.fTx)) && (((gt x0 a1088).fRef.fAt) == ((gt x1 a1088).fRef.fAt)))) || (((gt x0 a1088).fHeight) != ((gt x1 a1088).fHeight))) || (((gt x0 a1088).fMined) != ((gt x1 a1088).fMined))) || (((gt x0 a1088).fOut.fValue) != ((gt x1 a1088).fOut.fValue)))) rfl (guard_none rfl) rfl rfl (fun w_ hS_ => (ex_por_t rfl rfl hg1184)) hS ?_
              refine drwp_take rfl (guard_none rfl) rfl rfl (fun w_ hS_ => (ex_move rfl rfl)) hS ?_
              refine drwp_off rfl (guard_off rfl rfl rfl hg1185) rfl rfl hS ?_
              refine drwp_off rfl (guard_off rfl rfl rfl hg1185) rfl rfl hS ?_
              refine drwp_off rfl (guard_off rfl rfl rfl hg1185) rfl rfl hS ?_
              refine drwp_off rfl (guard_off rfl rfl rfl hg1185) rfl rfl hS ?_
              refine drwp_off rfl (guard_off rfl rfl rfl hg1185) rfl rfl hS ?_
              refine drwp_off rfl (guard_off rfl rfl rfl hg1185) rfl rfl hS ?_
              refine drwp_off rfl (guard_off rfl rfl rfl hg1185) rfl rfl hS ?_
              refine drwp_off rfl (guard_off rfl rfl rfl hg1185) rfl rfl hS ?_
              refine drwp_off rfl (guard_off rfl rfl rfl hg1185) rfl rfl hS ?_
              refine drwp_off rfl (guard_off rfl rfl rfl hg1185) rfl rfl hS ?_
              refine drwp_off1 rfl (guard_off rfl rfl rfl hg1185) rfl rfl ⟨hS, ?_⟩
              refine drwp_off rfl (guard_off rfl rfl rfl hg1185) rfl rfl hS ?_
              have hg1186 : (((((!((((gt x0 a1088).fRef.fTx) == ((gt x1 a1088).fRef.fTx)) && (((gt x0 a1088).fRef.fAt) == ((gt x1 a1088).fRef.fAt)))) || (((gt x0 a1088).fHeight) != ((gt x1 a1088).fHeight))) || (((gt x0 a1088).fMined) != ((gt x1 a1088).fMined))) || (((gt x0 a1088).fOut.fValue) != ((gt x1 a1088).fOut.fValue))) || (!t1176)) = true := by simp only [hg1185, Bool.and_true, Bool.true_and, Bool.and_false, Bool.false_and, Bool.or_true, Bool.true_or, Bool.or_false, Bool.false_or, Bool.not_true, Bool.not_false, Bool.not_not]
              refine drwp_take (v := .bool (((((!((((gt x0 a1088).fRef.fTx) == ((gt x1 a1088).fRef.fTx)) && (((gt x0 a1088).fRef.fAt) == ((gt x1 a1088).fRef.fAt)))) || (((gt x0 a1088).fHeight) != ((gt x1 a1088).fHeight))) || (((gt x0 a1088).fMined) != ((gt x1 a1088).fMined))) || (((gt x0 a1088).fOut.fValue) != ((gt x1 a1088).fOut.fValue))) || (!t1176))) rfl (guard_none rfl) rfl rfl (fun w_ hS_ => (ex_por_t rfl rfl hg1185)) hS ?_
              refine drwp_done ?_
              exact at_meet [(0, p0), (1, p1), (5, .int .i64 a1088), (82, .bool (((((!((((gt x0 a1088).fRef.fTx) == ((gt x1 a1088).fRef.fTx)) && (((gt x0 a1088).fRef.fAt) == ((gt x1 a1088).fRef.fAt)))) || (((gt x0 a1088).fHeight) != ((gt x1 a1088).fHeight))) || (((gt x0 a1088).fMined) != ((gt x1 a1088).fMined))) || (((gt x0 a1088).fOut.fValue) != ((gt x1 a1088).fOut.fValue))) || (!t1176)))] ⟨rfl, HM⟩ (Sub.cons rfl (Sub.cons rfl (Sub.cons rfl (Sub.cons rfl Sub.nil))))
            · skip
              refine drwp_take rfl (guard_on rfl rfl rfl hg1183) rfl rfl (fun w_ hS_ => (ex_move rfl rfl)) hS ?_
              refine drwp_take rfl (guard_on rfl rfl rfl hg1183) rfl rfl (fun w_ hS_ => (ex_move rfl rfl)) hS ?_
              obtain ⟨kv1154, hc1153, hk1155⟩ : ∃ u, CellsAt _ (sb p0) (so p0 + (a1088).toNat * 8) [(.int .i64 ((gt x0 a1088).fRef.fTx)), (.int .i64 ((gt x0 a1088).fRef.fAt)), (.int .i64 ((gt x0 a1088).fOut.fValue)), u, (.int .i64 ((gt x0 a1088).fOut.fRule.fNeed)), (.int .i64 ((gt x0 a1088).fOut.fRule.fAfter)), (.int .i64 ((gt x0 a1088).fHeight)), (.bool ((gt x0 a1088).fMined))] ∧ RdS kInt _ u ((gt x0 a1088).fOut.fRule.fKeys) := rd_with1 hp0 (or_t e1152 (not_mk hg1183))
              refine drwp_take rfl (guard_on rfl rfl rfl hg1183) rfl rfl (fun w_ hS_ => (ex_indexAddr (d := kCoin) rfl rfl rfl Try.underlying25 tsz104 hp0 (idx_lo (or_t e1152 (not_mk hg1183))) (idx_hi (or_t e1152 (not_mk hg1183))))) hS ?_
              refine drwp_take rfl (guard_on rfl rfl rfl hg1183) rfl rfl (fun w_ hS_ => (ex_fieldAddr (off' := so p0 + (a1088).toNat * 8 + 7) rfl rfl Try.underlying104 rfl tsz4 rfl)) hS ?_
              refine drwp_take rfl (guard_on rfl rfl rfl hg1183) rfl rfl (fun w_ hS_ => (ex_load1 rfl rfl Try.underlying4 rfl ((hS_.at_ hc1153) 7 _ rfl))) hS ?_
              refine drwp_take rfl (guard_on rfl rfl rfl hg1183) rfl rfl (fun w_ hS_ => (ex_move rfl rfl)) hS ?_
              refine drwp_take rfl (guard_on rfl rfl rfl hg1183) rfl rfl (fun w_ hS_ => (ex_move rfl rfl)) hS ?_
              obtain ⟨kv1158, hc1157, hk1159⟩ : ∃ u, CellsAt _ (sb p1) (so p1 + (a1088).toNat * 8) [(.int .i64 ((gt x1 a1088).fRef.fTx)), (.int .i64 ((gt x1 a1088).fRef.fAt)), (.int .i64 ((gt x1 a1088).fOut.fValue)), u, (.int .i64 ((gt x1 a1088).fOut.fRule.fNeed)), (.int .i64 ((gt x1 a1088).fOut.fRule.fAfter)), (.int .i64 ((gt x1 a1088).fHeight)), (.bool ((gt x1 a1088).fMined))] ∧ RdS kInt _ u ((gt x1 a1088).fOut.fRule.fKeys) := rd_with1 hp1 (or_t e1156 (not_mk hg1183))
              refine drwp_take rfl (guard_on rfl rfl rfl hg1183) rfl rfl (fun w_ hS_ => (ex_indexAddr (d := kCoin) rfl rfl rfl Try.underlying25 tsz104 hp1 (idx_lo (or_t e1156 (not_mk hg1183))) (idx_hi (or_t e1156 (not_mk hg1183))))) hS ?_
              refine drwp_take rfl (guard_on rfl rfl rfl hg1183) rfl rfl (fun w_ hS_ => (ex_fieldAddr (off' := so p1 + (a1088).toNat * 8 + 7) rfl rfl Try.underlying104 rfl tsz4 rfl)) hS ?_
              refine drwp_take rfl (guard_on rfl rfl rfl hg1183) rfl rfl (fun w_ hS_ => (ex_load1 rfl rfl Try.underlying4 rfl ((hS_.at_ hc1157) 7 _ rfl))) hS ?_
              refine drwp_take rfl (guard_on rfl rfl rfl hg1183) rfl rfl (fun w_ hS_ => (ex_bneq rfl rfl rfl Try.underlying4)) hS ?_
              refine drwp_take (v := .bool (((!((((gt x0 a1088).fRef.fTx) == ((gt x1 a1088).fRef.fTx)) && (((gt x0 a1088).fRef.fAt) == ((gt x1 a1088).fRef.fAt)))) || (((gt x0 a1088).fHeight) != ((gt x1 a1088).fHeight))) || (((gt x0 a1088).fMined) != ((gt x1 a1088).fMined)))) rfl (guard_none rfl) rfl rfl (fun w_ hS_ => (ex_por_f rfl rfl hg1183 rfl)) hS ?_
              refine drwp_take rfl (guard_none rfl) rfl rfl (fun w_ hS_ => (ex_move rfl rfl)) hS ?_
              refine bool_cases (((!((((gt x0 a1088).fRef.fTx) == ((gt x1 a1088).fRef.fTx)) && (((gt x0 a1088).fRef.fAt) == ((gt x1 a1088).fRef.fAt)))) || (((gt x0 a1088).fHeight) != ((gt x1 a1088).fHeight))) || (((gt x0 a1088).fMined) != ((gt x1 a1088).fMined))) (fun hg1187 => ?_) (fun hg1187 => ?_)
              · skip
                refine drwp_off rfl (guard_off rfl rfl rfl hg1187) rfl rfl hS ?_
                refine drwp_off rfl (guard_off rfl rfl rfl hg1187) rfl rfl hS ?_
                refine drwp_off rfl (guard_off rfl rfl rfl hg1187) rfl rfl hS ?_
                refine drwp_off rfl (guard_off rfl rfl rfl hg1187) rfl rfl hS ?_
                refine drwp_off rfl (guard_off rfl rfl rfl hg1187) rfl rfl hS ?_
                refine drwp_off rfl (guard_off rfl rfl rfl hg1187) rfl rfl hS ?_
                refine drwp_off rfl (guard_off rfl rfl rfl hg1187) rfl rfl hS ?_
                refine drwp_off rfl (guard_off rfl rfl rfl hg1187) rfl rfl hS ?_
                refine drwp_off rfl (guard_off rfl rfl rfl hg1187) rfl rfl hS ?_
                refine drwp_off rfl (guard_off rfl rfl rfl hg1187) rfl rfl hS ?_
                refine drwp_off rfl (guard_off rfl rfl rfl hg1187) rfl rfl hS ?_
                refine drwp_off rfl (guard_off rfl rfl rfl hg1187) rfl rfl hS ?_
                refine drwp_off rfl (guard_off rfl rfl rfl hg1187) rfl rfl hS ?_
                have hg1188 : ((((!((((gt x0 a1088).fRef.fTx) == ((gt x1 a1088).fRef.fTx)) && (((gt x0 a1088).fRef.fAt) == ((gt x1 a1088).fRef.fAt)))) || (((gt x0 a1088).fHeight) != ((gt x1 a1088).fHeight))) || (((gt x0 a1088).fMined) != ((gt x1 a1088).fMined))) || (((gt x0 a1088).fOut.fValue) != ((gt x1 a1088).fOut.fValue))) = true := by simp only [hg1187, Bool.and_true, Bool.true_and, Bool.and_false, Bool.false_and, Bool.or_true, Bool.true_or, Bool.or_false, Bool.false_or, Bool.not_true, Bool.not_false, Bool.not_not]
                refine drwp_take (v := .bool ((((!((((gt x0 a1088).fRef.fTx) == ((gt x1 a1088).fRef.fTx)) && (((gt x0 a1088).fRef.fAt) == ((gt x1 a1088).fRef.fAt)))) || (((gt x0 a1088).fHeight) != ((gt x1 a1088).fHeight))) || (((gt x0 a1088).fMined) != ((gt x1 a1088).fMined))) || (((gt x0 a1088).fOut.fValue) != ((gt x1 a1088).fOut.fValue)))) rfl (guard_none rfl) rfl rfl (fun w_ hS_ => (ex_por_t rfl rfl hg1187)) hS ?_
                refine drwp_take rfl (guard_none rfl) rfl rfl (fun w_ hS_ => (ex_move rfl rfl)) hS ?_
                refine drwp_off rfl (guard_off rfl rfl rfl hg1188) rfl rfl hS ?_
                refine drwp_off rfl (guard_off rfl rfl rfl hg1188) rfl rfl hS ?_
                refine drwp_off rfl (guard_off rfl rfl rfl hg1188) rfl rfl hS ?_
                refine drwp_off rfl (guard_off rfl rfl rfl hg1188) rfl rfl hS ?_
                refine drwp_off rfl (guard_off rfl rfl rfl hg1188) rfl rfl hS ?_
                refine drwp_off rfl (guard_off rfl rfl rfl hg1188) rfl rfl hS ?_
                refine drwp_off rfl (guard_off rfl rfl rfl hg1188) rfl rfl hS ?_
                refine drwp_off rfl (guard_off rfl rfl rfl hg1188) rfl rfl hS ?_
                refine drwp_off rfl (guard_off rfl rfl rfl hg1188) rfl rfl hS ?_
                refine drwp_off rfl (guard_off rfl rfl rfl hg1188) rfl rfl hS ?_
                refine drwp_off1 rfl (guard_off rfl rfl rfl hg1188) rfl rfl ⟨hS, ?_⟩
                refine drwp_off rfl (guard_off rfl rfl rfl hg1188) rfl rfl hS ?_
                have hg1189 : (((((!((((gt x0 a1088).fRef.fTx) == ((gt x1 a1088).fRef.fTx)) && (((gt x0 a1088).fRef.fAt) == ((gt x1 a1088).fRef.fAt)))) || (((gt x0 a1088).fHeight) != ((gt x1 a1088).fHeight))) || (((gt x0 a1088).fMined) != ((gt x1 a1088).fMined))) || (((gt x0 a1088).fOut.fValue) != ((gt x1 a1088).fOut.fValue))) || (!t1176)) = true := by simp only [hg1188, Bool.and_true, Bool.true_and, Bool.and_false, Bool.false_and, Bool.or_true, Bool.true_or, Bool.or_false, Bool.false_or, Bool.not_true, Bool.not_false, Bool.not_not]
                refine drwp_take (v := .bool (((((!((((gt x0 a1088).fRef.fTx) == ((gt x1 a1088).fRef.fTx)) && (((gt x0 a1088).fRef.fAt) == ((gt x1 a1088).fRef.fAt)))) || (((gt x0 a1088).fHeight) != ((gt x1 a1088).fHeight))) || (((gt x0 a1088).fMined) != ((gt x1 a1088).fMined))) || (((gt x0 a1088).fOut.fValue) != ((gt x1 a1088).fOut.fValue))) || (!t1176))) rfl (guard_none rfl) rfl rfl (fun w_ hS_ => (ex_por_t rfl rfl hg1188)) hS ?_
                refine drwp_done ?_
                exact at_meet [(0, p0), (1, p1), (5, .int .i64 a1088), (82, .bool (((((!((((gt x0 a1088).fRef.fTx) == ((gt x1 a1088).fRef.fTx)) && (((gt x0 a1088).fRef.fAt) == ((gt x1 a1088).fRef.fAt)))) || (((gt x0 a1088).fHeight) != ((gt x1 a1088).fHeight))) || (((gt x0 a1088).fMined) != ((gt x1 a1088).fMined))) || (((gt x0 a1088).fOut.fValue) != ((gt x1 a1088).fOut.fValue))) || (!t1176)))] ⟨rfl, HM⟩ (Sub.cons rfl (Sub.cons rfl (Sub.cons rfl (Sub.cons rfl Sub.nil))))
              · skip
                refine drwp_take rfl (guard_on rfl rfl rfl hg1187) rfl rfl (fun w_ hS_ => (ex_move rfl rfl)) hS ?_
                refine drwp_take rfl (guard_on rfl rfl rfl hg1187) rfl rfl (fun w_ hS_ => (ex_move rfl rfl)) hS ?_
                obtain ⟨kv1162, hc1161, hk1163⟩ : ∃ u, CellsAt _ (sb p0) (so p0 + (a1088).toNat * 8) [(.int .i64 ((gt x0 a1088).fRef.fTx)), (.int .i64 ((gt x0 a1088).fRef.fAt)), (.int .i64 ((gt x0 a1088).fOut.fValue)), u, (.int .i64 ((gt x0 a1088).fOut.fRule.fNeed)), (.int .i64 ((gt x0 a1088).fOut.fRule.fAfter)), (.int .i64 ((gt x0 a1088).fHeight)), (.bool ((gt x0 a1088).fMined))] ∧ RdS kInt _ u ((gt x0 a1088).fOut.fRule.fKeys) := rd_with1 hp0 (or_t e1160 (not_mk hg1187))
                refine drwp_take rfl (guard_on rfl rfl rfl hg1187) rfl rfl (fun w_ hS_ => (ex_indexAddr (d := kCoin) rfl rfl rfl Try.underlying25 tsz104 hp0 (idx_lo (or_t e1160 (not_mk hg1187))) (idx_hi (or_t e1160 (not_mk hg1187))))) hS ?_
                refine drwp_take rfl (guard_on rfl rfl rfl hg1187) rfl rfl (fun w_ hS_ => (ex_fieldAddr (off' := so p0 + (a1088).toNat * 8 + 2) rfl rfl Try.underlying104 rfl tsz102 rfl)) hS ?_
                refine drwp_take rfl (guard_on rfl rfl rfl hg1187) rfl rfl (fun w_ hS_ => (ex_fieldAddr (off' := so p0 + (a1088).toNat * 8 + 2) rfl rfl Try.underlying102 rfl tsz2 rfl)) hS ?_
                refine drwp_take rfl (guard_on rfl rfl rfl hg1187) rfl rfl (fun w_ hS_ => (ex_load1 rfl rfl Try.underlying2 rfl ((hS_.at_ hc1161) 2 _ rfl))) hS ?_
                refine drwp_take rfl (guard_on rfl rfl rfl hg1187) rfl rfl (fun w_ hS_ => (ex_move rfl rfl)) hS ?_
                refine drwp_take rfl (guard_on rfl rfl rfl hg1187) rfl rfl (fun w_ hS_ => (ex_move rfl rfl)) hS ?_
                obtain ⟨kv1166, hc1165, hk1167⟩ : ∃ u, CellsAt _ (sb p1) (so p1 + (a1088).toNat * 8) [(.int .i64 ((gt x1 a1088).fRef.fTx)), (.int .i64 ((gt x1 a1088).fRef.fAt)), (.int .i64 ((gt x1 a1088).fOut.fValue)), u, (.int .i64 ((gt x1 a1088).fOut.fRule.fNeed)), (.int .i64 ((gt x1 a1088).fOut.fRule.fAfter)), (.int .i64 ((gt x1 a1088).fHeight)), (.bool ((gt x1 a1088).fMined))] ∧ RdS kInt _ u ((gt x1 a1088).fOut.fRule.fKeys) := rd_with1 hp1 (or_t e1164 (not_mk hg1187))
                refine drwp_take rfl (guard_on rfl rfl rfl hg1187) rfl rfl (fun w_ hS_ => (ex_indexAddr (d := kCoin) rfl rfl rfl Try.underlying25 tsz104 hp1 (idx_lo (or_t e1164 (not_mk hg1187))) (idx_hi (or_t e1164 (not_mk hg1187))))) hS ?_
                refine drwp_take rfl (guard_on rfl rfl rfl hg1187) rfl rfl (fun w_ hS_ => (ex_fieldAddr (off' := so p1 + (a1088).toNat * 8 + 2) rfl rfl Try.underlying104 rfl tsz102 rfl)) hS ?_
                refine drwp_take rfl (guard_on rfl rfl rfl hg1187) rfl rfl (fun w_ hS_ => (ex_fieldAddr (off' := so p1 + (a1088).toNat * 8 + 2) rfl rfl Try.underlying102 rfl tsz2 rfl)) hS ?_
                refine drwp_take rfl (guard_on rfl rfl rfl hg1187) rfl rfl (fun w_ hS_ => (ex_load1 rfl rfl Try.underlying2 rfl ((hS_.at_ hc1165) 2 _ rfl))) hS ?_
                refine drwp_take rfl (guard_on rfl rfl rfl hg1187) rfl rfl (fun w_ hS_ => (ex_neq rfl rfl rfl)) hS ?_
                refine drwp_take (v := .bool ((((!((((gt x0 a1088).fRef.fTx) == ((gt x1 a1088).fRef.fTx)) && (((gt x0 a1088).fRef.fAt) == ((gt x1 a1088).fRef.fAt)))) || (((gt x0 a1088).fHeight) != ((gt x1 a1088).fHeight))) || (((gt x0 a1088).fMined) != ((gt x1 a1088).fMined))) || (((gt x0 a1088).fOut.fValue) != ((gt x1 a1088).fOut.fValue)))) rfl (guard_none rfl) rfl rfl (fun w_ hS_ => (ex_por_f rfl rfl hg1187 rfl)) hS ?_
                refine drwp_take rfl (guard_none rfl) rfl rfl (fun w_ hS_ => (ex_move rfl rfl)) hS ?_
                refine bool_cases ((((!((((gt x0 a1088).fRef.fTx) == ((gt x1 a1088).fRef.fTx)) && (((gt x0 a1088).fRef.fAt) == ((gt x1 a1088).fRef.fAt)))) || (((gt x0 a1088).fHeight) != ((gt x1 a1088).fHeight))) || (((gt x0 a1088).fMined) != ((gt x1 a1088).fMined))) || (((gt x0 a1088).fOut.fValue) != ((gt x1 a1088).fOut.fValue))) (fun hg1190 => ?_) (fun hg1190 => ?_)
                · skip
                  refine drwp_off rfl (guard_off rfl rfl rfl hg1190) rfl rfl hS ?_
                  refine drwp_off rfl (guard_off rfl rfl rfl hg1190) rfl rfl hS ?_
                  refine drwp_off rfl (guard_off rfl rfl rfl hg1190) rfl rfl hS ?_
                  refine drwp_off rfl (guard_off rfl rfl rfl hg1190) rfl rfl hS ?_
                  refine drwp_off rfl (guard_off rfl rfl rfl hg1190) rfl rfl hS ?_
                  refine drwp_off rfl (guard_off rfl rfl rfl hg1190) rfl rfl hS ?_
                  refine drwp_off rfl (guard_off rfl rfl rfl hg1190) rfl rfl hS ?_
                  refine drwp_off rfl (guard_off rfl rfl rfl hg1190) rfl rfl hS ?_
                  refine drwp_off rfl (guard_off rfl rfl rfl hg1190) rfl rfl hS ?_
                  refine drwp_off rfl (guard_off rfl rfl rfl hg1190) rfl rfl hS ?_
                  refine drwp_off1 rfl (guard_off rfl rfl rfl hg1190) rfl rfl ⟨hS, ?_⟩
                  refine drwp_off rfl (guard_off rfl rfl rfl hg1190) rfl rfl hS ?_
                  have hg1191 : (((((!((((gt x0 a1088).fRef.fTx) == ((gt x1 a1088).fRef.fTx)) && (((gt x0 a1088).fRef.fAt) == ((gt x1 a1088).fRef.fAt)))) || (((gt x0 a1088).fHeight) != ((gt x1 a1088).fHeight))) || (((gt x0 a1088).fMined) != ((gt x1 a1088).fMined))) || (((gt x0 a1088).fOut.fValue) != ((gt x1 a1088).fOut.fValue))) || (!t1176)) = true := by simp only [hg1190, Bool.and_true, Bool.true_and, Bool.and_false, Bool.false_and, Bool.or_true, Bool.true_or, Bool.or_false, Bool.false_or, Bool.not_true, Bool.not_false, Bool.not_not]
                  refine drwp_take (v := .bool (((((!((((gt x0 a1088).fRef.fTx) == ((gt x1 a1088).fRef.fTx)) && (((gt x0 a1088).fRef.fAt) == ((gt x1 a1088).fRef.fAt)))) || (((gt x0 a1088).fHeight) != ((gt x1 a1088).fHeight))) || (((gt x0 a1088).fMined) != ((gt x1 a1088).fMined))) || (((gt x0 a1088).fOut.fValue) != ((gt x1 a1088).fOut.fValue))) || (!t1176))) rfl (guard_none rfl) rfl rfl (fun w_ hS_ => (ex_por_t rfl rfl hg1190)) hS ?_
                  refine drwp_done ?_
                  exact at_meet [(0, p0), (1, p1), (5, .int .i64 a1088), (82, .bool (((((!((((gt x0 a1088).fRef.fTx) == ((gt x1 a1088).fRef.fTx)) && (((gt x0 a1088).fRef.fAt) == ((gt x1 a1088).fRef.fAt)))) || (((gt x0 a1088).fHeight) != ((gt x1 a1088).fHeight))) || (((gt x0 a1088).fMined) != ((gt x1 a1088).fMined))) || (((gt x0 a1088).fOut.fValue) != ((gt x1 a1088).fOut.fValue))) || (!t1176)))] ⟨rfl, HM⟩ (Sub.cons rfl (Sub.cons rfl (Sub.cons rfl (Sub.cons rfl Sub.nil))))
                · skip
                  refine drwp_take rfl (guard_on rfl rfl rfl hg1190) rfl rfl (fun w_ hS_ => (ex_move rfl rfl)) hS ?_
                  refine drwp_take rfl (guard_on rfl rfl rfl hg1190) rfl rfl (fun w_ hS_ => (ex_move rfl rfl)) hS ?_
                  obtain ⟨kv1170, hc1169, hk1171⟩ : ∃ u, CellsAt _ (sb p0) (so p0 + (a1088).toNat * 8) [(.int .i64 ((gt x0 a1088).fRef.fTx)), (.int .i64 ((gt x0 a1088).fRef.fAt)), (.int .i64 ((gt x0 a1088).fOut.fValue)), u, (.int .i64 ((gt x0 a1088).fOut.fRule.fNeed)), (.int .i64 ((gt x0 a1088).fOut.fRule.fAfter)), (.int .i64 ((gt x0 a1088).fHeight)), (.bool ((gt x0 a1088).fMined))] ∧ RdS kInt _ u ((gt x0 a1088).fOut.fRule.fKeys) := rd_with1 hp0 (or_t e1168 (not_mk hg1190))
                  refine drwp_take rfl (guard_on rfl rfl rfl hg1190) rfl rfl (fun w_ hS_ => (ex_indexAddr (d := kCoin) rfl rfl rfl Try.underlying25 tsz104 hp0 (idx_lo (or_t e1168 (not_mk hg1190))) (idx_hi (or_t e1168 (not_mk hg1190))))) hS ?_
                  refine drwp_take rfl (guard_on rfl rfl rfl hg1190) rfl rfl (fun w_ hS_ => (ex_fieldAddr (off' := so p0 + (a1088).toNat * 8 + 2) rfl rfl Try.underlying104 rfl tsz102 rfl)) hS ?_
                  refine drwp_take rfl (guard_on rfl rfl rfl hg1190) rfl rfl (fun w_ hS_ => (ex_fieldAddr (off' := so p0 + (a1088).toNat * 8 + 3) rfl rfl Try.underlying102 rfl tsz100 rfl)) hS ?_
                  refine drwp_take rfl (guard_on rfl rfl rfl hg1190) rfl rfl (fun w_ hS_ => (ex_move rfl rfl)) hS ?_
                  refine drwp_take rfl (guard_on rfl rfl rfl hg1190) rfl rfl (fun w_ hS_ => (ex_move rfl rfl)) hS ?_
                  obtain ⟨kv1174, hc1173, hk1175⟩ : ∃ u, CellsAt _ (sb p1) (so p1 + (a1088).toNat * 8) [(.int .i64 ((gt x1 a1088).fRef.fTx)), (.int .i64 ((gt x1 a1088).fRef.fAt)), (.int .i64 ((gt x1 a1088).fOut.fValue)), u, (.int .i64 ((gt x1 a1088).fOut.fRule.fNeed)), (.int .i64 ((gt x1 a1088).fOut.fRule.fAfter)), (.int .i64 ((gt x1 a1088).fHeight)), (.bool ((gt x1 a1088).fMined))] ∧ RdS kInt _ u ((gt x1 a1088).fOut.fRule.fKeys) := rd_with1 hp1 (or_t e1172 (not_mk hg1190))
                  refine drwp_take rfl (guard_on rfl rfl rfl hg1190) rfl rfl (fun w_ hS_ => (ex_indexAddr (d := kCoin) rfl rfl rfl Try.underlying25 tsz104 hp1 (idx_lo (or_t e1172 (not_mk hg1190))) (idx_hi (or_t e1172 (not_mk hg1190))))) hS ?_
                  refine drwp_take rfl (guard_on rfl rfl rfl hg1190) rfl rfl (fun w_ hS_ => (ex_fieldAddr (off' := so p1 + (a1088).toNat * 8 + 2) rfl rfl Try.underlying104 rfl tsz102 rfl)) hS ?_
                  refine drwp_take rfl (guard_on rfl rfl rfl hg1190) rfl rfl (fun w_ hS_ => (ex_fieldAddr (off' := so p1 + (a1088).toNat * 8 + 3) rfl rfl Try.underlying102 rfl tsz100 rfl)) hS ?_
                  refine drwp_one rfl (guard_on rfl rfl rfl hg1190) rfl rfl (does_callk rfl callok121 rfl (spec_l2Same.calls (x0 := (gt x0 a1088).fOut.fRule) (x1 := (gt x1 a1088).fOut.fRule) (CellsAt.sub (HM.at_ hc1169) 3 3 rfl) (HM.rd hk1171) (CellsAt.sub (HM.at_ hc1173) 3 3 rfl) (HM.rd hk1175) (cond_t (not_mk hg1190) h1177))) ?_
                  rintro _ w1192 ⟨rfl, hn⟩
                  replace HM : Mem w [] w1192 [] := HM.call hn
                  refine ⟨Mem.suf (M := []) HM, ?_⟩
                  have hS := Mem.suf (M := []) HM
                  refine drwp_take rfl (guard_on rfl rfl rfl hg1190) rfl rfl (fun w_ hS_ => (ex_not rfl rfl)) hS ?_
                  refine drwp_take (v := .bool (((((!((((gt x0 a1088).fRef.fTx) == ((gt x1 a1088).fRef.fTx)) && (((gt x0 a1088).fRef.fAt) == ((gt x1 a1088).fRef.fAt)))) || (((gt x0 a1088).fHeight) != ((gt x1 a1088).fHeight))) || (((gt x0 a1088).fMined) != ((gt x1 a1088).fMined))) || (((gt x0 a1088).fOut.fValue) != ((gt x1 a1088).fOut.fValue))) || (!t1176))) rfl (guard_none rfl) rfl rfl (fun w_ hS_ => (ex_por_f rfl rfl hg1190 rfl)) hS ?_
                  refine drwp_done ?_
                  exact at_meet [(0, p0), (1, p1), (5, .int .i64 a1088), (82, .bool (((((!((((gt x0 a1088).fRef.fTx) == ((gt x1 a1088).fRef.fTx)) && (((gt x0 a1088).fRef.fAt) == ((gt x1 a1088).fRef.fAt)))) || (((gt x0 a1088).fHeight) != ((gt x1 a1088).fHeight))) || (((gt x0 a1088).fMined) != ((gt x1 a1088).fMined))) || (((gt x0 a1088).fOut.fValue) != ((gt x1 a1088).fOut.fValue))) || (!t1176)))] ⟨rfl, HM⟩ (Sub.cons rfl (Sub.cons rfl (Sub.cons rfl (Sub.cons rfl Sub.nil))))
        · rintro _ w1193 ⟨rfl, HM⟩
          refine at_then ?_
          refine run_cond (b := (((((!((((gt x0 a1088).fRef.fTx) == ((gt x1 a1088).fRef.fTx)) && (((gt x0 a1088).fRef.fAt) == ((gt x1 a1088).fRef.fAt)))) || (((gt x0 a1088).fHeight) != ((gt x1 a1088).fHeight))) || (((gt x0 a1088).fMined) != ((gt x1 a1088).fMined))) || (((gt x0 a1088).fOut.fValue) != ((gt x1 a1088).fOut.fValue))) || (!t1176))) rfl (fun hb1194 => ?_) (fun hb1194 => ?_)
          · replace ho1043 := cond_t hb1194 ho1043
            refine run_seq ?_
            refine run_region rfl ?_
            refine ops_ex rfl (guard_none rfl) rfl rfl (ex_assign rfl rfl) ?_
            refine ops_nil ?_
            refine at_then ?_
            refine run_ret ?_
            refine at_block_ret ?_
            refine at_then_ret ?_
            refine at_then_ret ?_
            refine at_block_ret ?_
            refine at_then_ret ?_
            have hR := Option.some.inj ho1043
            subst hR
            have hT := thn_inl H
            have hR := Option.some.inj hT
            subst hR
            exact at_ret1 rfl rfl ⟨_, rfl, rfl, HM⟩
          · replace ho1043 := cond_f hb1194 ho1043
            refine run_skip ?_
            refine at_block ?_
            refine at_then ?_
            refine run_region rfl ?_
            refine ops_ex rfl (guard_none rfl) rfl rfl (ex_move rfl rfl) ?_
            refine ops_ex rfl (guard_none rfl) rfl rfl (ex_add rfl rfl rfl) ?_
            refine ops_ex rfl (guard_none rfl) rfl rfl (ex_assign rfl rfl) ?_
            refine ops_nil ?_
            exact at_again k1133 (ρ1 := [(0, p0), (1, p1), (5, .int .i64 (wrap64 (a1088 + 1)))]) (Nat.lt_succ_self _) ⟨_, ho1043, rfl, HM⟩ (Sub.cons rfl (Sub.cons rfl (Sub.cons rfl Sub.nil)))
      · replace ho1043 := cond_f hb1135 ho1043
        refine run_exit ?_
        refine at_then_exit ?_
        refine at_then_exit ?_
        refine at_block_exit ?_
        exact at_mid (ρ' := []) ⟨(Option.some.inj ho1043), rfl, HM⟩ Sub.nil
    · rintro _ w1195 ⟨rfl, rfl, HM⟩
      replace H := (thn_inr H)
      refine run_seq ?_
      refine run_region rfl ?_
      refine ops_ex rfl (guard_none rfl) rfl rfl (ex_assign rfl rfl) ?_
      refine ops_nil ?_
      refine at_then ?_
      refine run_ret ?_
      have hR := Option.some.inj H
      subst hR
      exact at_ret1 rfl rfl ⟨_, rfl, rfl, HM⟩
end Go.Proofs.Ytoiacoiccpiciaa.Zk
