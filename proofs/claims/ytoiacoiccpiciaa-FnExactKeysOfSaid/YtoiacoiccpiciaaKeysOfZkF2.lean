/- What functions of the program compute, each as a plain function, and that they do. Conditions: as each theorem states them. -/
import Derived.Test.YtoiacoiccpiciaaKeysOfZkF1
namespace Go.Proofs.Ytoiacoiccpiciaa.Zk
open Go Go.RowKit Go.IntWalk Go.Proofs
set_option linter.unusedVariables false
set_option linter.unusedSimpArgs false
set_option maxRecDepth 100000
set_option maxHeartbeats 4000000
def laws_eqIntsResult.f (k : Nat) (x0 : IntsResult) (x1 : IntsResult) : Option Bool := (bif (x0.fCode != x1.fCode) then some false else ((laws_eqInt64S.f k x0.fList x1.fList).bind fun t1505 => (bif !t1505 then some false else some true)))
theorem laws_eqIntsResult.calls {k : Nat} {x0 : IntsResult} {x1 : IntsResult} {p0_0 : Value} {p1_0 : Value} {w : World} (hp0_0 : RdS kInt w p0_0 x0.fList) (hp1_0 : RdS kInt w p1_0 x1.fList) {r : Bool} (H : laws_eqIntsResult.f k x0 x1 = some r) :
    Calls Try.prog 52 ([.agg #[(.int .i64 x0.fCode), p0_0], .agg #[(.int .i64 x1.fCode), p1_0]] : List Value).toArray w (fun e w_ => ∃ v, e = .returned v ∧ v = (.bool r) ∧ Mem w [] w_ []) := by
  have HM := Mem.start w
  refine calls_run (N := 16) Try.func52 rfl rfl rfl rfl ?_
  unfold laws_eqIntsResult.f at H
  refine run_seq ?_
  refine run_region rfl ?_
  refine ops_does rfl (guard_none rfl) rfl rfl (does_box (cs := [.int .i64 x0.fCode, p0_0]) rfl rfl rfl HM) ?_
  rintro _ w1501 ⟨b1495, rfl, HM⟩
  refine ops_does rfl (guard_none rfl) rfl rfl (does_box (cs := [.int .i64 x1.fCode, p1_0]) rfl rfl rfl HM) ?_
  rintro _ w1502 ⟨b1498, rfl, HM⟩
  refine ops_ex rfl (guard_none rfl) rfl rfl (ex_assign rfl rfl) ?_
  refine ops_nil ?_
  refine at_then ?_
  refine run_seq ?_
  refine run_seq ?_
  refine run_region rfl ?_
  refine ops_ex rfl (guard_none rfl) rfl rfl (ex_fieldAddr (off' := 0) rfl rfl Try.underlying76 rfl tsz2 rfl) ?_
  refine ops_ex rfl (guard_none rfl) rfl rfl (ex_load1 rfl rfl Try.underlying2 rfl ((HM.box_at 1 rfl) 0 _ rfl)) ?_
  refine ops_ex rfl (guard_none rfl) rfl rfl (ex_fieldAddr (off' := 0) rfl rfl Try.underlying76 rfl tsz2 rfl) ?_
  refine ops_ex rfl (guard_none rfl) rfl rfl (ex_load1 rfl rfl Try.underlying2 rfl ((HM.box_at 0 rfl) 0 _ rfl)) ?_
  refine ops_ex rfl (guard_none rfl) rfl rfl (ex_neq rfl rfl rfl) ?_
  refine ops_nil ?_
  refine at_then ?_
  refine run_cond (b := (x0.fCode != x1.fCode)) rfl (fun hb1504 => ?_) (fun hb1504 => ?_)
  · replace H := cond_t hb1504 H
    refine run_seq ?_
    refine run_region rfl ?_
    refine ops_ex rfl (guard_none rfl) rfl rfl (ex_assign rfl rfl) ?_
    refine ops_nil ?_
    refine at_then ?_
    refine run_ret ?_
    refine at_then_ret ?_
    replace HM := (HM.front 0 rfl rfl).drop
    replace HM := (HM.front 0 rfl rfl).drop
    have hR := Option.some.inj H
    subst hR
    exact at_ret1 rfl rfl ⟨_, rfl, rfl, HM⟩
  · replace H := cond_f hb1504 H
    refine run_skip ?_
    refine at_then ?_
    refine run_seq ?_
    refine run_seq ?_
    obtain ⟨t1505, h1506, H⟩ := bind_some H
    refine run_region rfl ?_
    refine ops_ex rfl (guard_none rfl) rfl rfl (ex_fieldAddr (off' := 1) rfl rfl Try.underlying76 rfl tsz74 rfl) ?_
    refine ops_ex rfl (guard_none rfl) rfl rfl (ex_load1 rfl rfl Try.underlying74 rfl ((HM.box_at 1 rfl) 1 _ rfl)) ?_
    refine ops_ex rfl (guard_none rfl) rfl rfl (ex_fieldAddr (off' := 1) rfl rfl Try.underlying76 rfl tsz74 rfl) ?_
    refine ops_ex rfl (guard_none rfl) rfl rfl (ex_load1 rfl rfl Try.underlying74 rfl ((HM.box_at 0 rfl) 1 _ rfl)) ?_
    refine ops_does rfl (guard_none rfl) rfl rfl (does_callk rfl callok113 rfl (laws_eqInt64S.calls (x0 := x0.fList) (x1 := x1.fList) (HM.rd hp0_0) (HM.rd hp1_0) h1506)) ?_
    rintro _ w1507 ⟨rfl, hn⟩
    replace HM : Mem w [] w1507 [box b1498 76 [.int .i64 x1.fCode, p1_0], box b1495 76 [.int .i64 x0.fCode, p0_0]] := HM.call hn
    refine ops_ex rfl (guard_none rfl) rfl rfl (ex_not rfl rfl) ?_
    refine ops_nil ?_
    refine at_then ?_
    refine run_cond (b := !t1505) rfl (fun hb1508 => ?_) (fun hb1508 => ?_)
    · replace H := cond_t hb1508 H
      refine run_seq ?_
      refine run_region rfl ?_
      refine ops_ex rfl (guard_none rfl) rfl rfl (ex_assign rfl rfl) ?_
      refine ops_nil ?_
      refine at_then ?_
      refine run_ret ?_
      refine at_then_ret ?_
      replace HM := (HM.front 0 rfl rfl).drop
      replace HM := (HM.front 0 rfl rfl).drop
      have hR := Option.some.inj H
      subst hR
      exact at_ret1 rfl rfl ⟨_, rfl, rfl, HM⟩
    · replace H := cond_f hb1508 H
      refine run_skip ?_
      refine at_then ?_
      refine run_seq ?_
      refine run_region rfl ?_
      refine ops_ex rfl (guard_none rfl) rfl rfl (ex_assign rfl rfl) ?_
      refine ops_nil ?_
      refine at_then ?_
      refine run_ret ?_
      replace HM := (HM.front 0 rfl rfl).drop
      replace HM := (HM.front 0 rfl rfl).drop
      have hR := Option.some.inj H
      subst hR
      exact at_ret1 rfl rfl ⟨_, rfl, rfl, HM⟩

def laws_eqRef.f (k : Nat) (x0 : Ref) (x1 : Ref) : Option Bool := (bif (x0.fTx != x1.fTx) then some false else (bif (x0.fAt != x1.fAt) then some false else some true))
theorem laws_eqRef.calls {k : Nat} {x0 : Ref} {x1 : Ref}  {w : World}  {r : Bool} (H : laws_eqRef.f k x0 x1 = some r) :
    Calls Try.prog 124 ([.agg #[(.int .i64 x0.fTx), (.int .i64 x0.fAt)], .agg #[(.int .i64 x1.fTx), (.int .i64 x1.fAt)]] : List Value).toArray w (fun e w_ => ∃ v, e = .returned v ∧ v = (.bool r) ∧ Mem w [] w_ []) := by
  have HM := Mem.start w
  refine calls_run (N := 15) Try.func124 rfl rfl rfl rfl ?_
  unfold laws_eqRef.f at H
  refine run_seq ?_
  refine run_region rfl ?_
  refine ops_does rfl (guard_none rfl) rfl rfl (does_box (cs := [.int .i64 x0.fTx, .int .i64 x0.fAt]) rfl rfl rfl HM) ?_
  rintro _ w1549 ⟨b1543, rfl, HM⟩
  refine ops_does rfl (guard_none rfl) rfl rfl (does_box (cs := [.int .i64 x1.fTx, .int .i64 x1.fAt]) rfl rfl rfl HM) ?_
  rintro _ w1550 ⟨b1546, rfl, HM⟩
  refine ops_ex rfl (guard_none rfl) rfl rfl (ex_assign rfl rfl) ?_
  refine ops_nil ?_
  refine at_then ?_
  refine run_seq ?_
  refine run_seq ?_
  refine run_region rfl ?_
  refine ops_ex rfl (guard_none rfl) rfl rfl (ex_fieldAddr (off' := 0) rfl rfl Try.underlying99 rfl tsz2 rfl) ?_
  refine ops_ex rfl (guard_none rfl) rfl rfl (ex_load1 rfl rfl Try.underlying2 rfl ((HM.box_at 1 rfl) 0 _ rfl)) ?_
  refine ops_ex rfl (guard_none rfl) rfl rfl (ex_fieldAddr (off' := 0) rfl rfl Try.underlying99 rfl tsz2 rfl) ?_
  refine ops_ex rfl (guard_none rfl) rfl rfl (ex_load1 rfl rfl Try.underlying2 rfl ((HM.box_at 0 rfl) 0 _ rfl)) ?_
  refine ops_ex rfl (guard_none rfl) rfl rfl (ex_neq rfl rfl rfl) ?_
  refine ops_nil ?_
  refine at_then ?_
  refine run_cond (b := (x0.fTx != x1.fTx)) rfl (fun hb1552 => ?_) (fun hb1552 => ?_)
  · replace H := cond_t hb1552 H
    refine run_seq ?_
    refine run_region rfl ?_
    refine ops_ex rfl (guard_none rfl) rfl rfl (ex_assign rfl rfl) ?_
    refine ops_nil ?_
    refine at_then ?_
    refine run_ret ?_
    refine at_then_ret ?_
    replace HM := (HM.front 0 rfl rfl).drop
    replace HM := (HM.front 0 rfl rfl).drop
    have hR := Option.some.inj H
    subst hR
    exact at_ret1 rfl rfl ⟨_, rfl, rfl, HM⟩
  · replace H := cond_f hb1552 H
    refine run_skip ?_
    refine at_then ?_
    refine run_seq ?_
    refine run_seq ?_
    refine run_region rfl ?_
    refine ops_ex rfl (guard_none rfl) rfl rfl (ex_fieldAddr (off' := 1) rfl rfl Try.underlying99 rfl tsz2 rfl) ?_
    refine ops_ex rfl (guard_none rfl) rfl rfl (ex_load1 rfl rfl Try.underlying2 rfl ((HM.box_at 1 rfl) 1 _ rfl)) ?_
    refine ops_ex rfl (guard_none rfl) rfl rfl (ex_fieldAddr (off' := 1) rfl rfl Try.underlying99 rfl tsz2 rfl) ?_
    refine ops_ex rfl (guard_none rfl) rfl rfl (ex_load1 rfl rfl Try.underlying2 rfl ((HM.box_at 0 rfl) 1 _ rfl)) ?_
    refine ops_ex rfl (guard_none rfl) rfl rfl (ex_neq rfl rfl rfl) ?_
    refine ops_nil ?_
    refine at_then ?_
    refine run_cond (b := (x0.fAt != x1.fAt)) rfl (fun hb1553 => ?_) (fun hb1553 => ?_)
    · replace H := cond_t hb1553 H
      refine run_seq ?_
      refine run_region rfl ?_
      refine ops_ex rfl (guard_none rfl) rfl rfl (ex_assign rfl rfl) ?_
      refine ops_nil ?_
      refine at_then ?_
      refine run_ret ?_
      refine at_then_ret ?_
      replace HM := (HM.front 0 rfl rfl).drop
      replace HM := (HM.front 0 rfl rfl).drop
      have hR := Option.some.inj H
      subst hR
      exact at_ret1 rfl rfl ⟨_, rfl, rfl, HM⟩
    · replace H := cond_f hb1553 H
      refine run_skip ?_
      refine at_then ?_
      refine run_seq ?_
      refine run_region rfl ?_
      refine ops_ex rfl (guard_none rfl) rfl rfl (ex_assign rfl rfl) ?_
      refine ops_nil ?_
      refine at_then ?_
      refine run_ret ?_
      replace HM := (HM.front 0 rfl rfl).drop
      replace HM := (HM.front 0 rfl rfl).drop
      have hR := Option.some.inj H
      subst hR
      exact at_ret1 rfl rfl ⟨_, rfl, rfl, HM⟩

def laws_eqMember.f (k : Nat) (x0 : Member) (x1 : Member) : Option Bool := (bif (x0.fKey != x1.fKey) then some false else ((laws_eqRef.f k x0.fRef x1.fRef).bind fun t1567 => (bif !t1567 then some false else some true)))
theorem laws_eqMember.calls {k : Nat} {x0 : Member} {x1 : Member}  {w : World}  {r : Bool} (H : laws_eqMember.f k x0 x1 = some r) :
    Calls Try.prog 114 ([.agg #[(.int .i64 x0.fKey), (.int .i64 x0.fRef.fTx), (.int .i64 x0.fRef.fAt)], .agg #[(.int .i64 x1.fKey), (.int .i64 x1.fRef.fTx), (.int .i64 x1.fRef.fAt)]] : List Value).toArray w (fun e w_ => ∃ v, e = .returned v ∧ v = (.bool r) ∧ Mem w [] w_ []) := by
  have HM := Mem.start w
  refine calls_run (N := 16) Try.func114 rfl rfl rfl rfl ?_
  unfold laws_eqMember.f at H
  refine run_seq ?_
  refine run_region rfl ?_
  refine ops_does rfl (guard_none rfl) rfl rfl (does_box (cs := [.int .i64 x0.fKey, .int .i64 x0.fRef.fTx, .int .i64 x0.fRef.fAt]) rfl rfl rfl HM) ?_
  rintro _ w1563 ⟨b1557, rfl, HM⟩
  refine ops_does rfl (guard_none rfl) rfl rfl (does_box (cs := [.int .i64 x1.fKey, .int .i64 x1.fRef.fTx, .int .i64 x1.fRef.fAt]) rfl rfl rfl HM) ?_
  rintro _ w1564 ⟨b1560, rfl, HM⟩
  refine ops_ex rfl (guard_none rfl) rfl rfl (ex_assign rfl rfl) ?_
  refine ops_nil ?_
  refine at_then ?_
  refine run_seq ?_
  refine run_seq ?_
  refine run_region rfl ?_
  refine ops_ex rfl (guard_none rfl) rfl rfl (ex_fieldAddr (off' := 0) rfl rfl Try.underlying144 rfl tsz2 rfl) ?_
  refine ops_ex rfl (guard_none rfl) rfl rfl (ex_load1 rfl rfl Try.underlying2 rfl ((HM.box_at 1 rfl) 0 _ rfl)) ?_
  refine ops_ex rfl (guard_none rfl) rfl rfl (ex_fieldAddr (off' := 0) rfl rfl Try.underlying144 rfl tsz2 rfl) ?_
  refine ops_ex rfl (guard_none rfl) rfl rfl (ex_load1 rfl rfl Try.underlying2 rfl ((HM.box_at 0 rfl) 0 _ rfl)) ?_
  refine ops_ex rfl (guard_none rfl) rfl rfl (ex_neq rfl rfl rfl) ?_
  refine ops_nil ?_
  refine at_then ?_
  refine run_cond (b := (x0.fKey != x1.fKey)) rfl (fun hb1566 => ?_) (fun hb1566 => ?_)
  · replace H := cond_t hb1566 H
    refine run_seq ?_
    refine run_region rfl ?_
    refine ops_ex rfl (guard_none rfl) rfl rfl (ex_assign rfl rfl) ?_
    refine ops_nil ?_
    refine at_then ?_
    refine run_ret ?_
    refine at_then_ret ?_
    replace HM := (HM.front 0 rfl rfl).drop
    replace HM := (HM.front 0 rfl rfl).drop
    have hR := Option.some.inj H
    subst hR
    exact at_ret1 rfl rfl ⟨_, rfl, rfl, HM⟩
  · replace H := cond_f hb1566 H
    refine run_skip ?_
    refine at_then ?_
    refine run_seq ?_
    refine run_seq ?_
    obtain ⟨t1567, h1568, H⟩ := bind_some H
    refine run_region rfl ?_
    refine ops_ex rfl (guard_none rfl) rfl rfl (ex_fieldAddr (off' := 1) rfl rfl Try.underlying144 rfl tsz99 rfl) ?_
    refine ops_ex rfl (guard_none rfl) rfl rfl (ex_loadN (cs := [(.int .i64 x0.fRef.fTx), (.int .i64 x0.fRef.fAt)]) rfl rfl Try.underlying99 rfl tsz99 rfl ((HM.box_at 1 rfl).sub 1 2 rfl)) ?_
    refine ops_ex rfl (guard_none rfl) rfl rfl (ex_fieldAddr (off' := 1) rfl rfl Try.underlying144 rfl tsz99 rfl) ?_
    refine ops_ex rfl (guard_none rfl) rfl rfl (ex_loadN (cs := [(.int .i64 x1.fRef.fTx), (.int .i64 x1.fRef.fAt)]) rfl rfl Try.underlying99 rfl tsz99 rfl ((HM.box_at 0 rfl).sub 1 2 rfl)) ?_
    refine ops_does rfl (guard_none rfl) rfl rfl (does_callk rfl callok124 rfl (laws_eqRef.calls (x0 := x0.fRef) (x1 := x1.fRef) h1568)) ?_
    rintro _ w1569 ⟨rfl, hn⟩
    replace HM : Mem w [] w1569 [box b1560 144 [.int .i64 x1.fKey, .int .i64 x1.fRef.fTx, .int .i64 x1.fRef.fAt], box b1557 144 [.int .i64 x0.fKey, .int .i64 x0.fRef.fTx, .int .i64 x0.fRef.fAt]] := HM.call hn
    refine ops_ex rfl (guard_none rfl) rfl rfl (ex_not rfl rfl) ?_
    refine ops_nil ?_
    refine at_then ?_
    refine run_cond (b := !t1567) rfl (fun hb1570 => ?_) (fun hb1570 => ?_)
    · replace H := cond_t hb1570 H
      refine run_seq ?_
      refine run_region rfl ?_
      refine ops_ex rfl (guard_none rfl) rfl rfl (ex_assign rfl rfl) ?_
      refine ops_nil ?_
      refine at_then ?_
      refine run_ret ?_
      refine at_then_ret ?_
      replace HM := (HM.front 0 rfl rfl).drop
      replace HM := (HM.front 0 rfl rfl).drop
      have hR := Option.some.inj H
      subst hR
      exact at_ret1 rfl rfl ⟨_, rfl, rfl, HM⟩
    · replace H := cond_f hb1570 H
      refine run_skip ?_
      refine at_then ?_
      refine run_seq ?_
      refine run_region rfl ?_
      refine ops_ex rfl (guard_none rfl) rfl rfl (ex_assign rfl rfl) ?_
      refine ops_nil ?_
      refine at_then ?_
      refine run_ret ?_
      replace HM := (HM.front 0 rfl rfl).drop
      replace HM := (HM.front 0 rfl rfl).drop
      have hR := Option.some.inj H
      subst hR
      exact at_ret1 rfl rfl ⟨_, rfl, rfl, HM⟩

def laws_eqMemberS.l0 (x0 : List Member) (x1 : List Member) : Nat → Int → Option (Bool ⊕ Unit)
  | 0, _ => none
  | k + 1, a1630 => (bif (decide (a1630 < (x0.length : Int))) then (chk (idxOk a1630 x0.length) (chk (idxOk a1630 x1.length) ((laws_eqMember.f k (gt x0 a1630) (gt x1 a1630)).bind fun t1646 => (bif !t1646 then some (.inl false) else laws_eqMemberS.l0 x0 x1 k (wrap64 (a1630 + 1)))))) else some (.inr ()))
theorem laws_eqMemberS.l0_z (x0 : List Member) (x1 : List Member) (a1630 : Int) : laws_eqMemberS.l0 x0 x1 0 a1630 = none := rfl
theorem laws_eqMemberS.l0_s (x0 : List Member) (x1 : List Member) (k : Nat) (a1630 : Int) : laws_eqMemberS.l0 x0 x1 (k + 1) a1630 = (bif (decide (a1630 < (x0.length : Int))) then (chk (idxOk a1630 x0.length) (chk (idxOk a1630 x1.length) ((laws_eqMember.f k (gt x0 a1630) (gt x1 a1630)).bind fun t1646 => (bif !t1646 then some (.inl false) else laws_eqMemberS.l0 x0 x1 k (wrap64 (a1630 + 1)))))) else some (.inr ())) := rfl
def laws_eqMemberS.f (k : Nat) (x0 : List Member) (x1 : List Member) : Option Bool := (bif ((x0.length : Int) != (x1.length : Int)) then some false else ((laws_eqMemberS.l0 x0 x1 k 0).bind fun o1620 => thn o1620 (fun r => some r) (fun _ => some true)))
theorem laws_eqMemberS.calls {k : Nat} {x0 : List Member} {x1 : List Member} {p0 : Value} {p1 : Value} {w : World} (hp0 : RdS kMember w p0 x0) (hp1 : RdS kMember w p1 x1) {r : Bool} (H : laws_eqMemberS.f k x0 x1 = some r) :
    Calls Try.prog 53 ([p0, p1] : List Value).toArray w (fun e w_ => ∃ v, e = .returned v ∧ v = (.bool r) ∧ Mem w [] w_ []) := by
  have HM := Mem.start w
  refine calls_run (N := 27) Try.func53 rfl rfl rfl rfl ?_
  unfold laws_eqMemberS.f at H
  refine run_seq ?_
  refine run_region rfl ?_
  refine ops_ex rfl (guard_none rfl) rfl rfl (ex_assign rfl rfl) ?_
  refine ops_nil ?_
  refine at_then ?_
  refine run_seq ?_
  refine run_seq ?_
  refine run_region rfl ?_
  refine ops_ex rfl (guard_none rfl) rfl rfl (ex_move rfl rfl) ?_
  refine ops_ex rfl (guard_none rfl) rfl rfl (ex_len (d := kMember) (xs := x0) rfl rfl Try.underlying49 hp0) ?_
  refine ops_ex rfl (guard_none rfl) rfl rfl (ex_move rfl rfl) ?_
  refine ops_ex rfl (guard_none rfl) rfl rfl (ex_len (d := kMember) (xs := x1) rfl rfl Try.underlying49 hp1) ?_
  refine ops_ex rfl (guard_none rfl) rfl rfl (ex_neq rfl rfl rfl) ?_
  refine ops_nil ?_
  refine at_then ?_
  refine run_cond (b := ((x0.length : Int) != (x1.length : Int))) rfl (fun hb1594 => ?_) (fun hb1594 => ?_)
  · replace H := cond_t hb1594 H
    refine run_seq ?_
    refine run_region rfl ?_
    refine ops_ex rfl (guard_none rfl) rfl rfl (ex_assign rfl rfl) ?_
    refine ops_nil ?_
    refine at_then ?_
    refine run_ret ?_
    refine at_then_ret ?_
    have hR := Option.some.inj H
    subst hR
    exact at_ret1 rfl rfl ⟨_, rfl, rfl, HM⟩
  · replace H := cond_f hb1594 H
    refine run_skip ?_
    refine at_then ?_
    obtain ⟨o1620, ho1621, H⟩ := bind_some H
    refine run_mid (fun ρ_ w_ => Sum.inr () = o1620 ∧ ρ_ = [] ∧ Mem w [] w_ []) ?_ ?_
    · skip
      refine run_seq ?_
      refine run_region rfl ?_
      refine ops_ex rfl (guard_none rfl) rfl rfl (ex_assign rfl rfl) ?_
      refine ops_nil ?_
      refine at_then ?_
      refine run_block ?_
      refine run_loop (fun k_ ρ_ w_ => ∃ a1630 : Int, laws_eqMemberS.l0 x0 x1 k_ a1630 = some o1620 ∧ ρ_ = [(0, p0), (1, p1), (5, .int .i64 a1630)] ∧ Mem w [] w_ []) k (ρ1 := [(0, p0), (1, p1), (5, .int .i64 0)]) ⟨_, ho1621, rfl, HM⟩ (Sub.cons rfl (Sub.cons rfl (Sub.cons rfl Sub.nil))) ?_
      clear HM ho1621
      rintro k1639 _ w1640 ⟨a1630, ho1621, rfl, HM⟩
      obtain _ | k1639 := k1639
      · exact nomatch ((laws_eqMemberS.l0_z x0 x1 a1630).symm.trans ho1621)
      replace ho1621 := (laws_eqMemberS.l0_s x0 x1 k1639 a1630).symm.trans ho1621
      refine run_seq ?_
      refine run_seq ?_
      refine run_region rfl ?_
      refine ops_ex rfl (guard_none rfl) rfl rfl (ex_move rfl rfl) ?_
      refine ops_ex rfl (guard_none rfl) rfl rfl (ex_move rfl rfl) ?_
      refine ops_ex rfl (guard_none rfl) rfl rfl (ex_len (d := kMember) (xs := x0) rfl rfl Try.underlying49 hp0) ?_
      refine ops_ex rfl (guard_none rfl) rfl rfl (ex_lss rfl rfl rfl) ?_
      refine ops_nil ?_
      refine at_then ?_
      refine run_cond (b := (decide (a1630 < (x0.length : Int)))) rfl (fun hb1641 => ?_) (fun hb1641 => ?_)
      · replace ho1621 := cond_t hb1641 ho1621
        refine run_skip ?_
        refine at_then ?_
        refine run_seq ?_
        refine run_block ?_
        refine run_seq ?_
        obtain ⟨e1642, ho1621⟩ := chk_some ho1621
        obtain ⟨e1644, ho1621⟩ := chk_some ho1621
        obtain ⟨t1646, h1647, ho1621⟩ := bind_some ho1621
        refine run_drawf (fun w_ => Mem w [] w_ []) [(0, true), (1, true), (2, true), (3, true), (4, true), (5, true), (6, true), (7, true), (8, false), (9, true)] mixed rfl rfl (by kernel_rfl) ?_
        replace HM := HM.grow (fr_drew _)
        have hS := Mem.suf (M := []) HM
        refine drwp_take rfl (guard_none rfl) rfl rfl (fun w_ hS_ => (ex_move rfl rfl)) hS ?_
        refine drwp_take rfl (guard_none rfl) rfl rfl (fun w_ hS_ => (ex_move rfl rfl)) hS ?_
        have hc1643 : CellsAt _ (sb p0) (so p0 + (a1630).toNat * 3) [(.int .i64 ((gt x0 a1630).fKey)), (.int .i64 ((gt x0 a1630).fRef.fTx)), (.int .i64 ((gt x0 a1630).fRef.fAt))] := rd_plain hp0 e1642
        refine drwp_take rfl (guard_none rfl) rfl rfl (fun w_ hS_ => (ex_indexAddr (d := kMember) rfl rfl rfl Try.underlying49 tsz144 hp0 (idx_lo e1642) (idx_hi e1642))) hS ?_
        refine drwp_take rfl (guard_none rfl) rfl rfl (fun w_ hS_ => (ex_loadN (cs := [(.int .i64 ((gt x0 a1630).fKey)), (.int .i64 ((gt x0 a1630).fRef.fTx)), (.int .i64 ((gt x0 a1630).fRef.fAt))]) rfl rfl Try.underlying144 rfl tsz144 rfl ((hS_.at_ hc1643).sub 0 3 rfl))) hS ?_
        refine drwp_take rfl (guard_none rfl) rfl rfl (fun w_ hS_ => (ex_move rfl rfl)) hS ?_
        refine drwp_take rfl (guard_none rfl) rfl rfl (fun w_ hS_ => (ex_move rfl rfl)) hS ?_
        have hc1645 : CellsAt _ (sb p1) (so p1 + (a1630).toNat * 3) [(.int .i64 ((gt x1 a1630).fKey)), (.int .i64 ((gt x1 a1630).fRef.fTx)), (.int .i64 ((gt x1 a1630).fRef.fAt))] := rd_plain hp1 e1644
        refine drwp_take rfl (guard_none rfl) rfl rfl (fun w_ hS_ => (ex_indexAddr (d := kMember) rfl rfl rfl Try.underlying49 tsz144 hp1 (idx_lo e1644) (idx_hi e1644))) hS ?_
        refine drwp_take rfl (guard_none rfl) rfl rfl (fun w_ hS_ => (ex_loadN (cs := [(.int .i64 ((gt x1 a1630).fKey)), (.int .i64 ((gt x1 a1630).fRef.fTx)), (.int .i64 ((gt x1 a1630).fRef.fAt))]) rfl rfl Try.underlying144 rfl tsz144 rfl ((hS_.at_ hc1645).sub 0 3 rfl))) hS ?_
        refine drwp_one rfl (guard_none rfl) rfl rfl (does_callk rfl callok114 rfl (laws_eqMember.calls (x0 := (gt x0 a1630)) (x1 := (gt x1 a1630)) h1647)) ?_
        rintro _ w1648 ⟨rfl, hn⟩
        replace HM : Mem w [] w1648 [] := HM.call hn
        refine ⟨Mem.suf (M := []) HM, ?_⟩
        have hS := Mem.suf (M := []) HM
        refine drwp_take rfl (guard_none rfl) rfl rfl (fun w_ hS_ => (ex_not rfl rfl)) hS ?_
        refine drwp_done ?_
        refine at_then ?_
        refine run_cond (b := !t1646) rfl (fun hb1649 => ?_) (fun hb1649 => ?_)
        · replace ho1621 := cond_t hb1649 ho1621
          refine run_seq ?_
          refine run_region rfl ?_
          refine ops_ex rfl (guard_none rfl) rfl rfl (ex_assign rfl rfl) ?_
          refine ops_nil ?_
          refine at_then ?_
          refine run_ret ?_
          refine at_block_ret ?_
          refine at_then_ret ?_
          refine at_then_ret ?_
          refine at_block_ret ?_
          refine at_then_ret ?_
          have hR := Option.some.inj ho1621
          subst hR
          have hT := thn_inl H
          have hR := Option.some.inj hT
          subst hR
          exact at_ret1 rfl rfl ⟨_, rfl, rfl, HM⟩
        · replace ho1621 := cond_f hb1649 ho1621
          refine run_skip ?_
          refine at_block ?_
          refine at_then ?_
          refine run_region rfl ?_
          refine ops_ex rfl (guard_none rfl) rfl rfl (ex_move rfl rfl) ?_
          refine ops_ex rfl (guard_none rfl) rfl rfl (ex_add rfl rfl rfl) ?_
          refine ops_ex rfl (guard_none rfl) rfl rfl (ex_assign rfl rfl) ?_
          refine ops_nil ?_
          exact at_again k1639 (ρ1 := [(0, p0), (1, p1), (5, .int .i64 (wrap64 (a1630 + 1)))]) (Nat.lt_succ_self _) ⟨_, ho1621, rfl, HM⟩ (Sub.cons rfl (Sub.cons rfl (Sub.cons rfl Sub.nil)))
      · replace ho1621 := cond_f hb1641 ho1621
        refine run_exit ?_
        refine at_then_exit ?_
        refine at_then_exit ?_
        refine at_block_exit ?_
        exact at_mid (ρ' := []) ⟨(Option.some.inj ho1621), rfl, HM⟩ Sub.nil
    · rintro _ w1650 ⟨rfl, rfl, HM⟩
      replace H := (thn_inr H)
      refine run_seq ?_
      refine run_region rfl ?_
      refine ops_ex rfl (guard_none rfl) rfl rfl (ex_assign rfl rfl) ?_
      refine ops_nil ?_
      refine at_then ?_
      refine run_ret ?_
      have hR := Option.some.inj H
      subst hR
      exact at_ret1 rfl rfl ⟨_, rfl, rfl, HM⟩

def laws_markMemberS.l0  : Nat → (List Member) → Int → Int → Option ((List Member) × Int)
  | 0, _, _, _ => none
  | k + 1, a1711, a1713, a1714 => (bif (decide (a1714 < (a1711.length : Int))) then (chk (idxOk a1714 a1711.length) (chk (idxOk a1714 (a1711.set (a1714).toNat (⟨a1713, (gt a1711 a1714).fRef⟩ : Member)).length) (chk (idxOk a1714 ((a1711.set (a1714).toNat (⟨a1713, (gt a1711 a1714).fRef⟩ : Member)).set (a1714).toNat (⟨(gt (a1711.set (a1714).toNat (⟨a1713, (gt a1711 a1714).fRef⟩ : Member)) a1714).fKey, (⟨wrap64 (a1713 + 1), (gt (a1711.set (a1714).toNat (⟨a1713, (gt a1711 a1714).fRef⟩ : Member)) a1714).fRef.fAt⟩ : Ref)⟩ : Member)).length) (laws_markMemberS.l0 k (((a1711.set (a1714).toNat (⟨a1713, (gt a1711 a1714).fRef⟩ : Member)).set (a1714).toNat (⟨(gt (a1711.set (a1714).toNat (⟨a1713, (gt a1711 a1714).fRef⟩ : Member)) a1714).fKey, (⟨wrap64 (a1713 + 1), (gt (a1711.set (a1714).toNat (⟨a1713, (gt a1711 a1714).fRef⟩ : Member)) a1714).fRef.fAt⟩ : Ref)⟩ : Member)).set (a1714).toNat (⟨(gt ((a1711.set (a1714).toNat (⟨a1713, (gt a1711 a1714).fRef⟩ : Member)).set (a1714).toNat (⟨(gt (a1711.set (a1714).toNat (⟨a1713, (gt a1711 a1714).fRef⟩ : Member)) a1714).fKey, (⟨wrap64 (a1713 + 1), (gt (a1711.set (a1714).toNat (⟨a1713, (gt a1711 a1714).fRef⟩ : Member)) a1714).fRef.fAt⟩ : Ref)⟩ : Member)) a1714).fKey, (⟨(gt ((a1711.set (a1714).toNat (⟨a1713, (gt a1711 a1714).fRef⟩ : Member)).set (a1714).toNat (⟨(gt (a1711.set (a1714).toNat (⟨a1713, (gt a1711 a1714).fRef⟩ : Member)) a1714).fKey, (⟨wrap64 (a1713 + 1), (gt (a1711.set (a1714).toNat (⟨a1713, (gt a1711 a1714).fRef⟩ : Member)) a1714).fRef.fAt⟩ : Ref)⟩ : Member)) a1714).fRef.fTx, wrap64 ((wrap64 (a1713 + 1)) + 1)⟩ : Ref)⟩ : Member)) (wrap64 ((wrap64 ((wrap64 (a1713 + 1)) + 1)) + 1)) (wrap64 (a1714 + 1)))))) else some (a1711, a1713))
theorem laws_markMemberS.l0_z  (a1711 : List Member) (a1713 : Int) (a1714 : Int) : laws_markMemberS.l0 0 a1711 a1713 a1714 = none := rfl
theorem laws_markMemberS.l0_s  (k : Nat) (a1711 : List Member) (a1713 : Int) (a1714 : Int) : laws_markMemberS.l0 (k + 1) a1711 a1713 a1714 = (bif (decide (a1714 < (a1711.length : Int))) then (chk (idxOk a1714 a1711.length) (chk (idxOk a1714 (a1711.set (a1714).toNat (⟨a1713, (gt a1711 a1714).fRef⟩ : Member)).length) (chk (idxOk a1714 ((a1711.set (a1714).toNat (⟨a1713, (gt a1711 a1714).fRef⟩ : Member)).set (a1714).toNat (⟨(gt (a1711.set (a1714).toNat (⟨a1713, (gt a1711 a1714).fRef⟩ : Member)) a1714).fKey, (⟨wrap64 (a1713 + 1), (gt (a1711.set (a1714).toNat (⟨a1713, (gt a1711 a1714).fRef⟩ : Member)) a1714).fRef.fAt⟩ : Ref)⟩ : Member)).length) (laws_markMemberS.l0 k (((a1711.set (a1714).toNat (⟨a1713, (gt a1711 a1714).fRef⟩ : Member)).set (a1714).toNat (⟨(gt (a1711.set (a1714).toNat (⟨a1713, (gt a1711 a1714).fRef⟩ : Member)) a1714).fKey, (⟨wrap64 (a1713 + 1), (gt (a1711.set (a1714).toNat (⟨a1713, (gt a1711 a1714).fRef⟩ : Member)) a1714).fRef.fAt⟩ : Ref)⟩ : Member)).set (a1714).toNat (⟨(gt ((a1711.set (a1714).toNat (⟨a1713, (gt a1711 a1714).fRef⟩ : Member)).set (a1714).toNat (⟨(gt (a1711.set (a1714).toNat (⟨a1713, (gt a1711 a1714).fRef⟩ : Member)) a1714).fKey, (⟨wrap64 (a1713 + 1), (gt (a1711.set (a1714).toNat (⟨a1713, (gt a1711 a1714).fRef⟩ : Member)) a1714).fRef.fAt⟩ : Ref)⟩ : Member)) a1714).fKey, (⟨(gt ((a1711.set (a1714).toNat (⟨a1713, (gt a1711 a1714).fRef⟩ : Member)).set (a1714).toNat (⟨(gt (a1711.set (a1714).toNat (⟨a1713, (gt a1711 a1714).fRef⟩ : Member)) a1714).fKey, (⟨wrap64 (a1713 + 1), (gt (a1711.set (a1714).toNat (⟨a1713, (gt a1711 a1714).fRef⟩ : Member)) a1714).fRef.fAt⟩ : Ref)⟩ : Member)) a1714).fRef.fTx, wrap64 ((wrap64 (a1713 + 1)) + 1)⟩ : Ref)⟩ : Member)) (wrap64 ((wrap64 ((wrap64 (a1713 + 1)) + 1)) + 1)) (wrap64 (a1714 + 1)))))) else some (a1711, a1713)) := rfl
def laws_markMemberS.f (k : Nat) (x0 : List Member) (x1 : Int) : Option (Int × (List Member)) := ((laws_markMemberS.l0 k x0 x1 0).bind (cur2 (fun a1702 a1704 => some (a1704, a1702))))
theorem laws_markMemberS.calls {k : Nat} {x0 : List Member} {x1 : Int} {p0 : Value} {w wo : World} {X : List Nat} (hwo : Olds wo w X) (hX : Hold w [own kMember 144 p0 x0] X) (hXn : X.Nodup) (hXl : ∀ b ∈ X, b < w.heap.size)  {r : Int × (List Member)} (H : laws_markMemberS.f k x0 x1 = some r) :
    Calls Try.prog 54 ([p0, .int .i64 x1] : List Value).toArray w (fun e w_ => ∃ v, e = .returned v ∧ v = (.int .i64 r.1) ∧ Mem w X w_ [own kMember 144 p0 r.2]) := by
  have HM := Mem.startX hX hXn hXl
  refine calls_run (N := 36) Try.func54 rfl rfl rfl rfl ?_
  unfold laws_markMemberS.f at H
  refine run_seq ?_
  refine run_region rfl ?_
  refine ops_ex rfl (guard_none rfl) rfl rfl (ex_assign rfl rfl) ?_
  refine ops_nil ?_
  refine at_then ?_
  obtain ⟨o1705, ho1706, H⟩ := bind_some H
  refine run_mid (fun ρ_ w_ => ∃ a1702 : List Member, ∃ a1704 : Int, (a1702, a1704) = o1705 ∧ ρ_ = [(1, .int .i64 a1704)] ∧ Mem w X w_ [own kMember 144 p0 a1702]) ?_ ?_
  · clear H
    refine run_seq ?_
    refine run_region rfl ?_
    refine ops_ex rfl (guard_none rfl) rfl rfl (ex_assign rfl rfl) ?_
    refine ops_nil ?_
    refine at_then ?_
    refine run_block ?_
    refine run_loop (fun k_ ρ_ w_ => ∃ a1711 : List Member, ∃ a1713 : Int, ∃ a1714 : Int, laws_markMemberS.l0 k_ a1711 a1713 a1714 = some o1705 ∧ ρ_ = [(0, p0), (1, .int .i64 a1713), (5, .int .i64 a1714)] ∧ Mem w X w_ [own kMember 144 p0 a1711]) k (ρ1 := [(0, p0), (1, .int .i64 x1), (5, .int .i64 0)]) ⟨_, _, _, ho1706, rfl, HM⟩ (Sub.cons rfl (Sub.cons rfl (Sub.cons rfl Sub.nil))) ?_
    clear HM ho1706
    rintro k1719 _ w1720 ⟨a1711, a1713, a1714, ho1706, rfl, HM⟩
    obtain _ | k1719 := k1719
    · exact nomatch ((laws_markMemberS.l0_z a1711 a1713 a1714).symm.trans ho1706)
    replace ho1706 := (laws_markMemberS.l0_s k1719 a1711 a1713 a1714).symm.trans ho1706
    refine run_seq ?_
    refine run_seq ?_
    refine run_region rfl ?_
    refine ops_ex rfl (guard_none rfl) rfl rfl (ex_move rfl rfl) ?_
    refine ops_ex rfl (guard_none rfl) rfl rfl (ex_move rfl rfl) ?_
    refine ops_ex rfl (guard_none rfl) rfl rfl (ex_len (d := kMember) (xs := a1711) rfl rfl Try.underlying49 (HM.own_rd 0 rfl)) ?_
    refine ops_ex rfl (guard_none rfl) rfl rfl (ex_lss rfl rfl rfl) ?_
    refine ops_nil ?_
    refine at_then ?_
    refine run_cond (b := (decide (a1714 < (a1711.length : Int)))) rfl (fun hb1721 => ?_) (fun hb1721 => ?_)
    · replace ho1706 := cond_t hb1721 ho1706
      refine run_skip ?_
      refine at_then ?_
      refine run_seq ?_
      refine run_block ?_
      refine run_seq ?_
      obtain ⟨e1722, ho1706⟩ := chk_some ho1706
      refine run_region rfl ?_
      refine ops_ex rfl (guard_none rfl) rfl rfl (ex_move rfl rfl) ?_
      refine ops_ex rfl (guard_none rfl) rfl rfl (ex_move rfl rfl) ?_
      refine ops_ex rfl (guard_none rfl) rfl rfl (ex_move rfl rfl) ?_
      refine ops_ex rfl (guard_none rfl) rfl rfl (ex_indexAddr (d := kMember) rfl rfl rfl Try.underlying49 tsz144 (HM.own_rd 0 rfl) (idx_lo e1722) (idx_hi e1722)) ?_
      refine ops_ex rfl (guard_none rfl) rfl rfl (ex_fieldAddr (off' := so p0 + (a1714).toNat * 3) rfl rfl Try.underlying144 rfl tsz2 rfl) ?_
      refine ops_doesS rfl (guard_none rfl) rfl (does_setField (fo := 0) (vs := [(.int .i64 a1713)]) (y := (⟨a1713, (gt a1711 a1714).fRef⟩ : Member)) kMember rfl rfl rfl rfl rfl tsz2 (Ones.int Ones.nil) rfl rfl (idx_nat e1722) (fun _ _ _ h => by rw [← gt_eq (idx_nat e1722)] at h; obtain ⟨rfl, h2⟩ := h; exact ⟨rfl, h2⟩) HM) ?_
      rintro w1723 HM
      refine ops_nil ?_
      refine at_then ?_
      refine run_seq ?_
      refine run_region rfl ?_
      refine ops_ex rfl (guard_none rfl) rfl rfl (ex_move rfl rfl) ?_
      refine ops_ex rfl (guard_none rfl) rfl rfl (ex_add rfl rfl rfl) ?_
      refine ops_ex rfl (guard_none rfl) rfl rfl (ex_assign rfl rfl) ?_
      refine ops_nil ?_
      refine at_then ?_
      refine run_seq ?_
      obtain ⟨e1724, ho1706⟩ := chk_some ho1706
      refine run_region rfl ?_
      refine ops_ex rfl (guard_none rfl) rfl rfl (ex_move rfl rfl) ?_
      refine ops_ex rfl (guard_none rfl) rfl rfl (ex_move rfl rfl) ?_
      refine ops_ex rfl (guard_none rfl) rfl rfl (ex_move rfl rfl) ?_
      refine ops_ex rfl (guard_none rfl) rfl rfl (ex_indexAddr (d := kMember) rfl rfl rfl Try.underlying49 tsz144 (HM.own_rd 0 rfl) (idx_lo e1724) (idx_hi e1724)) ?_
      refine ops_ex rfl (guard_none rfl) rfl rfl (ex_fieldAddr (off' := so p0 + (a1714).toNat * 3 + 1) rfl rfl Try.underlying144 rfl tsz99 rfl) ?_
      refine ops_ex rfl (guard_none rfl) rfl rfl (ex_fieldAddr (off' := so p0 + (a1714).toNat * 3 + 1) rfl rfl Try.underlying99 rfl tsz2 rfl) ?_
      refine ops_doesS rfl (guard_none rfl) rfl (does_setField (fo := 1) (vs := [(.int .i64 (wrap64 (a1713 + 1)))]) (y := (⟨(gt (a1711.set (a1714).toNat (⟨a1713, (gt a1711 a1714).fRef⟩ : Member)) a1714).fKey, (⟨wrap64 (a1713 + 1), (gt (a1711.set (a1714).toNat (⟨a1713, (gt a1711 a1714).fRef⟩ : Member)) a1714).fRef.fAt⟩ : Ref)⟩ : Member)) kMember rfl rfl rfl rfl rfl tsz2 (Ones.int Ones.nil) rfl rfl (idx_nat e1724) (fun _ _ _ h => by rw [← gt_eq (idx_nat e1724)] at h; obtain ⟨rfl, h2⟩ := h; exact ⟨rfl, h2⟩) HM) ?_
      rintro w1725 HM
      refine ops_nil ?_
      refine at_then ?_
      refine run_seq ?_
      refine run_region rfl ?_
      refine ops_ex rfl (guard_none rfl) rfl rfl (ex_move rfl rfl) ?_
      refine ops_ex rfl (guard_none rfl) rfl rfl (ex_add rfl rfl rfl) ?_
      refine ops_ex rfl (guard_none rfl) rfl rfl (ex_assign rfl rfl) ?_
      refine ops_nil ?_
      refine at_then ?_
      refine run_seq ?_
      obtain ⟨e1726, ho1706⟩ := chk_some ho1706
      refine run_region rfl ?_
      refine ops_ex rfl (guard_none rfl) rfl rfl (ex_move rfl rfl) ?_
      refine ops_ex rfl (guard_none rfl) rfl rfl (ex_move rfl rfl) ?_
      refine ops_ex rfl (guard_none rfl) rfl rfl (ex_move rfl rfl) ?_
      refine ops_ex rfl (guard_none rfl) rfl rfl (ex_indexAddr (d := kMember) rfl rfl rfl Try.underlying49 tsz144 (HM.own_rd 0 rfl) (idx_lo e1726) (idx_hi e1726)) ?_
      refine ops_ex rfl (guard_none rfl) rfl rfl (ex_fieldAddr (off' := so p0 + (a1714).toNat * 3 + 1) rfl rfl Try.underlying144 rfl tsz99 rfl) ?_
      refine ops_ex rfl (guard_none rfl) rfl rfl (ex_fieldAddr (off' := so p0 + (a1714).toNat * 3 + 2) rfl rfl Try.underlying99 rfl tsz2 rfl) ?_
      refine ops_doesS rfl (guard_none rfl) rfl (does_setField (fo := 2) (vs := [(.int .i64 (wrap64 ((wrap64 (a1713 + 1)) + 1)))]) (y := (⟨(gt ((a1711.set (a1714).toNat (⟨a1713, (gt a1711 a1714).fRef⟩ : Member)).set (a1714).toNat (⟨(gt (a1711.set (a1714).toNat (⟨a1713, (gt a1711 a1714).fRef⟩ : Member)) a1714).fKey, (⟨wrap64 (a1713 + 1), (gt (a1711.set (a1714).toNat (⟨a1713, (gt a1711 a1714).fRef⟩ : Member)) a1714).fRef.fAt⟩ : Ref)⟩ : Member)) a1714).fKey, (⟨(gt ((a1711.set (a1714).toNat (⟨a1713, (gt a1711 a1714).fRef⟩ : Member)).set (a1714).toNat (⟨(gt (a1711.set (a1714).toNat (⟨a1713, (gt a1711 a1714).fRef⟩ : Member)) a1714).fKey, (⟨wrap64 (a1713 + 1), (gt (a1711.set (a1714).toNat (⟨a1713, (gt a1711 a1714).fRef⟩ : Member)) a1714).fRef.fAt⟩ : Ref)⟩ : Member)) a1714).fRef.fTx, wrap64 ((wrap64 (a1713 + 1)) + 1)⟩ : Ref)⟩ : Member)) kMember rfl rfl rfl rfl rfl tsz2 (Ones.int Ones.nil) rfl rfl (idx_nat e1726) (fun _ _ _ h => by rw [← gt_eq (idx_nat e1726)] at h; obtain ⟨rfl, h2⟩ := h; exact ⟨rfl, h2⟩) HM) ?_
      rintro w1727 HM
      refine ops_nil ?_
      refine at_then ?_
      refine run_region rfl ?_
      refine ops_ex rfl (guard_none rfl) rfl rfl (ex_move rfl rfl) ?_
      refine ops_ex rfl (guard_none rfl) rfl rfl (ex_add rfl rfl rfl) ?_
      refine ops_ex rfl (guard_none rfl) rfl rfl (ex_assign rfl rfl) ?_
      refine ops_nil ?_
      refine at_block ?_
      refine at_then ?_
      refine run_region rfl ?_
      refine ops_ex rfl (guard_none rfl) rfl rfl (ex_move rfl rfl) ?_
      refine ops_ex rfl (guard_none rfl) rfl rfl (ex_add rfl rfl rfl) ?_
      refine ops_ex rfl (guard_none rfl) rfl rfl (ex_assign rfl rfl) ?_
      refine ops_nil ?_
      exact at_again k1719 (ρ1 := [(0, p0), (1, .int .i64 (wrap64 ((wrap64 ((wrap64 (a1713 + 1)) + 1)) + 1))), (5, .int .i64 (wrap64 (a1714 + 1)))]) (Nat.lt_succ_self _) ⟨_, _, _, ho1706, rfl, HM⟩ (Sub.cons rfl (Sub.cons rfl (Sub.cons rfl Sub.nil)))
    · replace ho1706 := cond_f hb1721 ho1706
      refine run_exit ?_
      refine at_then_exit ?_
      refine at_then_exit ?_
      refine at_block_exit ?_
      exact at_mid (ρ' := [(1, .int .i64 a1713)]) ⟨_, _, (Option.some.inj ho1706), rfl, HM⟩ (Sub.cons rfl Sub.nil)
  · rintro _ w1728 ⟨a1702, a1704, rfl, rfl, HM⟩
    replace H := cur2_mk H
    refine run_seq ?_
    refine run_region rfl ?_
    refine ops_ex rfl (guard_none rfl) rfl rfl (ex_move rfl rfl) ?_
    refine ops_ex rfl (guard_none rfl) rfl rfl (ex_assign rfl rfl) ?_
    refine ops_nil ?_
    refine at_then ?_
    refine run_ret ?_
    have hR := Option.some.inj H
    subst hR
    exact at_ret1 rfl rfl ⟨_, rfl, rfl, HM⟩

def laws_markInt64S.l0  : Nat → (List Int) → Int → Int → Option ((List Int) × Int)
  | 0, _, _, _ => none
  | k + 1, a1782, a1784, a1785 => (bif (decide (a1785 < (a1782.length : Int))) then (chk (idxOk a1785 a1782.length) (laws_markInt64S.l0 k (a1782.set (a1785).toNat a1784) (wrap64 (a1784 + 1)) (wrap64 (a1785 + 1)))) else some (a1782, a1784))
theorem laws_markInt64S.l0_z  (a1782 : List Int) (a1784 : Int) (a1785 : Int) : laws_markInt64S.l0 0 a1782 a1784 a1785 = none := rfl
theorem laws_markInt64S.l0_s  (k : Nat) (a1782 : List Int) (a1784 : Int) (a1785 : Int) : laws_markInt64S.l0 (k + 1) a1782 a1784 a1785 = (bif (decide (a1785 < (a1782.length : Int))) then (chk (idxOk a1785 a1782.length) (laws_markInt64S.l0 k (a1782.set (a1785).toNat a1784) (wrap64 (a1784 + 1)) (wrap64 (a1785 + 1)))) else some (a1782, a1784)) := rfl
def laws_markInt64S.f (k : Nat) (x0 : List Int) (x1 : Int) : Option (Int × (List Int)) := ((laws_markInt64S.l0 k x0 x1 0).bind (cur2 (fun a1775 a1777 => some (a1777, a1775))))
theorem laws_markInt64S.calls {k : Nat} {x0 : List Int} {x1 : Int} {p0 : Value} {w wo : World} {X : List Nat} (hwo : Olds wo w X) (hX : Hold w [own kInt 2 p0 x0] X) (hXn : X.Nodup) (hXl : ∀ b ∈ X, b < w.heap.size)  {r : Int × (List Int)} (H : laws_markInt64S.f k x0 x1 = some r) :
    Calls Try.prog 115 ([p0, .int .i64 x1] : List Value).toArray w (fun e w_ => ∃ v, e = .returned v ∧ v = (.int .i64 r.1) ∧ Mem w X w_ [own kInt 2 p0 r.2]) := by
  have HM := Mem.startX hX hXn hXl
  refine calls_run (N := 19) Try.func115 rfl rfl rfl rfl ?_
  unfold laws_markInt64S.f at H
  refine run_seq ?_
  refine run_region rfl ?_
  refine ops_ex rfl (guard_none rfl) rfl rfl (ex_assign rfl rfl) ?_
  refine ops_nil ?_
  refine at_then ?_
  obtain ⟨o1778, ho1779, H⟩ := bind_some H
  refine run_mid (fun ρ_ w_ => ∃ a1775 : List Int, ∃ a1777 : Int, (a1775, a1777) = o1778 ∧ ρ_ = [(1, .int .i64 a1777)] ∧ Mem w X w_ [own kInt 2 p0 a1775]) ?_ ?_
  · clear H
    refine run_seq ?_
    refine run_region rfl ?_
    refine ops_ex rfl (guard_none rfl) rfl rfl (ex_assign rfl rfl) ?_
    refine ops_nil ?_
    refine at_then ?_
    refine run_block ?_
    refine run_loop (fun k_ ρ_ w_ => ∃ a1782 : List Int, ∃ a1784 : Int, ∃ a1785 : Int, laws_markInt64S.l0 k_ a1782 a1784 a1785 = some o1778 ∧ ρ_ = [(0, p0), (1, .int .i64 a1784), (5, .int .i64 a1785)] ∧ Mem w X w_ [own kInt 2 p0 a1782]) k (ρ1 := [(0, p0), (1, .int .i64 x1), (5, .int .i64 0)]) ⟨_, _, _, ho1779, rfl, HM⟩ (Sub.cons rfl (Sub.cons rfl (Sub.cons rfl Sub.nil))) ?_
    clear HM ho1779
    rintro k1788 _ w1789 ⟨a1782, a1784, a1785, ho1779, rfl, HM⟩
    obtain _ | k1788 := k1788
    · exact nomatch ((laws_markInt64S.l0_z a1782 a1784 a1785).symm.trans ho1779)
    replace ho1779 := (laws_markInt64S.l0_s k1788 a1782 a1784 a1785).symm.trans ho1779
    refine run_seq ?_
    refine run_seq ?_
    refine run_region rfl ?_
    refine ops_ex rfl (guard_none rfl) rfl rfl (ex_move rfl rfl) ?_
    refine ops_ex rfl (guard_none rfl) rfl rfl (ex_move rfl rfl) ?_
    refine ops_ex rfl (guard_none rfl) rfl rfl (ex_len (d := kInt) (xs := a1782) rfl rfl Try.underlying74 (HM.own_rd 0 rfl)) ?_
    refine ops_ex rfl (guard_none rfl) rfl rfl (ex_lss rfl rfl rfl) ?_
    refine ops_nil ?_
    refine at_then ?_
    refine run_cond (b := (decide (a1785 < (a1782.length : Int)))) rfl (fun hb1790 => ?_) (fun hb1790 => ?_)
    · replace ho1779 := cond_t hb1790 ho1779
      refine run_skip ?_
      refine at_then ?_
      refine run_seq ?_
      refine run_block ?_
      refine run_seq ?_
      obtain ⟨e1791, ho1779⟩ := chk_some ho1779
      refine run_region rfl ?_
      refine ops_ex rfl (guard_none rfl) rfl rfl (ex_move rfl rfl) ?_
      refine ops_ex rfl (guard_none rfl) rfl rfl (ex_move rfl rfl) ?_
      refine ops_ex rfl (guard_none rfl) rfl rfl (ex_move rfl rfl) ?_
      refine ops_ex rfl (guard_none rfl) rfl rfl (ex_indexAddr (d := kInt) rfl rfl rfl Try.underlying74 tsz2 (HM.own_rd 0 rfl) (idx_lo e1791) (idx_hi e1791)) ?_
      refine ops_doesS rfl (guard_none rfl) rfl (does_setElem (vs := [(.int .i64 a1784)]) (y := a1784) kInt rfl rfl rfl rfl rfl tsz2 rfl rfl (idx_nat e1791) (fun _ _ h => ⟨rfl, h⟩) (HM.emp.front 1 rfl rfl)) ?_
      rintro w1792 HM
      refine ops_nil ?_
      refine at_then ?_
      refine run_region rfl ?_
      refine ops_ex rfl (guard_none rfl) rfl rfl (ex_move rfl rfl) ?_
      refine ops_ex rfl (guard_none rfl) rfl rfl (ex_add rfl rfl rfl) ?_
      refine ops_ex rfl (guard_none rfl) rfl rfl (ex_assign rfl rfl) ?_
      refine ops_nil ?_
      refine at_block ?_
      refine at_then ?_
      refine run_region rfl ?_
      refine ops_ex rfl (guard_none rfl) rfl rfl (ex_move rfl rfl) ?_
      refine ops_ex rfl (guard_none rfl) rfl rfl (ex_add rfl rfl rfl) ?_
      refine ops_ex rfl (guard_none rfl) rfl rfl (ex_assign rfl rfl) ?_
      refine ops_nil ?_
      exact at_again k1788 (ρ1 := [(0, p0), (1, .int .i64 (wrap64 (a1784 + 1))), (5, .int .i64 (wrap64 (a1785 + 1)))]) (Nat.lt_succ_self _) ⟨_, _, _, ho1779, rfl, HM⟩ (Sub.cons rfl (Sub.cons rfl (Sub.cons rfl Sub.nil)))
    · replace ho1779 := cond_f hb1790 ho1779
      refine run_exit ?_
      refine at_then_exit ?_
      refine at_then_exit ?_
      refine at_block_exit ?_
      exact at_mid (ρ' := [(1, .int .i64 a1784)]) ⟨_, _, (Option.some.inj ho1779), rfl, HM⟩ (Sub.cons rfl Sub.nil)
  · rintro _ w1793 ⟨a1775, a1777, rfl, rfl, HM⟩
    replace H := cur2_mk H
    refine run_seq ?_
    refine run_region rfl ?_
    refine ops_ex rfl (guard_none rfl) rfl rfl (ex_move rfl rfl) ?_
    refine ops_ex rfl (guard_none rfl) rfl rfl (ex_assign rfl rfl) ?_
    refine ops_nil ?_
    refine at_then ?_
    refine run_ret ?_
    have hR := Option.some.inj H
    subst hR
    exact at_ret1 rfl rfl ⟨_, rfl, rfl, HM⟩

def laws_markIntsResult.f (k : Nat) (x0 : IntsResult) (x1 : Int) : Option (Int × (List Int)) := ((laws_markInt64S.f k x0.fList x1).bind fun t1812 => some (t1812.1, t1812.2))
theorem laws_markIntsResult.calls {k : Nat} {x0 : IntsResult} {x1 : Int} {p0_0 : Value} {w wo : World} {X : List Nat} (hwo : Olds wo w X) (hX : Hold w [own kInt 2 p0_0 x0.fList] X) (hXn : X.Nodup) (hXl : ∀ b ∈ X, b < w.heap.size)  {r : Int × (List Int)} (H : laws_markIntsResult.f k x0 x1 = some r) :
    Calls Try.prog 55 ([.agg #[(.int .i64 x0.fCode), p0_0], .int .i64 x1] : List Value).toArray w (fun e w_ => ∃ v, e = .returned v ∧ v = (.int .i64 r.1) ∧ Mem w X w_ [own kInt 2 p0_0 r.2]) := by
  have HM := Mem.startX hX hXn hXl
  refine calls_run (N := 10) Try.func55 rfl rfl rfl rfl ?_
  unfold laws_markIntsResult.f at H
  refine run_seq ?_
  refine run_region rfl ?_
  refine ops_does rfl (guard_none rfl) rfl rfl (does_box (cs := [.int .i64 x0.fCode, p0_0]) rfl rfl rfl HM) ?_
  rintro _ w1811 ⟨b1808, rfl, HM⟩
  refine ops_ex rfl (guard_none rfl) rfl rfl (ex_assign rfl rfl) ?_
  refine ops_nil ?_
  refine at_then ?_
  refine run_seq ?_
  obtain ⟨t1812, h1813, H⟩ := bind_some H
  refine run_region rfl ?_
  refine ops_ex rfl (guard_none rfl) rfl rfl (ex_fieldAddr (off' := 1) rfl rfl Try.underlying76 rfl tsz74 rfl) ?_
  refine ops_ex rfl (guard_none rfl) rfl rfl (ex_load1 rfl rfl Try.underlying74 rfl ((HM.box_at 0 rfl) 1 _ rfl)) ?_
  refine ops_ex rfl (guard_none rfl) rfl rfl (ex_move rfl rfl) ?_
  replace HM := HM.front 1 rfl rfl
  obtain ⟨F1814, hF1815, hFn1816, hFl1817, HMh1818, hcl1819⟩ := HM.hide (Ms := [own kInt 2 p0_0 x0.fList])
  refine ops_does rfl (guard_none rfl) rfl rfl (does_callk rfl callok115 rfl (laws_markInt64S.calls (x0 := x0.fList) (x1 := x1) (hide_olds _ _) hF1815 hFn1816 hFl1817 h1813)) ?_
  rintro _ w1820 ⟨rfl, hn⟩
  replace HM : Mem w X w1820 [own kInt 2 p0_0 t1812.2, box b1808 76 [.int .i64 x0.fCode, p0_0]] := hcl1819 _ _ hn
  refine ops_ex rfl (guard_none rfl) rfl rfl (ex_assign rfl rfl) ?_
  refine ops_nil ?_
  refine at_then ?_
  refine run_seq ?_
  refine run_region rfl ?_
  refine ops_ex rfl (guard_none rfl) rfl rfl (ex_move rfl rfl) ?_
  refine ops_ex rfl (guard_none rfl) rfl rfl (ex_assign rfl rfl) ?_
  refine ops_nil ?_
  refine at_then ?_
  refine run_ret ?_
  replace HM := (HM.front 1 rfl rfl).drop
  have hR := Option.some.inj H
  subst hR
  exact at_ret1 rfl rfl ⟨_, rfl, rfl, HM⟩

def laws_heldInt64S.l0 (x0 : List Int) : Nat → Int → Int → Option (Int ⊕ Int)
  | 0, _, _ => none
  | k + 1, a1870, a1871 => (bif (decide (a1871 < (x0.length : Int))) then (chk (idxOk a1871 x0.length) (bif ((gt x0 a1871) != a1870) then some (.inl (-1)) else laws_heldInt64S.l0 x0 k (wrap64 (a1870 + 1)) (wrap64 (a1871 + 1)))) else some (.inr a1870))
theorem laws_heldInt64S.l0_z (x0 : List Int) (a1870 : Int) (a1871 : Int) : laws_heldInt64S.l0 x0 0 a1870 a1871 = none := rfl
theorem laws_heldInt64S.l0_s (x0 : List Int) (k : Nat) (a1870 : Int) (a1871 : Int) : laws_heldInt64S.l0 x0 (k + 1) a1870 a1871 = (bif (decide (a1871 < (x0.length : Int))) then (chk (idxOk a1871 x0.length) (bif ((gt x0 a1871) != a1870) then some (.inl (-1)) else laws_heldInt64S.l0 x0 k (wrap64 (a1870 + 1)) (wrap64 (a1871 + 1)))) else some (.inr a1870)) := rfl
def laws_heldInt64S.f (k : Nat) (x0 : List Int) (x1 : Int) : Option Int := ((laws_heldInt64S.l0 x0 k x1 0).bind fun o1864 => thn o1864 (fun r => some r) (fun a1863 => some a1863))
theorem laws_heldInt64S.calls {k : Nat} {x0 : List Int} {x1 : Int} {p0 : Value} {w : World} (hp0 : RdS kInt w p0 x0) {r : Int} (H : laws_heldInt64S.f k x0 x1 = some r) :
    Calls Try.prog 116 ([p0, .int .i64 x1] : List Value).toArray w (fun e w_ => ∃ v, e = .returned v ∧ v = (.int .i64 r) ∧ Mem w [] w_ []) := by
  have HM := Mem.start w
  refine calls_run (N := 21) Try.func116 rfl rfl rfl rfl ?_
  unfold laws_heldInt64S.f at H
  refine run_seq ?_
  refine run_region rfl ?_
  refine ops_ex rfl (guard_none rfl) rfl rfl (ex_assign rfl rfl) ?_
  refine ops_nil ?_
  refine at_then ?_
  obtain ⟨o1864, ho1865, H⟩ := bind_some H
  refine run_mid (fun ρ_ w_ => ∃ a1863 : Int, Sum.inr a1863 = o1864 ∧ ρ_ = [(1, .int .i64 a1863)] ∧ Mem w [] w_ []) ?_ ?_
  · skip
    refine run_seq ?_
    refine run_region rfl ?_
    refine ops_ex rfl (guard_none rfl) rfl rfl (ex_assign rfl rfl) ?_
    refine ops_nil ?_
    refine at_then ?_
    refine run_block ?_
    refine run_loop (fun k_ ρ_ w_ => ∃ a1870 : Int, ∃ a1871 : Int, laws_heldInt64S.l0 x0 k_ a1870 a1871 = some o1864 ∧ ρ_ = [(0, p0), (1, .int .i64 a1870), (5, .int .i64 a1871)] ∧ Mem w [] w_ []) k (ρ1 := [(0, p0), (1, .int .i64 x1), (5, .int .i64 0)]) ⟨_, _, ho1865, rfl, HM⟩ (Sub.cons rfl (Sub.cons rfl (Sub.cons rfl Sub.nil))) ?_
    clear HM ho1865
    rintro k1876 _ w1877 ⟨a1870, a1871, ho1865, rfl, HM⟩
    obtain _ | k1876 := k1876
    · exact nomatch ((laws_heldInt64S.l0_z x0 a1870 a1871).symm.trans ho1865)
    replace ho1865 := (laws_heldInt64S.l0_s x0 k1876 a1870 a1871).symm.trans ho1865
    refine run_seq ?_
    refine run_seq ?_
    refine run_region rfl ?_
    refine ops_ex rfl (guard_none rfl) rfl rfl (ex_move rfl rfl) ?_
    refine ops_ex rfl (guard_none rfl) rfl rfl (ex_move rfl rfl) ?_
    refine ops_ex rfl (guard_none rfl) rfl rfl (ex_len (d := kInt) (xs := x0) rfl rfl Try.underlying74 hp0) ?_
    refine ops_ex rfl (guard_none rfl) rfl rfl (ex_lss rfl rfl rfl) ?_
    refine ops_nil ?_
    refine at_then ?_
    refine run_cond (b := (decide (a1871 < (x0.length : Int)))) rfl (fun hb1878 => ?_) (fun hb1878 => ?_)
    · replace ho1865 := cond_t hb1878 ho1865
      refine run_skip ?_
      refine at_then ?_
      refine run_seq ?_
      refine run_block ?_
      refine run_seq ?_
      refine run_seq ?_
      obtain ⟨e1879, ho1865⟩ := chk_some ho1865
      refine run_region rfl ?_
      refine ops_ex rfl (guard_none rfl) rfl rfl (ex_move rfl rfl) ?_
      refine ops_ex rfl (guard_none rfl) rfl rfl (ex_move rfl rfl) ?_
      have hc1880 : CellsAt _ (sb p0) (so p0 + (a1871).toNat * 1) [(.int .i64 (gt x0 a1871))] := rd_plain hp0 e1879
      refine ops_ex rfl (guard_none rfl) rfl rfl (ex_indexAddr (d := kInt) rfl rfl rfl Try.underlying74 tsz2 hp0 (idx_lo e1879) (idx_hi e1879)) ?_
      refine ops_ex rfl (guard_none rfl) rfl rfl (ex_load1 rfl rfl Try.underlying2 rfl ((HM.at_ hc1880) 0 _ rfl)) ?_
      refine ops_ex rfl (guard_none rfl) rfl rfl (ex_move rfl rfl) ?_
      refine ops_ex rfl (guard_none rfl) rfl rfl (ex_neq rfl rfl rfl) ?_
      refine ops_nil ?_
      refine at_then ?_
      refine run_cond (b := ((gt x0 a1871) != a1870)) rfl (fun hb1881 => ?_) (fun hb1881 => ?_)
      · replace ho1865 := cond_t hb1881 ho1865
        refine run_seq ?_
        refine run_region rfl ?_
        refine ops_ex rfl (guard_none rfl) rfl rfl (ex_assign rfl rfl) ?_
        refine ops_nil ?_
        refine at_then ?_
        refine run_ret ?_
        refine at_then_ret ?_
        refine at_block_ret ?_
        refine at_then_ret ?_
        refine at_then_ret ?_
        refine at_block_ret ?_
        refine at_then_ret ?_
        have hR := Option.some.inj ho1865
        subst hR
        have hT := thn_inl H
        have hR := Option.some.inj hT
        subst hR
        exact at_ret1 rfl rfl ⟨_, rfl, rfl, HM⟩
      · replace ho1865 := cond_f hb1881 ho1865
        refine run_skip ?_
        refine at_then ?_
        refine run_region rfl ?_
        refine ops_ex rfl (guard_none rfl) rfl rfl (ex_move rfl rfl) ?_
        refine ops_ex rfl (guard_none rfl) rfl rfl (ex_add rfl rfl rfl) ?_
        refine ops_ex rfl (guard_none rfl) rfl rfl (ex_assign rfl rfl) ?_
        refine ops_nil ?_
        refine at_block ?_
        refine at_then ?_
        refine run_region rfl ?_
        refine ops_ex rfl (guard_none rfl) rfl rfl (ex_move rfl rfl) ?_
        refine ops_ex rfl (guard_none rfl) rfl rfl (ex_add rfl rfl rfl) ?_
        refine ops_ex rfl (guard_none rfl) rfl rfl (ex_assign rfl rfl) ?_
        refine ops_nil ?_
        exact at_again k1876 (ρ1 := [(0, p0), (1, .int .i64 (wrap64 (a1870 + 1))), (5, .int .i64 (wrap64 (a1871 + 1)))]) (Nat.lt_succ_self _) ⟨_, _, ho1865, rfl, HM⟩ (Sub.cons rfl (Sub.cons rfl (Sub.cons rfl Sub.nil)))
    · replace ho1865 := cond_f hb1878 ho1865
      refine run_exit ?_
      refine at_then_exit ?_
      refine at_then_exit ?_
      refine at_block_exit ?_
      exact at_mid (ρ' := [(1, .int .i64 a1870)]) ⟨_, (Option.some.inj ho1865), rfl, HM⟩ (Sub.cons rfl Sub.nil)
  · rintro _ w1882 ⟨a1863, rfl, rfl, HM⟩
    replace H := (thn_inr H)
    refine run_seq ?_
    refine run_region rfl ?_
    refine ops_ex rfl (guard_none rfl) rfl rfl (ex_move rfl rfl) ?_
    refine ops_ex rfl (guard_none rfl) rfl rfl (ex_assign rfl rfl) ?_
    refine ops_nil ?_
    refine at_then ?_
    refine run_ret ?_
    have hR := Option.some.inj H
    subst hR
    exact at_ret1 rfl rfl ⟨_, rfl, rfl, HM⟩

def laws_heldIntsResult.f (k : Nat) (x0 : IntsResult) (x1 : Int) : Option Int := ((laws_heldInt64S.f k x0.fList x1).bind fun t1890 => (bif (decide (t1890 < 0)) then some (-1) else some t1890))
theorem laws_heldIntsResult.calls {k : Nat} {x0 : IntsResult} {x1 : Int} {p0_0 : Value} {w : World} (hp0_0 : RdS kInt w p0_0 x0.fList) {r : Int} (H : laws_heldIntsResult.f k x0 x1 = some r) :
    Calls Try.prog 56 ([.agg #[(.int .i64 x0.fCode), p0_0], .int .i64 x1] : List Value).toArray w (fun e w_ => ∃ v, e = .returned v ∧ v = (.int .i64 r) ∧ Mem w [] w_ []) := by
  have HM := Mem.start w
  refine calls_run (N := 12) Try.func56 rfl rfl rfl rfl ?_
  unfold laws_heldIntsResult.f at H
  refine run_seq ?_
  refine run_region rfl ?_
  refine ops_does rfl (guard_none rfl) rfl rfl (does_box (cs := [.int .i64 x0.fCode, p0_0]) rfl rfl rfl HM) ?_
  rintro _ w1889 ⟨b1886, rfl, HM⟩
  refine ops_ex rfl (guard_none rfl) rfl rfl (ex_assign rfl rfl) ?_
  refine ops_nil ?_
  refine at_then ?_
  refine run_seq ?_
  obtain ⟨t1890, h1891, H⟩ := bind_some H
  refine run_region rfl ?_
  refine ops_ex rfl (guard_none rfl) rfl rfl (ex_fieldAddr (off' := 1) rfl rfl Try.underlying76 rfl tsz74 rfl) ?_
  refine ops_ex rfl (guard_none rfl) rfl rfl (ex_load1 rfl rfl Try.underlying74 rfl ((HM.box_at 0 rfl) 1 _ rfl)) ?_
  refine ops_ex rfl (guard_none rfl) rfl rfl (ex_move rfl rfl) ?_
  refine ops_does rfl (guard_none rfl) rfl rfl (does_callk rfl callok116 rfl (laws_heldInt64S.calls (x0 := x0.fList) (x1 := x1) (HM.rd hp0_0) h1891)) ?_
  rintro _ w1892 ⟨rfl, hn⟩
  replace HM : Mem w [] w1892 [box b1886 76 [.int .i64 x0.fCode, p0_0]] := HM.call hn
  refine ops_ex rfl (guard_none rfl) rfl rfl (ex_assign rfl rfl) ?_
  refine ops_nil ?_
  refine at_then ?_
  refine run_seq ?_
  refine run_seq ?_
  refine run_region rfl ?_
  refine ops_ex rfl (guard_none rfl) rfl rfl (ex_move rfl rfl) ?_
  refine ops_ex rfl (guard_none rfl) rfl rfl (ex_lss rfl rfl rfl) ?_
  refine ops_nil ?_
  refine at_then ?_
  refine run_cond (b := (decide (t1890 < 0))) rfl (fun hb1893 => ?_) (fun hb1893 => ?_)
  · replace H := cond_t hb1893 H
    refine run_seq ?_
    refine run_region rfl ?_
    refine ops_ex rfl (guard_none rfl) rfl rfl (ex_assign rfl rfl) ?_
    refine ops_nil ?_
    refine at_then ?_
    refine run_ret ?_
    refine at_then_ret ?_
    replace HM := (HM.front 0 rfl rfl).drop
    have hR := Option.some.inj H
    subst hR
    exact at_ret1 rfl rfl ⟨_, rfl, rfl, HM⟩
  · replace H := cond_f hb1893 H
    refine run_skip ?_
    refine at_then ?_
    refine run_seq ?_
    refine run_region rfl ?_
    refine ops_ex rfl (guard_none rfl) rfl rfl (ex_move rfl rfl) ?_
    refine ops_ex rfl (guard_none rfl) rfl rfl (ex_assign rfl rfl) ?_
    refine ops_nil ?_
    refine at_then ?_
    refine run_ret ?_
    replace HM := (HM.front 0 rfl rfl).drop
    have hR := Option.some.inj H
    subst hR
    exact at_ret1 rfl rfl ⟨_, rfl, rfl, HM⟩

def laws_FnExactKeysOf.f (k : Nat) (x0 : List Member) : Option Bool := ((laws_szMemberS.f k x0 1048576).bind fun t1922 => (bif (decide (t1922 < 0)) then some true else ((laws_toMemberS.f k x0).bind fun t1927 => ((spec_KeysOf.f k t1927).bind fun t1931 => ((laws_toMemberS.f k x0).bind fun t1942 => ((impl_KeysOf.f k t1942).bind fun t1947 => ((laws_eqIntsResult.f k t1947 t1931).bind fun t1960 => (bif !t1960 then some false else ((laws_toMemberS.f k x0).bind fun t1971 => ((laws_eqMemberS.f k t1942 t1971).bind fun t1975 => (bif !t1975 then some false else ((laws_markMemberS.f k t1942 1).bind fun t1980 => ((bif (!(decide (t1980.1 < 0))) then laws_eqIntsResult.f k t1947 t1931 else some default).bind fun t1992 => (bif ((decide (t1980.1 < 0)) || (!t1992)) then some false else ((laws_markIntsResult.f k t1947 1).bind fun t1999 => ((laws_heldIntsResult.f k (⟨t1947.fCode, t1999.2⟩ : IntsResult) 1).bind fun t2008 => (bif (decide (t2008 < 0)) then some false else (bif (t2008 != t1999.1) then some false else ((laws_toMemberS.f k x0).bind fun t2015 => ((impl_KeysOf.f k t2015).bind fun t2019 => ((laws_eqIntsResult.f k t2019 t1931).bind fun t2033 => (bif !t2033 then some false else ((laws_heldIntsResult.f k (⟨t1947.fCode, t1999.2⟩ : IntsResult) 1).bind fun t2037 => (bif (decide (t2037 < 0)) then some false else (bif (t2037 != t1999.1) then some false else some true)))))))))))))))))))))))))
theorem laws_FnExactKeysOf.calls {k : Nat} {x0 : List Member} {p0 : Value} {w : World} (hp0 : RdS kMember w p0 x0) {r : Bool} (H : laws_FnExactKeysOf.f k x0 = some r) :
    Calls Try.prog 13 ([p0] : List Value).toArray w (fun e w_ => ∃ v, e = .returned v ∧ v = (.bool r) ∧ Mem w [] w_ []) := by
  have HM := Mem.start w
  refine calls_run (N := 69) Try.func13 rfl rfl rfl rfl ?_
  unfold laws_FnExactKeysOf.f at H
  refine run_seq ?_
  refine run_region rfl ?_
  refine ops_ex rfl (guard_none rfl) rfl rfl (ex_assign rfl rfl) ?_
  refine ops_nil ?_
  refine at_then ?_
  refine run_seq ?_
  refine run_region rfl ?_
  refine ops_ex rfl (guard_none rfl) rfl rfl (ex_assign rfl rfl) ?_
  refine ops_nil ?_
  refine at_then ?_
  refine run_seq ?_
  obtain ⟨t1922, h1923, H⟩ := bind_some H
  refine run_region rfl ?_
  refine ops_ex rfl (guard_none rfl) rfl rfl (ex_move rfl rfl) ?_
  refine ops_ex rfl (guard_none rfl) rfl rfl (ex_move rfl rfl) ?_
  refine ops_does rfl (guard_none rfl) rfl rfl (does_callk rfl callok48 rfl (laws_szMemberS.calls (x0 := x0) (x1 := 1048576) (HM.rd hp0) h1923)) ?_
  rintro _ w1924 ⟨rfl, hn⟩
  replace HM : Mem w [] w1924 [] := HM.call hn
  refine ops_ex rfl (guard_none rfl) rfl rfl (ex_assign rfl rfl) ?_
  refine ops_nil ?_
  refine at_then ?_
  refine run_seq ?_
  refine run_seq ?_
  refine run_region rfl ?_
  refine ops_ex rfl (guard_none rfl) rfl rfl (ex_move rfl rfl) ?_
  refine ops_ex rfl (guard_none rfl) rfl rfl (ex_lss rfl rfl rfl) ?_
  refine ops_nil ?_
  refine at_then ?_
  refine run_cond (b := (decide (t1922 < 0))) rfl (fun hb1926 => ?_) (fun hb1926 => ?_)
  · replace H := cond_t hb1926 H
    refine run_seq ?_
    refine run_region rfl ?_
    refine ops_ex rfl (guard_none rfl) rfl rfl (ex_assign rfl rfl) ?_
    refine ops_nil ?_
    refine at_then ?_
    refine run_ret ?_
    refine at_then_ret ?_
    have hR := Option.some.inj H
    subst hR
    exact at_ret1 rfl rfl ⟨_, rfl, rfl, HM⟩
  · replace H := cond_f hb1926 H
    refine run_skip ?_
    refine at_then ?_
    refine run_seq ?_
    obtain ⟨t1927, h1928, H⟩ := bind_some H
    obtain ⟨t1931, h1932, H⟩ := bind_some H
    refine run_region rfl ?_
    refine ops_ex rfl (guard_none rfl) rfl rfl (ex_move rfl rfl) ?_
    refine ops_does rfl (guard_none rfl) rfl rfl (does_callk rfl callok50 rfl (laws_toMemberS.calls (x0 := x0) (HM.rd hp0) h1928)) ?_
    rintro u1929 w1938 ⟨_, rfl, hn⟩
    replace HM : Mem w [] w1938 [own kMember 144 u1929 t1927] := HM.call hn
    refine ops_does rfl (guard_none rfl) rfl rfl (does_callk rfl callok49 rfl (spec_KeysOf.calls (x0 := t1927) (HM.own_rd 0 rfl) h1932)) ?_
    rintro _ w1939 ⟨u1933, rfl, hn⟩
    replace HM : Mem w [] w1939 [own kInt 2 u1933 t1931.fList, own kMember 144 u1929 t1927] := HM.call hn
    refine ops_does rfl (guard_none rfl) rfl rfl (does_alloc (cs := [.int .i64 0, .slice none 0 0]) rfl tz76 rfl HM) ?_
    rintro _ w1940 ⟨b1935, rfl, HM⟩
    refine ops_doesS rfl (guard_none rfl) rfl (does_store (vs := [.int .i64 t1931.fCode, u1933]) (cs' := [.int .i64 t1931.fCode, u1933]) rfl rfl rfl rfl tsz76 (Ones.int (Ones.rd (HM.own_rd 1 rfl) Ones.nil)) rfl rfl HM) ?_
    rintro w1941 HM
    refine ops_nil ?_
    refine at_then ?_
    refine run_seq ?_
    obtain ⟨t1942, h1943, H⟩ := bind_some H
    refine run_region rfl ?_
    refine ops_ex rfl (guard_none rfl) rfl rfl (ex_move rfl rfl) ?_
    refine ops_does rfl (guard_none rfl) rfl rfl (does_callk rfl callok50 rfl (laws_toMemberS.calls (x0 := x0) (HM.rd hp0) h1943)) ?_
    rintro u1944 w1946 ⟨_, rfl, hn⟩
    replace HM : Mem w [] w1946 [own kMember 144 u1944 t1942, box b1935 76 [.int .i64 t1931.fCode, u1933], own kInt 2 u1933 t1931.fList, own kMember 144 u1929 t1927] := HM.call hn
    refine ops_ex rfl (guard_none rfl) rfl rfl (ex_assign rfl rfl) ?_
    refine ops_nil ?_
    refine at_then ?_
    refine run_seq ?_
    obtain ⟨t1947, h1948, H⟩ := bind_some H
    refine run_region rfl ?_
    refine ops_ex rfl (guard_none rfl) rfl rfl (ex_move rfl rfl) ?_
    refine ops_does rfl (guard_none rfl) rfl rfl (does_callk rfl callok51 rfl (impl_KeysOf.calls (x0 := t1942) (HM.own_rd 0 rfl) h1948)) ?_
    rintro _ w1954 ⟨u1949, rfl, hn⟩
    replace HM : Mem w [] w1954 [own kInt 2 u1949 t1947.fList, own kMember 144 u1944 t1942, box b1935 76 [.int .i64 t1931.fCode, u1933], own kInt 2 u1933 t1931.fList, own kMember 144 u1929 t1927] := HM.call hn
    refine ops_does rfl (guard_none rfl) rfl rfl (does_alloc (cs := [.int .i64 0, .slice none 0 0]) rfl tz76 rfl HM) ?_
    rintro _ w1955 ⟨b1951, rfl, HM⟩
    refine ops_doesS rfl (guard_none rfl) rfl (does_store (vs := [.int .i64 t1947.fCode, u1949]) (cs' := [.int .i64 t1947.fCode, u1949]) rfl rfl rfl rfl tsz76 (Ones.int (Ones.rd (HM.own_rd 1 rfl) Ones.nil)) rfl rfl HM) ?_
    rintro w1956 HM
    refine ops_nil ?_
    refine at_then ?_
    refine run_seq ?_
    refine run_seq ?_
    obtain ⟨t1960, h1961, H⟩ := bind_some H
    refine run_region rfl ?_
    refine ops_ex rfl (guard_none rfl) rfl rfl (ex_loadN (cs := [(.int .i64 t1947.fCode), u1949]) rfl rfl Try.underlying76 rfl tsz76 rfl ((HM.box_at 0 rfl).sub 0 2 rfl)) ?_
    refine ops_ex rfl (guard_none rfl) rfl rfl (ex_loadN (cs := [(.int .i64 t1931.fCode), u1933]) rfl rfl Try.underlying76 rfl tsz76 rfl ((HM.box_at 3 rfl).sub 0 2 rfl)) ?_
    refine ops_does rfl (guard_none rfl) rfl rfl (does_callk rfl callok52 rfl (laws_eqIntsResult.calls (x0 := t1947) (x1 := t1931) (HM.own_rd 1 rfl) (HM.own_rd 4 rfl) h1961)) ?_
    rintro _ w1962 ⟨rfl, hn⟩
    replace HM : Mem w [] w1962 [box b1951 76 [.int .i64 t1947.fCode, u1949], own kInt 2 u1949 t1947.fList, own kMember 144 u1944 t1942, box b1935 76 [.int .i64 t1931.fCode, u1933], own kInt 2 u1933 t1931.fList, own kMember 144 u1929 t1927] := HM.call hn
    refine ops_ex rfl (guard_none rfl) rfl rfl (ex_not rfl rfl) ?_
    refine ops_nil ?_
    refine at_then ?_
    refine run_cond (b := !t1960) rfl (fun hb1963 => ?_) (fun hb1963 => ?_)
    · replace H := cond_t hb1963 H
      refine run_seq ?_
      refine run_region rfl ?_
      refine ops_ex rfl (guard_none rfl) rfl rfl (ex_assign rfl rfl) ?_
      refine ops_nil ?_
      refine at_then ?_
      refine run_ret ?_
      refine at_then_ret ?_
      replace HM := (HM.front 0 rfl rfl).drop
      replace HM := (HM.front 0 rfl rfl).drop
      replace HM := (HM.front 0 rfl rfl).drop
      replace HM := (HM.front 0 rfl rfl).drop
      replace HM := (HM.front 0 rfl rfl).drop
      replace HM := (HM.front 0 rfl rfl).drop
      have hR := Option.some.inj H
      subst hR
      exact at_ret1 rfl rfl ⟨_, rfl, rfl, HM⟩
    · replace H := cond_f hb1963 H
      refine run_skip ?_
      refine at_then ?_
      refine run_seq ?_
      refine run_seq ?_
      obtain ⟨t1971, h1972, H⟩ := bind_some H
      obtain ⟨t1975, h1976, H⟩ := bind_some H
      refine run_region rfl ?_
      refine ops_ex rfl (guard_none rfl) rfl rfl (ex_move rfl rfl) ?_
      refine ops_ex rfl (guard_none rfl) rfl rfl (ex_move rfl rfl) ?_
      refine ops_does rfl (guard_none rfl) rfl rfl (does_callk rfl callok50 rfl (laws_toMemberS.calls (x0 := x0) (HM.rd hp0) h1972)) ?_
      rintro u1973 w1977 ⟨_, rfl, hn⟩
      replace HM : Mem w [] w1977 [own kMember 144 u1973 t1971, box b1951 76 [.int .i64 t1947.fCode, u1949], own kInt 2 u1949 t1947.fList, own kMember 144 u1944 t1942, box b1935 76 [.int .i64 t1931.fCode, u1933], own kInt 2 u1933 t1931.fList, own kMember 144 u1929 t1927] := HM.call hn
      refine ops_does rfl (guard_none rfl) rfl rfl (does_callk rfl callok53 rfl (laws_eqMemberS.calls (x0 := t1942) (x1 := t1971) (HM.own_rd 3 rfl) (HM.own_rd 0 rfl) h1976)) ?_
      rintro _ w1978 ⟨rfl, hn⟩
      replace HM : Mem w [] w1978 [own kMember 144 u1973 t1971, box b1951 76 [.int .i64 t1947.fCode, u1949], own kInt 2 u1949 t1947.fList, own kMember 144 u1944 t1942, box b1935 76 [.int .i64 t1931.fCode, u1933], own kInt 2 u1933 t1931.fList, own kMember 144 u1929 t1927] := HM.call hn
      refine ops_ex rfl (guard_none rfl) rfl rfl (ex_not rfl rfl) ?_
      refine ops_nil ?_
      refine at_then ?_
      refine run_cond (b := !t1975) rfl (fun hb1979 => ?_) (fun hb1979 => ?_)
      · replace H := cond_t hb1979 H
        refine run_seq ?_
        refine run_region rfl ?_
        refine ops_ex rfl (guard_none rfl) rfl rfl (ex_assign rfl rfl) ?_
        refine ops_nil ?_
        refine at_then ?_
        refine run_ret ?_
        refine at_then_ret ?_
        replace HM := (HM.front 0 rfl rfl).drop
        replace HM := (HM.front 0 rfl rfl).drop
        replace HM := (HM.front 0 rfl rfl).drop
        replace HM := (HM.front 0 rfl rfl).drop
        replace HM := (HM.front 0 rfl rfl).drop
        replace HM := (HM.front 0 rfl rfl).drop
        replace HM := (HM.front 0 rfl rfl).drop
        have hR := Option.some.inj H
        subst hR
        exact at_ret1 rfl rfl ⟨_, rfl, rfl, HM⟩
      · replace H := cond_f hb1979 H
        refine run_skip ?_
        refine at_then ?_
        refine run_seq ?_
        refine run_region rfl ?_
        refine ops_ex rfl (guard_none rfl) rfl rfl (ex_assign rfl rfl) ?_
        refine ops_nil ?_
        refine at_then ?_
        refine run_seq ?_
        obtain ⟨t1980, h1981, H⟩ := bind_some H
        refine run_region rfl ?_
        refine ops_ex rfl (guard_none rfl) rfl rfl (ex_move rfl rfl) ?_
        refine ops_ex rfl (guard_none rfl) rfl rfl (ex_move rfl rfl) ?_
        replace HM := HM.front 3 rfl rfl
        obtain ⟨F1982, hF1983, hFn1984, hFl1985, HMh1986, hcl1987⟩ := HM.hide (Ms := [own kMember 144 u1944 t1942])
        refine ops_does rfl (guard_none rfl) rfl rfl (does_callk rfl callok54 rfl (laws_markMemberS.calls (x0 := t1942) (x1 := 1) (hide_olds _ _) hF1983 hFn1984 hFl1985 h1981)) ?_
        rintro _ w1988 ⟨rfl, hn⟩
        replace HM : Mem w [] w1988 [own kMember 144 u1944 t1980.2, own kMember 144 u1973 t1971, box b1951 76 [.int .i64 t1947.fCode, u1949], own kInt 2 u1949 t1947.fList, box b1935 76 [.int .i64 t1931.fCode, u1933], own kInt 2 u1933 t1931.fList, own kMember 144 u1929 t1927] := hcl1987 _ _ hn
        refine ops_ex rfl (guard_none rfl) rfl rfl (ex_assign rfl rfl) ?_
        refine ops_nil ?_
        refine at_then ?_
        refine run_seq ?_
        refine run_seq ?_
        obtain ⟨t1992, h1993, H⟩ := bind_some H
        refine run_meet (fun ρ_ w_ => ρ_ = [(0, p0), (4, .pointer (some ⟨b1935, 0, none⟩)), (6, .pointer (some ⟨b1951, 0, none⟩)), (42, .bool ((decide (t1980.1 < 0)) || (!t1992)))] ∧ Mem w [] w_ [box b1935 76 [.int .i64 t1931.fCode, u1933], own kInt 2 u1933 t1931.fList, box b1951 76 [.int .i64 t1947.fCode, u1949], own kInt 2 u1949 t1947.fList]) ?_ ?_
        · skip
          refine run_region rfl ?_
          refine ops_ex rfl (guard_none rfl) rfl rfl (ex_move rfl rfl) ?_
          refine ops_ex rfl (guard_none rfl) rfl rfl (ex_lss rfl rfl rfl) ?_
          refine ops_ex rfl (guard_none rfl) rfl rfl (ex_move rfl rfl) ?_
          refine bool_cases (decide (t1980.1 < 0)) (fun hg1994 => ?_) (fun hg1994 => ?_)
          · skip
            refine ops_off rfl (guard_off rfl rfl rfl hg1994) rfl rfl ?_
            refine ops_off rfl (guard_off rfl rfl rfl hg1994) rfl rfl ?_
            refine ops_off rfl (guard_off rfl rfl rfl hg1994) rfl rfl ?_
            refine ops_off rfl (guard_off rfl rfl rfl hg1994) rfl rfl ?_
            have hg1995 : ((decide (t1980.1 < 0)) || (!t1992)) = true := by simp only [hg1994, Bool.and_true, Bool.true_and, Bool.and_false, Bool.false_and, Bool.or_true, Bool.true_or, Bool.or_false, Bool.false_or, Bool.not_true, Bool.not_false, Bool.not_not]
            refine ops_ex (v := .bool ((decide (t1980.1 < 0)) || (!t1992))) rfl (guard_none rfl) rfl rfl (ex_por_t rfl rfl hg1994) ?_
            refine ops_nil ?_
            replace HM := (HM.front 0 rfl rfl).drop
            replace HM := (HM.front 0 rfl rfl).drop
            replace HM := (HM.front 4 rfl rfl).drop
            replace HM := HM.front 1 rfl rfl
            replace HM := HM.front 1 rfl rfl
            replace HM := HM.front 3 rfl rfl
            replace HM := HM.front 3 rfl rfl
            exact at_meet [(0, p0), (4, .pointer (some ⟨b1935, 0, none⟩)), (6, .pointer (some ⟨b1951, 0, none⟩)), (42, .bool ((decide (t1980.1 < 0)) || (!t1992)))] ⟨rfl, HM⟩ (Sub.cons rfl (Sub.cons rfl (Sub.cons rfl (Sub.cons rfl Sub.nil))))
          · skip
            refine ops_ex rfl (guard_on rfl rfl rfl hg1994) rfl rfl (ex_loadN (cs := [(.int .i64 t1947.fCode), u1949]) rfl rfl Try.underlying76 rfl tsz76 rfl ((HM.box_at 2 rfl).sub 0 2 rfl)) ?_
            refine ops_ex rfl (guard_on rfl rfl rfl hg1994) rfl rfl (ex_loadN (cs := [(.int .i64 t1931.fCode), u1933]) rfl rfl Try.underlying76 rfl tsz76 rfl ((HM.box_at 4 rfl).sub 0 2 rfl)) ?_
            refine ops_does rfl (guard_on rfl rfl rfl hg1994) rfl rfl (does_callk rfl callok52 rfl (laws_eqIntsResult.calls (x0 := t1947) (x1 := t1931) (HM.own_rd 3 rfl) (HM.own_rd 5 rfl) (cond_t (not_mk hg1994) h1993))) ?_
            rintro _ w1996 ⟨rfl, hn⟩
            replace HM : Mem w [] w1996 [own kMember 144 u1944 t1980.2, own kMember 144 u1973 t1971, box b1951 76 [.int .i64 t1947.fCode, u1949], own kInt 2 u1949 t1947.fList, box b1935 76 [.int .i64 t1931.fCode, u1933], own kInt 2 u1933 t1931.fList, own kMember 144 u1929 t1927] := HM.call hn
            refine ops_ex rfl (guard_on rfl rfl rfl hg1994) rfl rfl (ex_not rfl rfl) ?_
            refine ops_ex (v := .bool ((decide (t1980.1 < 0)) || (!t1992))) rfl (guard_none rfl) rfl rfl (ex_por_f rfl rfl hg1994 rfl) ?_
            refine ops_nil ?_
            replace HM := (HM.front 0 rfl rfl).drop
            replace HM := (HM.front 0 rfl rfl).drop
            replace HM := (HM.front 4 rfl rfl).drop
            replace HM := HM.front 1 rfl rfl
            replace HM := HM.front 1 rfl rfl
            replace HM := HM.front 3 rfl rfl
            replace HM := HM.front 3 rfl rfl
            exact at_meet [(0, p0), (4, .pointer (some ⟨b1935, 0, none⟩)), (6, .pointer (some ⟨b1951, 0, none⟩)), (42, .bool ((decide (t1980.1 < 0)) || (!t1992)))] ⟨rfl, HM⟩ (Sub.cons rfl (Sub.cons rfl (Sub.cons rfl (Sub.cons rfl Sub.nil))))
        · rintro _ w1997 ⟨rfl, HM⟩
          refine at_then ?_
          refine run_cond (b := ((decide (t1980.1 < 0)) || (!t1992))) rfl (fun hb1998 => ?_) (fun hb1998 => ?_)
          · replace H := cond_t hb1998 H
            refine run_seq ?_
            refine run_region rfl ?_
            refine ops_ex rfl (guard_none rfl) rfl rfl (ex_assign rfl rfl) ?_
            refine ops_nil ?_
            refine at_then ?_
            refine run_ret ?_
            refine at_then_ret ?_
            replace HM := (HM.front 0 rfl rfl).drop
            replace HM := (HM.front 0 rfl rfl).drop
            replace HM := (HM.front 0 rfl rfl).drop
            replace HM := (HM.front 0 rfl rfl).drop
            have hR := Option.some.inj H
            subst hR
            exact at_ret1 rfl rfl ⟨_, rfl, rfl, HM⟩
          · replace H := cond_f hb1998 H
            refine run_skip ?_
            refine at_then ?_
            refine run_seq ?_
            refine run_region rfl ?_
            refine ops_ex rfl (guard_none rfl) rfl rfl (ex_assign rfl rfl) ?_
            refine ops_nil ?_
            refine at_then ?_
            refine run_seq ?_
            obtain ⟨t1999, h2000, H⟩ := bind_some H
            refine run_region rfl ?_
            refine ops_ex rfl (guard_none rfl) rfl rfl (ex_loadN (cs := [(.int .i64 t1947.fCode), u1949]) rfl rfl Try.underlying76 rfl tsz76 rfl ((HM.box_at 2 rfl).sub 0 2 rfl)) ?_
            refine ops_ex rfl (guard_none rfl) rfl rfl (ex_move rfl rfl) ?_
            replace HM := HM.front 3 rfl rfl
            obtain ⟨F2001, hF2002, hFn2003, hFl2004, HMh2005, hcl2006⟩ := HM.hide (Ms := [own kInt 2 u1949 t1947.fList])
            refine ops_does rfl (guard_none rfl) rfl rfl (does_callk rfl callok55 rfl (laws_markIntsResult.calls (x0 := t1947) (x1 := 1) (hide_olds _ _) hF2002 hFn2003 hFl2004 h2000)) ?_
            rintro _ w2007 ⟨rfl, hn⟩
            replace HM : Mem w [] w2007 [own kInt 2 u1949 t1999.2, box b1935 76 [.int .i64 t1931.fCode, u1933], own kInt 2 u1933 t1931.fList, box b1951 76 [.int .i64 t1947.fCode, u1949]] := hcl2006 _ _ hn
            refine ops_ex rfl (guard_none rfl) rfl rfl (ex_assign rfl rfl) ?_
            refine ops_nil ?_
            refine at_then ?_
            refine run_seq ?_
            refine run_region rfl ?_
            refine ops_ex rfl (guard_none rfl) rfl rfl (ex_assign rfl rfl) ?_
            refine ops_nil ?_
            refine at_then ?_
            refine run_seq ?_
            obtain ⟨t2008, h2009, H⟩ := bind_some H
            refine run_region rfl ?_
            refine ops_ex rfl (guard_none rfl) rfl rfl (ex_loadN (cs := [(.int .i64 t1947.fCode), u1949]) rfl rfl Try.underlying76 rfl tsz76 rfl ((HM.box_at 3 rfl).sub 0 2 rfl)) ?_
            refine ops_ex rfl (guard_none rfl) rfl rfl (ex_move rfl rfl) ?_
            refine ops_does rfl (guard_none rfl) rfl rfl (does_callk rfl callok56 rfl (laws_heldIntsResult.calls (x0 := (⟨t1947.fCode, t1999.2⟩ : IntsResult)) (x1 := 1) (HM.own_rd 0 rfl) h2009)) ?_
            rintro _ w2010 ⟨rfl, hn⟩
            replace HM : Mem w [] w2010 [own kInt 2 u1949 t1999.2, box b1935 76 [.int .i64 t1931.fCode, u1933], own kInt 2 u1933 t1931.fList, box b1951 76 [.int .i64 t1947.fCode, u1949]] := HM.call hn
            refine ops_ex rfl (guard_none rfl) rfl rfl (ex_assign rfl rfl) ?_
            refine ops_nil ?_
            refine at_then ?_
            refine run_seq ?_
            refine run_seq ?_
            refine run_region rfl ?_
            refine ops_ex rfl (guard_none rfl) rfl rfl (ex_move rfl rfl) ?_
            refine ops_ex rfl (guard_none rfl) rfl rfl (ex_lss rfl rfl rfl) ?_
            refine ops_nil ?_
            refine at_then ?_
            refine run_cond (b := (decide (t2008 < 0))) rfl (fun hb2012 => ?_) (fun hb2012 => ?_)
            · replace H := cond_t hb2012 H
              refine run_seq ?_
              refine run_region rfl ?_
              refine ops_ex rfl (guard_none rfl) rfl rfl (ex_assign rfl rfl) ?_
              refine ops_nil ?_
              refine at_then ?_
              refine run_ret ?_
              refine at_then_ret ?_
              replace HM := (HM.front 0 rfl rfl).drop
              replace HM := (HM.front 0 rfl rfl).drop
              replace HM := (HM.front 0 rfl rfl).drop
              replace HM := (HM.front 0 rfl rfl).drop
              have hR := Option.some.inj H
              subst hR
              exact at_ret1 rfl rfl ⟨_, rfl, rfl, HM⟩
            · replace H := cond_f hb2012 H
              refine run_skip ?_
              refine at_then ?_
              refine run_seq ?_
              refine run_seq ?_
              refine run_region rfl ?_
              refine ops_ex rfl (guard_none rfl) rfl rfl (ex_move rfl rfl) ?_
              refine ops_ex rfl (guard_none rfl) rfl rfl (ex_move rfl rfl) ?_
              refine ops_ex rfl (guard_none rfl) rfl rfl (ex_neq rfl rfl rfl) ?_
              refine ops_nil ?_
              refine at_then ?_
              refine run_cond (b := (t2008 != t1999.1)) rfl (fun hb2014 => ?_) (fun hb2014 => ?_)
              · replace H := cond_t hb2014 H
                refine run_seq ?_
                refine run_region rfl ?_
                refine ops_ex rfl (guard_none rfl) rfl rfl (ex_assign rfl rfl) ?_
                refine ops_nil ?_
                refine at_then ?_
                refine run_ret ?_
                refine at_then_ret ?_
                replace HM := (HM.front 0 rfl rfl).drop
                replace HM := (HM.front 0 rfl rfl).drop
                replace HM := (HM.front 0 rfl rfl).drop
                replace HM := (HM.front 0 rfl rfl).drop
                have hR := Option.some.inj H
                subst hR
                exact at_ret1 rfl rfl ⟨_, rfl, rfl, HM⟩
              · replace H := cond_f hb2014 H
                refine run_skip ?_
                refine at_then ?_
                refine run_seq ?_
                obtain ⟨t2015, h2016, H⟩ := bind_some H
                obtain ⟨t2019, h2020, H⟩ := bind_some H
                refine run_region rfl ?_
                refine ops_ex rfl (guard_none rfl) rfl rfl (ex_move rfl rfl) ?_
                refine ops_does rfl (guard_none rfl) rfl rfl (does_callk rfl callok50 rfl (laws_toMemberS.calls (x0 := x0) (HM.rd hp0) h2016)) ?_
                rintro u2017 w2026 ⟨_, rfl, hn⟩
                replace HM : Mem w [] w2026 [own kMember 144 u2017 t2015, own kInt 2 u1949 t1999.2, box b1935 76 [.int .i64 t1931.fCode, u1933], own kInt 2 u1933 t1931.fList, box b1951 76 [.int .i64 t1947.fCode, u1949]] := HM.call hn
                refine ops_does rfl (guard_none rfl) rfl rfl (does_callk rfl callok51 rfl (impl_KeysOf.calls (x0 := t2015) (HM.own_rd 0 rfl) h2020)) ?_
                rintro _ w2027 ⟨u2021, rfl, hn⟩
                replace HM : Mem w [] w2027 [own kInt 2 u2021 t2019.fList, own kMember 144 u2017 t2015, own kInt 2 u1949 t1999.2, box b1935 76 [.int .i64 t1931.fCode, u1933], own kInt 2 u1933 t1931.fList, box b1951 76 [.int .i64 t1947.fCode, u1949]] := HM.call hn
                refine ops_does rfl (guard_none rfl) rfl rfl (does_alloc (cs := [.int .i64 0, .slice none 0 0]) rfl tz76 rfl HM) ?_
                rintro _ w2028 ⟨b2023, rfl, HM⟩
                refine ops_doesS rfl (guard_none rfl) rfl (does_store (vs := [.int .i64 t2019.fCode, u2021]) (cs' := [.int .i64 t2019.fCode, u2021]) rfl rfl rfl rfl tsz76 (Ones.int (Ones.rd (HM.own_rd 1 rfl) Ones.nil)) rfl rfl HM) ?_
                rintro w2029 HM
                refine ops_nil ?_
                refine at_then ?_
                refine run_seq ?_
                refine run_seq ?_
                obtain ⟨t2033, h2034, H⟩ := bind_some H
                refine run_region rfl ?_
                refine ops_ex rfl (guard_none rfl) rfl rfl (ex_loadN (cs := [(.int .i64 t2019.fCode), u2021]) rfl rfl Try.underlying76 rfl tsz76 rfl ((HM.box_at 0 rfl).sub 0 2 rfl)) ?_
                refine ops_ex rfl (guard_none rfl) rfl rfl (ex_loadN (cs := [(.int .i64 t1931.fCode), u1933]) rfl rfl Try.underlying76 rfl tsz76 rfl ((HM.box_at 4 rfl).sub 0 2 rfl)) ?_
                refine ops_does rfl (guard_none rfl) rfl rfl (does_callk rfl callok52 rfl (laws_eqIntsResult.calls (x0 := t2019) (x1 := t1931) (HM.own_rd 1 rfl) (HM.own_rd 5 rfl) h2034)) ?_
                rintro _ w2035 ⟨rfl, hn⟩
                replace HM : Mem w [] w2035 [box b2023 76 [.int .i64 t2019.fCode, u2021], own kInt 2 u2021 t2019.fList, own kMember 144 u2017 t2015, own kInt 2 u1949 t1999.2, box b1935 76 [.int .i64 t1931.fCode, u1933], own kInt 2 u1933 t1931.fList, box b1951 76 [.int .i64 t1947.fCode, u1949]] := HM.call hn
                refine ops_ex rfl (guard_none rfl) rfl rfl (ex_not rfl rfl) ?_
                refine ops_nil ?_
                refine at_then ?_
                refine run_cond (b := !t2033) rfl (fun hb2036 => ?_) (fun hb2036 => ?_)
                · replace H := cond_t hb2036 H
                  refine run_seq ?_
                  refine run_region rfl ?_
                  refine ops_ex rfl (guard_none rfl) rfl rfl (ex_assign rfl rfl) ?_
                  refine ops_nil ?_
                  refine at_then ?_
                  refine run_ret ?_
                  refine at_then_ret ?_
                  replace HM := (HM.front 0 rfl rfl).drop
                  replace HM := (HM.front 0 rfl rfl).drop
                  replace HM := (HM.front 0 rfl rfl).drop
                  replace HM := (HM.front 0 rfl rfl).drop
                  replace HM := (HM.front 0 rfl rfl).drop
                  replace HM := (HM.front 0 rfl rfl).drop
                  replace HM := (HM.front 0 rfl rfl).drop
                  have hR := Option.some.inj H
                  subst hR
                  exact at_ret1 rfl rfl ⟨_, rfl, rfl, HM⟩
                · replace H := cond_f hb2036 H
                  refine run_skip ?_
                  refine at_then ?_
                  refine run_seq ?_
                  refine run_region rfl ?_
                  refine ops_ex rfl (guard_none rfl) rfl rfl (ex_assign rfl rfl) ?_
                  refine ops_nil ?_
                  refine at_then ?_
                  refine run_seq ?_
                  obtain ⟨t2037, h2038, H⟩ := bind_some H
                  refine run_region rfl ?_
                  refine ops_ex rfl (guard_none rfl) rfl rfl (ex_loadN (cs := [(.int .i64 t1947.fCode), u1949]) rfl rfl Try.underlying76 rfl tsz76 rfl ((HM.box_at 6 rfl).sub 0 2 rfl)) ?_
                  refine ops_ex rfl (guard_none rfl) rfl rfl (ex_move rfl rfl) ?_
                  refine ops_does rfl (guard_none rfl) rfl rfl (does_callk rfl callok56 rfl (laws_heldIntsResult.calls (x0 := (⟨t1947.fCode, t1999.2⟩ : IntsResult)) (x1 := 1) (HM.own_rd 3 rfl) h2038)) ?_
                  rintro _ w2039 ⟨rfl, hn⟩
                  replace HM : Mem w [] w2039 [box b2023 76 [.int .i64 t2019.fCode, u2021], own kInt 2 u2021 t2019.fList, own kMember 144 u2017 t2015, own kInt 2 u1949 t1999.2, box b1935 76 [.int .i64 t1931.fCode, u1933], own kInt 2 u1933 t1931.fList, box b1951 76 [.int .i64 t1947.fCode, u1949]] := HM.call hn
                  refine ops_ex rfl (guard_none rfl) rfl rfl (ex_assign rfl rfl) ?_
                  refine ops_nil ?_
                  refine at_then ?_
                  refine run_seq ?_
                  refine run_seq ?_
                  refine run_region rfl ?_
                  refine ops_ex rfl (guard_none rfl) rfl rfl (ex_move rfl rfl) ?_
                  refine ops_ex rfl (guard_none rfl) rfl rfl (ex_lss rfl rfl rfl) ?_
                  refine ops_nil ?_
                  refine at_then ?_
                  refine run_cond (b := (decide (t2037 < 0))) rfl (fun hb2041 => ?_) (fun hb2041 => ?_)
                  · replace H := cond_t hb2041 H
                    refine run_seq ?_
                    refine run_region rfl ?_
                    refine ops_ex rfl (guard_none rfl) rfl rfl (ex_assign rfl rfl) ?_
                    refine ops_nil ?_
                    refine at_then ?_
                    refine run_ret ?_
                    refine at_then_ret ?_
                    replace HM := (HM.front 0 rfl rfl).drop
                    replace HM := (HM.front 0 rfl rfl).drop
                    replace HM := (HM.front 0 rfl rfl).drop
                    replace HM := (HM.front 0 rfl rfl).drop
                    replace HM := (HM.front 0 rfl rfl).drop
                    replace HM := (HM.front 0 rfl rfl).drop
                    replace HM := (HM.front 0 rfl rfl).drop
                    have hR := Option.some.inj H
                    subst hR
                    exact at_ret1 rfl rfl ⟨_, rfl, rfl, HM⟩
                  · replace H := cond_f hb2041 H
                    refine run_skip ?_
                    refine at_then ?_
                    refine run_seq ?_
                    refine run_seq ?_
                    refine run_region rfl ?_
                    refine ops_ex rfl (guard_none rfl) rfl rfl (ex_move rfl rfl) ?_
                    refine ops_ex rfl (guard_none rfl) rfl rfl (ex_move rfl rfl) ?_
                    refine ops_ex rfl (guard_none rfl) rfl rfl (ex_neq rfl rfl rfl) ?_
                    refine ops_nil ?_
                    refine at_then ?_
                    refine run_cond (b := (t2037 != t1999.1)) rfl (fun hb2042 => ?_) (fun hb2042 => ?_)
                    · replace H := cond_t hb2042 H
                      refine run_seq ?_
                      refine run_region rfl ?_
                      refine ops_ex rfl (guard_none rfl) rfl rfl (ex_assign rfl rfl) ?_
                      refine ops_nil ?_
                      refine at_then ?_
                      refine run_ret ?_
                      refine at_then_ret ?_
                      replace HM := (HM.front 0 rfl rfl).drop
                      replace HM := (HM.front 0 rfl rfl).drop
                      replace HM := (HM.front 0 rfl rfl).drop
                      replace HM := (HM.front 0 rfl rfl).drop
                      replace HM := (HM.front 0 rfl rfl).drop
                      replace HM := (HM.front 0 rfl rfl).drop
                      replace HM := (HM.front 0 rfl rfl).drop
                      have hR := Option.some.inj H
                      subst hR
                      exact at_ret1 rfl rfl ⟨_, rfl, rfl, HM⟩
                    · replace H := cond_f hb2042 H
                      refine run_skip ?_
                      refine at_then ?_
                      refine run_seq ?_
                      refine run_region rfl ?_
                      refine ops_ex rfl (guard_none rfl) rfl rfl (ex_assign rfl rfl) ?_
                      refine ops_nil ?_
                      refine at_then ?_
                      refine run_ret ?_
                      replace HM := (HM.front 0 rfl rfl).drop
                      replace HM := (HM.front 0 rfl rfl).drop
                      replace HM := (HM.front 0 rfl rfl).drop
                      replace HM := (HM.front 0 rfl rfl).drop
                      replace HM := (HM.front 0 rfl rfl).drop
                      replace HM := (HM.front 0 rfl rfl).drop
                      replace HM := (HM.front 0 rfl rfl).drop
                      have hR := Option.some.inj H
                      subst hR
                      exact at_ret1 rfl rfl ⟨_, rfl, rfl, HM⟩
end Go.Proofs.Ytoiacoiccpiciaa.Zk
