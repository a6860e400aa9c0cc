/- What functions of the program compute, each as a plain function, and that they do. Conditions: as each theorem states them. -/
import Derived.Test.YtbbcabpnkdilgaaTakeMembersZkF6
namespace Go.Proofs.Ytbbcabpnkdilgaa.Zk
open Go Go.RowKit Go.IntWalk Go.Proofs
set_option linter.unusedVariables false
set_option linter.unusedSimpArgs false
set_option maxRecDepth 100000
set_option maxHeartbeats 4000000
def laws_eqMembersResult.f (k : Nat) (x0 : MembersResult) (x1 : MembersResult) : Option Bool := (bif (x0.fCode != x1.fCode) then some false else ((laws_eqMemberS.f k x0.fMembers x1.fMembers).bind fun t4443 => (bif !t4443 then some false else some true)))
theorem laws_eqMembersResult.calls {k : Nat} {x0 : MembersResult} {x1 : MembersResult} {p0_0 : Value} {p1_0 : Value} {w : World} (hp0_0 : RdS kMember w p0_0 x0.fMembers) (hp1_0 : RdS kMember w p1_0 x1.fMembers) {r : Bool} (H : laws_eqMembersResult.f k x0 x1 = some r) :
    Calls Try.prog 19 ([.agg #[(.int .i64 x0.fCode), p0_0], .agg #[(.int .i64 x1.fCode), p1_0]] : List Value).toArray w (fun e w_ => ∃ v, e = .returned v ∧ v = (.bool r) ∧ Mem w [] w_ []) := by
  have HM := Mem.start w
  refine calls_run (N := 16) Try.func19 rfl rfl rfl rfl ?_
  unfold laws_eqMembersResult.f at H
  refine run_seq ?_
  refine run_region rfl ?_
  refine od rfl rfl rfl rfl (does_box (cs := [.int .i64 x0.fCode, p0_0]) rfl rfl rfl HM) ?_
  rintro _ w4439 ⟨b4433, rfl, HM⟩
  refine od rfl rfl rfl rfl (does_box (cs := [.int .i64 x1.fCode, p1_0]) rfl rfl rfl HM) ?_
  rintro _ w4440 ⟨b4436, rfl, HM⟩
  refine ox rfl rfl rfl rfl (ex_assign rfl rfl) ?_
  refine ops_nil (at_then (run_seq ?_))
  refine run_seq ?_
  refine run_region rfl ?_
  refine ox rfl rfl rfl rfl (ex_fieldAddr (off' := 0) rfl rfl Try.underlying32 rfl tsz2 rfl) ?_
  refine ox rfl rfl rfl rfl (ex_load1 rfl rfl Try.underlying2 rfl ((HM.box_at 1 rfl) 0 _ rfl)) ?_
  refine ox rfl rfl rfl rfl (ex_fieldAddr (off' := 0) rfl rfl Try.underlying32 rfl tsz2 rfl) ?_
  refine ox rfl rfl rfl rfl (ex_load1 rfl rfl Try.underlying2 rfl ((HM.box_at 0 rfl) 0 _ rfl)) ?_
  refine ox rfl rfl rfl rfl (ex_neq rfl rfl rfl) ?_
  refine ops_nil (at_then ?_)
  refine run_cond (b := (x0.fCode != x1.fCode)) rfl (fun hb4442 => ?_) (fun hb4442 => ?_)
  · replace H := cond_t hb4442 H
    refine run_seq ?_
    refine run_region rfl ?_
    refine ox rfl rfl rfl rfl (ex_assign rfl rfl) ?_
    refine ops_nil (at_then ?_)
    refine run_ret ?_
    refine at_then_ret ?_
    replace HM := (HM.front 0 rfl rfl).drop
    replace HM := (HM.front 0 rfl rfl).drop
    have hR := Option.some.inj H
    subst hR
    exact at_ret1 rfl rfl ⟨_, rfl, rfl, HM⟩
  · replace H := cond_f hb4442 H
    refine run_skip ?_
    refine at_then ?_
    refine run_seq ?_
    refine run_seq ?_
    obtain ⟨t4443, h4444, H⟩ := bind_some H
    refine run_region rfl ?_
    refine ox rfl rfl rfl rfl (ex_fieldAddr (off' := 1) rfl rfl Try.underlying32 rfl tsz24 rfl) ?_
    refine ox rfl rfl rfl rfl (ex_load1 rfl rfl Try.underlying24 rfl ((HM.box_at 1 rfl) 1 _ rfl)) ?_
    refine ox rfl rfl rfl rfl (ex_fieldAddr (off' := 1) rfl rfl Try.underlying32 rfl tsz24 rfl) ?_
    refine ox rfl rfl rfl rfl (ex_load1 rfl rfl Try.underlying24 rfl ((HM.box_at 0 rfl) 1 _ rfl)) ?_
    refine od rfl rfl rfl rfl (does_callk rfl callok20 rfl (laws_eqMemberS.calls (x0 := x0.fMembers) (x1 := x1.fMembers) (HM.rd hp0_0) (HM.rd hp1_0) h4444)) ?_
    rintro _ w4445 ⟨rfl, hn⟩
    replace HM : Mem w [] w4445 [box b4436 32 [.int .i64 x1.fCode, p1_0], box b4433 32 [.int .i64 x0.fCode, p0_0]] := HM.call hn
    refine ox rfl rfl rfl rfl (ex_not rfl rfl) ?_
    refine ops_nil (at_then ?_)
    refine run_cond (b := !t4443) rfl (fun hb4446 => ?_) (fun hb4446 => ?_)
    · replace H := cond_t hb4446 H
      refine run_seq ?_
      refine run_region rfl ?_
      refine ox rfl rfl rfl rfl (ex_assign rfl rfl) ?_
      refine ops_nil (at_then ?_)
      refine run_ret ?_
      refine at_then_ret ?_
      replace HM := (HM.front 0 rfl rfl).drop
      replace HM := (HM.front 0 rfl rfl).drop
      have hR := Option.some.inj H
      subst hR
      exact at_ret1 rfl rfl ⟨_, rfl, rfl, HM⟩
    · replace H := cond_f hb4446 H
      refine run_skip ?_
      refine at_then ?_
      refine run_seq ?_
      refine run_region rfl ?_
      refine ox rfl rfl rfl rfl (ex_assign rfl rfl) ?_
      refine ops_nil (at_then ?_)
      refine run_ret ?_
      replace HM := (HM.front 0 rfl rfl).drop
      replace HM := (HM.front 0 rfl rfl).drop
      have hR := Option.some.inj H
      subst hR
      exact at_ret1 rfl rfl ⟨_, rfl, rfl, HM⟩

def laws_eqRefS.l0 (x0 : List Ref) (x1 : List Ref) : Nat → Int → Option (Bool ⊕ Unit)
  | 0, _ => none
  | k + 1, a4549 => (bif (decide (a4549 < (x0.length : Int))) then (chk (idxOk a4549 x0.length) (chk (idxOk a4549 x1.length) ((laws_eqRef.f k (gt x0 a4549) (gt x1 a4549)).bind fun t4565 => (bif !t4565 then some (.inl false) else laws_eqRefS.l0 x0 x1 k (wrap64 (a4549 + 1)))))) else some (.inr ()))
theorem laws_eqRefS.l0_z (x0 : List Ref) (x1 : List Ref) (a4549 : Int) : laws_eqRefS.l0 x0 x1 0 a4549 = none := rfl
theorem laws_eqRefS.l0_s (x0 : List Ref) (x1 : List Ref) (k : Nat) (a4549 : Int) : laws_eqRefS.l0 x0 x1 (k + 1) a4549 = (bif (decide (a4549 < (x0.length : Int))) then (chk (idxOk a4549 x0.length) (chk (idxOk a4549 x1.length) ((laws_eqRef.f k (gt x0 a4549) (gt x1 a4549)).bind fun t4565 => (bif !t4565 then some (.inl false) else laws_eqRefS.l0 x0 x1 k (wrap64 (a4549 + 1)))))) else some (.inr ())) := rfl
def laws_eqRefS.f (k : Nat) (x0 : List Ref) (x1 : List Ref) : Option Bool := (bif ((x0.length : Int) != (x1.length : Int)) then some false else ((laws_eqRefS.l0 x0 x1 k 0).bind fun o4539 => thn o4539 (fun r => some r) (fun _ => some true)))
theorem laws_eqRefS.calls {k : Nat} {x0 : List Ref} {x1 : List Ref} {p0 : Value} {p1 : Value} {w : World} (hp0 : RdS kRef w p0 x0) (hp1 : RdS kRef w p1 x1) {r : Bool} (H : laws_eqRefS.f k x0 x1 = some r) :
    Calls Try.prog 71 ([p0, p1] : List Value).toArray w (fun e w_ => ∃ v, e = .returned v ∧ v = (.bool r) ∧ Mem w [] w_ []) := by
  have HM := Mem.start w
  refine calls_run (N := 27) Try.func71 rfl rfl rfl rfl ?_
  unfold laws_eqRefS.f at H
  refine run_seq ?_
  refine run_region rfl ?_
  refine ox rfl rfl rfl rfl (ex_assign rfl rfl) ?_
  refine ops_nil (at_then (run_seq ?_))
  refine run_seq ?_
  refine run_region rfl ?_
  refine ox rfl rfl rfl rfl (ex_move rfl rfl) ?_
  refine ox rfl rfl rfl rfl (ex_len (d := kRef) (xs := x0) rfl rfl Try.underlying25 hp0) ?_
  refine ox rfl rfl rfl rfl (ex_move rfl rfl) ?_
  refine ox rfl rfl rfl rfl (ex_len (d := kRef) (xs := x1) rfl rfl Try.underlying25 hp1) ?_
  refine ox rfl rfl rfl rfl (ex_neq rfl rfl rfl) ?_
  refine ops_nil (at_then ?_)
  refine run_cond (b := ((x0.length : Int) != (x1.length : Int))) rfl (fun hb4513 => ?_) (fun hb4513 => ?_)
  · replace H := cond_t hb4513 H
    refine run_seq ?_
    refine run_region rfl ?_
    refine ox rfl rfl rfl rfl (ex_assign rfl rfl) ?_
    refine ops_nil (at_then ?_)
    refine run_ret ?_
    refine at_then_ret ?_
    have hR := Option.some.inj H
    subst hR
    exact at_ret1 rfl rfl ⟨_, rfl, rfl, HM⟩
  · replace H := cond_f hb4513 H
    refine run_skip ?_
    refine at_then ?_
    obtain ⟨o4539, ho4540, H⟩ := bind_some H
    refine run_mid (fun ρ_ w_ => Sum.inr () = o4539 ∧ ρ_ = [] ∧ Mem w [] w_ []) ?_ ?_
    · skip
      refine run_seq ?_
      refine run_region rfl ?_
      refine ox rfl rfl rfl rfl (ex_assign rfl rfl) ?_
      refine ops_nil (at_then ?_)
      refine run_block ?_
      refine run_loop (fun k_ ρ_ w_ => ∃ a4549 : Int, laws_eqRefS.l0 x0 x1 k_ a4549 = some o4539 ∧ ρ_ = [(0, p0), (1, p1), (5, .int .i64 a4549)] ∧ Mem w [] w_ []) k (ρ1 := [(0, p0), (1, p1), (5, .int .i64 0)]) ⟨_, ho4540, rfl, HM⟩ (Sub.cons rfl (Sub.cons rfl (Sub.cons rfl Sub.nil))) ?_
      clear HM ho4540
      rintro k4558 _ w4559 ⟨a4549, ho4540, rfl, HM⟩
      obtain _ | k4558 := k4558
      · exact nomatch ((laws_eqRefS.l0_z x0 x1 a4549).symm.trans ho4540)
      replace ho4540 := (laws_eqRefS.l0_s x0 x1 k4558 a4549).symm.trans ho4540
      refine run_seq ?_
      refine run_seq ?_
      refine run_region rfl ?_
      refine ox rfl rfl rfl rfl (ex_move rfl rfl) ?_
      refine ox rfl rfl rfl rfl (ex_move rfl rfl) ?_
      refine ox rfl rfl rfl rfl (ex_len (d := kRef) (xs := x0) rfl rfl Try.underlying25 hp0) ?_
      refine ox rfl rfl rfl rfl (ex_lss rfl rfl rfl) ?_
      refine ops_nil (at_then ?_)
      refine run_cond (b := (decide (a4549 < (x0.length : Int)))) rfl (fun hb4560 => ?_) (fun hb4560 => ?_)
      · replace ho4540 := cond_t hb4560 ho4540
        refine run_skip ?_
        refine at_then ?_
        refine run_seq ?_
        refine run_block ?_
        refine run_seq ?_
        obtain ⟨e4561, ho4540⟩ := chk_some ho4540
        obtain ⟨e4563, ho4540⟩ := chk_some ho4540
        obtain ⟨t4565, h4566, ho4540⟩ := bind_some ho4540
        refine run_drawf (fun w_ => Mem w [] w_ []) [(0, true), (1, true), (2, true), (3, true), (4, true), (5, true), (6, true), (7, true), (8, false), (9, true)] mixed rfl rfl (by kernel_rfl) ?_
        replace HM := HM.grow (fr_drew _)
        have hS := Mem.suf (M := []) HM
        refine dp rfl rfl rfl rfl (ex_move rfl rfl) hS ?_
        refine dp rfl rfl rfl rfl (ex_move rfl rfl) hS ?_
        have hc4562 : CellsAt _ (sb p0) (so p0 + (a4549).toNat * 2) [(.int .i64 ((gt x0 a4549).fTx)), (.int .i64 ((gt x0 a4549).fAt))] := rd_plain hp0 e4561
        refine dp rfl rfl rfl rfl (ex_indexAddr (d := kRef) rfl rfl rfl Try.underlying25 tsz36 hp0 (idx_lo e4561) (idx_hi e4561)) hS ?_
        refine drwp_take rfl (guard_none rfl) rfl rfl (fun w_ hS_ => (ex_loadN (cs := [(.int .i64 ((gt x0 a4549).fTx)), (.int .i64 ((gt x0 a4549).fAt))]) rfl rfl Try.underlying36 rfl tsz36 rfl ((hS_.at_ hc4562).sub 0 2 rfl))) hS ?_
        refine dp rfl rfl rfl rfl (ex_move rfl rfl) hS ?_
        refine dp rfl rfl rfl rfl (ex_move rfl rfl) hS ?_
        have hc4564 : CellsAt _ (sb p1) (so p1 + (a4549).toNat * 2) [(.int .i64 ((gt x1 a4549).fTx)), (.int .i64 ((gt x1 a4549).fAt))] := rd_plain hp1 e4563
        refine dp rfl rfl rfl rfl (ex_indexAddr (d := kRef) rfl rfl rfl Try.underlying25 tsz36 hp1 (idx_lo e4563) (idx_hi e4563)) hS ?_
        refine drwp_take rfl (guard_none rfl) rfl rfl (fun w_ hS_ => (ex_loadN (cs := [(.int .i64 ((gt x1 a4549).fTx)), (.int .i64 ((gt x1 a4549).fAt))]) rfl rfl Try.underlying36 rfl tsz36 rfl ((hS_.at_ hc4564).sub 0 2 rfl))) hS ?_
        refine drwp_one rfl (guard_none rfl) rfl rfl (does_callk rfl callok126 rfl (laws_eqRef.calls (x0 := (gt x0 a4549)) (x1 := (gt x1 a4549)) h4566)) ?_
        rintro _ w4567 ⟨rfl, hn⟩
        replace HM : Mem w [] w4567 [] := HM.call hn
        have hS := Mem.suf (M := []) HM
        refine ⟨hS, ?_⟩
        refine dp rfl rfl rfl rfl (ex_not rfl rfl) hS ?_
        refine drwp_done ?_
        refine at_then ?_
        refine run_cond (b := !t4565) rfl (fun hb4568 => ?_) (fun hb4568 => ?_)
        · replace ho4540 := cond_t hb4568 ho4540
          refine run_seq ?_
          refine run_region rfl ?_
          refine ox rfl rfl rfl rfl (ex_assign rfl rfl) ?_
          refine ops_nil (at_then ?_)
          refine run_ret ?_
          refine at_block_ret ?_
          refine at_then_ret ?_
          refine at_then_ret ?_
          refine at_block_ret ?_
          refine at_then_ret ?_
          have hR := Option.some.inj ho4540
          subst hR
          have hT := thn_inl H
          have hR := Option.some.inj hT
          subst hR
          exact at_ret1 rfl rfl ⟨_, rfl, rfl, HM⟩
        · replace ho4540 := cond_f hb4568 ho4540
          refine run_skip ?_
          refine at_block ?_
          refine at_then ?_
          refine run_region rfl ?_
          refine ox rfl rfl rfl rfl (ex_move rfl rfl) ?_
          refine ox rfl rfl rfl rfl (ex_add rfl rfl rfl) ?_
          refine ox rfl rfl rfl rfl (ex_assign rfl rfl) ?_
          refine ops_nil ?_
          exact at_again k4558 (ρ1 := [(0, p0), (1, p1), (5, .int .i64 (wrap64 (a4549 + 1)))]) (Nat.lt_succ_self _) ⟨_, ho4540, rfl, HM⟩ (Sub.cons rfl (Sub.cons rfl (Sub.cons rfl Sub.nil)))
      · replace ho4540 := cond_f hb4560 ho4540
        refine run_exit ?_
        refine at_then_exit ?_
        refine at_then_exit ?_
        refine at_block_exit ?_
        exact at_mid (ρ' := []) ⟨(Option.some.inj ho4540), rfl, HM⟩ Sub.nil
    · rintro _ w4569 ⟨rfl, rfl, HM⟩
      replace H := (thn_inr H)
      refine run_seq ?_
      refine run_region rfl ?_
      refine ox rfl rfl rfl rfl (ex_assign rfl rfl) ?_
      refine ops_nil (at_then ?_)
      refine run_ret ?_
      have hR := Option.some.inj H
      subst hR
      exact at_ret1 rfl rfl ⟨_, rfl, rfl, HM⟩

def laws_eqInt64S.l0 (x0 : List Int) (x1 : List Int) : Nat → Int → Option (Bool ⊕ Unit)
  | 0, _ => none
  | k + 1, a4653 => (bif (decide (a4653 < (x0.length : Int))) then (chk (idxOk a4653 x0.length) (chk (idxOk a4653 x1.length) (bif ((gt x0 a4653) != (gt x1 a4653)) then some (.inl false) else laws_eqInt64S.l0 x0 x1 k (wrap64 (a4653 + 1))))) else some (.inr ()))
theorem laws_eqInt64S.l0_z (x0 : List Int) (x1 : List Int) (a4653 : Int) : laws_eqInt64S.l0 x0 x1 0 a4653 = none := rfl
theorem laws_eqInt64S.l0_s (x0 : List Int) (x1 : List Int) (k : Nat) (a4653 : Int) : laws_eqInt64S.l0 x0 x1 (k + 1) a4653 = (bif (decide (a4653 < (x0.length : Int))) then (chk (idxOk a4653 x0.length) (chk (idxOk a4653 x1.length) (bif ((gt x0 a4653) != (gt x1 a4653)) then some (.inl false) else laws_eqInt64S.l0 x0 x1 k (wrap64 (a4653 + 1))))) else some (.inr ())) := rfl
def laws_eqInt64S.f (k : Nat) (x0 : List Int) (x1 : List Int) : Option Bool := (bif ((x0.length : Int) != (x1.length : Int)) then some false else ((laws_eqInt64S.l0 x0 x1 k 0).bind fun o4645 => thn o4645 (fun r => some r) (fun _ => some true)))
theorem laws_eqInt64S.calls {k : Nat} {x0 : List Int} {x1 : List Int} {p0 : Value} {p1 : Value} {w : World} (hp0 : RdS kInt w p0 x0) (hp1 : RdS kInt w p1 x1) {r : Bool} (H : laws_eqInt64S.f k x0 x1 = some r) :
    Calls Try.prog 162 ([p0, p1] : List Value).toArray w (fun e w_ => ∃ v, e = .returned v ∧ v = (.bool r) ∧ Mem w [] w_ []) := by
  have HM := Mem.start w
  refine calls_run (N := 26) Try.func162 rfl rfl rfl rfl ?_
  unfold laws_eqInt64S.f at H
  refine run_seq ?_
  refine run_region rfl ?_
  refine ox rfl rfl rfl rfl (ex_assign rfl rfl) ?_
  refine ops_nil (at_then (run_seq ?_))
  refine run_seq ?_
  refine run_region rfl ?_
  refine ox rfl rfl rfl rfl (ex_move rfl rfl) ?_
  refine ox rfl rfl rfl rfl (ex_len (d := kInt) (xs := x0) rfl rfl Try.underlying39 hp0) ?_
  refine ox rfl rfl rfl rfl (ex_move rfl rfl) ?_
  refine ox rfl rfl rfl rfl (ex_len (d := kInt) (xs := x1) rfl rfl Try.underlying39 hp1) ?_
  refine ox rfl rfl rfl rfl (ex_neq rfl rfl rfl) ?_
  refine ops_nil (at_then ?_)
  refine run_cond (b := ((x0.length : Int) != (x1.length : Int))) rfl (fun hb4625 => ?_) (fun hb4625 => ?_)
  · replace H := cond_t hb4625 H
    refine run_seq ?_
    refine run_region rfl ?_
    refine ox rfl rfl rfl rfl (ex_assign rfl rfl) ?_
    refine ops_nil (at_then ?_)
    refine run_ret ?_
    refine at_then_ret ?_
    have hR := Option.some.inj H
    subst hR
    exact at_ret1 rfl rfl ⟨_, rfl, rfl, HM⟩
  · replace H := cond_f hb4625 H
    refine run_skip ?_
    refine at_then ?_
    obtain ⟨o4645, ho4646, H⟩ := bind_some H
    refine run_mid (fun ρ_ w_ => Sum.inr () = o4645 ∧ ρ_ = [] ∧ Mem w [] w_ []) ?_ ?_
    · skip
      refine run_seq ?_
      refine run_region rfl ?_
      refine ox rfl rfl rfl rfl (ex_assign rfl rfl) ?_
      refine ops_nil (at_then ?_)
      refine run_block ?_
      refine run_loop (fun k_ ρ_ w_ => ∃ a4653 : Int, laws_eqInt64S.l0 x0 x1 k_ a4653 = some o4645 ∧ ρ_ = [(0, p0), (1, p1), (5, .int .i64 a4653)] ∧ Mem w [] w_ []) k (ρ1 := [(0, p0), (1, p1), (5, .int .i64 0)]) ⟨_, ho4646, rfl, HM⟩ (Sub.cons rfl (Sub.cons rfl (Sub.cons rfl Sub.nil))) ?_
      clear HM ho4646
      rintro k4660 _ w4661 ⟨a4653, ho4646, rfl, HM⟩
      obtain _ | k4660 := k4660
      · exact nomatch ((laws_eqInt64S.l0_z x0 x1 a4653).symm.trans ho4646)
      replace ho4646 := (laws_eqInt64S.l0_s x0 x1 k4660 a4653).symm.trans ho4646
      refine run_seq ?_
      refine run_seq ?_
      refine run_region rfl ?_
      refine ox rfl rfl rfl rfl (ex_move rfl rfl) ?_
      refine ox rfl rfl rfl rfl (ex_move rfl rfl) ?_
      refine ox rfl rfl rfl rfl (ex_len (d := kInt) (xs := x0) rfl rfl Try.underlying39 hp0) ?_
      refine ox rfl rfl rfl rfl (ex_lss rfl rfl rfl) ?_
      refine ops_nil (at_then ?_)
      refine run_cond (b := (decide (a4653 < (x0.length : Int)))) rfl (fun hb4662 => ?_) (fun hb4662 => ?_)
      · replace ho4646 := cond_t hb4662 ho4646
        refine run_skip ?_
        refine at_then ?_
        refine run_seq ?_
        refine run_block ?_
        refine run_seq ?_
        obtain ⟨e4663, ho4646⟩ := chk_some ho4646
        obtain ⟨e4665, ho4646⟩ := chk_some ho4646
        refine run_drawf (fun w_ => Mem w [] w_ []) [(0, true), (1, true), (2, true), (3, true), (4, true), (5, true), (6, true), (7, true), (8, true)] mixed rfl rfl (by kernel_rfl) ?_
        replace HM := HM.grow (fr_drew _)
        have hS := Mem.suf (M := []) HM
        refine dp rfl rfl rfl rfl (ex_move rfl rfl) hS ?_
        refine dp rfl rfl rfl rfl (ex_move rfl rfl) hS ?_
        have hc4664 : CellsAt _ (sb p0) (so p0 + (a4653).toNat * 1) [(.int .i64 (gt x0 a4653))] := rd_plain hp0 e4663
        refine dp rfl rfl rfl rfl (ex_indexAddr (d := kInt) rfl rfl rfl Try.underlying39 tsz2 hp0 (idx_lo e4663) (idx_hi e4663)) hS ?_
        refine drwp_take rfl (guard_none rfl) rfl rfl (fun w_ hS_ => (ex_load1 rfl rfl Try.underlying2 rfl ((hS_.at_ hc4664) 0 _ rfl))) hS ?_
        refine dp rfl rfl rfl rfl (ex_move rfl rfl) hS ?_
        refine dp rfl rfl rfl rfl (ex_move rfl rfl) hS ?_
        have hc4666 : CellsAt _ (sb p1) (so p1 + (a4653).toNat * 1) [(.int .i64 (gt x1 a4653))] := rd_plain hp1 e4665
        refine dp rfl rfl rfl rfl (ex_indexAddr (d := kInt) rfl rfl rfl Try.underlying39 tsz2 hp1 (idx_lo e4665) (idx_hi e4665)) hS ?_
        refine drwp_take rfl (guard_none rfl) rfl rfl (fun w_ hS_ => (ex_load1 rfl rfl Try.underlying2 rfl ((hS_.at_ hc4666) 0 _ rfl))) hS ?_
        refine dp rfl rfl rfl rfl (ex_neq rfl rfl rfl) hS ?_
        refine drwp_done ?_
        refine at_then ?_
        refine run_cond (b := ((gt x0 a4653) != (gt x1 a4653))) rfl (fun hb4667 => ?_) (fun hb4667 => ?_)
        · replace ho4646 := cond_t hb4667 ho4646
          refine run_seq ?_
          refine run_region rfl ?_
          refine ox rfl rfl rfl rfl (ex_assign rfl rfl) ?_
          refine ops_nil (at_then ?_)
          refine run_ret ?_
          refine at_block_ret ?_
          refine at_then_ret ?_
          refine at_then_ret ?_
          refine at_block_ret ?_
          refine at_then_ret ?_
          have hR := Option.some.inj ho4646
          subst hR
          have hT := thn_inl H
          have hR := Option.some.inj hT
          subst hR
          exact at_ret1 rfl rfl ⟨_, rfl, rfl, HM⟩
        · replace ho4646 := cond_f hb4667 ho4646
          refine run_skip ?_
          refine at_block ?_
          refine at_then ?_
          refine run_region rfl ?_
          refine ox rfl rfl rfl rfl (ex_move rfl rfl) ?_
          refine ox rfl rfl rfl rfl (ex_add rfl rfl rfl) ?_
          refine ox rfl rfl rfl rfl (ex_assign rfl rfl) ?_
          refine ops_nil ?_
          exact at_again k4660 (ρ1 := [(0, p0), (1, p1), (5, .int .i64 (wrap64 (a4653 + 1)))]) (Nat.lt_succ_self _) ⟨_, ho4646, rfl, HM⟩ (Sub.cons rfl (Sub.cons rfl (Sub.cons rfl Sub.nil)))
      · replace ho4646 := cond_f hb4662 ho4646
        refine run_exit ?_
        refine at_then_exit ?_
        refine at_then_exit ?_
        refine at_block_exit ?_
        exact at_mid (ρ' := []) ⟨(Option.some.inj ho4646), rfl, HM⟩ Sub.nil
    · rintro _ w4668 ⟨rfl, rfl, HM⟩
      replace H := (thn_inr H)
      refine run_seq ?_
      refine run_region rfl ?_
      refine ox rfl rfl rfl rfl (ex_assign rfl rfl) ?_
      refine ops_nil (at_then ?_)
      refine run_ret ?_
      have hR := Option.some.inj H
      subst hR
      exact at_ret1 rfl rfl ⟨_, rfl, rfl, HM⟩

def laws_eqRule.f (k : Nat) (x0 : Rule) (x1 : Rule) : Option Bool := ((laws_eqInt64S.f k x0.fKeys x1.fKeys).bind fun t4689 => (bif !t4689 then some false else (bif (x0.fNeed != x1.fNeed) then some false else (bif (x0.fAfter != x1.fAfter) then some false else some true))))
theorem laws_eqRule.calls {k : Nat} {x0 : Rule} {x1 : Rule} {p0_0 : Value} {p1_0 : Value} {w : World} (hp0_0 : RdS kInt w p0_0 x0.fKeys) (hp1_0 : RdS kInt w p1_0 x1.fKeys) {r : Bool} (H : laws_eqRule.f k x0 x1 = some r) :
    Calls Try.prog 146 ([.agg #[p0_0, (.int .i64 x0.fNeed), (.int .i64 x0.fAfter)], .agg #[p1_0, (.int .i64 x1.fNeed), (.int .i64 x1.fAfter)]] : List Value).toArray w (fun e w_ => ∃ v, e = .returned v ∧ v = (.bool r) ∧ Mem w [] w_ []) := by
  have HM := Mem.start w
  refine calls_run (N := 21) Try.func146 rfl rfl rfl rfl ?_
  unfold laws_eqRule.f at H
  refine run_seq ?_
  refine run_region rfl ?_
  refine od rfl rfl rfl rfl (does_box (cs := [p0_0, .int .i64 x0.fNeed, .int .i64 x0.fAfter]) rfl rfl rfl HM) ?_
  rintro _ w4684 ⟨b4678, rfl, HM⟩
  refine od rfl rfl rfl rfl (does_box (cs := [p1_0, .int .i64 x1.fNeed, .int .i64 x1.fAfter]) rfl rfl rfl HM) ?_
  rintro _ w4685 ⟨b4681, rfl, HM⟩
  refine ox rfl rfl rfl rfl (ex_assign rfl rfl) ?_
  refine ops_nil (at_then (run_seq ?_))
  refine run_seq ?_
  obtain ⟨t4689, h4690, H⟩ := bind_some H
  refine run_region rfl ?_
  refine ox rfl rfl rfl rfl (ex_fieldAddr (off' := 0) rfl rfl Try.underlying67 rfl tsz39 rfl) ?_
  refine ox rfl rfl rfl rfl (ex_load1 rfl rfl Try.underlying39 rfl ((HM.box_at 1 rfl) 0 _ rfl)) ?_
  refine ox rfl rfl rfl rfl (ex_fieldAddr (off' := 0) rfl rfl Try.underlying67 rfl tsz39 rfl) ?_
  refine ox rfl rfl rfl rfl (ex_load1 rfl rfl Try.underlying39 rfl ((HM.box_at 0 rfl) 0 _ rfl)) ?_
  refine od rfl rfl rfl rfl (does_callk rfl callok162 rfl (laws_eqInt64S.calls (x0 := x0.fKeys) (x1 := x1.fKeys) (HM.rd hp0_0) (HM.rd hp1_0) h4690)) ?_
  rintro _ w4691 ⟨rfl, hn⟩
  replace HM : Mem w [] w4691 [box b4681 67 [p1_0, .int .i64 x1.fNeed, .int .i64 x1.fAfter], box b4678 67 [p0_0, .int .i64 x0.fNeed, .int .i64 x0.fAfter]] := HM.call hn
  refine ox rfl rfl rfl rfl (ex_not rfl rfl) ?_
  refine ops_nil (at_then ?_)
  refine run_cond (b := !t4689) rfl (fun hb4692 => ?_) (fun hb4692 => ?_)
  · replace H := cond_t hb4692 H
    refine run_seq ?_
    refine run_region rfl ?_
    refine ox rfl rfl rfl rfl (ex_assign rfl rfl) ?_
    refine ops_nil (at_then ?_)
    refine run_ret ?_
    refine at_then_ret ?_
    replace HM := (HM.front 0 rfl rfl).drop
    replace HM := (HM.front 0 rfl rfl).drop
    have hR := Option.some.inj H
    subst hR
    exact at_ret1 rfl rfl ⟨_, rfl, rfl, HM⟩
  · replace H := cond_f hb4692 H
    refine run_skip ?_
    refine at_then ?_
    refine run_seq ?_
    refine run_seq ?_
    refine run_region rfl ?_
    refine ox rfl rfl rfl rfl (ex_fieldAddr (off' := 1) rfl rfl Try.underlying67 rfl tsz2 rfl) ?_
    refine ox rfl rfl rfl rfl (ex_load1 rfl rfl Try.underlying2 rfl ((HM.box_at 1 rfl) 1 _ rfl)) ?_
    refine ox rfl rfl rfl rfl (ex_fieldAddr (off' := 1) rfl rfl Try.underlying67 rfl tsz2 rfl) ?_
    refine ox rfl rfl rfl rfl (ex_load1 rfl rfl Try.underlying2 rfl ((HM.box_at 0 rfl) 1 _ rfl)) ?_
    refine ox rfl rfl rfl rfl (ex_neq rfl rfl rfl) ?_
    refine ops_nil (at_then ?_)
    refine run_cond (b := (x0.fNeed != x1.fNeed)) rfl (fun hb4694 => ?_) (fun hb4694 => ?_)
    · replace H := cond_t hb4694 H
      refine run_seq ?_
      refine run_region rfl ?_
      refine ox rfl rfl rfl rfl (ex_assign rfl rfl) ?_
      refine ops_nil (at_then ?_)
      refine run_ret ?_
      refine at_then_ret ?_
      replace HM := (HM.front 0 rfl rfl).drop
      replace HM := (HM.front 0 rfl rfl).drop
      have hR := Option.some.inj H
      subst hR
      exact at_ret1 rfl rfl ⟨_, rfl, rfl, HM⟩
    · replace H := cond_f hb4694 H
      refine run_skip ?_
      refine at_then ?_
      refine run_seq ?_
      refine run_seq ?_
      refine run_region rfl ?_
      refine ox rfl rfl rfl rfl (ex_fieldAddr (off' := 2) rfl rfl Try.underlying67 rfl tsz2 rfl) ?_
      refine ox rfl rfl rfl rfl (ex_load1 rfl rfl Try.underlying2 rfl ((HM.box_at 1 rfl) 2 _ rfl)) ?_
      refine ox rfl rfl rfl rfl (ex_fieldAddr (off' := 2) rfl rfl Try.underlying67 rfl tsz2 rfl) ?_
      refine ox rfl rfl rfl rfl (ex_load1 rfl rfl Try.underlying2 rfl ((HM.box_at 0 rfl) 2 _ rfl)) ?_
      refine ox rfl rfl rfl rfl (ex_neq rfl rfl rfl) ?_
      refine ops_nil (at_then ?_)
      refine run_cond (b := (x0.fAfter != x1.fAfter)) rfl (fun hb4695 => ?_) (fun hb4695 => ?_)
      · replace H := cond_t hb4695 H
        refine run_seq ?_
        refine run_region rfl ?_
        refine ox rfl rfl rfl rfl (ex_assign rfl rfl) ?_
        refine ops_nil (at_then ?_)
        refine run_ret ?_
        refine at_then_ret ?_
        replace HM := (HM.front 0 rfl rfl).drop
        replace HM := (HM.front 0 rfl rfl).drop
        have hR := Option.some.inj H
        subst hR
        exact at_ret1 rfl rfl ⟨_, rfl, rfl, HM⟩
      · replace H := cond_f hb4695 H
        refine run_skip ?_
        refine at_then ?_
        refine run_seq ?_
        refine run_region rfl ?_
        refine ox rfl rfl rfl rfl (ex_assign rfl rfl) ?_
        refine ops_nil (at_then ?_)
        refine run_ret ?_
        replace HM := (HM.front 0 rfl rfl).drop
        replace HM := (HM.front 0 rfl rfl).drop
        have hR := Option.some.inj H
        subst hR
        exact at_ret1 rfl rfl ⟨_, rfl, rfl, HM⟩

def laws_eqOut.f (k : Nat) (x0 : Out) (x1 : Out) : Option Bool := (bif (x0.fValue != x1.fValue) then some false else ((laws_eqRule.f k x0.fRule x1.fRule).bind fun t4709 => (bif !t4709 then some false else some true)))
theorem laws_eqOut.calls {k : Nat} {x0 : Out} {x1 : Out} {p0_0 : Value} {p1_0 : Value} {w : World} (hp0_0 : RdS kInt w p0_0 x0.fRule.fKeys) (hp1_0 : RdS kInt w p1_0 x1.fRule.fKeys) {r : Bool} (H : laws_eqOut.f k x0 x1 = some r) :
    Calls Try.prog 100 ([.agg #[(.int .i64 x0.fValue), p0_0, (.int .i64 x0.fRule.fNeed), (.int .i64 x0.fRule.fAfter)], .agg #[(.int .i64 x1.fValue), p1_0, (.int .i64 x1.fRule.fNeed), (.int .i64 x1.fRule.fAfter)]] : List Value).toArray w (fun e w_ => ∃ v, e = .returned v ∧ v = (.bool r) ∧ Mem w [] w_ []) := by
  have HM := Mem.start w
  refine calls_run (N := 16) Try.func100 rfl rfl rfl rfl ?_
  unfold laws_eqOut.f at H
  refine run_seq ?_
  refine run_region rfl ?_
  refine od rfl rfl rfl rfl (does_box (cs := [.int .i64 x0.fValue, p0_0, .int .i64 x0.fRule.fNeed, .int .i64 x0.fRule.fAfter]) rfl rfl rfl HM) ?_
  rintro _ w4705 ⟨b4699, rfl, HM⟩
  refine od rfl rfl rfl rfl (does_box (cs := [.int .i64 x1.fValue, p1_0, .int .i64 x1.fRule.fNeed, .int .i64 x1.fRule.fAfter]) rfl rfl rfl HM) ?_
  rintro _ w4706 ⟨b4702, rfl, HM⟩
  refine ox rfl rfl rfl rfl (ex_assign rfl rfl) ?_
  refine ops_nil (at_then (run_seq ?_))
  refine run_seq ?_
  refine run_region rfl ?_
  refine ox rfl rfl rfl rfl (ex_fieldAddr (off' := 0) rfl rfl Try.underlying69 rfl tsz2 rfl) ?_
  refine ox rfl rfl rfl rfl (ex_load1 rfl rfl Try.underlying2 rfl ((HM.box_at 1 rfl) 0 _ rfl)) ?_
  refine ox rfl rfl rfl rfl (ex_fieldAddr (off' := 0) rfl rfl Try.underlying69 rfl tsz2 rfl) ?_
  refine ox rfl rfl rfl rfl (ex_load1 rfl rfl Try.underlying2 rfl ((HM.box_at 0 rfl) 0 _ rfl)) ?_
  refine ox rfl rfl rfl rfl (ex_neq rfl rfl rfl) ?_
  refine ops_nil (at_then ?_)
  refine run_cond (b := (x0.fValue != x1.fValue)) rfl (fun hb4708 => ?_) (fun hb4708 => ?_)
  · replace H := cond_t hb4708 H
    refine run_seq ?_
    refine run_region rfl ?_
    refine ox rfl rfl rfl rfl (ex_assign rfl rfl) ?_
    refine ops_nil (at_then ?_)
    refine run_ret ?_
    refine at_then_ret ?_
    replace HM := (HM.front 0 rfl rfl).drop
    replace HM := (HM.front 0 rfl rfl).drop
    have hR := Option.some.inj H
    subst hR
    exact at_ret1 rfl rfl ⟨_, rfl, rfl, HM⟩
  · replace H := cond_f hb4708 H
    refine run_skip ?_
    refine at_then ?_
    refine run_seq ?_
    refine run_seq ?_
    obtain ⟨t4709, h4710, H⟩ := bind_some H
    refine run_region rfl ?_
    refine ox rfl rfl rfl rfl (ex_fieldAddr (off' := 1) rfl rfl Try.underlying69 rfl tsz67 rfl) ?_
    refine ox rfl rfl rfl rfl (ex_loadN (cs := [p0_0, (.int .i64 x0.fRule.fNeed), (.int .i64 x0.fRule.fAfter)]) rfl rfl Try.underlying67 rfl tsz67 rfl ((HM.box_at 1 rfl).sub 1 3 rfl)) ?_
    refine ox rfl rfl rfl rfl (ex_fieldAddr (off' := 1) rfl rfl Try.underlying69 rfl tsz67 rfl) ?_
    refine ox rfl rfl rfl rfl (ex_loadN (cs := [p1_0, (.int .i64 x1.fRule.fNeed), (.int .i64 x1.fRule.fAfter)]) rfl rfl Try.underlying67 rfl tsz67 rfl ((HM.box_at 0 rfl).sub 1 3 rfl)) ?_
    refine od rfl rfl rfl rfl (does_callk rfl callok146 rfl (laws_eqRule.calls (x0 := x0.fRule) (x1 := x1.fRule) (HM.rd hp0_0) (HM.rd hp1_0) h4710)) ?_
    rintro _ w4711 ⟨rfl, hn⟩
    replace HM : Mem w [] w4711 [box b4702 69 [.int .i64 x1.fValue, p1_0, .int .i64 x1.fRule.fNeed, .int .i64 x1.fRule.fAfter], box b4699 69 [.int .i64 x0.fValue, p0_0, .int .i64 x0.fRule.fNeed, .int .i64 x0.fRule.fAfter]] := HM.call hn
    refine ox rfl rfl rfl rfl (ex_not rfl rfl) ?_
    refine ops_nil (at_then ?_)
    refine run_cond (b := !t4709) rfl (fun hb4712 => ?_) (fun hb4712 => ?_)
    · replace H := cond_t hb4712 H
      refine run_seq ?_
      refine run_region rfl ?_
      refine ox rfl rfl rfl rfl (ex_assign rfl rfl) ?_
      refine ops_nil (at_then ?_)
      refine run_ret ?_
      refine at_then_ret ?_
      replace HM := (HM.front 0 rfl rfl).drop
      replace HM := (HM.front 0 rfl rfl).drop
      have hR := Option.some.inj H
      subst hR
      exact at_ret1 rfl rfl ⟨_, rfl, rfl, HM⟩
    · replace H := cond_f hb4712 H
      refine run_skip ?_
      refine at_then ?_
      refine run_seq ?_
      refine run_region rfl ?_
      refine ox rfl rfl rfl rfl (ex_assign rfl rfl) ?_
      refine ops_nil (at_then ?_)
      refine run_ret ?_
      replace HM := (HM.front 0 rfl rfl).drop
      replace HM := (HM.front 0 rfl rfl).drop
      have hR := Option.some.inj H
      subst hR
      exact at_ret1 rfl rfl ⟨_, rfl, rfl, HM⟩

def laws_eqOutS.l0 (x0 : List Out) (x1 : List Out) : Nat → Int → Option (Bool ⊕ Unit)
  | 0, _ => none
  | k + 1, a4796 => (bif (decide (a4796 < (x0.length : Int))) then (chk (idxOk a4796 x0.length) (chk (idxOk a4796 x1.length) ((laws_eqOut.f k (gt x0 a4796) (gt x1 a4796)).bind fun t4820 => (bif !t4820 then some (.inl false) else laws_eqOutS.l0 x0 x1 k (wrap64 (a4796 + 1)))))) else some (.inr ()))
theorem laws_eqOutS.l0_z (x0 : List Out) (x1 : List Out) (a4796 : Int) : laws_eqOutS.l0 x0 x1 0 a4796 = none := rfl
theorem laws_eqOutS.l0_s (x0 : List Out) (x1 : List Out) (k : Nat) (a4796 : Int) : laws_eqOutS.l0 x0 x1 (k + 1) a4796 = (bif (decide (a4796 < (x0.length : Int))) then (chk (idxOk a4796 x0.length) (chk (idxOk a4796 x1.length) ((laws_eqOut.f k (gt x0 a4796) (gt x1 a4796)).bind fun t4820 => (bif !t4820 then some (.inl false) else laws_eqOutS.l0 x0 x1 k (wrap64 (a4796 + 1)))))) else some (.inr ())) := rfl
def laws_eqOutS.f (k : Nat) (x0 : List Out) (x1 : List Out) : Option Bool := (bif ((x0.length : Int) != (x1.length : Int)) then some false else ((laws_eqOutS.l0 x0 x1 k 0).bind fun o4782 => thn o4782 (fun r => some r) (fun _ => some true)))
theorem laws_eqOutS.calls {k : Nat} {x0 : List Out} {x1 : List Out} {p0 : Value} {p1 : Value} {w : World} (hp0 : RdS kOut w p0 x0) (hp1 : RdS kOut w p1 x1) {r : Bool} (H : laws_eqOutS.f k x0 x1 = some r) :
    Calls Try.prog 42 ([p0, p1] : List Value).toArray w (fun e w_ => ∃ v, e = .returned v ∧ v = (.bool r) ∧ Mem w [] w_ []) := by
  have HM := Mem.start w
  refine calls_run (N := 27) Try.func42 rfl rfl rfl rfl ?_
  unfold laws_eqOutS.f at H
  refine run_seq ?_
  refine run_region rfl ?_
  refine ox rfl rfl rfl rfl (ex_assign rfl rfl) ?_
  refine ops_nil (at_then (run_seq ?_))
  refine run_seq ?_
  refine run_region rfl ?_
  refine ox rfl rfl rfl rfl (ex_move rfl rfl) ?_
  refine ox rfl rfl rfl rfl (ex_len (d := kOut) (xs := x0) rfl rfl Try.underlying26 hp0) ?_
  refine ox rfl rfl rfl rfl (ex_move rfl rfl) ?_
  refine ox rfl rfl rfl rfl (ex_len (d := kOut) (xs := x1) rfl rfl Try.underlying26 hp1) ?_
  refine ox rfl rfl rfl rfl (ex_neq rfl rfl rfl) ?_
  refine ops_nil (at_then ?_)
  refine run_cond (b := ((x0.length : Int) != (x1.length : Int))) rfl (fun hb4744 => ?_) (fun hb4744 => ?_)
  · replace H := cond_t hb4744 H
    refine run_seq ?_
    refine run_region rfl ?_
    refine ox rfl rfl rfl rfl (ex_assign rfl rfl) ?_
    refine ops_nil (at_then ?_)
    refine run_ret ?_
    refine at_then_ret ?_
    have hR := Option.some.inj H
    subst hR
    exact at_ret1 rfl rfl ⟨_, rfl, rfl, HM⟩
  · replace H := cond_f hb4744 H
    refine run_skip ?_
    refine at_then ?_
    obtain ⟨o4782, ho4783, H⟩ := bind_some H
    refine run_mid (fun ρ_ w_ => Sum.inr () = o4782 ∧ ρ_ = [] ∧ Mem w [] w_ []) ?_ ?_
    · skip
      refine run_seq ?_
      refine run_region rfl ?_
      refine ox rfl rfl rfl rfl (ex_assign rfl rfl) ?_
      refine ops_nil (at_then ?_)
      refine run_block ?_
      refine run_loop (fun k_ ρ_ w_ => ∃ a4796 : Int, laws_eqOutS.l0 x0 x1 k_ a4796 = some o4782 ∧ ρ_ = [(0, p0), (1, p1), (5, .int .i64 a4796)] ∧ Mem w [] w_ []) k (ρ1 := [(0, p0), (1, p1), (5, .int .i64 0)]) ⟨_, ho4783, rfl, HM⟩ (Sub.cons rfl (Sub.cons rfl (Sub.cons rfl Sub.nil))) ?_
      clear HM ho4783
      rintro k4809 _ w4810 ⟨a4796, ho4783, rfl, HM⟩
      obtain _ | k4809 := k4809
      · exact nomatch ((laws_eqOutS.l0_z x0 x1 a4796).symm.trans ho4783)
      replace ho4783 := (laws_eqOutS.l0_s x0 x1 k4809 a4796).symm.trans ho4783
      refine run_seq ?_
      refine run_seq ?_
      refine run_region rfl ?_
      refine ox rfl rfl rfl rfl (ex_move rfl rfl) ?_
      refine ox rfl rfl rfl rfl (ex_move rfl rfl) ?_
      refine ox rfl rfl rfl rfl (ex_len (d := kOut) (xs := x0) rfl rfl Try.underlying26 hp0) ?_
      refine ox rfl rfl rfl rfl (ex_lss rfl rfl rfl) ?_
      refine ops_nil (at_then ?_)
      refine run_cond (b := (decide (a4796 < (x0.length : Int)))) rfl (fun hb4811 => ?_) (fun hb4811 => ?_)
      · replace ho4783 := cond_t hb4811 ho4783
        refine run_skip ?_
        refine at_then ?_
        refine run_seq ?_
        refine run_block ?_
        refine run_seq ?_
        obtain ⟨e4812, ho4783⟩ := chk_some ho4783
        obtain ⟨e4816, ho4783⟩ := chk_some ho4783
        obtain ⟨t4820, h4821, ho4783⟩ := bind_some ho4783
        refine run_drawf (fun w_ => Mem w [] w_ []) [(0, true), (1, true), (2, true), (3, true), (4, true), (5, true), (6, true), (7, true), (8, false), (9, true)] mixed rfl rfl (by kernel_rfl) ?_
        replace HM := HM.grow (fr_drew _)
        have hS := Mem.suf (M := []) HM
        refine dp rfl rfl rfl rfl (ex_move rfl rfl) hS ?_
        refine dp rfl rfl rfl rfl (ex_move rfl rfl) hS ?_
        obtain ⟨kv4814, hc4813, hk4815⟩ : ∃ u, CellsAt _ (sb p0) (so p0 + (a4796).toNat * 4) [(.int .i64 ((gt x0 a4796).fValue)), u, (.int .i64 ((gt x0 a4796).fRule.fNeed)), (.int .i64 ((gt x0 a4796).fRule.fAfter))] ∧ RdS kInt _ u ((gt x0 a4796).fRule.fKeys) := rd_with1 hp0 e4812
        refine dp rfl rfl rfl rfl (ex_indexAddr (d := kOut) rfl rfl rfl Try.underlying26 tsz69 hp0 (idx_lo e4812) (idx_hi e4812)) hS ?_
        refine drwp_take rfl (guard_none rfl) rfl rfl (fun w_ hS_ => (ex_loadN (cs := [(.int .i64 ((gt x0 a4796).fValue)), kv4814, (.int .i64 ((gt x0 a4796).fRule.fNeed)), (.int .i64 ((gt x0 a4796).fRule.fAfter))]) rfl rfl Try.underlying69 rfl tsz69 rfl ((hS_.at_ hc4813).sub 0 4 rfl))) hS ?_
        refine dp rfl rfl rfl rfl (ex_move rfl rfl) hS ?_
        refine dp rfl rfl rfl rfl (ex_move rfl rfl) hS ?_
        obtain ⟨kv4818, hc4817, hk4819⟩ : ∃ u, CellsAt _ (sb p1) (so p1 + (a4796).toNat * 4) [(.int .i64 ((gt x1 a4796).fValue)), u, (.int .i64 ((gt x1 a4796).fRule.fNeed)), (.int .i64 ((gt x1 a4796).fRule.fAfter))] ∧ RdS kInt _ u ((gt x1 a4796).fRule.fKeys) := rd_with1 hp1 e4816
        refine dp rfl rfl rfl rfl (ex_indexAddr (d := kOut) rfl rfl rfl Try.underlying26 tsz69 hp1 (idx_lo e4816) (idx_hi e4816)) hS ?_
        refine drwp_take rfl (guard_none rfl) rfl rfl (fun w_ hS_ => (ex_loadN (cs := [(.int .i64 ((gt x1 a4796).fValue)), kv4818, (.int .i64 ((gt x1 a4796).fRule.fNeed)), (.int .i64 ((gt x1 a4796).fRule.fAfter))]) rfl rfl Try.underlying69 rfl tsz69 rfl ((hS_.at_ hc4817).sub 0 4 rfl))) hS ?_
        refine drwp_one rfl (guard_none rfl) rfl rfl (does_callk rfl callok100 rfl (laws_eqOut.calls (x0 := (gt x0 a4796)) (x1 := (gt x1 a4796)) (HM.rd hk4815) (HM.rd hk4819) h4821)) ?_
        rintro _ w4822 ⟨rfl, hn⟩
        replace HM : Mem w [] w4822 [] := HM.call hn
        have hS := Mem.suf (M := []) HM
        refine ⟨hS, ?_⟩
        refine dp rfl rfl rfl rfl (ex_not rfl rfl) hS ?_
        refine drwp_done ?_
        refine at_then ?_
        refine run_cond (b := !t4820) rfl (fun hb4823 => ?_) (fun hb4823 => ?_)
        · replace ho4783 := cond_t hb4823 ho4783
          refine run_seq ?_
          refine run_region rfl ?_
          refine ox rfl rfl rfl rfl (ex_assign rfl rfl) ?_
          refine ops_nil (at_then ?_)
          refine run_ret ?_
          refine at_block_ret ?_
          refine at_then_ret ?_
          refine at_then_ret ?_
          refine at_block_ret ?_
          refine at_then_ret ?_
          have hR := Option.some.inj ho4783
          subst hR
          have hT := thn_inl H
          have hR := Option.some.inj hT
          subst hR
          exact at_ret1 rfl rfl ⟨_, rfl, rfl, HM⟩
        · replace ho4783 := cond_f hb4823 ho4783
          refine run_skip ?_
          refine at_block ?_
          refine at_then ?_
          refine run_region rfl ?_
          refine ox rfl rfl rfl rfl (ex_move rfl rfl) ?_
          refine ox rfl rfl rfl rfl (ex_add rfl rfl rfl) ?_
          refine ox rfl rfl rfl rfl (ex_assign rfl rfl) ?_
          refine ops_nil ?_
          exact at_again k4809 (ρ1 := [(0, p0), (1, p1), (5, .int .i64 (wrap64 (a4796 + 1)))]) (Nat.lt_succ_self _) ⟨_, ho4783, rfl, HM⟩ (Sub.cons rfl (Sub.cons rfl (Sub.cons rfl Sub.nil)))
      · replace ho4783 := cond_f hb4811 ho4783
        refine run_exit ?_
        refine at_then_exit ?_
        refine at_then_exit ?_
        refine at_block_exit ?_
        exact at_mid (ρ' := []) ⟨(Option.some.inj ho4783), rfl, HM⟩ Sub.nil
    · rintro _ w4824 ⟨rfl, rfl, HM⟩
      replace H := (thn_inr H)
      refine run_seq ?_
      refine run_region rfl ?_
      refine ox rfl rfl rfl rfl (ex_assign rfl rfl) ?_
      refine ops_nil (at_then ?_)
      refine run_ret ?_
      have hR := Option.some.inj H
      subst hR
      exact at_ret1 rfl rfl ⟨_, rfl, rfl, HM⟩

def laws_eqTx.f (k : Nat) (x0 : Tx) (x1 : Tx) : Option Bool := (bif (x0.fKind != x1.fKind) then some false else (bif (x0.fMember != x1.fMember) then some false else ((laws_eqRefS.f k x0.fIns x1.fIns).bind fun t4843 => (bif !t4843 then some false else ((laws_eqOutS.f k x0.fOuts x1.fOuts).bind fun t4847 => (bif !t4847 then some false else some true))))))
theorem laws_eqTx.calls {k : Nat} {x0 : Tx} {x1 : Tx} {p0_0 : Value} {p0_1 : Value} {p1_0 : Value} {p1_1 : Value} {w : World} (hp0_0 : RdS kRef w p0_0 x0.fIns) (hp0_1 : RdS kOut w p0_1 x0.fOuts) (hp1_0 : RdS kRef w p1_0 x1.fIns) (hp1_1 : RdS kOut w p1_1 x1.fOuts) {r : Bool} (H : laws_eqTx.f k x0 x1 = some r) :
    Calls Try.prog 21 ([.agg #[(.int .i64 x0.fKind), (.int .i64 x0.fMember), p0_0, p0_1], .agg #[(.int .i64 x1.fKind), (.int .i64 x1.fMember), p1_0, p1_1]] : List Value).toArray w (fun e w_ => ∃ v, e = .returned v ∧ v = (.bool r) ∧ Mem w [] w_ []) := by
  have HM := Mem.start w
  refine calls_run (N := 27) Try.func21 rfl rfl rfl rfl ?_
  unfold laws_eqTx.f at H
  refine run_seq ?_
  refine run_region rfl ?_
  refine od rfl rfl rfl rfl (does_box (cs := [.int .i64 x0.fKind, .int .i64 x0.fMember, p0_0, p0_1]) rfl rfl rfl HM) ?_
  rintro _ w4834 ⟨b4828, rfl, HM⟩
  refine od rfl rfl rfl rfl (does_box (cs := [.int .i64 x1.fKind, .int .i64 x1.fMember, p1_0, p1_1]) rfl rfl rfl HM) ?_
  rintro _ w4835 ⟨b4831, rfl, HM⟩
  refine ox rfl rfl rfl rfl (ex_assign rfl rfl) ?_
  refine ops_nil (at_then (run_seq ?_))
  refine run_seq ?_
  refine run_region rfl ?_
  refine ox rfl rfl rfl rfl (ex_fieldAddr (off' := 0) rfl rfl Try.underlying28 rfl tsz2 rfl) ?_
  refine ox rfl rfl rfl rfl (ex_load1 rfl rfl Try.underlying2 rfl ((HM.box_at 1 rfl) 0 _ rfl)) ?_
  refine ox rfl rfl rfl rfl (ex_fieldAddr (off' := 0) rfl rfl Try.underlying28 rfl tsz2 rfl) ?_
  refine ox rfl rfl rfl rfl (ex_load1 rfl rfl Try.underlying2 rfl ((HM.box_at 0 rfl) 0 _ rfl)) ?_
  refine ox rfl rfl rfl rfl (ex_neq rfl rfl rfl) ?_
  refine ops_nil (at_then ?_)
  refine run_cond (b := (x0.fKind != x1.fKind)) rfl (fun hb4837 => ?_) (fun hb4837 => ?_)
  · replace H := cond_t hb4837 H
    refine run_seq ?_
    refine run_region rfl ?_
    refine ox rfl rfl rfl rfl (ex_assign rfl rfl) ?_
    refine ops_nil (at_then ?_)
    refine run_ret ?_
    refine at_then_ret ?_
    replace HM := (HM.front 0 rfl rfl).drop
    replace HM := (HM.front 0 rfl rfl).drop
    have hR := Option.some.inj H
    subst hR
    exact at_ret1 rfl rfl ⟨_, rfl, rfl, HM⟩
  · replace H := cond_f hb4837 H
    refine run_skip ?_
    refine at_then ?_
    refine run_seq ?_
    refine run_seq ?_
    refine run_region rfl ?_
    refine ox rfl rfl rfl rfl (ex_fieldAddr (off' := 1) rfl rfl Try.underlying28 rfl tsz2 rfl) ?_
    refine ox rfl rfl rfl rfl (ex_load1 rfl rfl Try.underlying2 rfl ((HM.box_at 1 rfl) 1 _ rfl)) ?_
    refine ox rfl rfl rfl rfl (ex_fieldAddr (off' := 1) rfl rfl Try.underlying28 rfl tsz2 rfl) ?_
    refine ox rfl rfl rfl rfl (ex_load1 rfl rfl Try.underlying2 rfl ((HM.box_at 0 rfl) 1 _ rfl)) ?_
    refine ox rfl rfl rfl rfl (ex_neq rfl rfl rfl) ?_
    refine ops_nil (at_then ?_)
    refine run_cond (b := (x0.fMember != x1.fMember)) rfl (fun hb4839 => ?_) (fun hb4839 => ?_)
    · replace H := cond_t hb4839 H
      refine run_seq ?_
      refine run_region rfl ?_
      refine ox rfl rfl rfl rfl (ex_assign rfl rfl) ?_
      refine ops_nil (at_then ?_)
      refine run_ret ?_
      refine at_then_ret ?_
      replace HM := (HM.front 0 rfl rfl).drop
      replace HM := (HM.front 0 rfl rfl).drop
      have hR := Option.some.inj H
      subst hR
      exact at_ret1 rfl rfl ⟨_, rfl, rfl, HM⟩
    · replace H := cond_f hb4839 H
      refine run_skip ?_
      refine at_then ?_
      refine run_seq ?_
      refine run_seq ?_
      obtain ⟨t4843, h4844, H⟩ := bind_some H
      refine run_region rfl ?_
      refine ox rfl rfl rfl rfl (ex_fieldAddr (off' := 2) rfl rfl Try.underlying28 rfl tsz25 rfl) ?_
      refine ox rfl rfl rfl rfl (ex_load1 rfl rfl Try.underlying25 rfl ((HM.box_at 1 rfl) 2 _ rfl)) ?_
      refine ox rfl rfl rfl rfl (ex_fieldAddr (off' := 2) rfl rfl Try.underlying28 rfl tsz25 rfl) ?_
      refine ox rfl rfl rfl rfl (ex_load1 rfl rfl Try.underlying25 rfl ((HM.box_at 0 rfl) 2 _ rfl)) ?_
      refine od rfl rfl rfl rfl (does_callk rfl callok71 rfl (laws_eqRefS.calls (x0 := x0.fIns) (x1 := x1.fIns) (HM.rd hp0_0) (HM.rd hp1_0) h4844)) ?_
      rintro _ w4845 ⟨rfl, hn⟩
      replace HM : Mem w [] w4845 [box b4831 28 [.int .i64 x1.fKind, .int .i64 x1.fMember, p1_0, p1_1], box b4828 28 [.int .i64 x0.fKind, .int .i64 x0.fMember, p0_0, p0_1]] := HM.call hn
      refine ox rfl rfl rfl rfl (ex_not rfl rfl) ?_
      refine ops_nil (at_then ?_)
      refine run_cond (b := !t4843) rfl (fun hb4846 => ?_) (fun hb4846 => ?_)
      · replace H := cond_t hb4846 H
        refine run_seq ?_
        refine run_region rfl ?_
        refine ox rfl rfl rfl rfl (ex_assign rfl rfl) ?_
        refine ops_nil (at_then ?_)
        refine run_ret ?_
        refine at_then_ret ?_
        replace HM := (HM.front 0 rfl rfl).drop
        replace HM := (HM.front 0 rfl rfl).drop
        have hR := Option.some.inj H
        subst hR
        exact at_ret1 rfl rfl ⟨_, rfl, rfl, HM⟩
      · replace H := cond_f hb4846 H
        refine run_skip ?_
        refine at_then ?_
        refine run_seq ?_
        refine run_seq ?_
        obtain ⟨t4847, h4848, H⟩ := bind_some H
        refine run_region rfl ?_
        refine ox rfl rfl rfl rfl (ex_fieldAddr (off' := 3) rfl rfl Try.underlying28 rfl tsz26 rfl) ?_
        refine ox rfl rfl rfl rfl (ex_load1 rfl rfl Try.underlying26 rfl ((HM.box_at 1 rfl) 3 _ rfl)) ?_
        refine ox rfl rfl rfl rfl (ex_fieldAddr (off' := 3) rfl rfl Try.underlying28 rfl tsz26 rfl) ?_
        refine ox rfl rfl rfl rfl (ex_load1 rfl rfl Try.underlying26 rfl ((HM.box_at 0 rfl) 3 _ rfl)) ?_
        refine od rfl rfl rfl rfl (does_callk rfl callok42 rfl (laws_eqOutS.calls (x0 := x0.fOuts) (x1 := x1.fOuts) (HM.rd hp0_1) (HM.rd hp1_1) h4848)) ?_
        rintro _ w4849 ⟨rfl, hn⟩
        replace HM : Mem w [] w4849 [box b4831 28 [.int .i64 x1.fKind, .int .i64 x1.fMember, p1_0, p1_1], box b4828 28 [.int .i64 x0.fKind, .int .i64 x0.fMember, p0_0, p0_1]] := HM.call hn
        refine ox rfl rfl rfl rfl (ex_not rfl rfl) ?_
        refine ops_nil (at_then ?_)
        refine run_cond (b := !t4847) rfl (fun hb4850 => ?_) (fun hb4850 => ?_)
        · replace H := cond_t hb4850 H
          refine run_seq ?_
          refine run_region rfl ?_
          refine ox rfl rfl rfl rfl (ex_assign rfl rfl) ?_
          refine ops_nil (at_then ?_)
          refine run_ret ?_
          refine at_then_ret ?_
          replace HM := (HM.front 0 rfl rfl).drop
          replace HM := (HM.front 0 rfl rfl).drop
          have hR := Option.some.inj H
          subst hR
          exact at_ret1 rfl rfl ⟨_, rfl, rfl, HM⟩
        · replace H := cond_f hb4850 H
          refine run_skip ?_
          refine at_then ?_
          refine run_seq ?_
          refine run_region rfl ?_
          refine ox rfl rfl rfl rfl (ex_assign rfl rfl) ?_
          refine ops_nil (at_then ?_)
          refine run_ret ?_
          replace HM := (HM.front 0 rfl rfl).drop
          replace HM := (HM.front 0 rfl rfl).drop
          have hR := Option.some.inj H
          subst hR
          exact at_ret1 rfl rfl ⟨_, rfl, rfl, HM⟩

def laws_markMemberS.l0  : Nat → (List Member) → Int → Int → Option ((List Member) × Int)
  | 0, _, _, _ => none
  | k + 1, a4913, a4915, a4916 => (bif (decide (a4916 < (a4913.length : Int))) then (chk (idxOk a4916 a4913.length) (laws_markMemberS.l0 k (a4913.set (a4916).toNat (⟨a4915, (⟨wrap64 (a4915 + 1), wrap64 ((wrap64 (a4915 + 1)) + 1)⟩ : Ref)⟩ : Member)) (wrap64 ((wrap64 ((wrap64 (a4915 + 1)) + 1)) + 1)) (wrap64 (a4916 + 1)))) else some (a4913, a4915))
theorem laws_markMemberS.l0_z  (a4913 : List Member) (a4915 : Int) (a4916 : Int) : laws_markMemberS.l0 0 a4913 a4915 a4916 = none := rfl
theorem laws_markMemberS.l0_s  (k : Nat) (a4913 : List Member) (a4915 : Int) (a4916 : Int) : laws_markMemberS.l0 (k + 1) a4913 a4915 a4916 = (bif (decide (a4916 < (a4913.length : Int))) then (chk (idxOk a4916 a4913.length) (laws_markMemberS.l0 k (a4913.set (a4916).toNat (⟨a4915, (⟨wrap64 (a4915 + 1), wrap64 ((wrap64 (a4915 + 1)) + 1)⟩ : Ref)⟩ : Member)) (wrap64 ((wrap64 ((wrap64 (a4915 + 1)) + 1)) + 1)) (wrap64 (a4916 + 1)))) else some (a4913, a4915)) := rfl
def laws_markMemberS.f (k : Nat) (x0 : List Member) (x1 : Int) : Option (Int × (List Member)) := ((laws_markMemberS.l0 k x0 x1 0).bind (cur2 (fun a4904 a4906 => some (a4906, a4904))))
theorem laws_markMemberS.calls {k : Nat} {x0 : List Member} {x1 : Int} {p0 : Value} {w wo : World} {X : List Nat} (hwo : Olds wo w X) (hX : Hold w [own kMember 38 p0 x0] X) (hXn : X.Nodup) (hXl : ∀ b ∈ X, b < w.heap.size)  {r : Int × (List Member)} (H : laws_markMemberS.f k x0 x1 = some r) :
    Calls Try.prog 22 ([p0, .int .i64 x1] : List Value).toArray w (fun e w_ => ∃ v, e = .returned v ∧ v = (.int .i64 r.1) ∧ Mem w X w_ [own kMember 38 p0 r.2]) := by
  have HM := Mem.startX hX hXn hXl
  refine calls_run (N := 36) Try.func22 rfl rfl rfl rfl ?_
  unfold laws_markMemberS.f at H
  refine run_seq ?_
  refine run_region rfl ?_
  refine ox rfl rfl rfl rfl (ex_assign rfl rfl) ?_
  refine ops_nil (at_then ?_)
  obtain ⟨o4907, ho4908, H⟩ := bind_some H
  refine run_mid (fun ρ_ w_ => ∃ a4904 : List Member, ∃ a4906 : Int, (a4904, a4906) = o4907 ∧ ρ_ = [(1, .int .i64 a4906)] ∧ Mem w X w_ [own kMember 38 p0 a4904]) ?_ ?_
  · clear H
    refine run_seq ?_
    refine run_region rfl ?_
    refine ox rfl rfl rfl rfl (ex_assign rfl rfl) ?_
    refine ops_nil (at_then ?_)
    refine run_block ?_
    refine run_loop (fun k_ ρ_ w_ => ∃ a4913 : List Member, ∃ a4915 : Int, ∃ a4916 : Int, laws_markMemberS.l0 k_ a4913 a4915 a4916 = some o4907 ∧ ρ_ = [(0, p0), (1, .int .i64 a4915), (5, .int .i64 a4916)] ∧ Mem w X w_ [own kMember 38 p0 a4913]) k (ρ1 := [(0, p0), (1, .int .i64 x1), (5, .int .i64 0)]) ⟨_, _, _, ho4908, rfl, HM⟩ (Sub.cons rfl (Sub.cons rfl (Sub.cons rfl Sub.nil))) ?_
    clear HM ho4908
    rintro k4921 _ w4922 ⟨a4913, a4915, a4916, ho4908, rfl, HM⟩
    obtain _ | k4921 := k4921
    · exact nomatch ((laws_markMemberS.l0_z a4913 a4915 a4916).symm.trans ho4908)
    replace ho4908 := (laws_markMemberS.l0_s k4921 a4913 a4915 a4916).symm.trans ho4908
    refine run_seq ?_
    refine run_seq ?_
    refine run_region rfl ?_
    refine ox rfl rfl rfl rfl (ex_move rfl rfl) ?_
    refine ox rfl rfl rfl rfl (ex_move rfl rfl) ?_
    refine ox rfl rfl rfl rfl (ex_len (d := kMember) (xs := a4913) rfl rfl Try.underlying24 (HM.own_rd 0 rfl)) ?_
    refine ox rfl rfl rfl rfl (ex_lss rfl rfl rfl) ?_
    refine ops_nil (at_then ?_)
    refine run_cond (b := (decide (a4916 < (a4913.length : Int)))) rfl (fun hb4923 => ?_) (fun hb4923 => ?_)
    · replace ho4908 := cond_t hb4923 ho4908
      refine run_skip ?_
      refine at_then ?_
      refine run_seq ?_
      refine run_block ?_
      refine run_seq ?_
      obtain ⟨e4924, ho4908⟩ := chk_some ho4908
      refine run_region rfl ?_
      refine ox rfl rfl rfl rfl (ex_move rfl rfl) ?_
      refine ox rfl rfl rfl rfl (ex_move rfl rfl) ?_
      refine ox rfl rfl rfl rfl (ex_move rfl rfl) ?_
      refine ox rfl rfl rfl rfl (ex_indexAddr (d := kMember) rfl rfl rfl Try.underlying24 tsz38 (HM.own_rd 0 rfl) (idx_lo e4924) (idx_hi e4924)) ?_
      refine ox rfl rfl rfl rfl (ex_fieldAddr (off' := so p0 + (a4916).toNat * 3) rfl rfl Try.underlying38 rfl tsz2 rfl) ?_
      refine odS rfl rfl rfl (does_setField (fo := 0) (vs := [(.int .i64 a4915)]) (y := (⟨a4915, (gt a4913 a4916).fRef⟩ : Member)) kMember rfl rfl rfl rfl rfl tsz2 (Ones.int Ones.nil) rfl rfl (idx_nat e4924) (fun _ _ _ h => by rw [← gt_eq (idx_nat e4924)] at h; obtain ⟨rfl, h2⟩ := h; exact ⟨rfl, h2⟩) HM) ?_
      rintro w4925 HM
      refine ops_nil (at_then (run_seq ?_))
      refine run_region rfl ?_
      refine ox rfl rfl rfl rfl (ex_move rfl rfl) ?_
      refine ox rfl rfl rfl rfl (ex_add rfl rfl rfl) ?_
      refine ox rfl rfl rfl rfl (ex_assign rfl rfl) ?_
      refine ops_nil (at_then (run_seq ?_))
      refine run_region rfl ?_
      refine ox rfl rfl rfl rfl (ex_move rfl rfl) ?_
      refine ox rfl rfl rfl rfl (ex_move rfl rfl) ?_
      refine ox rfl rfl rfl rfl (ex_move rfl rfl) ?_
      have e4926 : idxOk a4916 (a4913.set (a4916).toNat (⟨a4915, (gt a4913 a4916).fRef⟩ : Member)).length = true := len_set e4924
      refine ox rfl rfl rfl rfl (ex_indexAddr (d := kMember) rfl rfl rfl Try.underlying24 tsz38 (HM.own_rd 0 rfl) (idx_lo e4926) (idx_hi e4926)) ?_
      refine ox rfl rfl rfl rfl (ex_fieldAddr (off' := so p0 + (a4916).toNat * 3 + 1) rfl rfl Try.underlying38 rfl tsz36 rfl) ?_
      refine ox rfl rfl rfl rfl (ex_fieldAddr (off' := so p0 + (a4916).toNat * 3 + 1) rfl rfl Try.underlying36 rfl tsz2 rfl) ?_
      refine odS rfl rfl rfl (does_setField (fo := 1) (vs := [(.int .i64 (wrap64 (a4915 + 1)))]) (y := (⟨a4915, (⟨wrap64 (a4915 + 1), (gt a4913 a4916).fRef.fAt⟩ : Ref)⟩ : Member)) kMember rfl rfl rfl rfl rfl tsz2 (Ones.int Ones.nil) rfl rfl (idx_nat e4926) (fun _ _ _ h => by rw [List.getElem_set_self] at h; obtain ⟨rfl, h2⟩ := h; exact ⟨rfl, h2⟩) HM) ?_
      rintro w4927 HM
      replace HM := HM.set2
      refine ops_nil (at_then (run_seq ?_))
      refine run_region rfl ?_
      refine ox rfl rfl rfl rfl (ex_move rfl rfl) ?_
      refine ox rfl rfl rfl rfl (ex_add rfl rfl rfl) ?_
      refine ox rfl rfl rfl rfl (ex_assign rfl rfl) ?_
      refine ops_nil (at_then (run_seq ?_))
      refine run_region rfl ?_
      refine ox rfl rfl rfl rfl (ex_move rfl rfl) ?_
      refine ox rfl rfl rfl rfl (ex_move rfl rfl) ?_
      refine ox rfl rfl rfl rfl (ex_move rfl rfl) ?_
      have e4928 : idxOk a4916 (a4913.set (a4916).toNat (⟨a4915, (⟨wrap64 (a4915 + 1), (gt a4913 a4916).fRef.fAt⟩ : Ref)⟩ : Member)).length = true := len_set e4924
      refine ox rfl rfl rfl rfl (ex_indexAddr (d := kMember) rfl rfl rfl Try.underlying24 tsz38 (HM.own_rd 0 rfl) (idx_lo e4928) (idx_hi e4928)) ?_
      refine ox rfl rfl rfl rfl (ex_fieldAddr (off' := so p0 + (a4916).toNat * 3 + 1) rfl rfl Try.underlying38 rfl tsz36 rfl) ?_
      refine ox rfl rfl rfl rfl (ex_fieldAddr (off' := so p0 + (a4916).toNat * 3 + 2) rfl rfl Try.underlying36 rfl tsz2 rfl) ?_
      refine odS rfl rfl rfl (does_setField (fo := 2) (vs := [(.int .i64 (wrap64 ((wrap64 (a4915 + 1)) + 1)))]) (y := (⟨a4915, (⟨wrap64 (a4915 + 1), wrap64 ((wrap64 (a4915 + 1)) + 1)⟩ : Ref)⟩ : Member)) kMember rfl rfl rfl rfl rfl tsz2 (Ones.int Ones.nil) rfl rfl (idx_nat e4928) (fun _ _ _ h => by rw [List.getElem_set_self] at h; obtain ⟨rfl, h2⟩ := h; exact ⟨rfl, h2⟩) HM) ?_
      rintro w4929 HM
      replace HM := HM.set2
      refine ops_nil (at_then ?_)
      refine run_region rfl ?_
      refine ox rfl rfl rfl rfl (ex_move rfl rfl) ?_
      refine ox rfl rfl rfl rfl (ex_add rfl rfl rfl) ?_
      refine ox rfl rfl rfl rfl (ex_assign rfl rfl) ?_
      refine ops_nil ?_
      refine at_block ?_
      refine at_then ?_
      refine run_region rfl ?_
      refine ox rfl rfl rfl rfl (ex_move rfl rfl) ?_
      refine ox rfl rfl rfl rfl (ex_add rfl rfl rfl) ?_
      refine ox rfl rfl rfl rfl (ex_assign rfl rfl) ?_
      refine ops_nil ?_
      exact at_again k4921 (ρ1 := [(0, p0), (1, .int .i64 (wrap64 ((wrap64 ((wrap64 (a4915 + 1)) + 1)) + 1))), (5, .int .i64 (wrap64 (a4916 + 1)))]) (Nat.lt_succ_self _) ⟨_, _, _, ho4908, rfl, HM⟩ (Sub.cons rfl (Sub.cons rfl (Sub.cons rfl Sub.nil)))
    · replace ho4908 := cond_f hb4923 ho4908
      refine run_exit ?_
      refine at_then_exit ?_
      refine at_then_exit ?_
      refine at_block_exit ?_
      exact at_mid (ρ' := [(1, .int .i64 a4915)]) ⟨_, _, (Option.some.inj ho4908), rfl, HM⟩ (Sub.cons rfl Sub.nil)
  · rintro _ w4930 ⟨a4904, a4906, rfl, rfl, HM⟩
    replace H := cur2_mk H
    refine run_seq ?_
    refine run_region rfl ?_
    refine ox rfl rfl rfl rfl (ex_move rfl rfl) ?_
    refine ox rfl rfl rfl rfl (ex_assign rfl rfl) ?_
    refine ops_nil (at_then ?_)
    refine run_ret ?_
    have hR := Option.some.inj H
    subst hR
    exact at_ret1 rfl rfl ⟨_, rfl, rfl, HM⟩

def laws_markRefS.l0  : Nat → (List Ref) → Int → Int → Option ((List Ref) × Int)
  | 0, _, _, _ => none
  | k + 1, a4985, a4987, a4988 => (bif (decide (a4988 < (a4985.length : Int))) then (chk (idxOk a4988 a4985.length) (laws_markRefS.l0 k (a4985.set (a4988).toNat (⟨a4987, wrap64 (a4987 + 1)⟩ : Ref)) (wrap64 ((wrap64 (a4987 + 1)) + 1)) (wrap64 (a4988 + 1)))) else some (a4985, a4987))
theorem laws_markRefS.l0_z  (a4985 : List Ref) (a4987 : Int) (a4988 : Int) : laws_markRefS.l0 0 a4985 a4987 a4988 = none := rfl
theorem laws_markRefS.l0_s  (k : Nat) (a4985 : List Ref) (a4987 : Int) (a4988 : Int) : laws_markRefS.l0 (k + 1) a4985 a4987 a4988 = (bif (decide (a4988 < (a4985.length : Int))) then (chk (idxOk a4988 a4985.length) (laws_markRefS.l0 k (a4985.set (a4988).toNat (⟨a4987, wrap64 (a4987 + 1)⟩ : Ref)) (wrap64 ((wrap64 (a4987 + 1)) + 1)) (wrap64 (a4988 + 1)))) else some (a4985, a4987)) := rfl
def laws_markRefS.f (k : Nat) (x0 : List Ref) (x1 : Int) : Option (Int × (List Ref)) := ((laws_markRefS.l0 k x0 x1 0).bind (cur2 (fun a4977 a4979 => some (a4979, a4977))))
theorem laws_markRefS.calls {k : Nat} {x0 : List Ref} {x1 : Int} {p0 : Value} {w wo : World} {X : List Nat} (hwo : Olds wo w X) (hX : Hold w [own kRef 36 p0 x0] X) (hXn : X.Nodup) (hXl : ∀ b ∈ X, b < w.heap.size)  {r : Int × (List Ref)} (H : laws_markRefS.f k x0 x1 = some r) :
    Calls Try.prog 72 ([p0, .int .i64 x1] : List Value).toArray w (fun e w_ => ∃ v, e = .returned v ∧ v = (.int .i64 r.1) ∧ Mem w X w_ [own kRef 36 p0 r.2]) := by
  have HM := Mem.startX hX hXn hXl
  refine calls_run (N := 27) Try.func72 rfl rfl rfl rfl ?_
  unfold laws_markRefS.f at H
  refine run_seq ?_
  refine run_region rfl ?_
  refine ox rfl rfl rfl rfl (ex_assign rfl rfl) ?_
  refine ops_nil (at_then ?_)
  obtain ⟨o4980, ho4981, H⟩ := bind_some H
  refine run_mid (fun ρ_ w_ => ∃ a4977 : List Ref, ∃ a4979 : Int, (a4977, a4979) = o4980 ∧ ρ_ = [(1, .int .i64 a4979)] ∧ Mem w X w_ [own kRef 36 p0 a4977]) ?_ ?_
  · clear H
    refine run_seq ?_
    refine run_region rfl ?_
    refine ox rfl rfl rfl rfl (ex_assign rfl rfl) ?_
    refine ops_nil (at_then ?_)
    refine run_block ?_
    refine run_loop (fun k_ ρ_ w_ => ∃ a4985 : List Ref, ∃ a4987 : Int, ∃ a4988 : Int, laws_markRefS.l0 k_ a4985 a4987 a4988 = some o4980 ∧ ρ_ = [(0, p0), (1, .int .i64 a4987), (5, .int .i64 a4988)] ∧ Mem w X w_ [own kRef 36 p0 a4985]) k (ρ1 := [(0, p0), (1, .int .i64 x1), (5, .int .i64 0)]) ⟨_, _, _, ho4981, rfl, HM⟩ (Sub.cons rfl (Sub.cons rfl (Sub.cons rfl Sub.nil))) ?_
    clear HM ho4981
    rintro k4992 _ w4993 ⟨a4985, a4987, a4988, ho4981, rfl, HM⟩
    obtain _ | k4992 := k4992
    · exact nomatch ((laws_markRefS.l0_z a4985 a4987 a4988).symm.trans ho4981)
    replace ho4981 := (laws_markRefS.l0_s k4992 a4985 a4987 a4988).symm.trans ho4981
    refine run_seq ?_
    refine run_seq ?_
    refine run_region rfl ?_
    refine ox rfl rfl rfl rfl (ex_move rfl rfl) ?_
    refine ox rfl rfl rfl rfl (ex_move rfl rfl) ?_
    refine ox rfl rfl rfl rfl (ex_len (d := kRef) (xs := a4985) rfl rfl Try.underlying25 (HM.own_rd 0 rfl)) ?_
    refine ox rfl rfl rfl rfl (ex_lss rfl rfl rfl) ?_
    refine ops_nil (at_then ?_)
    refine run_cond (b := (decide (a4988 < (a4985.length : Int)))) rfl (fun hb4994 => ?_) (fun hb4994 => ?_)
    · replace ho4981 := cond_t hb4994 ho4981
      refine run_skip ?_
      refine at_then ?_
      refine run_seq ?_
      refine run_block ?_
      refine run_seq ?_
      obtain ⟨e4995, ho4981⟩ := chk_some ho4981
      refine run_region rfl ?_
      refine ox rfl rfl rfl rfl (ex_move rfl rfl) ?_
      refine ox rfl rfl rfl rfl (ex_move rfl rfl) ?_
      refine ox rfl rfl rfl rfl (ex_move rfl rfl) ?_
      refine ox rfl rfl rfl rfl (ex_indexAddr (d := kRef) rfl rfl rfl Try.underlying25 tsz36 (HM.own_rd 0 rfl) (idx_lo e4995) (idx_hi e4995)) ?_
      refine ox rfl rfl rfl rfl (ex_fieldAddr (off' := so p0 + (a4988).toNat * 2) rfl rfl Try.underlying36 rfl tsz2 rfl) ?_
      refine odS rfl rfl rfl (does_setField (fo := 0) (vs := [(.int .i64 a4987)]) (y := (⟨a4987, (gt a4985 a4988).fAt⟩ : Ref)) kRef rfl rfl rfl rfl rfl tsz2 (Ones.int Ones.nil) rfl rfl (idx_nat e4995) (fun _ _ _ h => by rw [← gt_eq (idx_nat e4995)] at h; obtain ⟨rfl, h2⟩ := h; exact ⟨rfl, h2⟩) HM) ?_
      rintro w4996 HM
      refine ops_nil (at_then (run_seq ?_))
      refine run_region rfl ?_
      refine ox rfl rfl rfl rfl (ex_move rfl rfl) ?_
      refine ox rfl rfl rfl rfl (ex_add rfl rfl rfl) ?_
      refine ox rfl rfl rfl rfl (ex_assign rfl rfl) ?_
      refine ops_nil (at_then (run_seq ?_))
      refine run_region rfl ?_
      refine ox rfl rfl rfl rfl (ex_move rfl rfl) ?_
      refine ox rfl rfl rfl rfl (ex_move rfl rfl) ?_
      refine ox rfl rfl rfl rfl (ex_move rfl rfl) ?_
      have e4997 : idxOk a4988 (a4985.set (a4988).toNat (⟨a4987, (gt a4985 a4988).fAt⟩ : Ref)).length = true := len_set e4995
      refine ox rfl rfl rfl rfl (ex_indexAddr (d := kRef) rfl rfl rfl Try.underlying25 tsz36 (HM.own_rd 0 rfl) (idx_lo e4997) (idx_hi e4997)) ?_
      refine ox rfl rfl rfl rfl (ex_fieldAddr (off' := so p0 + (a4988).toNat * 2 + 1) rfl rfl Try.underlying36 rfl tsz2 rfl) ?_
      refine odS rfl rfl rfl (does_setField (fo := 1) (vs := [(.int .i64 (wrap64 (a4987 + 1)))]) (y := (⟨a4987, wrap64 (a4987 + 1)⟩ : Ref)) kRef rfl rfl rfl rfl rfl tsz2 (Ones.int Ones.nil) rfl rfl (idx_nat e4997) (fun _ _ _ h => by rw [List.getElem_set_self] at h; obtain ⟨rfl, h2⟩ := h; exact ⟨rfl, h2⟩) HM) ?_
      rintro w4998 HM
      replace HM := HM.set2
      refine ops_nil (at_then ?_)
      refine run_region rfl ?_
      refine ox rfl rfl rfl rfl (ex_move rfl rfl) ?_
      refine ox rfl rfl rfl rfl (ex_add rfl rfl rfl) ?_
      refine ox rfl rfl rfl rfl (ex_assign rfl rfl) ?_
      refine ops_nil ?_
      refine at_block ?_
      refine at_then ?_
      refine run_region rfl ?_
      refine ox rfl rfl rfl rfl (ex_move rfl rfl) ?_
      refine ox rfl rfl rfl rfl (ex_add rfl rfl rfl) ?_
      refine ox rfl rfl rfl rfl (ex_assign rfl rfl) ?_
      refine ops_nil ?_
      exact at_again k4992 (ρ1 := [(0, p0), (1, .int .i64 (wrap64 ((wrap64 (a4987 + 1)) + 1))), (5, .int .i64 (wrap64 (a4988 + 1)))]) (Nat.lt_succ_self _) ⟨_, _, _, ho4981, rfl, HM⟩ (Sub.cons rfl (Sub.cons rfl (Sub.cons rfl Sub.nil)))
    · replace ho4981 := cond_f hb4994 ho4981
      refine run_exit ?_
      refine at_then_exit ?_
      refine at_then_exit ?_
      refine at_block_exit ?_
      exact at_mid (ρ' := [(1, .int .i64 a4987)]) ⟨_, _, (Option.some.inj ho4981), rfl, HM⟩ (Sub.cons rfl Sub.nil)
  · rintro _ w4999 ⟨a4977, a4979, rfl, rfl, HM⟩
    replace H := cur2_mk H
    refine run_seq ?_
    refine run_region rfl ?_
    refine ox rfl rfl rfl rfl (ex_move rfl rfl) ?_
    refine ox rfl rfl rfl rfl (ex_assign rfl rfl) ?_
    refine ops_nil (at_then ?_)
    refine run_ret ?_
    have hR := Option.some.inj H
    subst hR
    exact at_ret1 rfl rfl ⟨_, rfl, rfl, HM⟩
end Go.Proofs.Ytbbcabpnkdilgaa.Zk
