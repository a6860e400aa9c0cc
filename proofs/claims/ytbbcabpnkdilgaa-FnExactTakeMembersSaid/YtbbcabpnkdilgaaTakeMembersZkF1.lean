/- What functions of the program compute, each as a plain function, and that they do. Conditions: as each theorem states them. -/
import Derived.Test.YtbbcabpnkdilgaaTakeMembersZkF0
namespace Go.Proofs.Ytbbcabpnkdilgaa.Zk
open Go Go.RowKit Go.IntWalk Go.Proofs
set_option linter.unusedVariables false
set_option linter.unusedSimpArgs false
set_option maxRecDepth 100000
set_option maxHeartbeats 4000000
def laws_toTx.f (k : Nat) (x0 : Tx) : Option Tx := ((laws_toRefS.f k x0.fIns).bind fun t701 => ((laws_toOutS.f k x0.fOuts).bind fun t707 => some (⟨x0.fKind, x0.fMember, t701, t707⟩ : Tx)))
theorem laws_toTx.calls {k : Nat} {x0 : Tx} {p0_0 : Value} {p0_1 : Value} {w : World} (hp0_0 : RdS kRef w p0_0 x0.fIns) (hp0_1 : RdS kOut w p0_1 x0.fOuts) {r : Tx} (H : laws_toTx.f k x0 = some r) :
    Calls Try.prog 18 ([.agg #[(.int .i64 x0.fKind), (.int .i64 x0.fMember), p0_0, p0_1]] : List Value).toArray w (fun e w_ => ∃ v, e = .returned v ∧ ∃ u0 : Value, ∃ u1 : Value, v = (.agg #[.int .i64 r.fKind, .int .i64 r.fMember, u0, u1]) ∧ Mem w [] w_ [own kRef 36 u0 r.fIns, own kOut 69 u1 r.fOuts]) := by
  have HM := Mem.start w
  refine calls_run (N := 19) Try.func18 rfl rfl rfl rfl ?_
  unfold laws_toTx.f at H
  refine run_seq ?_
  refine run_region rfl ?_
  refine od rfl rfl rfl rfl (does_box (cs := [.int .i64 x0.fKind, .int .i64 x0.fMember, p0_0, p0_1]) rfl rfl rfl HM) ?_
  rintro _ w693 ⟨b687, rfl, HM⟩
  refine od rfl rfl rfl rfl (does_alloc (cs := [.int .i64 0, .int .i64 0, .slice none 0 0, .slice none 0 0]) rfl tz28 rfl HM) ?_
  rintro _ w694 ⟨b690, rfl, HM⟩
  refine ops_nil (at_then (run_seq ?_))
  refine run_region rfl ?_
  refine od rfl rfl rfl rfl (does_alloc (cs := [.int .i64 0, .int .i64 0, .slice none 0 0, .slice none 0 0]) rfl tz28 rfl HM) ?_
  rintro _ w698 ⟨b695, rfl, HM⟩
  refine ops_nil (at_then (run_seq ?_))
  refine run_region rfl ?_
  refine ox rfl rfl rfl rfl (ex_fieldAddr (off' := 0) rfl rfl Try.underlying49 rfl tsz2 rfl) ?_
  refine ox rfl rfl rfl rfl (ex_load1 rfl rfl Try.underlying2 rfl ((HM.box_at 2 rfl) 0 _ rfl)) ?_
  refine ox rfl rfl rfl rfl (ex_fieldAddr (off' := 0) rfl rfl Try.underlying28 rfl tsz2 rfl) ?_
  refine odS rfl rfl rfl (does_store (vs := [.int .i64 x0.fKind]) (cs' := [.int .i64 x0.fKind, .int .i64 0, .slice none 0 0, .slice none 0 0]) rfl rfl rfl rfl tsz2 (Ones.int Ones.nil) rfl rfl HM) ?_
  rintro w699 HM
  refine ops_nil (at_then (run_seq ?_))
  refine run_region rfl ?_
  refine ox rfl rfl rfl rfl (ex_fieldAddr (off' := 1) rfl rfl Try.underlying49 rfl tsz2 rfl) ?_
  refine ox rfl rfl rfl rfl (ex_load1 rfl rfl Try.underlying2 rfl ((HM.box_at 2 rfl) 1 _ rfl)) ?_
  refine ox rfl rfl rfl rfl (ex_fieldAddr (off' := 1) rfl rfl Try.underlying28 rfl tsz2 rfl) ?_
  refine odS rfl rfl rfl (does_store (vs := [.int .i64 x0.fMember]) (cs' := [.int .i64 x0.fKind, .int .i64 x0.fMember, .slice none 0 0, .slice none 0 0]) rfl rfl rfl rfl tsz2 (Ones.int Ones.nil) rfl rfl HM) ?_
  rintro w700 HM
  refine ops_nil (at_then (run_seq ?_))
  obtain ⟨t701, h702, H⟩ := bind_some H
  refine run_region rfl ?_
  refine ox rfl rfl rfl rfl (ex_fieldAddr (off' := 2) rfl rfl Try.underlying49 rfl tsz46 rfl) ?_
  refine ox rfl rfl rfl rfl (ex_load1 rfl rfl Try.underlying46 rfl ((HM.box_at 2 rfl) 2 _ rfl)) ?_
  refine od rfl rfl rfl rfl (does_callk rfl callok69 rfl (laws_toRefS.calls (x0 := x0.fIns) (HM.rd hp0_0) h702)) ?_
  rintro u703 w705 ⟨_, rfl, hn⟩
  replace HM : Mem w [] w705 [own kRef 36 u703 t701, box b695 28 [.int .i64 x0.fKind, .int .i64 x0.fMember, .slice none 0 0, .slice none 0 0], box b690 28 [.int .i64 0, .int .i64 0, .slice none 0 0, .slice none 0 0], box b687 49 [.int .i64 x0.fKind, .int .i64 x0.fMember, p0_0, p0_1]] := HM.call hn
  refine ox rfl rfl rfl rfl (ex_fieldAddr (off' := 2) rfl rfl Try.underlying28 rfl tsz25 rfl) ?_
  replace HM := HM.front 1 rfl rfl
  refine odS rfl rfl rfl (does_store (vs := [u703]) (cs' := [.int .i64 x0.fKind, .int .i64 x0.fMember, u703, .slice none 0 0]) rfl rfl rfl (rd_cells (HM.own_rd 1 rfl)) tsz25 (Ones.rd (HM.own_rd 1 rfl) Ones.nil) rfl rfl HM) ?_
  rintro w706 HM
  refine ops_nil (at_then (run_seq ?_))
  obtain ⟨t707, h708, H⟩ := bind_some H
  refine run_region rfl ?_
  refine ox rfl rfl rfl rfl (ex_fieldAddr (off' := 3) rfl rfl Try.underlying49 rfl tsz47 rfl) ?_
  refine ox rfl rfl rfl rfl (ex_load1 rfl rfl Try.underlying47 rfl ((HM.box_at 3 rfl) 3 _ rfl)) ?_
  refine od rfl rfl rfl rfl (does_callk rfl callok39 rfl (laws_toOutS.calls (x0 := x0.fOuts) (HM.rd hp0_1) h708)) ?_
  rintro u709 w711 ⟨_, rfl, hn⟩
  replace HM : Mem w [] w711 [own kOut 69 u709 t707, box b695 28 [.int .i64 x0.fKind, .int .i64 x0.fMember, u703, .slice none 0 0], own kRef 36 u703 t701, box b690 28 [.int .i64 0, .int .i64 0, .slice none 0 0, .slice none 0 0], box b687 49 [.int .i64 x0.fKind, .int .i64 x0.fMember, p0_0, p0_1]] := HM.call hn
  refine ox rfl rfl rfl rfl (ex_fieldAddr (off' := 3) rfl rfl Try.underlying28 rfl tsz26 rfl) ?_
  replace HM := HM.front 1 rfl rfl
  refine odS rfl rfl rfl (does_store (vs := [u709]) (cs' := [.int .i64 x0.fKind, .int .i64 x0.fMember, u703, u709]) rfl rfl rfl (rd_cells (HM.own_rd 1 rfl)) tsz26 (Ones.rd (HM.own_rd 1 rfl) Ones.nil) rfl rfl HM) ?_
  rintro w712 HM
  refine ops_nil (at_then (run_seq ?_))
  refine run_region rfl ?_
  refine ox rfl rfl rfl rfl (ex_loadN (cs := [(.int .i64 x0.fKind), (.int .i64 x0.fMember), u703, u709]) rfl rfl Try.underlying28 rfl tsz28 rfl ((HM.box_at 0 rfl).sub 0 4 rfl)) ?_
  replace HM := HM.front 3 rfl rfl
  refine odS rfl rfl rfl (does_store (vs := [.int .i64 x0.fKind, .int .i64 x0.fMember, u703, u709]) (cs' := [.int .i64 x0.fKind, .int .i64 x0.fMember, u703, u709]) rfl rfl rfl rfl tsz28 (Ones.int (Ones.int (Ones.rd (HM.own_rd 3 rfl) (Ones.rd (HM.own_rd 2 rfl) Ones.nil)))) rfl rfl HM) ?_
  rintro w713 HM
  refine ops_nil (at_then ?_)
  refine run_ret ?_
  replace HM := (HM.front 1 rfl rfl).drop
  replace HM := (HM.front 3 rfl rfl).drop
  replace HM := HM.front 1 rfl rfl
  replace HM := HM.front 2 rfl rfl
  replace HM := HM.front 2 rfl rfl
  have hcb0 := HM.box_at 0 rfl
  replace HM := (HM.front 0 rfl rfl).drop
  have hR := Option.some.inj H
  subst hR
  exact at_retN rfl rfl Try.underlying28 rfl tsz28 rfl hcb0 ⟨_, rfl, _, _, rfl, HM⟩

def spec_l1In.f (k : Nat) (x0 : Int) (x1 : Int) (x2 : Int) : Option Bool := some ((decide (x1 ≤ x0)) && (decide (x0 ≤ x2)))
theorem spec_l1In.calls {k : Nat} {x0 : Int} {x1 : Int} {x2 : Int}  {w : World}  {r : Bool} (H : spec_l1In.f k x0 x1 x2 = some r) :
    Calls Try.prog 58 ([.int .i64 x0, .int .i64 x1, .int .i64 x2] : List Value).toArray w (fun e w_ => ∃ v, e = .returned v ∧ v = (.bool r) ∧ Mem w [] w_ []) := by
  have HM := Mem.start w
  refine calls_run (N := 15) Try.func58 rfl rfl rfl rfl ?_
  unfold spec_l1In.f at H
  refine run_seq ?_
  refine run_region rfl ?_
  refine ox rfl rfl rfl rfl (ex_assign rfl rfl) ?_
  refine ops_nil (at_then (run_seq ?_))
  refine run_meet (fun ρ_ w_ => ρ_ = [(6, .bool ((decide (x1 ≤ x0)) && (decide (x0 ≤ x2))))] ∧ Mem w [] w_ []) ?_ ?_
  · skip
    refine run_region rfl ?_
    refine ox rfl rfl rfl rfl (ex_move rfl rfl) ?_
    refine ox rfl rfl rfl rfl (ex_move rfl rfl) ?_
    refine ox rfl rfl rfl rfl (ex_geq rfl rfl rfl) ?_
    refine ox rfl rfl rfl rfl (ex_move rfl rfl) ?_
    refine bool_cases (decide (x1 ≤ x0)) (fun hg731 => ?_) (fun hg731 => ?_)
    · skip
      refine ops_ex rfl (guard_on rfl rfl rfl hg731) rfl rfl (ex_move rfl rfl) ?_
      refine ops_ex rfl (guard_on rfl rfl rfl hg731) rfl rfl (ex_move rfl rfl) ?_
      refine ops_ex rfl (guard_on rfl rfl rfl hg731) rfl rfl (ex_leq rfl rfl rfl) ?_
      refine ops_ex (v := .bool ((decide (x1 ≤ x0)) && (decide (x0 ≤ x2)))) rfl (guard_none rfl) rfl rfl (ex_pand_t rfl rfl hg731 rfl) ?_
      refine ox rfl rfl rfl rfl (ex_assign rfl rfl) ?_
      refine ops_nil ?_
      exact at_meet [(6, .bool ((decide (x1 ≤ x0)) && (decide (x0 ≤ x2))))] ⟨rfl, HM⟩ (Sub.cons rfl Sub.nil)
    · skip
      refine ops_off rfl (guard_off rfl rfl rfl hg731) rfl rfl ?_
      refine ops_off rfl (guard_off rfl rfl rfl hg731) rfl rfl ?_
      refine ops_off rfl (guard_off rfl rfl rfl hg731) rfl rfl ?_
      have hg732 : ((decide (x1 ≤ x0)) && (decide (x0 ≤ x2))) = false := by simp only [hg731, Bool.and_true, Bool.true_and, Bool.and_false, Bool.false_and, Bool.or_true, Bool.true_or, Bool.or_false, Bool.false_or, Bool.not_true, Bool.not_false, Bool.not_not]
      refine ops_ex (v := .bool ((decide (x1 ≤ x0)) && (decide (x0 ≤ x2)))) rfl (guard_none rfl) rfl rfl (ex_pand_f rfl rfl hg731) ?_
      refine ox rfl rfl rfl rfl (ex_assign rfl rfl) ?_
      refine ops_nil ?_
      exact at_meet [(6, .bool ((decide (x1 ≤ x0)) && (decide (x0 ≤ x2))))] ⟨rfl, HM⟩ (Sub.cons rfl Sub.nil)
  · rintro _ w733 ⟨rfl, HM⟩
    refine at_then ?_
    refine run_ret ?_
    have hR := Option.some.inj H
    subst hR
    exact at_ret1 rfl rfl ⟨_, rfl, rfl, HM⟩

def spec_l1Key.f (k : Nat) (x0 : Int) : Option Bool := ((spec_l1In.f k x0 1 999).bind fun t736 => some t736)
theorem spec_l1Key.calls {k : Nat} {x0 : Int}  {w : World}  {r : Bool} (H : spec_l1Key.f k x0 = some r) :
    Calls Try.prog 116 ([.int .i64 x0] : List Value).toArray w (fun e w_ => ∃ v, e = .returned v ∧ v = (.bool r) ∧ Mem w [] w_ []) := by
  have HM := Mem.start w
  refine calls_run (N := 5) Try.func116 rfl rfl rfl rfl ?_
  unfold spec_l1Key.f at H
  refine run_seq ?_
  refine run_region rfl ?_
  refine ox rfl rfl rfl rfl (ex_assign rfl rfl) ?_
  refine ops_nil (at_then (run_seq ?_))
  obtain ⟨t736, h737, H⟩ := bind_some H
  refine run_region rfl ?_
  refine ox rfl rfl rfl rfl (ex_move rfl rfl) ?_
  refine od rfl rfl rfl rfl (does_callk rfl callok58 rfl (spec_l1In.calls (x0 := x0) (x1 := 1) (x2 := 999) h737)) ?_
  rintro _ w738 ⟨rfl, hn⟩
  replace HM : Mem w [] w738 [] := HM.call hn
  refine ox rfl rfl rfl rfl (ex_assign rfl rfl) ?_
  refine ops_nil (at_then ?_)
  refine run_ret ?_
  have hR := Option.some.inj H
  subst hR
  exact at_ret1 rfl rfl ⟨_, rfl, rfl, HM⟩

def spec_l3Ref.f (k : Nat) (x0 : Ref) : Option Bool := ((spec_l1In.f k x0.fTx 1 60).bind fun t754 => ((bif t754 then spec_l1In.f k x0.fAt 0 3 else some default).bind fun t756 => some (t754 && t756)))
theorem spec_l3Ref.calls {k : Nat} {x0 : Ref}  {w : World}  {r : Bool} (H : spec_l3Ref.f k x0 = some r) :
    Calls Try.prog 117 ([.agg #[(.int .i64 x0.fTx), (.int .i64 x0.fAt)]] : List Value).toArray w (fun e w_ => ∃ v, e = .returned v ∧ v = (.bool r) ∧ Mem w [] w_ []) := by
  have HM := Mem.start w
  refine calls_run (N := 11) Try.func117 rfl rfl rfl rfl ?_
  unfold spec_l3Ref.f at H
  refine run_seq ?_
  refine run_region rfl ?_
  refine od rfl rfl rfl rfl (does_box (cs := [.int .i64 x0.fTx, .int .i64 x0.fAt]) rfl rfl rfl HM) ?_
  rintro _ w753 ⟨b750, rfl, HM⟩
  refine ox rfl rfl rfl rfl (ex_assign rfl rfl) ?_
  refine ops_nil (at_then (run_seq ?_))
  obtain ⟨t754, h755, H⟩ := bind_some H
  obtain ⟨t756, h757, H⟩ := bind_some H
  refine run_meet (fun ρ_ w_ => ρ_ = [(2, .bool (t754 && t756))] ∧ Mem w [] w_ []) ?_ ?_
  · skip
    refine run_region rfl ?_
    refine ox rfl rfl rfl rfl (ex_fieldAddr (off' := 0) rfl rfl Try.underlying36 rfl tsz2 rfl) ?_
    refine ox rfl rfl rfl rfl (ex_load1 rfl rfl Try.underlying2 rfl ((HM.box_at 0 rfl) 0 _ rfl)) ?_
    refine od rfl rfl rfl rfl (does_callk rfl callok58 rfl (spec_l1In.calls (x0 := x0.fTx) (x1 := 1) (x2 := 60) h755)) ?_
    rintro _ w758 ⟨rfl, hn⟩
    replace HM : Mem w [] w758 [box b750 36 [.int .i64 x0.fTx, .int .i64 x0.fAt]] := HM.call hn
    refine ox rfl rfl rfl rfl (ex_move rfl rfl) ?_
    refine bool_cases t754 (fun hg759 => ?_) (fun hg759 => ?_)
    · skip
      refine ops_ex rfl (guard_on rfl rfl rfl hg759) rfl rfl (ex_fieldAddr (off' := 1) rfl rfl Try.underlying36 rfl tsz2 rfl) ?_
      refine ops_ex rfl (guard_on rfl rfl rfl hg759) rfl rfl (ex_load1 rfl rfl Try.underlying2 rfl ((HM.box_at 0 rfl) 1 _ rfl)) ?_
      refine ops_does rfl (guard_on rfl rfl rfl hg759) rfl rfl (does_callk rfl callok58 rfl (spec_l1In.calls (x0 := x0.fAt) (x1 := 0) (x2 := 3) (cond_t hg759 h757))) ?_
      rintro _ w760 ⟨rfl, hn⟩
      replace HM : Mem w [] w760 [box b750 36 [.int .i64 x0.fTx, .int .i64 x0.fAt]] := HM.call hn
      refine ops_ex (v := .bool (t754 && t756)) rfl (guard_none rfl) rfl rfl (ex_pand_t rfl rfl hg759 rfl) ?_
      refine ox rfl rfl rfl rfl (ex_assign rfl rfl) ?_
      refine ops_nil ?_
      replace HM := (HM.front 0 rfl rfl).drop
      exact at_meet [(2, .bool (t754 && t756))] ⟨rfl, HM⟩ (Sub.cons rfl Sub.nil)
    · skip
      refine ops_off rfl (guard_off rfl rfl rfl hg759) rfl rfl ?_
      refine ops_off rfl (guard_off rfl rfl rfl hg759) rfl rfl ?_
      refine ops_off rfl (guard_off rfl rfl rfl hg759) rfl rfl ?_
      have hg761 : (t754 && t756) = false := by simp only [hg759, Bool.and_true, Bool.true_and, Bool.and_false, Bool.false_and, Bool.or_true, Bool.true_or, Bool.or_false, Bool.false_or, Bool.not_true, Bool.not_false, Bool.not_not]
      refine ops_ex (v := .bool (t754 && t756)) rfl (guard_none rfl) rfl rfl (ex_pand_f rfl rfl hg759) ?_
      refine ox rfl rfl rfl rfl (ex_assign rfl rfl) ?_
      refine ops_nil ?_
      replace HM := (HM.front 0 rfl rfl).drop
      exact at_meet [(2, .bool (t754 && t756))] ⟨rfl, HM⟩ (Sub.cons rfl Sub.nil)
  · rintro _ w762 ⟨rfl, HM⟩
    refine at_then ?_
    refine run_ret ?_
    have hR := Option.some.inj H
    subst hR
    exact at_ret1 rfl rfl ⟨_, rfl, rfl, HM⟩

def spec_l6Fault.l0 (x0 : List Member) : Nat → Int → Option (Int ⊕ Unit)
  | 0, _ => none
  | k + 1, a1001 => (bif (decide (a1001 < (x0.length : Int))) then (chk (idxOk a1001 x0.length) ((spec_l1Key.f k ((gt x0 a1001).fKey)).bind fun t1040 => (chk (!(!(!t1040)) || (idxOk a1001 x0.length)) ((bif (!(!t1040)) then spec_l3Ref.f k ((gt x0 a1001).fRef) else some default).bind fun t1044 => (bif ((!t1040) || (!t1044)) then some (.inl 3) else (chk (!(decide (0 < a1001)) || (idxOk a1001 x0.length)) (chk (!(decide (0 < a1001)) || (idxOk (wrap64 (a1001 - 1)) x0.length)) (bif ((decide (0 < a1001)) && (decide (((gt x0 a1001).fKey) ≤ ((gt x0 (wrap64 (a1001 - 1))).fKey)))) then some (.inl 1) else spec_l6Fault.l0 x0 k (wrap64 (a1001 + 1)))))))))) else some (.inr ()))
theorem spec_l6Fault.l0_z (x0 : List Member) (a1001 : Int) : spec_l6Fault.l0 x0 0 a1001 = none := rfl
theorem spec_l6Fault.l0_s (x0 : List Member) (k : Nat) (a1001 : Int) : spec_l6Fault.l0 x0 (k + 1) a1001 = (bif (decide (a1001 < (x0.length : Int))) then (chk (idxOk a1001 x0.length) ((spec_l1Key.f k ((gt x0 a1001).fKey)).bind fun t1040 => (chk (!(!(!t1040)) || (idxOk a1001 x0.length)) ((bif (!(!t1040)) then spec_l3Ref.f k ((gt x0 a1001).fRef) else some default).bind fun t1044 => (bif ((!t1040) || (!t1044)) then some (.inl 3) else (chk (!(decide (0 < a1001)) || (idxOk a1001 x0.length)) (chk (!(decide (0 < a1001)) || (idxOk (wrap64 (a1001 - 1)) x0.length)) (bif ((decide (0 < a1001)) && (decide (((gt x0 a1001).fKey) ≤ ((gt x0 (wrap64 (a1001 - 1))).fKey)))) then some (.inl 1) else spec_l6Fault.l0 x0 k (wrap64 (a1001 + 1)))))))))) else some (.inr ())) := rfl
def spec_l6Fault.l2 (x0 : List Member) (a1152 : Int) : Nat → Int → Option (Int ⊕ Unit)
  | 0, _ => none
  | k + 1, a1205 => (bif (decide (a1205 < a1152)) then (chk (idxOk a1205 x0.length) (chk (idxOk a1152 x0.length) (bif ((((gt x0 a1205).fRef.fTx) == ((gt x0 a1152).fRef.fTx)) && (((gt x0 a1205).fRef.fAt) == ((gt x0 a1152).fRef.fAt))) then some (.inl 7) else spec_l6Fault.l2 x0 a1152 k (wrap64 (a1205 + 1))))) else some (.inr ()))
theorem spec_l6Fault.l2_z (x0 : List Member) (a1152 : Int) (a1205 : Int) : spec_l6Fault.l2 x0 a1152 0 a1205 = none := rfl
theorem spec_l6Fault.l2_s (x0 : List Member) (a1152 : Int) (k : Nat) (a1205 : Int) : spec_l6Fault.l2 x0 a1152 (k + 1) a1205 = (bif (decide (a1205 < a1152)) then (chk (idxOk a1205 x0.length) (chk (idxOk a1152 x0.length) (bif ((((gt x0 a1205).fRef.fTx) == ((gt x0 a1152).fRef.fTx)) && (((gt x0 a1205).fRef.fAt) == ((gt x0 a1152).fRef.fAt))) then some (.inl 7) else spec_l6Fault.l2 x0 a1152 k (wrap64 (a1205 + 1))))) else some (.inr ())) := rfl
def spec_l6Fault.l1 (x0 : List Member) : Nat → Int → Option (Int ⊕ Unit)
  | 0, _ => none
  | k + 1, a1152 => (bif (decide (a1152 < (x0.length : Int))) then ((spec_l6Fault.l2 x0 a1152 k 0).bind fun o1197 => thn o1197 (fun r => some (.inl r)) (fun _ => spec_l6Fault.l1 x0 k (wrap64 (a1152 + 1)))) else some (.inr ()))
theorem spec_l6Fault.l1_z (x0 : List Member) (a1152 : Int) : spec_l6Fault.l1 x0 0 a1152 = none := rfl
theorem spec_l6Fault.l1_s (x0 : List Member) (k : Nat) (a1152 : Int) : spec_l6Fault.l1 x0 (k + 1) a1152 = (bif (decide (a1152 < (x0.length : Int))) then ((spec_l6Fault.l2 x0 a1152 k 0).bind fun o1197 => thn o1197 (fun r => some (.inl r)) (fun _ => spec_l6Fault.l1 x0 k (wrap64 (a1152 + 1)))) else some (.inr ())) := rfl
def spec_l6Fault.f (k : Nat) (x0 : List Member) : Option Int := (bif (decide (8 < (x0.length : Int))) then some 2 else ((spec_l6Fault.l0 x0 k 0).bind fun o975 => thn o975 (fun r => some r) (fun _ => ((spec_l6Fault.l1 x0 k 0).bind fun o1128 => thn o1128 (fun r => some r) (fun _ => some 0)))))
theorem spec_l6Fault.calls {k : Nat} {x0 : List Member} {p0 : Value} {w : World} (hp0 : RdS kMember w p0 x0) {r : Int} (H : spec_l6Fault.f k x0 = some r) :
    Calls Try.prog 56 ([p0] : List Value).toArray w (fun e w_ => ∃ v, e = .returned v ∧ v = (.int .i64 r) ∧ Mem w [] w_ []) := by
  have HM := Mem.start w
  refine calls_run (N := 69) Try.func56 rfl rfl rfl rfl ?_
  unfold spec_l6Fault.f at H
  refine run_seq ?_
  refine run_region rfl ?_
  refine ox rfl rfl rfl rfl (ex_assign rfl rfl) ?_
  refine ops_nil (at_then (run_seq ?_))
  refine run_seq ?_
  refine run_region rfl ?_
  refine ox rfl rfl rfl rfl (ex_move rfl rfl) ?_
  refine ox rfl rfl rfl rfl (ex_len (d := kMember) (xs := x0) rfl rfl Try.underlying24 hp0) ?_
  refine ox rfl rfl rfl rfl (ex_gtr rfl rfl rfl) ?_
  refine ops_nil (at_then ?_)
  refine run_cond (b := (decide (8 < (x0.length : Int)))) rfl (fun hb901 => ?_) (fun hb901 => ?_)
  · replace H := cond_t hb901 H
    refine run_seq ?_
    refine run_region rfl ?_
    refine ox rfl rfl rfl rfl (ex_assign rfl rfl) ?_
    refine ops_nil (at_then ?_)
    refine run_ret ?_
    refine at_then_ret ?_
    have hR := Option.some.inj H
    subst hR
    exact at_ret1 rfl rfl ⟨_, rfl, rfl, HM⟩
  · replace H := cond_f hb901 H
    refine run_skip ?_
    refine at_then ?_
    obtain ⟨o975, ho976, H⟩ := bind_some H
    refine run_mid (fun ρ_ w_ => Sum.inr () = o975 ∧ ρ_ = [(0, p0)] ∧ Mem w [] w_ []) ?_ ?_
    · skip
      refine run_seq ?_
      refine run_region rfl ?_
      refine ox rfl rfl rfl rfl (ex_assign rfl rfl) ?_
      refine ops_nil (at_then ?_)
      refine run_block ?_
      refine run_loop (fun k_ ρ_ w_ => ∃ a1001 : Int, spec_l6Fault.l0 x0 k_ a1001 = some o975 ∧ ρ_ = [(0, p0), (3, .int .i64 a1001)] ∧ Mem w [] w_ []) k (ρ1 := [(0, p0), (3, .int .i64 0)]) ⟨_, ho976, rfl, HM⟩ (Sub.cons rfl (Sub.cons rfl Sub.nil)) ?_
      clear HM ho976
      rintro k1026 _ w1027 ⟨a1001, ho976, rfl, HM⟩
      obtain _ | k1026 := k1026
      · exact nomatch ((spec_l6Fault.l0_z x0 a1001).symm.trans ho976)
      replace ho976 := (spec_l6Fault.l0_s x0 k1026 a1001).symm.trans ho976
      refine run_seq ?_
      refine run_seq ?_
      refine run_region rfl ?_
      refine ox rfl rfl rfl rfl (ex_move rfl rfl) ?_
      refine ox rfl rfl rfl rfl (ex_move rfl rfl) ?_
      refine ox rfl rfl rfl rfl (ex_len (d := kMember) (xs := x0) rfl rfl Try.underlying24 hp0) ?_
      refine ox rfl rfl rfl rfl (ex_lss rfl rfl rfl) ?_
      refine ops_nil (at_then ?_)
      refine run_cond (b := (decide (a1001 < (x0.length : Int)))) rfl (fun hb1028 => ?_) (fun hb1028 => ?_)
      · replace ho976 := cond_t hb1028 ho976
        refine run_skip ?_
        refine at_then ?_
        refine run_seq ?_
        refine run_block ?_
        refine run_seq ?_
        refine run_seq ?_
        obtain ⟨e1038, ho976⟩ := chk_some ho976
        obtain ⟨t1040, h1041, ho976⟩ := bind_some ho976
        obtain ⟨e1042, ho976⟩ := chk_some ho976
        obtain ⟨t1044, h1045, ho976⟩ := bind_some ho976
        refine run_meet (fun ρ_ w_ => ρ_ = [(0, p0), (3, .int .i64 a1001), (30, .bool ((!t1040) || (!t1044)))] ∧ Mem w [] w_ []) ?_ ?_
        · skip
          refine run_region rfl ?_
          refine ox rfl rfl rfl rfl (ex_move rfl rfl) ?_
          refine ox rfl rfl rfl rfl (ex_move rfl rfl) ?_
          have hc1039 : CellsAt _ (sb p0) (so p0 + (a1001).toNat * 3) [(.int .i64 ((gt x0 a1001).fKey)), (.int .i64 ((gt x0 a1001).fRef.fTx)), (.int .i64 ((gt x0 a1001).fRef.fAt))] := rd_plain hp0 e1038
          refine ox rfl rfl rfl rfl (ex_indexAddr (d := kMember) rfl rfl rfl Try.underlying24 tsz38 hp0 (idx_lo e1038) (idx_hi e1038)) ?_
          refine ox rfl rfl rfl rfl (ex_fieldAddr (off' := so p0 + (a1001).toNat * 3) rfl rfl Try.underlying38 rfl tsz2 rfl) ?_
          refine ox rfl rfl rfl rfl (ex_load1 rfl rfl Try.underlying2 rfl ((HM.at_ hc1039) 0 _ rfl)) ?_
          refine od rfl rfl rfl rfl (does_callk rfl callok116 rfl (spec_l1Key.calls (x0 := (gt x0 a1001).fKey) h1041)) ?_
          rintro _ w1046 ⟨rfl, hn⟩
          replace HM : Mem w [] w1046 [] := HM.call hn
          refine ox rfl rfl rfl rfl (ex_not rfl rfl) ?_
          refine ox rfl rfl rfl rfl (ex_move rfl rfl) ?_
          refine bool_cases (!t1040) (fun hg1047 => ?_) (fun hg1047 => ?_)
          · skip
            refine ops_off rfl (guard_off rfl rfl rfl hg1047) rfl rfl ?_
            refine ops_off rfl (guard_off rfl rfl rfl hg1047) rfl rfl ?_
            refine ops_off rfl (guard_off rfl rfl rfl hg1047) rfl rfl ?_
            refine ops_off rfl (guard_off rfl rfl rfl hg1047) rfl rfl ?_
            refine ops_off rfl (guard_off rfl rfl rfl hg1047) rfl rfl ?_
            refine ops_off rfl (guard_off rfl rfl rfl hg1047) rfl rfl ?_
            refine ops_off rfl (guard_off rfl rfl rfl hg1047) rfl rfl ?_
            have hg1048 : ((!t1040) || (!t1044)) = true := by simp only [hg1047, Bool.and_true, Bool.true_and, Bool.and_false, Bool.false_and, Bool.or_true, Bool.true_or, Bool.or_false, Bool.false_or, Bool.not_true, Bool.not_false, Bool.not_not]
            refine ops_ex (v := .bool ((!t1040) || (!t1044))) rfl (guard_none rfl) rfl rfl (ex_por_t rfl rfl hg1047) ?_
            refine ops_nil ?_
            exact at_meet [(0, p0), (3, .int .i64 a1001), (30, .bool ((!t1040) || (!t1044)))] ⟨rfl, HM⟩ (Sub.cons rfl (Sub.cons rfl (Sub.cons rfl Sub.nil)))
          · skip
            refine ops_ex rfl (guard_on rfl rfl rfl hg1047) rfl rfl (ex_move rfl rfl) ?_
            refine ops_ex rfl (guard_on rfl rfl rfl hg1047) rfl rfl (ex_move rfl rfl) ?_
            have hc1043 : CellsAt _ (sb p0) (so p0 + (a1001).toNat * 3) [(.int .i64 ((gt x0 a1001).fKey)), (.int .i64 ((gt x0 a1001).fRef.fTx)), (.int .i64 ((gt x0 a1001).fRef.fAt))] := rd_plain hp0 (or_t e1042 (not_mk hg1047))
            refine ops_ex rfl (guard_on rfl rfl rfl hg1047) rfl rfl (ex_indexAddr (d := kMember) rfl rfl rfl Try.underlying24 tsz38 hp0 (idx_lo (or_t e1042 (not_mk hg1047))) (idx_hi (or_t e1042 (not_mk hg1047)))) ?_
            refine ops_ex rfl (guard_on rfl rfl rfl hg1047) rfl rfl (ex_fieldAddr (off' := so p0 + (a1001).toNat * 3 + 1) rfl rfl Try.underlying38 rfl tsz36 rfl) ?_
            refine ops_ex rfl (guard_on rfl rfl rfl hg1047) rfl rfl (ex_loadN (cs := [(.int .i64 ((gt x0 a1001).fRef.fTx)), (.int .i64 ((gt x0 a1001).fRef.fAt))]) rfl rfl Try.underlying36 rfl tsz36 rfl ((HM.at_ hc1043).sub 1 2 rfl)) ?_
            refine ops_does rfl (guard_on rfl rfl rfl hg1047) rfl rfl (does_callk rfl callok117 rfl (spec_l3Ref.calls (x0 := (gt x0 a1001).fRef) (cond_t (not_mk hg1047) h1045))) ?_
            rintro _ w1049 ⟨rfl, hn⟩
            replace HM : Mem w [] w1049 [] := HM.call hn
            refine ops_ex rfl (guard_on rfl rfl rfl hg1047) rfl rfl (ex_not rfl rfl) ?_
            refine ops_ex (v := .bool ((!t1040) || (!t1044))) rfl (guard_none rfl) rfl rfl (ex_por_f rfl rfl hg1047 rfl) ?_
            refine ops_nil ?_
            exact at_meet [(0, p0), (3, .int .i64 a1001), (30, .bool ((!t1040) || (!t1044)))] ⟨rfl, HM⟩ (Sub.cons rfl (Sub.cons rfl (Sub.cons rfl Sub.nil)))
        · rintro _ w1050 ⟨rfl, HM⟩
          refine at_then ?_
          refine run_cond (b := ((!t1040) || (!t1044))) rfl (fun hb1051 => ?_) (fun hb1051 => ?_)
          · replace ho976 := cond_t hb1051 ho976
            refine run_seq ?_
            refine run_region rfl ?_
            refine ox rfl rfl rfl rfl (ex_assign rfl rfl) ?_
            refine ops_nil (at_then ?_)
            refine run_ret ?_
            refine at_then_ret ?_
            refine at_block_ret ?_
            refine at_then_ret ?_
            refine at_then_ret ?_
            refine at_block_ret ?_
            refine at_then_ret ?_
            have hR := Option.some.inj ho976
            subst hR
            have hT := thn_inl H
            have hR := Option.some.inj hT
            subst hR
            exact at_ret1 rfl rfl ⟨_, rfl, rfl, HM⟩
          · replace ho976 := cond_f hb1051 ho976
            refine run_skip ?_
            refine at_then ?_
            refine run_seq ?_
            obtain ⟨e1052, ho976⟩ := chk_some ho976
            obtain ⟨e1054, ho976⟩ := chk_some ho976
            refine run_meet (fun ρ_ w_ => ρ_ = [(0, p0), (3, .int .i64 a1001), (46, .bool ((decide (0 < a1001)) && (decide (((gt x0 a1001).fKey) ≤ ((gt x0 (wrap64 (a1001 - 1))).fKey)))))] ∧ Mem w [] w_ []) ?_ ?_
            · skip
              refine run_drawf (fun w_ => Mem w [] w_ []) [(0, true), (1, true), (2, true), (3, true), (4, true), (5, true), (6, true), (7, true), (8, true), (9, true), (10, true), (11, true), (12, true), (13, true), (14, true), (15, true)] mixed rfl rfl (by kernel_rfl) ?_
              replace HM := HM.grow (fr_drew _)
              have hS := Mem.suf (M := []) HM
              refine dp rfl rfl rfl rfl (ex_move rfl rfl) hS ?_
              refine dp rfl rfl rfl rfl (ex_gtr rfl rfl rfl) hS ?_
              refine dp rfl rfl rfl rfl (ex_move rfl rfl) hS ?_
              refine bool_cases (decide (0 < a1001)) (fun hg1056 => ?_) (fun hg1056 => ?_)
              · skip
                refine drwp_take rfl (guard_on rfl rfl rfl hg1056) rfl rfl (fun w_ hS_ => (ex_move rfl rfl)) hS ?_
                refine drwp_take rfl (guard_on rfl rfl rfl hg1056) rfl rfl (fun w_ hS_ => (ex_move rfl rfl)) hS ?_
                have hc1053 : CellsAt _ (sb p0) (so p0 + (a1001).toNat * 3) [(.int .i64 ((gt x0 a1001).fKey)), (.int .i64 ((gt x0 a1001).fRef.fTx)), (.int .i64 ((gt x0 a1001).fRef.fAt))] := rd_plain hp0 (or_t e1052 hg1056)
                refine drwp_take rfl (guard_on rfl rfl rfl hg1056) rfl rfl (fun w_ hS_ => (ex_indexAddr (d := kMember) rfl rfl rfl Try.underlying24 tsz38 hp0 (idx_lo (or_t e1052 hg1056)) (idx_hi (or_t e1052 hg1056)))) hS ?_
                refine drwp_take rfl (guard_on rfl rfl rfl hg1056) rfl rfl (fun w_ hS_ => (ex_fieldAddr (off' := so p0 + (a1001).toNat * 3) rfl rfl Try.underlying38 rfl tsz2 rfl)) hS ?_
                refine drwp_take rfl (guard_on rfl rfl rfl hg1056) rfl rfl (fun w_ hS_ => (ex_load1 rfl rfl Try.underlying2 rfl ((hS_.at_ hc1053) 0 _ rfl))) hS ?_
                refine drwp_take rfl (guard_on rfl rfl rfl hg1056) rfl rfl (fun w_ hS_ => (ex_move rfl rfl)) hS ?_
                refine drwp_take rfl (guard_on rfl rfl rfl hg1056) rfl rfl (fun w_ hS_ => (ex_move rfl rfl)) hS ?_
                refine drwp_take rfl (guard_on rfl rfl rfl hg1056) rfl rfl (fun w_ hS_ => (ex_sub rfl rfl rfl)) hS ?_
                have hc1055 : CellsAt _ (sb p0) (so p0 + (wrap64 (a1001 - 1)).toNat * 3) [(.int .i64 ((gt x0 (wrap64 (a1001 - 1))).fKey)), (.int .i64 ((gt x0 (wrap64 (a1001 - 1))).fRef.fTx)), (.int .i64 ((gt x0 (wrap64 (a1001 - 1))).fRef.fAt))] := rd_plain hp0 (or_t e1054 hg1056)
                refine drwp_take rfl (guard_on rfl rfl rfl hg1056) rfl rfl (fun w_ hS_ => (ex_indexAddr (d := kMember) rfl rfl rfl Try.underlying24 tsz38 hp0 (idx_lo (or_t e1054 hg1056)) (idx_hi (or_t e1054 hg1056)))) hS ?_
                refine drwp_take rfl (guard_on rfl rfl rfl hg1056) rfl rfl (fun w_ hS_ => (ex_fieldAddr (off' := so p0 + (wrap64 (a1001 - 1)).toNat * 3) rfl rfl Try.underlying38 rfl tsz2 rfl)) hS ?_
                refine drwp_take rfl (guard_on rfl rfl rfl hg1056) rfl rfl (fun w_ hS_ => (ex_load1 rfl rfl Try.underlying2 rfl ((hS_.at_ hc1055) 0 _ rfl))) hS ?_
                refine drwp_take rfl (guard_on rfl rfl rfl hg1056) rfl rfl (fun w_ hS_ => (ex_leq rfl rfl rfl)) hS ?_
                refine drwp_take (v := .bool ((decide (0 < a1001)) && (decide (((gt x0 a1001).fKey) ≤ ((gt x0 (wrap64 (a1001 - 1))).fKey))))) rfl (guard_none rfl) rfl rfl (fun w_ hS_ => (ex_pand_t rfl rfl hg1056 rfl)) hS ?_
                refine drwp_done ?_
                exact at_meet [(0, p0), (3, .int .i64 a1001), (46, .bool ((decide (0 < a1001)) && (decide (((gt x0 a1001).fKey) ≤ ((gt x0 (wrap64 (a1001 - 1))).fKey)))))] ⟨rfl, HM⟩ (Sub.cons rfl (Sub.cons rfl (Sub.cons rfl Sub.nil)))
              · skip
                refine drwp_off rfl (guard_off rfl rfl rfl hg1056) rfl rfl hS ?_
                refine drwp_off rfl (guard_off rfl rfl rfl hg1056) rfl rfl hS ?_
                refine drwp_off rfl (guard_off rfl rfl rfl hg1056) rfl rfl hS ?_
                refine drwp_off rfl (guard_off rfl rfl rfl hg1056) rfl rfl hS ?_
                refine drwp_off rfl (guard_off rfl rfl rfl hg1056) rfl rfl hS ?_
                refine drwp_off rfl (guard_off rfl rfl rfl hg1056) rfl rfl hS ?_
                refine drwp_off rfl (guard_off rfl rfl rfl hg1056) rfl rfl hS ?_
                refine drwp_off rfl (guard_off rfl rfl rfl hg1056) rfl rfl hS ?_
                refine drwp_off rfl (guard_off rfl rfl rfl hg1056) rfl rfl hS ?_
                refine drwp_off rfl (guard_off rfl rfl rfl hg1056) rfl rfl hS ?_
                refine drwp_off rfl (guard_off rfl rfl rfl hg1056) rfl rfl hS ?_
                refine drwp_off rfl (guard_off rfl rfl rfl hg1056) rfl rfl hS ?_
                have hg1057 : ((decide (0 < a1001)) && (decide (((gt x0 a1001).fKey) ≤ ((gt x0 (wrap64 (a1001 - 1))).fKey)))) = false := by simp only [hg1056, Bool.and_true, Bool.true_and, Bool.and_false, Bool.false_and, Bool.or_true, Bool.true_or, Bool.or_false, Bool.false_or, Bool.not_true, Bool.not_false, Bool.not_not]
                refine drwp_take (v := .bool ((decide (0 < a1001)) && (decide (((gt x0 a1001).fKey) ≤ ((gt x0 (wrap64 (a1001 - 1))).fKey))))) rfl (guard_none rfl) rfl rfl (fun w_ hS_ => (ex_pand_f rfl rfl hg1056)) hS ?_
                refine drwp_done ?_
                exact at_meet [(0, p0), (3, .int .i64 a1001), (46, .bool ((decide (0 < a1001)) && (decide (((gt x0 a1001).fKey) ≤ ((gt x0 (wrap64 (a1001 - 1))).fKey)))))] ⟨rfl, HM⟩ (Sub.cons rfl (Sub.cons rfl (Sub.cons rfl Sub.nil)))
            · rintro _ w1058 ⟨rfl, HM⟩
              refine at_then ?_
              refine run_cond (b := ((decide (0 < a1001)) && (decide (((gt x0 a1001).fKey) ≤ ((gt x0 (wrap64 (a1001 - 1))).fKey))))) rfl (fun hb1059 => ?_) (fun hb1059 => ?_)
              · replace ho976 := cond_t hb1059 ho976
                refine run_seq ?_
                refine run_region rfl ?_
                refine ox rfl rfl rfl rfl (ex_assign rfl rfl) ?_
                refine ops_nil (at_then ?_)
                refine run_ret ?_
                refine at_block_ret ?_
                refine at_then_ret ?_
                refine at_then_ret ?_
                refine at_block_ret ?_
                refine at_then_ret ?_
                have hR := Option.some.inj ho976
                subst hR
                have hT := thn_inl H
                have hR := Option.some.inj hT
                subst hR
                exact at_ret1 rfl rfl ⟨_, rfl, rfl, HM⟩
              · replace ho976 := cond_f hb1059 ho976
                refine run_skip ?_
                refine at_block ?_
                refine at_then ?_
                refine run_region rfl ?_
                refine ox rfl rfl rfl rfl (ex_move rfl rfl) ?_
                refine ox rfl rfl rfl rfl (ex_add rfl rfl rfl) ?_
                refine ox rfl rfl rfl rfl (ex_assign rfl rfl) ?_
                refine ops_nil ?_
                exact at_again k1026 (ρ1 := [(0, p0), (3, .int .i64 (wrap64 (a1001 + 1)))]) (Nat.lt_succ_self _) ⟨_, ho976, rfl, HM⟩ (Sub.cons rfl (Sub.cons rfl Sub.nil))
      · replace ho976 := cond_f hb1028 ho976
        refine run_exit ?_
        refine at_then_exit ?_
        refine at_then_exit ?_
        refine at_block_exit ?_
        exact at_mid (ρ' := [(0, p0)]) ⟨(Option.some.inj ho976), rfl, HM⟩ (Sub.cons rfl Sub.nil)
    · rintro _ w1060 ⟨rfl, rfl, HM⟩
      replace H := (thn_inr H)
      obtain ⟨o1128, ho1129, H⟩ := bind_some H
      refine run_mid (fun ρ_ w_ => Sum.inr () = o1128 ∧ ρ_ = [] ∧ Mem w [] w_ []) ?_ ?_
      · skip
        refine run_seq ?_
        refine run_region rfl ?_
        refine ox rfl rfl rfl rfl (ex_assign rfl rfl) ?_
        refine ops_nil (at_then ?_)
        refine run_block ?_
        refine run_loop (fun k_ ρ_ w_ => ∃ a1152 : Int, spec_l6Fault.l1 x0 k_ a1152 = some o1128 ∧ ρ_ = [(0, p0), (4, .int .i64 a1152)] ∧ Mem w [] w_ []) k (ρ1 := [(0, p0), (4, .int .i64 0)]) ⟨_, ho1129, rfl, HM⟩ (Sub.cons rfl (Sub.cons rfl Sub.nil)) ?_
        clear HM ho1129
        rintro k1175 _ w1176 ⟨a1152, ho1129, rfl, HM⟩
        obtain _ | k1175 := k1175
        · exact nomatch ((spec_l6Fault.l1_z x0 a1152).symm.trans ho1129)
        replace ho1129 := (spec_l6Fault.l1_s x0 k1175 a1152).symm.trans ho1129
        refine run_seq ?_
        refine run_seq ?_
        refine run_region rfl ?_
        refine ox rfl rfl rfl rfl (ex_move rfl rfl) ?_
        refine ox rfl rfl rfl rfl (ex_move rfl rfl) ?_
        refine ox rfl rfl rfl rfl (ex_len (d := kMember) (xs := x0) rfl rfl Try.underlying24 hp0) ?_
        refine ox rfl rfl rfl rfl (ex_lss rfl rfl rfl) ?_
        refine ops_nil (at_then ?_)
        refine run_cond (b := (decide (a1152 < (x0.length : Int)))) rfl (fun hb1177 => ?_) (fun hb1177 => ?_)
        · replace ho1129 := cond_t hb1177 ho1129
          refine run_skip ?_
          refine at_then ?_
          obtain ⟨o1197, ho1198, ho1129⟩ := bind_some ho1129
          refine run_mid (fun ρ_ w_ => Sum.inr () = o1197 ∧ ρ_ = [(0, p0), (4, .int .i64 a1152)] ∧ Mem w [] w_ []) ?_ ?_
          · skip
            refine run_block ?_
            refine run_seq ?_
            refine run_region rfl ?_
            refine ox rfl rfl rfl rfl (ex_assign rfl rfl) ?_
            refine ops_nil (at_then ?_)
            refine run_block ?_
            refine run_loop (fun k_ ρ_ w_ => ∃ a1205 : Int, spec_l6Fault.l2 x0 a1152 k_ a1205 = some o1197 ∧ ρ_ = [(0, p0), (4, .int .i64 a1152), (5, .int .i64 a1205)] ∧ Mem w [] w_ []) k1175 (ρ1 := [(0, p0), (4, .int .i64 a1152), (5, .int .i64 0)]) ⟨_, ho1198, rfl, HM⟩ (Sub.cons rfl (Sub.cons rfl (Sub.cons rfl Sub.nil))) ?_
            clear HM ho1198
            rintro k1212 _ w1213 ⟨a1205, ho1198, rfl, HM⟩
            obtain _ | k1212 := k1212
            · exact nomatch ((spec_l6Fault.l2_z x0 a1152 a1205).symm.trans ho1198)
            replace ho1198 := (spec_l6Fault.l2_s x0 a1152 k1212 a1205).symm.trans ho1198
            refine run_seq ?_
            refine run_seq ?_
            refine run_region rfl ?_
            refine ox rfl rfl rfl rfl (ex_move rfl rfl) ?_
            refine ox rfl rfl rfl rfl (ex_move rfl rfl) ?_
            refine ox rfl rfl rfl rfl (ex_lss rfl rfl rfl) ?_
            refine ops_nil (at_then ?_)
            refine run_cond (b := (decide (a1205 < a1152))) rfl (fun hb1214 => ?_) (fun hb1214 => ?_)
            · replace ho1198 := cond_t hb1214 ho1198
              refine run_skip ?_
              refine at_then ?_
              refine run_seq ?_
              refine run_block ?_
              refine run_seq ?_
              obtain ⟨e1215, ho1198⟩ := chk_some ho1198
              obtain ⟨e1217, ho1198⟩ := chk_some ho1198
              refine run_drawf (fun w_ => Mem w [] w_ []) [(0, true), (1, true), (2, true), (3, true), (4, true), (5, true), (6, true), (7, true), (8, true), (9, true), (10, true)] mixed rfl rfl (by kernel_rfl) ?_
              replace HM := HM.grow (fr_drew _)
              have hS := Mem.suf (M := []) HM
              refine dp rfl rfl rfl rfl (ex_move rfl rfl) hS ?_
              refine dp rfl rfl rfl rfl (ex_move rfl rfl) hS ?_
              have hc1216 : CellsAt _ (sb p0) (so p0 + (a1205).toNat * 3) [(.int .i64 ((gt x0 a1205).fKey)), (.int .i64 ((gt x0 a1205).fRef.fTx)), (.int .i64 ((gt x0 a1205).fRef.fAt))] := rd_plain hp0 e1215
              refine dp rfl rfl rfl rfl (ex_indexAddr (d := kMember) rfl rfl rfl Try.underlying24 tsz38 hp0 (idx_lo e1215) (idx_hi e1215)) hS ?_
              refine dp rfl rfl rfl rfl (ex_fieldAddr (off' := so p0 + (a1205).toNat * 3 + 1) rfl rfl Try.underlying38 rfl tsz36 rfl) hS ?_
              refine drwp_take rfl (guard_none rfl) rfl rfl (fun w_ hS_ => (ex_loadN (cs := [(.int .i64 ((gt x0 a1205).fRef.fTx)), (.int .i64 ((gt x0 a1205).fRef.fAt))]) rfl rfl Try.underlying36 rfl tsz36 rfl ((hS_.at_ hc1216).sub 1 2 rfl))) hS ?_
              refine dp rfl rfl rfl rfl (ex_move rfl rfl) hS ?_
              refine dp rfl rfl rfl rfl (ex_move rfl rfl) hS ?_
              have hc1218 : CellsAt _ (sb p0) (so p0 + (a1152).toNat * 3) [(.int .i64 ((gt x0 a1152).fKey)), (.int .i64 ((gt x0 a1152).fRef.fTx)), (.int .i64 ((gt x0 a1152).fRef.fAt))] := rd_plain hp0 e1217
              refine dp rfl rfl rfl rfl (ex_indexAddr (d := kMember) rfl rfl rfl Try.underlying24 tsz38 hp0 (idx_lo e1217) (idx_hi e1217)) hS ?_
              refine dp rfl rfl rfl rfl (ex_fieldAddr (off' := so p0 + (a1152).toNat * 3 + 1) rfl rfl Try.underlying38 rfl tsz36 rfl) hS ?_
              refine drwp_take rfl (guard_none rfl) rfl rfl (fun w_ hS_ => (ex_loadN (cs := [(.int .i64 ((gt x0 a1152).fRef.fTx)), (.int .i64 ((gt x0 a1152).fRef.fAt))]) rfl rfl Try.underlying36 rfl tsz36 rfl ((hS_.at_ hc1218).sub 1 2 rfl))) hS ?_
              refine dp rfl rfl rfl rfl (ex_aeql rfl rfl rfl (by kernel_rfl) (eqs36 _ _ _ _ _)) hS ?_
              refine drwp_done ?_
              refine at_then ?_
              refine run_cond (b := ((((gt x0 a1205).fRef.fTx) == ((gt x0 a1152).fRef.fTx)) && (((gt x0 a1205).fRef.fAt) == ((gt x0 a1152).fRef.fAt)))) rfl (fun hb1219 => ?_) (fun hb1219 => ?_)
              · replace ho1198 := cond_t hb1219 ho1198
                refine run_seq ?_
                refine run_region rfl ?_
                refine ox rfl rfl rfl rfl (ex_assign rfl rfl) ?_
                refine ops_nil (at_then ?_)
                refine run_ret ?_
                refine at_block_ret ?_
                refine at_then_ret ?_
                refine at_then_ret ?_
                refine at_block_ret ?_
                refine at_block_ret ?_
                refine at_then_ret ?_
                refine at_then_ret ?_
                refine at_block_ret ?_
                refine at_then_ret ?_
                have hR := Option.some.inj ho1198
                subst hR
                have hT := thn_inl ho1129
                have hR := Option.some.inj hT
                subst hR
                have hT := thn_inl H
                have hR := Option.some.inj hT
                subst hR
                exact at_ret1 rfl rfl ⟨_, rfl, rfl, HM⟩
              · replace ho1198 := cond_f hb1219 ho1198
                refine run_skip ?_
                refine at_block ?_
                refine at_then ?_
                refine run_region rfl ?_
                refine ox rfl rfl rfl rfl (ex_move rfl rfl) ?_
                refine ox rfl rfl rfl rfl (ex_add rfl rfl rfl) ?_
                refine ox rfl rfl rfl rfl (ex_assign rfl rfl) ?_
                refine ops_nil ?_
                exact at_again k1212 (ρ1 := [(0, p0), (4, .int .i64 a1152), (5, .int .i64 (wrap64 (a1205 + 1)))]) (Nat.lt_succ_self _) ⟨_, ho1198, rfl, HM⟩ (Sub.cons rfl (Sub.cons rfl (Sub.cons rfl Sub.nil)))
            · replace ho1198 := cond_f hb1214 ho1198
              refine run_exit ?_
              refine at_then_exit ?_
              refine at_then_exit ?_
              refine at_block_exit ?_
              refine at_block ?_
              exact at_mid (ρ' := [(0, p0), (4, .int .i64 a1152)]) ⟨(Option.some.inj ho1198), rfl, HM⟩ (Sub.cons rfl (Sub.cons rfl Sub.nil))
          · rintro _ w1220 ⟨rfl, rfl, HM⟩
            replace ho1129 := (thn_inr ho1129)
            refine run_region rfl ?_
            refine ox rfl rfl rfl rfl (ex_move rfl rfl) ?_
            refine ox rfl rfl rfl rfl (ex_add rfl rfl rfl) ?_
            refine ox rfl rfl rfl rfl (ex_assign rfl rfl) ?_
            refine ops_nil ?_
            exact at_again k1175 (ρ1 := [(0, p0), (4, .int .i64 (wrap64 (a1152 + 1)))]) (Nat.lt_succ_self _) ⟨_, ho1129, rfl, HM⟩ (Sub.cons rfl (Sub.cons rfl Sub.nil))
        · replace ho1129 := cond_f hb1177 ho1129
          refine run_exit ?_
          refine at_then_exit ?_
          refine at_then_exit ?_
          refine at_block_exit ?_
          exact at_mid (ρ' := []) ⟨(Option.some.inj ho1129), rfl, HM⟩ Sub.nil
      · rintro _ w1221 ⟨rfl, rfl, HM⟩
        replace H := (thn_inr H)
        refine run_seq ?_
        refine run_region rfl ?_
        refine ox rfl rfl rfl rfl (ex_assign rfl rfl) ?_
        refine ops_nil (at_then ?_)
        refine run_ret ?_
        have hR := Option.some.inj H
        subst hR
        exact at_ret1 rfl rfl ⟨_, rfl, rfl, HM⟩

def spec_l3Among.l0 (x0 : List Ref) (x1 : Ref) : Nat → Int → Option (Bool ⊕ Unit)
  | 0, _ => none
  | k + 1, a1308 => (bif (decide (a1308 < (x0.length : Int))) then (chk (idxOk a1308 x0.length) (bif ((((gt x0 a1308).fTx) == x1.fTx) && (((gt x0 a1308).fAt) == x1.fAt)) then some (.inl true) else spec_l3Among.l0 x0 x1 k (wrap64 (a1308 + 1)))) else some (.inr ()))
theorem spec_l3Among.l0_z (x0 : List Ref) (x1 : Ref) (a1308 : Int) : spec_l3Among.l0 x0 x1 0 a1308 = none := rfl
theorem spec_l3Among.l0_s (x0 : List Ref) (x1 : Ref) (k : Nat) (a1308 : Int) : spec_l3Among.l0 x0 x1 (k + 1) a1308 = (bif (decide (a1308 < (x0.length : Int))) then (chk (idxOk a1308 x0.length) (bif ((((gt x0 a1308).fTx) == x1.fTx) && (((gt x0 a1308).fAt) == x1.fAt)) then some (.inl true) else spec_l3Among.l0 x0 x1 k (wrap64 (a1308 + 1)))) else some (.inr ())) := rfl
def spec_l3Among.f (k : Nat) (x0 : List Ref) (x1 : Ref) : Option Bool := ((spec_l3Among.l0 x0 x1 k 0).bind fun o1302 => thn o1302 (fun r => some r) (fun _ => some false))
theorem spec_l3Among.calls {k : Nat} {x0 : List Ref} {x1 : Ref} {p0 : Value} {w : World} (hp0 : RdS kRef w p0 x0) {r : Bool} (H : spec_l3Among.f k x0 x1 = some r) :
    Calls Try.prog 104 ([p0, .agg #[(.int .i64 x1.fTx), (.int .i64 x1.fAt)]] : List Value).toArray w (fun e w_ => ∃ v, e = .returned v ∧ v = (.bool r) ∧ Mem w [] w_ []) := by
  have HM := Mem.start w
  refine calls_run (N := 18) Try.func104 rfl rfl rfl rfl ?_
  unfold spec_l3Among.f at H
  refine run_seq ?_
  refine run_region rfl ?_
  refine od rfl rfl rfl rfl (does_box (cs := [.int .i64 x1.fTx, .int .i64 x1.fAt]) rfl rfl rfl HM) ?_
  rintro _ w1288 ⟨b1285, rfl, HM⟩
  refine ox rfl rfl rfl rfl (ex_assign rfl rfl) ?_
  refine ops_nil (at_then ?_)
  obtain ⟨o1302, ho1303, H⟩ := bind_some H
  refine run_mid (fun ρ_ w_ => Sum.inr () = o1302 ∧ ρ_ = [] ∧ Mem w [] w_ []) ?_ ?_
  · skip
    refine run_seq ?_
    refine run_region rfl ?_
    refine ox rfl rfl rfl rfl (ex_assign rfl rfl) ?_
    refine ops_nil (at_then ?_)
    refine run_block ?_
    refine run_loop (fun k_ ρ_ w_ => ∃ a1308 : Int, spec_l3Among.l0 x0 x1 k_ a1308 = some o1302 ∧ ρ_ = [(0, p0), (3, .pointer (some ⟨b1285, 0, none⟩)), (5, .int .i64 a1308)] ∧ Mem w [] w_ [box b1285 36 [.int .i64 x1.fTx, .int .i64 x1.fAt]]) k (ρ1 := [(0, p0), (3, .pointer (some ⟨b1285, 0, none⟩)), (5, .int .i64 0)]) ⟨_, ho1303, rfl, HM⟩ (Sub.cons rfl (Sub.cons rfl (Sub.cons rfl Sub.nil))) ?_
    clear HM ho1303
    rintro k1313 _ w1314 ⟨a1308, ho1303, rfl, HM⟩
    obtain _ | k1313 := k1313
    · exact nomatch ((spec_l3Among.l0_z x0 x1 a1308).symm.trans ho1303)
    replace ho1303 := (spec_l3Among.l0_s x0 x1 k1313 a1308).symm.trans ho1303
    refine run_seq ?_
    refine run_seq ?_
    refine run_region rfl ?_
    refine ox rfl rfl rfl rfl (ex_move rfl rfl) ?_
    refine ox rfl rfl rfl rfl (ex_move rfl rfl) ?_
    refine ox rfl rfl rfl rfl (ex_len (d := kRef) (xs := x0) rfl rfl Try.underlying25 hp0) ?_
    refine ox rfl rfl rfl rfl (ex_lss rfl rfl rfl) ?_
    refine ops_nil (at_then ?_)
    refine run_cond (b := (decide (a1308 < (x0.length : Int)))) rfl (fun hb1315 => ?_) (fun hb1315 => ?_)
    · replace ho1303 := cond_t hb1315 ho1303
      refine run_skip ?_
      refine at_then ?_
      refine run_seq ?_
      refine run_block ?_
      refine run_seq ?_
      obtain ⟨e1316, ho1303⟩ := chk_some ho1303
      refine run_drawf (fun w_ => Mem w [] w_ [box b1285 36 [.int .i64 x1.fTx, .int .i64 x1.fAt]]) [(0, true), (1, true), (2, true), (3, true), (4, true), (5, true)] mixed rfl rfl (by kernel_rfl) ?_
      replace HM := HM.grow (fr_drew _)
      have hS := Mem.suf (M := []) HM
      refine dp rfl rfl rfl rfl (ex_move rfl rfl) hS ?_
      refine dp rfl rfl rfl rfl (ex_move rfl rfl) hS ?_
      have hc1317 : CellsAt _ (sb p0) (so p0 + (a1308).toNat * 2) [(.int .i64 ((gt x0 a1308).fTx)), (.int .i64 ((gt x0 a1308).fAt))] := rd_plain hp0 e1316
      refine dp rfl rfl rfl rfl (ex_indexAddr (d := kRef) rfl rfl rfl Try.underlying25 tsz36 hp0 (idx_lo e1316) (idx_hi e1316)) hS ?_
      refine drwp_take rfl (guard_none rfl) rfl rfl (fun w_ hS_ => (ex_loadN (cs := [(.int .i64 ((gt x0 a1308).fTx)), (.int .i64 ((gt x0 a1308).fAt))]) rfl rfl Try.underlying36 rfl tsz36 rfl ((hS_.at_ hc1317).sub 0 2 rfl))) hS ?_
      refine drwp_take rfl (guard_none rfl) rfl rfl (fun w_ hS_ => (ex_loadN (cs := [(.int .i64 x1.fTx), (.int .i64 x1.fAt)]) rfl rfl Try.underlying36 rfl tsz36 rfl ((hS_.box_at 0 rfl).sub 0 2 rfl))) hS ?_
      refine dp rfl rfl rfl rfl (ex_aeql rfl rfl rfl (by kernel_rfl) (eqs36 _ _ _ _ _)) hS ?_
      refine drwp_done ?_
      refine at_then ?_
      refine run_cond (b := ((((gt x0 a1308).fTx) == x1.fTx) && (((gt x0 a1308).fAt) == x1.fAt))) rfl (fun hb1318 => ?_) (fun hb1318 => ?_)
      · replace ho1303 := cond_t hb1318 ho1303
        refine run_seq ?_
        refine run_region rfl ?_
        refine ox rfl rfl rfl rfl (ex_assign rfl rfl) ?_
        refine ops_nil (at_then ?_)
        refine run_ret ?_
        refine at_block_ret ?_
        refine at_then_ret ?_
        refine at_then_ret ?_
        refine at_block_ret ?_
        refine at_then_ret ?_
        replace HM := (HM.front 0 rfl rfl).drop
        have hR := Option.some.inj ho1303
        subst hR
        have hT := thn_inl H
        have hR := Option.some.inj hT
        subst hR
        exact at_ret1 rfl rfl ⟨_, rfl, rfl, HM⟩
      · replace ho1303 := cond_f hb1318 ho1303
        refine run_skip ?_
        refine at_block ?_
        refine at_then ?_
        refine run_region rfl ?_
        refine ox rfl rfl rfl rfl (ex_move rfl rfl) ?_
        refine ox rfl rfl rfl rfl (ex_add rfl rfl rfl) ?_
        refine ox rfl rfl rfl rfl (ex_assign rfl rfl) ?_
        refine ops_nil ?_
        exact at_again k1313 (ρ1 := [(0, p0), (3, .pointer (some ⟨b1285, 0, none⟩)), (5, .int .i64 (wrap64 (a1308 + 1)))]) (Nat.lt_succ_self _) ⟨_, ho1303, rfl, HM⟩ (Sub.cons rfl (Sub.cons rfl (Sub.cons rfl Sub.nil)))
    · replace ho1303 := cond_f hb1315 ho1303
      refine run_exit ?_
      refine at_then_exit ?_
      refine at_then_exit ?_
      refine at_block_exit ?_
      replace HM := (HM.front 0 rfl rfl).drop
      exact at_mid (ρ' := []) ⟨(Option.some.inj ho1303), rfl, HM⟩ Sub.nil
  · rintro _ w1319 ⟨rfl, rfl, HM⟩
    replace H := (thn_inr H)
    refine run_seq ?_
    refine run_region rfl ?_
    refine ox rfl rfl rfl rfl (ex_assign rfl rfl) ?_
    refine ops_nil (at_then ?_)
    refine run_ret ?_
    have hR := Option.some.inj H
    subst hR
    exact at_ret1 rfl rfl ⟨_, rfl, rfl, HM⟩

def spec_l2Height.f (k : Nat) (x0 : Int) : Option Bool := ((spec_l1In.f k x0 0 999).bind fun t1416 => some t1416)
theorem spec_l2Height.calls {k : Nat} {x0 : Int}  {w : World}  {r : Bool} (H : spec_l2Height.f k x0 = some r) :
    Calls Try.prog 79 ([.int .i64 x0] : List Value).toArray w (fun e w_ => ∃ v, e = .returned v ∧ v = (.bool r) ∧ Mem w [] w_ []) := by
  have HM := Mem.start w
  refine calls_run (N := 5) Try.func79 rfl rfl rfl rfl ?_
  unfold spec_l2Height.f at H
  refine run_seq ?_
  refine run_region rfl ?_
  refine ox rfl rfl rfl rfl (ex_assign rfl rfl) ?_
  refine ops_nil (at_then (run_seq ?_))
  obtain ⟨t1416, h1417, H⟩ := bind_some H
  refine run_region rfl ?_
  refine ox rfl rfl rfl rfl (ex_move rfl rfl) ?_
  refine od rfl rfl rfl rfl (does_callk rfl callok58 rfl (spec_l1In.calls (x0 := x0) (x1 := 0) (x2 := 999) h1417)) ?_
  rintro _ w1418 ⟨rfl, hn⟩
  replace HM : Mem w [] w1418 [] := HM.call hn
  refine ox rfl rfl rfl rfl (ex_assign rfl rfl) ?_
  refine ops_nil (at_then ?_)
  refine run_ret ?_
  have hR := Option.some.inj H
  subst hR
  exact at_ret1 rfl rfl ⟨_, rfl, rfl, HM⟩

def spec_l2Fault.l0 (x0 : Rule) : Nat → Int → Option (Int ⊕ Unit)
  | 0, _ => none
  | k + 1, a1482 => (bif (decide (a1482 < (x0.fKeys.length : Int))) then (chk (idxOk a1482 x0.fKeys.length) ((spec_l1Key.f k (gt x0.fKeys a1482)).bind fun t1494 => (bif !t1494 then some (.inl 3) else spec_l2Fault.l0 x0 k (wrap64 (a1482 + 1))))) else some (.inr ()))
theorem spec_l2Fault.l0_z (x0 : Rule) (a1482 : Int) : spec_l2Fault.l0 x0 0 a1482 = none := rfl
theorem spec_l2Fault.l0_s (x0 : Rule) (k : Nat) (a1482 : Int) : spec_l2Fault.l0 x0 (k + 1) a1482 = (bif (decide (a1482 < (x0.fKeys.length : Int))) then (chk (idxOk a1482 x0.fKeys.length) ((spec_l1Key.f k (gt x0.fKeys a1482)).bind fun t1494 => (bif !t1494 then some (.inl 3) else spec_l2Fault.l0 x0 k (wrap64 (a1482 + 1))))) else some (.inr ())) := rfl
def spec_l2Fault.l1 (x0 : Rule) : Nat → Int → Option (Int ⊕ Unit)
  | 0, _ => none
  | k + 1, a1541 => (bif (decide (a1541 < (x0.fKeys.length : Int))) then (chk (idxOk a1541 x0.fKeys.length) (chk (idxOk (wrap64 (a1541 - 1)) x0.fKeys.length) (bif (decide ((gt x0.fKeys a1541) ≤ (gt x0.fKeys (wrap64 (a1541 - 1))))) then some (.inl 1) else spec_l2Fault.l1 x0 k (wrap64 (a1541 + 1))))) else some (.inr ()))
theorem spec_l2Fault.l1_z (x0 : Rule) (a1541 : Int) : spec_l2Fault.l1 x0 0 a1541 = none := rfl
theorem spec_l2Fault.l1_s (x0 : Rule) (k : Nat) (a1541 : Int) : spec_l2Fault.l1 x0 (k + 1) a1541 = (bif (decide (a1541 < (x0.fKeys.length : Int))) then (chk (idxOk a1541 x0.fKeys.length) (chk (idxOk (wrap64 (a1541 - 1)) x0.fKeys.length) (bif (decide ((gt x0.fKeys a1541) ≤ (gt x0.fKeys (wrap64 (a1541 - 1))))) then some (.inl 1) else spec_l2Fault.l1 x0 k (wrap64 (a1541 + 1))))) else some (.inr ())) := rfl
def spec_l2Fault.f (k : Nat) (x0 : Rule) : Option Int := ((spec_l1In.f k (x0.fKeys.length : Int) 1 3).bind fun t1451 => (bif !t1451 then some 2 else ((spec_l2Fault.l0 x0 k 0).bind fun o1474 => thn o1474 (fun r => some r) (fun _ => ((spec_l1In.f k x0.fNeed 1 (x0.fKeys.length : Int)).bind fun t1504 => ((bif (!(!t1504)) then spec_l2Height.f k x0.fAfter else some default).bind fun t1506 => (bif ((!t1504) || (!t1506)) then some 3 else ((spec_l2Fault.l1 x0 k 1).bind fun o1533 => thn o1533 (fun r => some r) (fun _ => some 0)))))))))
theorem spec_l2Fault.calls {k : Nat} {x0 : Rule} {b0 f0 : Nat} {p0_0 : Value} {w : World} (hc0 : CellsAt w b0 f0 [p0_0, .int .i64 x0.fNeed, .int .i64 x0.fAfter]) (hp0_0 : RdS kInt w p0_0 x0.fKeys) {r : Int} (H : spec_l2Fault.f k x0 = some r) :
    Calls Try.prog 132 ([.pointer (some ⟨b0, f0, none⟩)] : List Value).toArray w (fun e w_ => ∃ v, e = .returned v ∧ v = (.int .i64 r) ∧ Mem w [] w_ []) := by
  have HM := Mem.start w
  refine calls_run (N := 72) Try.func132 rfl rfl rfl rfl ?_
  unfold spec_l2Fault.f at H
  refine run_seq ?_
  refine run_region rfl ?_
  refine ox rfl rfl rfl rfl (ex_assign rfl rfl) ?_
  refine ops_nil (at_then (run_seq ?_))
  refine run_region rfl ?_
  refine ox rfl rfl rfl rfl (ex_move rfl rfl) ?_
  refine ox rfl rfl rfl rfl (ex_nilCheck rfl rfl) ?_
  refine ox rfl rfl rfl rfl (ex_fieldAddr (off' := f0) rfl rfl Try.underlying67 rfl tsz39 rfl) ?_
  refine ox rfl rfl rfl rfl (ex_load1 rfl rfl Try.underlying39 rfl ((HM.at_ hc0) 0 _ rfl)) ?_
  refine ox rfl rfl rfl rfl (ex_len (d := kInt) (xs := x0.fKeys) rfl rfl Try.underlying39 hp0_0) ?_
  refine ox rfl rfl rfl rfl (ex_assign rfl rfl) ?_
  refine ops_nil (at_then (run_seq ?_))
  refine run_seq ?_
  obtain ⟨t1451, h1452, H⟩ := bind_some H
  refine run_region rfl ?_
  refine ox rfl rfl rfl rfl (ex_move rfl rfl) ?_
  refine od rfl rfl rfl rfl (does_callk rfl callok58 rfl (spec_l1In.calls (x0 := (x0.fKeys.length : Int)) (x1 := 1) (x2 := 3) h1452)) ?_
  rintro _ w1453 ⟨rfl, hn⟩
  replace HM : Mem w [] w1453 [] := HM.call hn
  refine ox rfl rfl rfl rfl (ex_not rfl rfl) ?_
  refine ops_nil (at_then ?_)
  refine run_cond (b := !t1451) rfl (fun hb1454 => ?_) (fun hb1454 => ?_)
  · replace H := cond_t hb1454 H
    refine run_seq ?_
    refine run_region rfl ?_
    refine ox rfl rfl rfl rfl (ex_assign rfl rfl) ?_
    refine ops_nil (at_then ?_)
    refine run_ret ?_
    refine at_then_ret ?_
    have hR := Option.some.inj H
    subst hR
    exact at_ret1 rfl rfl ⟨_, rfl, rfl, HM⟩
  · replace H := cond_f hb1454 H
    refine run_skip ?_
    refine at_then ?_
    obtain ⟨o1474, ho1475, H⟩ := bind_some H
    refine run_mid (fun ρ_ w_ => Sum.inr () = o1474 ∧ ρ_ = [(0, .pointer (some ⟨b0, f0, none⟩)), (3, .int .i64 (x0.fKeys.length : Int))] ∧ Mem w [] w_ []) ?_ ?_
    · skip
      refine run_seq ?_
      refine run_region rfl ?_
      refine ox rfl rfl rfl rfl (ex_assign rfl rfl) ?_
      refine ops_nil (at_then ?_)
      refine run_block ?_
      refine run_loop (fun k_ ρ_ w_ => ∃ a1482 : Int, spec_l2Fault.l0 x0 k_ a1482 = some o1474 ∧ ρ_ = [(0, .pointer (some ⟨b0, f0, none⟩)), (3, .int .i64 (x0.fKeys.length : Int)), (4, .int .i64 a1482)] ∧ Mem w [] w_ []) k (ρ1 := [(0, .pointer (some ⟨b0, f0, none⟩)), (3, .int .i64 (x0.fKeys.length : Int)), (4, .int .i64 0)]) ⟨_, ho1475, rfl, HM⟩ (Sub.cons rfl (Sub.cons rfl (Sub.cons rfl Sub.nil))) ?_
      clear HM ho1475
      rintro k1489 _ w1490 ⟨a1482, ho1475, rfl, HM⟩
      obtain _ | k1489 := k1489
      · exact nomatch ((spec_l2Fault.l0_z x0 a1482).symm.trans ho1475)
      replace ho1475 := (spec_l2Fault.l0_s x0 k1489 a1482).symm.trans ho1475
      refine run_seq ?_
      refine run_seq ?_
      refine run_region rfl ?_
      refine ox rfl rfl rfl rfl (ex_move rfl rfl) ?_
      refine ox rfl rfl rfl rfl (ex_move rfl rfl) ?_
      refine ox rfl rfl rfl rfl (ex_nilCheck rfl rfl) ?_
      refine ox rfl rfl rfl rfl (ex_fieldAddr (off' := f0) rfl rfl Try.underlying67 rfl tsz39 rfl) ?_
      refine ox rfl rfl rfl rfl (ex_load1 rfl rfl Try.underlying39 rfl ((HM.at_ hc0) 0 _ rfl)) ?_
      refine ox rfl rfl rfl rfl (ex_len (d := kInt) (xs := x0.fKeys) rfl rfl Try.underlying39 hp0_0) ?_
      refine ox rfl rfl rfl rfl (ex_lss rfl rfl rfl) ?_
      refine ops_nil (at_then ?_)
      refine run_cond (b := (decide (a1482 < (x0.fKeys.length : Int)))) rfl (fun hb1491 => ?_) (fun hb1491 => ?_)
      · replace ho1475 := cond_t hb1491 ho1475
        refine run_skip ?_
        refine at_then ?_
        refine run_seq ?_
        refine run_block ?_
        refine run_seq ?_
        obtain ⟨e1492, ho1475⟩ := chk_some ho1475
        obtain ⟨t1494, h1495, ho1475⟩ := bind_some ho1475
        refine run_region rfl ?_
        refine ox rfl rfl rfl rfl (ex_move rfl rfl) ?_
        refine ox rfl rfl rfl rfl (ex_nilCheck rfl rfl) ?_
        refine ox rfl rfl rfl rfl (ex_fieldAddr (off' := f0) rfl rfl Try.underlying67 rfl tsz39 rfl) ?_
        refine ox rfl rfl rfl rfl (ex_load1 rfl rfl Try.underlying39 rfl ((HM.at_ hc0) 0 _ rfl)) ?_
        refine ox rfl rfl rfl rfl (ex_move rfl rfl) ?_
        have hc1493 : CellsAt _ (sb p0_0) (so p0_0 + (a1482).toNat * 1) [(.int .i64 (gt x0.fKeys a1482))] := rd_plain hp0_0 e1492
        refine ox rfl rfl rfl rfl (ex_indexAddr (d := kInt) rfl rfl rfl Try.underlying39 tsz2 hp0_0 (idx_lo e1492) (idx_hi e1492)) ?_
        refine ox rfl rfl rfl rfl (ex_load1 rfl rfl Try.underlying2 rfl ((HM.at_ hc1493) 0 _ rfl)) ?_
        refine od rfl rfl rfl rfl (does_callk rfl callok116 rfl (spec_l1Key.calls (x0 := (gt x0.fKeys a1482)) h1495)) ?_
        rintro _ w1496 ⟨rfl, hn⟩
        replace HM : Mem w [] w1496 [] := HM.call hn
        refine ox rfl rfl rfl rfl (ex_not rfl rfl) ?_
        refine ops_nil (at_then ?_)
        refine run_cond (b := !t1494) rfl (fun hb1497 => ?_) (fun hb1497 => ?_)
        · replace ho1475 := cond_t hb1497 ho1475
          refine run_seq ?_
          refine run_region rfl ?_
          refine ox rfl rfl rfl rfl (ex_assign rfl rfl) ?_
          refine ops_nil (at_then ?_)
          refine run_ret ?_
          refine at_block_ret ?_
          refine at_then_ret ?_
          refine at_then_ret ?_
          refine at_block_ret ?_
          refine at_then_ret ?_
          have hR := Option.some.inj ho1475
          subst hR
          have hT := thn_inl H
          have hR := Option.some.inj hT
          subst hR
          exact at_ret1 rfl rfl ⟨_, rfl, rfl, HM⟩
        · replace ho1475 := cond_f hb1497 ho1475
          refine run_skip ?_
          refine at_block ?_
          refine at_then ?_
          refine run_region rfl ?_
          refine ox rfl rfl rfl rfl (ex_move rfl rfl) ?_
          refine ox rfl rfl rfl rfl (ex_add rfl rfl rfl) ?_
          refine ox rfl rfl rfl rfl (ex_assign rfl rfl) ?_
          refine ops_nil ?_
          exact at_again k1489 (ρ1 := [(0, .pointer (some ⟨b0, f0, none⟩)), (3, .int .i64 (x0.fKeys.length : Int)), (4, .int .i64 (wrap64 (a1482 + 1)))]) (Nat.lt_succ_self _) ⟨_, ho1475, rfl, HM⟩ (Sub.cons rfl (Sub.cons rfl (Sub.cons rfl Sub.nil)))
      · replace ho1475 := cond_f hb1491 ho1475
        refine run_exit ?_
        refine at_then_exit ?_
        refine at_then_exit ?_
        refine at_block_exit ?_
        exact at_mid (ρ' := [(0, .pointer (some ⟨b0, f0, none⟩)), (3, .int .i64 (x0.fKeys.length : Int))]) ⟨(Option.some.inj ho1475), rfl, HM⟩ (Sub.cons rfl (Sub.cons rfl Sub.nil))
    · rintro _ w1498 ⟨rfl, rfl, HM⟩
      replace H := (thn_inr H)
      refine run_seq ?_
      refine run_seq ?_
      obtain ⟨t1504, h1505, H⟩ := bind_some H
      obtain ⟨t1506, h1507, H⟩ := bind_some H
      refine run_meet (fun ρ_ w_ => ρ_ = [(0, .pointer (some ⟨b0, f0, none⟩)), (46, .bool ((!t1504) || (!t1506)))] ∧ Mem w [] w_ []) ?_ ?_
      · skip
        refine run_region rfl ?_
        refine ox rfl rfl rfl rfl (ex_move rfl rfl) ?_
        refine ox rfl rfl rfl rfl (ex_nilCheck rfl rfl) ?_
        refine ox rfl rfl rfl rfl (ex_fieldAddr (off' := f0 + 1) rfl rfl Try.underlying67 rfl tsz2 rfl) ?_
        refine ox rfl rfl rfl rfl (ex_load1 rfl rfl Try.underlying2 rfl ((HM.at_ hc0) 1 _ rfl)) ?_
        refine ox rfl rfl rfl rfl (ex_move rfl rfl) ?_
        refine od rfl rfl rfl rfl (does_callk rfl callok58 rfl (spec_l1In.calls (x0 := x0.fNeed) (x1 := 1) (x2 := (x0.fKeys.length : Int)) h1505)) ?_
        rintro _ w1508 ⟨rfl, hn⟩
        replace HM : Mem w [] w1508 [] := HM.call hn
        refine ox rfl rfl rfl rfl (ex_not rfl rfl) ?_
        refine ox rfl rfl rfl rfl (ex_move rfl rfl) ?_
        refine bool_cases (!t1504) (fun hg1509 => ?_) (fun hg1509 => ?_)
        · skip
          refine ops_off rfl (guard_off rfl rfl rfl hg1509) rfl rfl ?_
          refine ops_off rfl (guard_off rfl rfl rfl hg1509) rfl rfl ?_
          refine ops_off rfl (guard_off rfl rfl rfl hg1509) rfl rfl ?_
          refine ops_off rfl (guard_off rfl rfl rfl hg1509) rfl rfl ?_
          refine ops_off rfl (guard_off rfl rfl rfl hg1509) rfl rfl ?_
          refine ops_off rfl (guard_off rfl rfl rfl hg1509) rfl rfl ?_
          have hg1510 : ((!t1504) || (!t1506)) = true := by simp only [hg1509, Bool.and_true, Bool.true_and, Bool.and_false, Bool.false_and, Bool.or_true, Bool.true_or, Bool.or_false, Bool.false_or, Bool.not_true, Bool.not_false, Bool.not_not]
          refine ops_ex (v := .bool ((!t1504) || (!t1506))) rfl (guard_none rfl) rfl rfl (ex_por_t rfl rfl hg1509) ?_
          refine ops_nil ?_
          exact at_meet [(0, .pointer (some ⟨b0, f0, none⟩)), (46, .bool ((!t1504) || (!t1506)))] ⟨rfl, HM⟩ (Sub.cons rfl (Sub.cons rfl Sub.nil))
        · skip
          refine ops_ex rfl (guard_on rfl rfl rfl hg1509) rfl rfl (ex_move rfl rfl) ?_
          refine ops_ex rfl (guard_on rfl rfl rfl hg1509) rfl rfl (ex_nilCheck rfl rfl) ?_
          refine ops_ex rfl (guard_on rfl rfl rfl hg1509) rfl rfl (ex_fieldAddr (off' := f0 + 2) rfl rfl Try.underlying67 rfl tsz2 rfl) ?_
          refine ops_ex rfl (guard_on rfl rfl rfl hg1509) rfl rfl (ex_load1 rfl rfl Try.underlying2 rfl ((HM.at_ hc0) 2 _ rfl)) ?_
          refine ops_does rfl (guard_on rfl rfl rfl hg1509) rfl rfl (does_callk rfl callok79 rfl (spec_l2Height.calls (x0 := x0.fAfter) (cond_t (not_mk hg1509) h1507))) ?_
          rintro _ w1511 ⟨rfl, hn⟩
          replace HM : Mem w [] w1511 [] := HM.call hn
          refine ops_ex rfl (guard_on rfl rfl rfl hg1509) rfl rfl (ex_not rfl rfl) ?_
          refine ops_ex (v := .bool ((!t1504) || (!t1506))) rfl (guard_none rfl) rfl rfl (ex_por_f rfl rfl hg1509 rfl) ?_
          refine ops_nil ?_
          exact at_meet [(0, .pointer (some ⟨b0, f0, none⟩)), (46, .bool ((!t1504) || (!t1506)))] ⟨rfl, HM⟩ (Sub.cons rfl (Sub.cons rfl Sub.nil))
      · rintro _ w1512 ⟨rfl, HM⟩
        refine at_then ?_
        refine run_cond (b := ((!t1504) || (!t1506))) rfl (fun hb1513 => ?_) (fun hb1513 => ?_)
        · replace H := cond_t hb1513 H
          refine run_seq ?_
          refine run_region rfl ?_
          refine ox rfl rfl rfl rfl (ex_assign rfl rfl) ?_
          refine ops_nil (at_then ?_)
          refine run_ret ?_
          refine at_then_ret ?_
          have hR := Option.some.inj H
          subst hR
          exact at_ret1 rfl rfl ⟨_, rfl, rfl, HM⟩
        · replace H := cond_f hb1513 H
          refine run_skip ?_
          refine at_then ?_
          obtain ⟨o1533, ho1534, H⟩ := bind_some H
          refine run_mid (fun ρ_ w_ => Sum.inr () = o1533 ∧ ρ_ = [] ∧ Mem w [] w_ []) ?_ ?_
          · skip
            refine run_seq ?_
            refine run_region rfl ?_
            refine ox rfl rfl rfl rfl (ex_assign rfl rfl) ?_
            refine ops_nil (at_then ?_)
            refine run_block ?_
            refine run_loop (fun k_ ρ_ w_ => ∃ a1541 : Int, spec_l2Fault.l1 x0 k_ a1541 = some o1533 ∧ ρ_ = [(0, .pointer (some ⟨b0, f0, none⟩)), (5, .int .i64 a1541)] ∧ Mem w [] w_ []) k (ρ1 := [(0, .pointer (some ⟨b0, f0, none⟩)), (5, .int .i64 1)]) ⟨_, ho1534, rfl, HM⟩ (Sub.cons rfl (Sub.cons rfl Sub.nil)) ?_
            clear HM ho1534
            rintro k1548 _ w1549 ⟨a1541, ho1534, rfl, HM⟩
            obtain _ | k1548 := k1548
            · exact nomatch ((spec_l2Fault.l1_z x0 a1541).symm.trans ho1534)
            replace ho1534 := (spec_l2Fault.l1_s x0 k1548 a1541).symm.trans ho1534
            refine run_seq ?_
            refine run_seq ?_
            refine run_region rfl ?_
            refine ox rfl rfl rfl rfl (ex_move rfl rfl) ?_
            refine ox rfl rfl rfl rfl (ex_move rfl rfl) ?_
            refine ox rfl rfl rfl rfl (ex_nilCheck rfl rfl) ?_
            refine ox rfl rfl rfl rfl (ex_fieldAddr (off' := f0) rfl rfl Try.underlying67 rfl tsz39 rfl) ?_
            refine ox rfl rfl rfl rfl (ex_load1 rfl rfl Try.underlying39 rfl ((HM.at_ hc0) 0 _ rfl)) ?_
            refine ox rfl rfl rfl rfl (ex_len (d := kInt) (xs := x0.fKeys) rfl rfl Try.underlying39 hp0_0) ?_
            refine ox rfl rfl rfl rfl (ex_lss rfl rfl rfl) ?_
            refine ops_nil (at_then ?_)
            refine run_cond (b := (decide (a1541 < (x0.fKeys.length : Int)))) rfl (fun hb1550 => ?_) (fun hb1550 => ?_)
            · replace ho1534 := cond_t hb1550 ho1534
              refine run_skip ?_
              refine at_then ?_
              refine run_seq ?_
              refine run_block ?_
              refine run_seq ?_
              obtain ⟨e1551, ho1534⟩ := chk_some ho1534
              obtain ⟨e1553, ho1534⟩ := chk_some ho1534
              refine run_drawf (fun w_ => Mem w [] w_ []) [(0, true), (1, true), (2, true), (3, true), (4, true), (5, true), (6, true), (7, true), (8, true), (9, true), (10, true), (11, true), (12, true), (13, true), (14, true), (15, true)] mixed rfl rfl (by kernel_rfl) ?_
              replace HM := HM.grow (fr_drew _)
              have hS := Mem.suf (M := []) HM
              refine dp rfl rfl rfl rfl (ex_move rfl rfl) hS ?_
              refine dp rfl rfl rfl rfl (ex_nilCheck rfl rfl) hS ?_
              refine dp rfl rfl rfl rfl (ex_fieldAddr (off' := f0) rfl rfl Try.underlying67 rfl tsz39 rfl) hS ?_
              refine drwp_take rfl (guard_none rfl) rfl rfl (fun w_ hS_ => (ex_load1 rfl rfl Try.underlying39 rfl ((hS_.at_ hc0) 0 _ rfl))) hS ?_
              refine dp rfl rfl rfl rfl (ex_move rfl rfl) hS ?_
              have hc1552 : CellsAt _ (sb p0_0) (so p0_0 + (a1541).toNat * 1) [(.int .i64 (gt x0.fKeys a1541))] := rd_plain hp0_0 e1551
              refine dp rfl rfl rfl rfl (ex_indexAddr (d := kInt) rfl rfl rfl Try.underlying39 tsz2 hp0_0 (idx_lo e1551) (idx_hi e1551)) hS ?_
              refine drwp_take rfl (guard_none rfl) rfl rfl (fun w_ hS_ => (ex_load1 rfl rfl Try.underlying2 rfl ((hS_.at_ hc1552) 0 _ rfl))) hS ?_
              refine dp rfl rfl rfl rfl (ex_move rfl rfl) hS ?_
              refine dp rfl rfl rfl rfl (ex_nilCheck rfl rfl) hS ?_
              refine dp rfl rfl rfl rfl (ex_fieldAddr (off' := f0) rfl rfl Try.underlying67 rfl tsz39 rfl) hS ?_
              refine drwp_take rfl (guard_none rfl) rfl rfl (fun w_ hS_ => (ex_load1 rfl rfl Try.underlying39 rfl ((hS_.at_ hc0) 0 _ rfl))) hS ?_
              refine dp rfl rfl rfl rfl (ex_move rfl rfl) hS ?_
              refine dp rfl rfl rfl rfl (ex_sub rfl rfl rfl) hS ?_
              have hc1554 : CellsAt _ (sb p0_0) (so p0_0 + (wrap64 (a1541 - 1)).toNat * 1) [(.int .i64 (gt x0.fKeys (wrap64 (a1541 - 1))))] := rd_plain hp0_0 e1553
              refine dp rfl rfl rfl rfl (ex_indexAddr (d := kInt) rfl rfl rfl Try.underlying39 tsz2 hp0_0 (idx_lo e1553) (idx_hi e1553)) hS ?_
              refine drwp_take rfl (guard_none rfl) rfl rfl (fun w_ hS_ => (ex_load1 rfl rfl Try.underlying2 rfl ((hS_.at_ hc1554) 0 _ rfl))) hS ?_
              refine dp rfl rfl rfl rfl (ex_leq rfl rfl rfl) hS ?_
              refine drwp_done ?_
              refine at_then ?_
              refine run_cond (b := (decide ((gt x0.fKeys a1541) ≤ (gt x0.fKeys (wrap64 (a1541 - 1)))))) rfl (fun hb1555 => ?_) (fun hb1555 => ?_)
              · replace ho1534 := cond_t hb1555 ho1534
                refine run_seq ?_
                refine run_region rfl ?_
                refine ox rfl rfl rfl rfl (ex_assign rfl rfl) ?_
                refine ops_nil (at_then ?_)
                refine run_ret ?_
                refine at_block_ret ?_
                refine at_then_ret ?_
                refine at_then_ret ?_
                refine at_block_ret ?_
                refine at_then_ret ?_
                have hR := Option.some.inj ho1534
                subst hR
                have hT := thn_inl H
                have hR := Option.some.inj hT
                subst hR
                exact at_ret1 rfl rfl ⟨_, rfl, rfl, HM⟩
              · replace ho1534 := cond_f hb1555 ho1534
                refine run_skip ?_
                refine at_block ?_
                refine at_then ?_
                refine run_region rfl ?_
                refine ox rfl rfl rfl rfl (ex_move rfl rfl) ?_
                refine ox rfl rfl rfl rfl (ex_add rfl rfl rfl) ?_
                refine ox rfl rfl rfl rfl (ex_assign rfl rfl) ?_
                refine ops_nil ?_
                exact at_again k1548 (ρ1 := [(0, .pointer (some ⟨b0, f0, none⟩)), (5, .int .i64 (wrap64 (a1541 + 1)))]) (Nat.lt_succ_self _) ⟨_, ho1534, rfl, HM⟩ (Sub.cons rfl (Sub.cons rfl Sub.nil))
            · replace ho1534 := cond_f hb1550 ho1534
              refine run_exit ?_
              refine at_then_exit ?_
              refine at_then_exit ?_
              refine at_block_exit ?_
              exact at_mid (ρ' := []) ⟨(Option.some.inj ho1534), rfl, HM⟩ Sub.nil
          · rintro _ w1556 ⟨rfl, rfl, HM⟩
            replace H := (thn_inr H)
            refine run_seq ?_
            refine run_region rfl ?_
            refine ox rfl rfl rfl rfl (ex_assign rfl rfl) ?_
            refine ops_nil (at_then ?_)
            refine run_ret ?_
            have hR := Option.some.inj H
            subst hR
            exact at_ret1 rfl rfl ⟨_, rfl, rfl, HM⟩
end Go.Proofs.Ytbbcabpnkdilgaa.Zk
