/- What functions of the program compute, each as a plain function, and that they do. Conditions: as each theorem states them. -/
import Derived.Test.YtmaolhocmkkmjaaGreatDoorFnTextsZkF10
namespace Go.Proofs.YtmaolhocmkkmjaaGreatDoor.Zk
open Go Go.RowKit Go.IntWalk Go.Proofs
set_option linter.unusedVariables false
set_option linter.unusedSimpArgs false
set_option maxRecDepth 100000
set_option maxHeartbeats 4000000
def impl_SameTxs.f (k : Nat) (x0 : Tx) (x1 : Tx) : Option Bool := ((bif ((x0.fKind == x1.fKind) && (x0.fMember == x1.fMember)) then slices_Equal_impl_Ref.f k x0.fIns x1.fIns else some default).bind fun t7604 => ((bif (((x0.fKind == x1.fKind) && (x0.fMember == x1.fMember)) && t7604) then slices_EqualFunc_impl_Out.f k x0.fOuts x1.fOuts else some default).bind fun t7606 => some ((((x0.fKind == x1.fKind) && (x0.fMember == x1.fMember)) && t7604) && t7606)))
theorem impl_SameTxs.calls {k : Nat} {x0 : Tx} {x1 : Tx} {p0_0 : Value} {p0_1 : Value} {p1_0 : Value} {p1_1 : Value} {w : World} (hp0_0 : RdS kRef w p0_0 x0.fIns) (hp0_1 : RdS kOut w p0_1 x0.fOuts) (hp1_0 : RdS kRef w p1_0 x1.fIns) (hp1_1 : RdS kOut w p1_1 x1.fOuts) {r : Bool} (H : impl_SameTxs.f k x0 x1 = some r) :
    Calls Tryz.prog 14 ([.agg #[(.int .i64 x0.fKind), (.int .i64 x0.fMember), p0_0, p0_1], .agg #[(.int .i64 x1.fKind), (.int .i64 x1.fMember), p1_0, p1_1]] : List Value).toArray w (fun e w_ => ∃ v, e = .returned v ∧ v = (.bool r) ∧ Mem w [] w_ []) := by
  have HM := Mem.start w
  refine calls_run (N := 31) Tryz.func14 rfl rfl rfl rfl ?_
  unfold impl_SameTxs.f at H
  refine run_seq ?_
  refine run_region rfl ?_
  refine od rfl rfl rfl rfl (does_box (cs := [.int .i64 x0.fKind, .int .i64 x0.fMember, p0_0, p0_1]) rfl rfl rfl HM) ?_
  rintro _ w7602 ⟨b7596, rfl, HM⟩
  refine od rfl rfl rfl rfl (does_box (cs := [.int .i64 x1.fKind, .int .i64 x1.fMember, p1_0, p1_1]) rfl rfl rfl HM) ?_
  rintro _ w7603 ⟨b7599, rfl, HM⟩
  refine ox rfl rfl rfl rfl (ex_assign rfl rfl) ?_
  refine ops_nil (at_then (run_seq ?_))
  obtain ⟨t7604, h7605, H⟩ := bind_some H
  obtain ⟨t7606, h7607, H⟩ := bind_some H
  refine run_meet (fun ρ_ w_ => ρ_ = [(4, .bool ((((x0.fKind == x1.fKind) && (x0.fMember == x1.fMember)) && t7604) && t7606))] ∧ Mem w [] w_ []) ?_ ?_
  · skip
    refine run_region rfl ?_
    refine ox rfl rfl rfl rfl (ex_fieldAddr (off' := 0) rfl rfl Tryz.underlying28 rfl tsz2 rfl) ?_
    refine ox rfl rfl rfl rfl (ex_load1 rfl rfl Tryz.underlying2 rfl ((HM.box_at 1 rfl) 0 _ rfl)) ?_
    refine ox rfl rfl rfl rfl (ex_fieldAddr (off' := 0) rfl rfl Tryz.underlying28 rfl tsz2 rfl) ?_
    refine ox rfl rfl rfl rfl (ex_load1 rfl rfl Tryz.underlying2 rfl ((HM.box_at 0 rfl) 0 _ rfl)) ?_
    refine ox rfl rfl rfl rfl (ex_eql rfl rfl rfl) ?_
    refine ox rfl rfl rfl rfl (ex_move rfl rfl) ?_
    refine bool_cases (x0.fKind == x1.fKind) (fun hg7608 => ?_) (fun hg7608 => ?_)
    · skip
      refine ops_ex rfl (guard_on rfl rfl rfl hg7608) rfl rfl (ex_fieldAddr (off' := 1) rfl rfl Tryz.underlying28 rfl tsz2 rfl) ?_
      refine ops_ex rfl (guard_on rfl rfl rfl hg7608) rfl rfl (ex_load1 rfl rfl Tryz.underlying2 rfl ((HM.box_at 1 rfl) 1 _ rfl)) ?_
      refine ops_ex rfl (guard_on rfl rfl rfl hg7608) rfl rfl (ex_fieldAddr (off' := 1) rfl rfl Tryz.underlying28 rfl tsz2 rfl) ?_
      refine ops_ex rfl (guard_on rfl rfl rfl hg7608) rfl rfl (ex_load1 rfl rfl Tryz.underlying2 rfl ((HM.box_at 0 rfl) 1 _ rfl)) ?_
      refine ops_ex rfl (guard_on rfl rfl rfl hg7608) rfl rfl (ex_eql rfl rfl rfl) ?_
      refine ops_ex (v := .bool ((x0.fKind == x1.fKind) && (x0.fMember == x1.fMember))) rfl (guard_none rfl) rfl rfl (ex_pand_t rfl rfl hg7608 rfl) ?_
      refine ox rfl rfl rfl rfl (ex_move rfl rfl) ?_
      refine bool_cases ((x0.fKind == x1.fKind) && (x0.fMember == x1.fMember)) (fun hg7609 => ?_) (fun hg7609 => ?_)
      · skip
        refine ops_ex rfl (guard_on rfl rfl rfl hg7609) rfl rfl (ex_fieldAddr (off' := 2) rfl rfl Tryz.underlying28 rfl tsz25 rfl) ?_
        refine ops_ex rfl (guard_on rfl rfl rfl hg7609) rfl rfl (ex_load1 rfl rfl Tryz.underlying25 rfl ((HM.box_at 1 rfl) 2 _ rfl)) ?_
        refine ops_ex rfl (guard_on rfl rfl rfl hg7609) rfl rfl (ex_fieldAddr (off' := 2) rfl rfl Tryz.underlying28 rfl tsz25 rfl) ?_
        refine ops_ex rfl (guard_on rfl rfl rfl hg7609) rfl rfl (ex_load1 rfl rfl Tryz.underlying25 rfl ((HM.box_at 0 rfl) 2 _ rfl)) ?_
        refine ops_does rfl (guard_on rfl rfl rfl hg7609) rfl rfl (does_callk rfl callok33 rfl (slices_Equal_impl_Ref.calls (x0 := x0.fIns) (x1 := x1.fIns) (HM.rd hp0_0) (HM.rd hp1_0) (cond_t hg7609 h7605))) ?_
        rintro _ w7610 ⟨rfl, hn⟩
        replace HM : Mem w [] w7610 [box b7599 28 [.int .i64 x1.fKind, .int .i64 x1.fMember, p1_0, p1_1], box b7596 28 [.int .i64 x0.fKind, .int .i64 x0.fMember, p0_0, p0_1]] := HM.call hn
        refine ops_ex (v := .bool (((x0.fKind == x1.fKind) && (x0.fMember == x1.fMember)) && t7604)) rfl (guard_none rfl) rfl rfl (ex_pand_t rfl rfl hg7609 rfl) ?_
        refine ox rfl rfl rfl rfl (ex_move rfl rfl) ?_
        refine bool_cases (((x0.fKind == x1.fKind) && (x0.fMember == x1.fMember)) && t7604) (fun hg7611 => ?_) (fun hg7611 => ?_)
        · skip
          refine ops_ex rfl (guard_on rfl rfl rfl hg7611) rfl rfl (ex_fieldAddr (off' := 3) rfl rfl Tryz.underlying28 rfl tsz26 rfl) ?_
          refine ops_ex rfl (guard_on rfl rfl rfl hg7611) rfl rfl (ex_load1 rfl rfl Tryz.underlying26 rfl ((HM.box_at 1 rfl) 3 _ rfl)) ?_
          refine ops_ex rfl (guard_on rfl rfl rfl hg7611) rfl rfl (ex_fieldAddr (off' := 3) rfl rfl Tryz.underlying28 rfl tsz26 rfl) ?_
          refine ops_ex rfl (guard_on rfl rfl rfl hg7611) rfl rfl (ex_load1 rfl rfl Tryz.underlying26 rfl ((HM.box_at 0 rfl) 3 _ rfl)) ?_
          refine ops_does rfl (guard_on rfl rfl rfl hg7611) rfl rfl (does_callk rfl callok34 rfl (slices_EqualFunc_impl_Out.calls (x0 := x0.fOuts) (x1 := x1.fOuts) (HM.rd hp0_1) (HM.rd hp1_1) (cond_t hg7611 h7607))) ?_
          rintro _ w7612 ⟨rfl, hn⟩
          replace HM : Mem w [] w7612 [box b7599 28 [.int .i64 x1.fKind, .int .i64 x1.fMember, p1_0, p1_1], box b7596 28 [.int .i64 x0.fKind, .int .i64 x0.fMember, p0_0, p0_1]] := HM.call hn
          refine ops_ex (v := .bool ((((x0.fKind == x1.fKind) && (x0.fMember == x1.fMember)) && t7604) && t7606)) rfl (guard_none rfl) rfl rfl (ex_pand_t rfl rfl hg7611 rfl) ?_
          refine ox rfl rfl rfl rfl (ex_assign rfl rfl) ?_
          refine ops_nil ?_
          replace HM := (HM.front 0 rfl rfl).drop
          replace HM := (HM.front 0 rfl rfl).drop
          exact at_meet [(4, .bool ((((x0.fKind == x1.fKind) && (x0.fMember == x1.fMember)) && t7604) && t7606))] ⟨rfl, HM⟩ (Sub.cons rfl Sub.nil)
        · skip
          refine ops_off rfl (guard_off rfl rfl rfl hg7611) rfl rfl ?_
          refine ops_off rfl (guard_off rfl rfl rfl hg7611) rfl rfl ?_
          refine ops_off rfl (guard_off rfl rfl rfl hg7611) rfl rfl ?_
          refine ops_off rfl (guard_off rfl rfl rfl hg7611) rfl rfl ?_
          refine ops_off rfl (guard_off rfl rfl rfl hg7611) rfl rfl ?_
          have hg7613 : ((((x0.fKind == x1.fKind) && (x0.fMember == x1.fMember)) && t7604) && t7606) = false := by simp only [hg7611, Bool.and_true, Bool.true_and, Bool.and_false, Bool.false_and, Bool.or_true, Bool.true_or, Bool.or_false, Bool.false_or, Bool.not_true, Bool.not_false, Bool.not_not]
          refine ops_ex (v := .bool ((((x0.fKind == x1.fKind) && (x0.fMember == x1.fMember)) && t7604) && t7606)) rfl (guard_none rfl) rfl rfl (ex_pand_f rfl rfl hg7611) ?_
          refine ox rfl rfl rfl rfl (ex_assign rfl rfl) ?_
          refine ops_nil ?_
          replace HM := (HM.front 0 rfl rfl).drop
          replace HM := (HM.front 0 rfl rfl).drop
          exact at_meet [(4, .bool ((((x0.fKind == x1.fKind) && (x0.fMember == x1.fMember)) && t7604) && t7606))] ⟨rfl, HM⟩ (Sub.cons rfl Sub.nil)
      · skip
        refine ops_off rfl (guard_off rfl rfl rfl hg7609) rfl rfl ?_
        refine ops_off rfl (guard_off rfl rfl rfl hg7609) rfl rfl ?_
        refine ops_off rfl (guard_off rfl rfl rfl hg7609) rfl rfl ?_
        refine ops_off rfl (guard_off rfl rfl rfl hg7609) rfl rfl ?_
        refine ops_off rfl (guard_off rfl rfl rfl hg7609) rfl rfl ?_
        have hg7614 : (((x0.fKind == x1.fKind) && (x0.fMember == x1.fMember)) && t7604) = false := by simp only [hg7609, Bool.and_true, Bool.true_and, Bool.and_false, Bool.false_and, Bool.or_true, Bool.true_or, Bool.or_false, Bool.false_or, Bool.not_true, Bool.not_false, Bool.not_not]
        refine ops_ex (v := .bool (((x0.fKind == x1.fKind) && (x0.fMember == x1.fMember)) && t7604)) rfl (guard_none rfl) rfl rfl (ex_pand_f rfl rfl hg7609) ?_
        refine ox rfl rfl rfl rfl (ex_move rfl rfl) ?_
        refine ops_off rfl (guard_off rfl rfl rfl hg7614) rfl rfl ?_
        refine ops_off rfl (guard_off rfl rfl rfl hg7614) rfl rfl ?_
        refine ops_off rfl (guard_off rfl rfl rfl hg7614) rfl rfl ?_
        refine ops_off rfl (guard_off rfl rfl rfl hg7614) rfl rfl ?_
        refine ops_off rfl (guard_off rfl rfl rfl hg7614) rfl rfl ?_
        have hg7615 : ((((x0.fKind == x1.fKind) && (x0.fMember == x1.fMember)) && t7604) && t7606) = false := by simp only [hg7614, Bool.and_true, Bool.true_and, Bool.and_false, Bool.false_and, Bool.or_true, Bool.true_or, Bool.or_false, Bool.false_or, Bool.not_true, Bool.not_false, Bool.not_not]
        refine ops_ex (v := .bool ((((x0.fKind == x1.fKind) && (x0.fMember == x1.fMember)) && t7604) && t7606)) rfl (guard_none rfl) rfl rfl (ex_pand_f rfl rfl hg7614) ?_
        refine ox rfl rfl rfl rfl (ex_assign rfl rfl) ?_
        refine ops_nil ?_
        replace HM := (HM.front 0 rfl rfl).drop
        replace HM := (HM.front 0 rfl rfl).drop
        exact at_meet [(4, .bool ((((x0.fKind == x1.fKind) && (x0.fMember == x1.fMember)) && t7604) && t7606))] ⟨rfl, HM⟩ (Sub.cons rfl Sub.nil)
    · skip
      refine ops_off rfl (guard_off rfl rfl rfl hg7608) rfl rfl ?_
      refine ops_off rfl (guard_off rfl rfl rfl hg7608) rfl rfl ?_
      refine ops_off rfl (guard_off rfl rfl rfl hg7608) rfl rfl ?_
      refine ops_off rfl (guard_off rfl rfl rfl hg7608) rfl rfl ?_
      refine ops_off rfl (guard_off rfl rfl rfl hg7608) rfl rfl ?_
      have hg7616 : ((x0.fKind == x1.fKind) && (x0.fMember == x1.fMember)) = false := by simp only [hg7608, Bool.and_true, Bool.true_and, Bool.and_false, Bool.false_and, Bool.or_true, Bool.true_or, Bool.or_false, Bool.false_or, Bool.not_true, Bool.not_false, Bool.not_not]
      refine ops_ex (v := .bool ((x0.fKind == x1.fKind) && (x0.fMember == x1.fMember))) rfl (guard_none rfl) rfl rfl (ex_pand_f rfl rfl hg7608) ?_
      refine ox rfl rfl rfl rfl (ex_move rfl rfl) ?_
      refine ops_off rfl (guard_off rfl rfl rfl hg7616) rfl rfl ?_
      refine ops_off rfl (guard_off rfl rfl rfl hg7616) rfl rfl ?_
      refine ops_off rfl (guard_off rfl rfl rfl hg7616) rfl rfl ?_
      refine ops_off rfl (guard_off rfl rfl rfl hg7616) rfl rfl ?_
      refine ops_off rfl (guard_off rfl rfl rfl hg7616) rfl rfl ?_
      have hg7617 : (((x0.fKind == x1.fKind) && (x0.fMember == x1.fMember)) && t7604) = false := by simp only [hg7616, Bool.and_true, Bool.true_and, Bool.and_false, Bool.false_and, Bool.or_true, Bool.true_or, Bool.or_false, Bool.false_or, Bool.not_true, Bool.not_false, Bool.not_not]
      refine ops_ex (v := .bool (((x0.fKind == x1.fKind) && (x0.fMember == x1.fMember)) && t7604)) rfl (guard_none rfl) rfl rfl (ex_pand_f rfl rfl hg7616) ?_
      refine ox rfl rfl rfl rfl (ex_move rfl rfl) ?_
      refine ops_off rfl (guard_off rfl rfl rfl hg7617) rfl rfl ?_
      refine ops_off rfl (guard_off rfl rfl rfl hg7617) rfl rfl ?_
      refine ops_off rfl (guard_off rfl rfl rfl hg7617) rfl rfl ?_
      refine ops_off rfl (guard_off rfl rfl rfl hg7617) rfl rfl ?_
      refine ops_off rfl (guard_off rfl rfl rfl hg7617) rfl rfl ?_
      have hg7618 : ((((x0.fKind == x1.fKind) && (x0.fMember == x1.fMember)) && t7604) && t7606) = false := by simp only [hg7617, Bool.and_true, Bool.true_and, Bool.and_false, Bool.false_and, Bool.or_true, Bool.true_or, Bool.or_false, Bool.false_or, Bool.not_true, Bool.not_false, Bool.not_not]
      refine ops_ex (v := .bool ((((x0.fKind == x1.fKind) && (x0.fMember == x1.fMember)) && t7604) && t7606)) rfl (guard_none rfl) rfl rfl (ex_pand_f rfl rfl hg7617) ?_
      refine ox rfl rfl rfl rfl (ex_assign rfl rfl) ?_
      refine ops_nil ?_
      replace HM := (HM.front 0 rfl rfl).drop
      replace HM := (HM.front 0 rfl rfl).drop
      exact at_meet [(4, .bool ((((x0.fKind == x1.fKind) && (x0.fMember == x1.fMember)) && t7604) && t7606))] ⟨rfl, HM⟩ (Sub.cons rfl Sub.nil)
  · rintro _ w7619 ⟨rfl, HM⟩
    refine at_then ?_
    refine run_ret ?_
    have hR := Option.some.inj H
    subst hR
    exact at_ret1 rfl rfl ⟨_, rfl, rfl, HM⟩

def impl_clash_1.f (k : Nat) (x0 : Ref) (x1 : Tx) : Option Bool := ((slices_Contains_impl_Ref.f k x1.fIns x0).bind fun t7650 => some t7650)
theorem impl_clash_1.calls {k : Nat} {x0 : Ref} {x1 : Tx} {b1 f1 : Nat} {p1_0 : Value} {p1_1 : Value} {w : World} (hc1 : CellsAt w b1 f1 [.int .i64 x1.fKind, .int .i64 x1.fMember, p1_0, p1_1]) (hp1_0 : RdS kRef w p1_0 x1.fIns) (hp1_1 : RdS kOut w p1_1 x1.fOuts) {r : Bool} (H : impl_clash_1.f k x0 x1 = some r) :
    Calls Tryz.prog 65 ([.agg #[(.int .i64 x0.fTx), (.int .i64 x0.fAt)], .pointer (some ⟨b1, f1, none⟩)] : List Value).toArray w (fun e w_ => ∃ v, e = .returned v ∧ v = (.bool r) ∧ Mem w [] w_ []) := by
  have HM := Mem.start w
  refine calls_run (N := 8) Tryz.func65 rfl rfl rfl rfl ?_
  unfold impl_clash_1.f at H
  refine run_seq ?_
  refine run_region rfl ?_
  refine od rfl rfl rfl rfl (does_box (cs := [.int .i64 x0.fTx, .int .i64 x0.fAt]) rfl rfl rfl HM) ?_
  rintro _ w7649 ⟨b7646, rfl, HM⟩
  refine ox rfl rfl rfl rfl (ex_assign rfl rfl) ?_
  refine ops_nil (at_then (run_seq ?_))
  obtain ⟨t7650, h7651, H⟩ := bind_some H
  refine run_region rfl ?_
  refine ox rfl rfl rfl rfl (ex_fieldAddr (off' := f1 + 2) rfl rfl Tryz.underlying28 rfl tsz25 rfl) ?_
  refine ox rfl rfl rfl rfl (ex_load1 rfl rfl Tryz.underlying25 rfl ((HM.at_ hc1) 2 _ rfl)) ?_
  refine ox rfl rfl rfl rfl (ex_loadN (cs := [(.int .i64 x0.fTx), (.int .i64 x0.fAt)]) rfl rfl Tryz.underlying62 rfl tsz62 rfl ((HM.box_at 0 rfl).sub 0 2 rfl)) ?_
  refine od rfl rfl rfl rfl (does_callk rfl callok30 rfl (slices_Contains_impl_Ref.calls (x0 := x1.fIns) (x1 := x0) (HM.rd hp1_0) h7651)) ?_
  rintro _ w7652 ⟨rfl, hn⟩
  replace HM : Mem w [] w7652 [box b7646 62 [.int .i64 x0.fTx, .int .i64 x0.fAt]] := HM.call hn
  refine ox rfl rfl rfl rfl (ex_assign rfl rfl) ?_
  refine ops_nil (at_then ?_)
  refine run_ret ?_
  replace HM := (HM.front 0 rfl rfl).drop
  have hR := Option.some.inj H
  subst hR
  exact at_ret1 rfl rfl ⟨_, rfl, rfl, HM⟩

def slices_IndexFunc_impl_Ref.l0 (x0 : List Ref) (x1_0 : Tx) : Nat → Int → Option (Int ⊕ Unit)
  | 0, _ => none
  | k + 1, a7698 => (bif (decide (a7698 < (x0.length : Int))) then (chk (idxOk a7698 x0.length) ((impl_clash_1.f k (gt x0 a7698) x1_0).bind fun t7710 => (bif t7710 then some (.inl a7698) else slices_IndexFunc_impl_Ref.l0 x0 x1_0 k (wrap64 (a7698 + 1))))) else some (.inr ()))
theorem slices_IndexFunc_impl_Ref.l0_z (x0 : List Ref) (x1_0 : Tx) (a7698 : Int) : slices_IndexFunc_impl_Ref.l0 x0 x1_0 0 a7698 = none := rfl
theorem slices_IndexFunc_impl_Ref.l0_s (x0 : List Ref) (x1_0 : Tx) (k : Nat) (a7698 : Int) : slices_IndexFunc_impl_Ref.l0 x0 x1_0 (k + 1) a7698 = (bif (decide (a7698 < (x0.length : Int))) then (chk (idxOk a7698 x0.length) ((impl_clash_1.f k (gt x0 a7698) x1_0).bind fun t7710 => (bif t7710 then some (.inl a7698) else slices_IndexFunc_impl_Ref.l0 x0 x1_0 k (wrap64 (a7698 + 1))))) else some (.inr ())) := rfl
def slices_IndexFunc_impl_Ref.f (k : Nat) (x0 : List Ref) (x1_0 : Tx) : Option Int := ((slices_IndexFunc_impl_Ref.l0 x0 x1_0 k 0).bind fun o7690 => thn o7690 (fun r => some r) (fun _ => some (-1)))
theorem slices_IndexFunc_impl_Ref.calls {k : Nat} {x0 : List Ref} {x1_0 : Tx} {p0 : Value} {b1_0 f1_0 : Nat} {p1_0_0 : Value} {p1_0_1 : Value} {w : World} (hp0 : RdS kRef w p0 x0) (hc1_0 : CellsAt w b1_0 f1_0 [.int .i64 x1_0.fKind, .int .i64 x1_0.fMember, p1_0_0, p1_0_1]) (hp1_0_0 : RdS kRef w p1_0_0 x1_0.fIns) (hp1_0_1 : RdS kOut w p1_0_1 x1_0.fOuts) {r : Int} (H : slices_IndexFunc_impl_Ref.f k x0 x1_0 = some r) :
    Calls Tryz.prog 80 ([p0, .func (.func 65) #[] #[(.pointer (some ⟨b1_0, f1_0, none⟩))]] : List Value).toArray w (fun e w_ => ∃ v, e = .returned v ∧ v = (.int .i64 r) ∧ Mem w [] w_ []) := by
  have HM := Mem.start w
  refine calls_run (N := 19) Tryz.func80 rfl rfl rfl rfl ?_
  unfold slices_IndexFunc_impl_Ref.f at H
  refine run_seq ?_
  refine run_region rfl ?_
  refine ox rfl rfl rfl rfl (ex_assign rfl rfl) ?_
  refine ops_nil (at_then ?_)
  obtain ⟨o7690, ho7691, H⟩ := bind_some H
  refine run_mid (fun ρ_ w_ => Sum.inr () = o7690 ∧ ρ_ = [] ∧ Mem w [] w_ []) ?_ ?_
  · skip
    refine run_seq ?_
    refine run_region rfl ?_
    refine ox rfl rfl rfl rfl (ex_move rfl rfl) ?_
    refine ox rfl rfl rfl rfl (ex_len (d := kRef) (xs := x0) rfl rfl Tryz.underlying25 hp0) ?_
    refine ox rfl rfl rfl rfl (ex_move rfl rfl) ?_
    refine ops_nil (at_then ?_)
    refine run_block ?_
    refine run_loop (fun k_ ρ_ w_ => ∃ a7698 : Int, slices_IndexFunc_impl_Ref.l0 x0 x1_0 k_ a7698 = some o7690 ∧ ρ_ = [(0, p0), (1, .func (.func 65) #[] #[(.pointer (some ⟨b1_0, f1_0, none⟩))]), (7, .int .i64 (x0.length : Int)), (8, .int .i64 a7698)] ∧ Mem w [] w_ []) k (ρ1 := [(0, p0), (1, .func (.func 65) #[] #[(.pointer (some ⟨b1_0, f1_0, none⟩))]), (7, .int .i64 (x0.length : Int)), (8, .int .i64 0)]) ⟨_, ho7691, rfl, HM⟩ (Sub.cons rfl (Sub.cons rfl (Sub.cons rfl (Sub.cons rfl Sub.nil)))) ?_
    clear HM ho7691
    rintro k7705 _ w7706 ⟨a7698, ho7691, rfl, HM⟩
    obtain _ | k7705 := k7705
    · exact nomatch ((slices_IndexFunc_impl_Ref.l0_z x0 x1_0 a7698).symm.trans ho7691)
    replace ho7691 := (slices_IndexFunc_impl_Ref.l0_s x0 x1_0 k7705 a7698).symm.trans ho7691
    refine run_seq ?_
    refine run_region rfl ?_
    refine ox rfl rfl rfl rfl (ex_lss rfl rfl rfl) ?_
    refine ops_nil (at_then (run_seq ?_))
    refine run_cond (b := (decide (a7698 < (x0.length : Int)))) rfl (fun hb7707 => ?_) (fun hb7707 => ?_)
    · replace ho7691 := cond_t hb7707 ho7691
      refine run_skip ?_
      refine at_then ?_
      refine run_seq ?_
      refine run_block ?_
      refine run_seq ?_
      refine run_region rfl ?_
      refine ox rfl rfl rfl rfl (ex_move rfl rfl) ?_
      refine ox rfl rfl rfl rfl (ex_assign rfl rfl) ?_
      refine ops_nil (at_then (run_seq ?_))
      obtain ⟨e7708, ho7691⟩ := chk_some ho7691
      obtain ⟨t7710, h7711, ho7691⟩ := bind_some ho7691
      refine run_region rfl ?_
      refine ox rfl rfl rfl rfl (ex_move rfl rfl) ?_
      refine ox rfl rfl rfl rfl (ex_move rfl rfl) ?_
      refine ox rfl rfl rfl rfl (ex_move rfl rfl) ?_
      have hc7709 : CellsAt _ (sb p0) (so p0 + (a7698).toNat * 2) [(.int .i64 ((gt x0 a7698).fTx)), (.int .i64 ((gt x0 a7698).fAt))] := rd_plain hp0 e7708
      refine ox rfl rfl rfl rfl (ex_indexAddr (d := kRef) rfl rfl rfl Tryz.underlying25 tsz62 hp0 (idx_lo e7708) (idx_hi e7708)) ?_
      refine ox rfl rfl rfl rfl (ex_loadN (cs := [(.int .i64 ((gt x0 a7698).fTx)), (.int .i64 ((gt x0 a7698).fAt))]) rfl rfl Tryz.underlying62 rfl tsz62 rfl ((HM.at_ hc7709).sub 0 2 rfl)) ?_
      refine od rfl rfl rfl rfl (does_callvk rfl callok65 rfl rfl rfl (impl_clash_1.calls (x0 := (gt x0 a7698)) (x1 := x1_0) (HM.at_ hc1_0) (HM.rd hp1_0_0) (HM.rd hp1_0_1) h7711)) ?_
      rintro _ w7712 ⟨rfl, hn⟩
      replace HM : Mem w [] w7712 [] := HM.call hn
      refine ops_nil (at_then ?_)
      refine run_cond (b := t7710) rfl (fun hb7713 => ?_) (fun hb7713 => ?_)
      · replace ho7691 := cond_t hb7713 ho7691
        refine run_seq ?_
        refine run_region rfl ?_
        refine ox rfl rfl rfl rfl (ex_move rfl rfl) ?_
        refine ox rfl rfl rfl rfl (ex_assign rfl rfl) ?_
        refine ops_nil (at_then ?_)
        refine run_ret ?_
        refine at_block_ret ?_
        refine at_then_ret ?_
        refine at_then_ret ?_
        refine at_block_ret ?_
        refine at_then_ret ?_
        have hR := Option.some.inj ho7691
        subst hR
        have hT := thn_inl H
        have hR := Option.some.inj hT
        subst hR
        exact at_ret1 rfl rfl ⟨_, rfl, rfl, HM⟩
      · replace ho7691 := cond_f hb7713 ho7691
        refine run_skip ?_
        refine at_block ?_
        refine at_then ?_
        refine run_region rfl ?_
        refine ox rfl rfl rfl rfl (ex_add rfl rfl rfl) ?_
        refine ox rfl rfl rfl rfl (ex_move rfl rfl) ?_
        refine ops_nil ?_
        exact at_again k7705 (ρ1 := [(0, p0), (1, .func (.func 65) #[] #[(.pointer (some ⟨b1_0, f1_0, none⟩))]), (7, .int .i64 (x0.length : Int)), (8, .int .i64 (wrap64 (a7698 + 1)))]) (Nat.lt_succ_self _) ⟨_, ho7691, rfl, HM⟩ (Sub.cons rfl (Sub.cons rfl (Sub.cons rfl (Sub.cons rfl Sub.nil))))
    · replace ho7691 := cond_f hb7707 ho7691
      refine run_exit ?_
      refine at_then_exit ?_
      refine at_then_exit ?_
      refine at_block_exit ?_
      exact at_mid (ρ' := []) ⟨(Option.some.inj ho7691), rfl, HM⟩ Sub.nil
  · rintro _ w7714 ⟨rfl, rfl, HM⟩
    replace H := (thn_inr H)
    refine run_seq ?_
    refine run_region rfl ?_
    refine ox rfl rfl rfl rfl (ex_assign rfl rfl) ?_
    refine ops_nil (at_then ?_)
    refine run_ret ?_
    have hR := Option.some.inj H
    subst hR
    exact at_ret1 rfl rfl ⟨_, rfl, rfl, HM⟩

def slices_ContainsFunc_impl_Ref.f (k : Nat) (x0 : List Ref) (x1_0 : Tx) : Option Bool := ((slices_IndexFunc_impl_Ref.f k x0 x1_0).bind fun t7717 => some (decide (0 ≤ t7717)))
theorem slices_ContainsFunc_impl_Ref.calls {k : Nat} {x0 : List Ref} {x1_0 : Tx} {p0 : Value} {b1_0 f1_0 : Nat} {p1_0_0 : Value} {p1_0_1 : Value} {w : World} (hp0 : RdS kRef w p0 x0) (hc1_0 : CellsAt w b1_0 f1_0 [.int .i64 x1_0.fKind, .int .i64 x1_0.fMember, p1_0_0, p1_0_1]) (hp1_0_0 : RdS kRef w p1_0_0 x1_0.fIns) (hp1_0_1 : RdS kOut w p1_0_1 x1_0.fOuts) {r : Bool} (H : slices_ContainsFunc_impl_Ref.f k x0 x1_0 = some r) :
    Calls Tryz.prog 64 ([p0, .func (.func 65) #[] #[(.pointer (some ⟨b1_0, f1_0, none⟩))]] : List Value).toArray w (fun e w_ => ∃ v, e = .returned v ∧ v = (.bool r) ∧ Mem w [] w_ []) := by
  have HM := Mem.start w
  refine calls_run (N := 9) Tryz.func64 rfl rfl rfl rfl ?_
  unfold slices_ContainsFunc_impl_Ref.f at H
  refine run_seq ?_
  refine run_region rfl ?_
  refine ox rfl rfl rfl rfl (ex_assign rfl rfl) ?_
  refine ops_nil (at_then (run_seq ?_))
  obtain ⟨t7717, h7718, H⟩ := bind_some H
  refine run_region rfl ?_
  refine ox rfl rfl rfl rfl (ex_move rfl rfl) ?_
  refine ox rfl rfl rfl rfl (ex_move rfl rfl) ?_
  refine od rfl rfl rfl rfl (does_callk rfl callok80 rfl (slices_IndexFunc_impl_Ref.calls (x0 := x0) (x1_0 := x1_0) (HM.rd hp0) (HM.at_ hc1_0) (HM.rd hp1_0_0) (HM.rd hp1_0_1) h7718)) ?_
  rintro _ w7719 ⟨rfl, hn⟩
  replace HM : Mem w [] w7719 [] := HM.call hn
  refine ox rfl rfl rfl rfl (ex_geq rfl rfl rfl) ?_
  refine ox rfl rfl rfl rfl (ex_assign rfl rfl) ?_
  refine ops_nil (at_then ?_)
  refine run_ret ?_
  have hR := Option.some.inj H
  subst hR
  exact at_ret1 rfl rfl ⟨_, rfl, rfl, HM⟩

def impl_clash.f (k : Nat) (x0 : Tx) (x1 : Tx) : Option Bool := ((slices_ContainsFunc_impl_Ref.f k x0.fIns x1).bind fun t7730 => some t7730)
theorem impl_clash.calls {k : Nat} {x0 : Tx} {x1 : Tx} {p0_0 : Value} {p0_1 : Value} {p1_0 : Value} {p1_1 : Value} {w : World} (hp0_0 : RdS kRef w p0_0 x0.fIns) (hp0_1 : RdS kOut w p0_1 x0.fOuts) (hp1_0 : RdS kRef w p1_0 x1.fIns) (hp1_1 : RdS kOut w p1_1 x1.fOuts) {r : Bool} (H : impl_clash.f k x0 x1 = some r) :
    Calls Tryz.prog 36 ([.agg #[(.int .i64 x0.fKind), (.int .i64 x0.fMember), p0_0, p0_1], .agg #[(.int .i64 x1.fKind), (.int .i64 x1.fMember), p1_0, p1_1]] : List Value).toArray w (fun e w_ => ∃ v, e = .returned v ∧ v = (.bool r) ∧ Mem w [] w_ []) := by
  have HM := Mem.start w
  refine calls_run (N := 9) Tryz.func36 rfl rfl rfl rfl ?_
  unfold impl_clash.f at H
  refine run_seq ?_
  refine run_region rfl ?_
  refine od rfl rfl rfl rfl (does_box (cs := [.int .i64 x0.fKind, .int .i64 x0.fMember, p0_0, p0_1]) rfl rfl rfl HM) ?_
  rintro _ w7728 ⟨b7722, rfl, HM⟩
  refine od rfl rfl rfl rfl (does_box (cs := [.int .i64 x1.fKind, .int .i64 x1.fMember, p1_0, p1_1]) rfl rfl rfl HM) ?_
  rintro _ w7729 ⟨b7725, rfl, HM⟩
  refine ox rfl rfl rfl rfl (ex_assign rfl rfl) ?_
  refine ops_nil (at_then (run_seq ?_))
  obtain ⟨t7730, h7731, H⟩ := bind_some H
  refine run_region rfl ?_
  refine ox rfl rfl rfl rfl (ex_fieldAddr (off' := 2) rfl rfl Tryz.underlying28 rfl tsz25 rfl) ?_
  refine ox rfl rfl rfl rfl (ex_load1 rfl rfl Tryz.underlying25 rfl ((HM.box_at 1 rfl) 2 _ rfl)) ?_
  refine ox rfl rfl rfl rfl (ex_func rfl rfl) ?_
  refine od rfl rfl rfl rfl (does_callk rfl callok64 rfl (slices_ContainsFunc_impl_Ref.calls (x0 := x0.fIns) (x1_0 := x1) (HM.rd hp0_0) (HM.box_at 0 rfl) (HM.rd hp1_0) (HM.rd hp1_1) h7731)) ?_
  rintro _ w7732 ⟨rfl, hn⟩
  replace HM : Mem w [] w7732 [box b7725 28 [.int .i64 x1.fKind, .int .i64 x1.fMember, p1_0, p1_1], box b7722 28 [.int .i64 x0.fKind, .int .i64 x0.fMember, p0_0, p0_1]] := HM.call hn
  refine ox rfl rfl rfl rfl (ex_assign rfl rfl) ?_
  refine ops_nil (at_then ?_)
  refine run_ret ?_
  replace HM := (HM.front 0 rfl rfl).drop
  replace HM := (HM.front 0 rfl rfl).drop
  have hR := Option.some.inj H
  subst hR
  exact at_ret1 rfl rfl ⟨_, rfl, rfl, HM⟩

def impl_ClashTx.f (k : Nat) (x0 : Tx) (x1 : Tx) : Option Bool := ((impl_TxFault.f k x0).bind fun t7743 => ((bif (t7743 == 0) then impl_TxFault.f k x1 else some default).bind fun t7745 => ((bif ((t7743 == 0) && (t7745 == 0)) then impl_clash.f k x0 x1 else some default).bind fun t7747 => some (((t7743 == 0) && (t7745 == 0)) && t7747))))
theorem impl_ClashTx.calls {k : Nat} {x0 : Tx} {x1 : Tx} {p0_0 : Value} {p0_1 : Value} {p1_0 : Value} {p1_1 : Value} {w : World} (hp0_0 : RdS kRef w p0_0 x0.fIns) (hp0_1 : RdS kOut w p0_1 x0.fOuts) (hp1_0 : RdS kRef w p1_0 x1.fIns) (hp1_1 : RdS kOut w p1_1 x1.fOuts) {r : Bool} (H : impl_ClashTx.f k x0 x1 = some r) :
    Calls Tryz.prog 15 ([.agg #[(.int .i64 x0.fKind), (.int .i64 x0.fMember), p0_0, p0_1], .agg #[(.int .i64 x1.fKind), (.int .i64 x1.fMember), p1_0, p1_1]] : List Value).toArray w (fun e w_ => ∃ v, e = .returned v ∧ v = (.bool r) ∧ Mem w [] w_ []) := by
  have HM := Mem.start w
  refine calls_run (N := 18) Tryz.func15 rfl rfl rfl rfl ?_
  unfold impl_ClashTx.f at H
  refine run_seq ?_
  refine run_region rfl ?_
  refine od rfl rfl rfl rfl (does_box (cs := [.int .i64 x0.fKind, .int .i64 x0.fMember, p0_0, p0_1]) rfl rfl rfl HM) ?_
  rintro _ w7741 ⟨b7735, rfl, HM⟩
  refine od rfl rfl rfl rfl (does_box (cs := [.int .i64 x1.fKind, .int .i64 x1.fMember, p1_0, p1_1]) rfl rfl rfl HM) ?_
  rintro _ w7742 ⟨b7738, rfl, HM⟩
  refine ox rfl rfl rfl rfl (ex_assign rfl rfl) ?_
  refine ops_nil (at_then (run_seq ?_))
  obtain ⟨t7743, h7744, H⟩ := bind_some H
  obtain ⟨t7745, h7746, H⟩ := bind_some H
  obtain ⟨t7747, h7748, H⟩ := bind_some H
  refine run_meet (fun ρ_ w_ => ρ_ = [(4, .bool (((t7743 == 0) && (t7745 == 0)) && t7747))] ∧ Mem w [] w_ []) ?_ ?_
  · skip
    refine run_region rfl ?_
    refine ox rfl rfl rfl rfl (ex_loadN (cs := [(.int .i64 x0.fKind), (.int .i64 x0.fMember), p0_0, p0_1]) rfl rfl Tryz.underlying28 rfl tsz28 rfl ((HM.box_at 1 rfl).sub 0 4 rfl)) ?_
    refine od rfl rfl rfl rfl (does_callk rfl callok11 rfl (impl_TxFault.calls (x0 := x0) (HM.rd hp0_0) (HM.rd hp0_1) h7744)) ?_
    rintro _ w7749 ⟨rfl, hn⟩
    replace HM : Mem w [] w7749 [box b7738 28 [.int .i64 x1.fKind, .int .i64 x1.fMember, p1_0, p1_1], box b7735 28 [.int .i64 x0.fKind, .int .i64 x0.fMember, p0_0, p0_1]] := HM.call hn
    refine ox rfl rfl rfl rfl (ex_eql rfl rfl rfl) ?_
    refine ox rfl rfl rfl rfl (ex_move rfl rfl) ?_
    refine bool_cases (t7743 == 0) (fun hg7750 => ?_) (fun hg7750 => ?_)
    · skip
      refine ops_ex rfl (guard_on rfl rfl rfl hg7750) rfl rfl (ex_loadN (cs := [(.int .i64 x1.fKind), (.int .i64 x1.fMember), p1_0, p1_1]) rfl rfl Tryz.underlying28 rfl tsz28 rfl ((HM.box_at 0 rfl).sub 0 4 rfl)) ?_
      refine ops_does rfl (guard_on rfl rfl rfl hg7750) rfl rfl (does_callk rfl callok11 rfl (impl_TxFault.calls (x0 := x1) (HM.rd hp1_0) (HM.rd hp1_1) (cond_t hg7750 h7746))) ?_
      rintro _ w7751 ⟨rfl, hn⟩
      replace HM : Mem w [] w7751 [box b7738 28 [.int .i64 x1.fKind, .int .i64 x1.fMember, p1_0, p1_1], box b7735 28 [.int .i64 x0.fKind, .int .i64 x0.fMember, p0_0, p0_1]] := HM.call hn
      refine ops_ex rfl (guard_on rfl rfl rfl hg7750) rfl rfl (ex_eql rfl rfl rfl) ?_
      refine ops_ex (v := .bool ((t7743 == 0) && (t7745 == 0))) rfl (guard_none rfl) rfl rfl (ex_pand_t rfl rfl hg7750 rfl) ?_
      refine ox rfl rfl rfl rfl (ex_move rfl rfl) ?_
      refine bool_cases ((t7743 == 0) && (t7745 == 0)) (fun hg7752 => ?_) (fun hg7752 => ?_)
      · skip
        refine ops_ex rfl (guard_on rfl rfl rfl hg7752) rfl rfl (ex_loadN (cs := [(.int .i64 x0.fKind), (.int .i64 x0.fMember), p0_0, p0_1]) rfl rfl Tryz.underlying28 rfl tsz28 rfl ((HM.box_at 1 rfl).sub 0 4 rfl)) ?_
        refine ops_ex rfl (guard_on rfl rfl rfl hg7752) rfl rfl (ex_loadN (cs := [(.int .i64 x1.fKind), (.int .i64 x1.fMember), p1_0, p1_1]) rfl rfl Tryz.underlying28 rfl tsz28 rfl ((HM.box_at 0 rfl).sub 0 4 rfl)) ?_
        refine ops_does rfl (guard_on rfl rfl rfl hg7752) rfl rfl (does_callk rfl callok36 rfl (impl_clash.calls (x0 := x0) (x1 := x1) (HM.rd hp0_0) (HM.rd hp0_1) (HM.rd hp1_0) (HM.rd hp1_1) (cond_t hg7752 h7748))) ?_
        rintro _ w7753 ⟨rfl, hn⟩
        replace HM : Mem w [] w7753 [box b7738 28 [.int .i64 x1.fKind, .int .i64 x1.fMember, p1_0, p1_1], box b7735 28 [.int .i64 x0.fKind, .int .i64 x0.fMember, p0_0, p0_1]] := HM.call hn
        refine ops_ex (v := .bool (((t7743 == 0) && (t7745 == 0)) && t7747)) rfl (guard_none rfl) rfl rfl (ex_pand_t rfl rfl hg7752 rfl) ?_
        refine ox rfl rfl rfl rfl (ex_assign rfl rfl) ?_
        refine ops_nil ?_
        replace HM := (HM.front 0 rfl rfl).drop
        replace HM := (HM.front 0 rfl rfl).drop
        exact at_meet [(4, .bool (((t7743 == 0) && (t7745 == 0)) && t7747))] ⟨rfl, HM⟩ (Sub.cons rfl Sub.nil)
      · skip
        refine ops_off rfl (guard_off rfl rfl rfl hg7752) rfl rfl ?_
        refine ops_off rfl (guard_off rfl rfl rfl hg7752) rfl rfl ?_
        refine ops_off rfl (guard_off rfl rfl rfl hg7752) rfl rfl ?_
        have hg7754 : (((t7743 == 0) && (t7745 == 0)) && t7747) = false := by simp only [hg7752, Bool.and_true, Bool.true_and, Bool.and_false, Bool.false_and, Bool.or_true, Bool.true_or, Bool.or_false, Bool.false_or, Bool.not_true, Bool.not_false, Bool.not_not]
        refine ops_ex (v := .bool (((t7743 == 0) && (t7745 == 0)) && t7747)) rfl (guard_none rfl) rfl rfl (ex_pand_f rfl rfl hg7752) ?_
        refine ox rfl rfl rfl rfl (ex_assign rfl rfl) ?_
        refine ops_nil ?_
        replace HM := (HM.front 0 rfl rfl).drop
        replace HM := (HM.front 0 rfl rfl).drop
        exact at_meet [(4, .bool (((t7743 == 0) && (t7745 == 0)) && t7747))] ⟨rfl, HM⟩ (Sub.cons rfl Sub.nil)
    · skip
      refine ops_off rfl (guard_off rfl rfl rfl hg7750) rfl rfl ?_
      refine ops_off rfl (guard_off rfl rfl rfl hg7750) rfl rfl ?_
      refine ops_off rfl (guard_off rfl rfl rfl hg7750) rfl rfl ?_
      have hg7755 : ((t7743 == 0) && (t7745 == 0)) = false := by simp only [hg7750, Bool.and_true, Bool.true_and, Bool.and_false, Bool.false_and, Bool.or_true, Bool.true_or, Bool.or_false, Bool.false_or, Bool.not_true, Bool.not_false, Bool.not_not]
      refine ops_ex (v := .bool ((t7743 == 0) && (t7745 == 0))) rfl (guard_none rfl) rfl rfl (ex_pand_f rfl rfl hg7750) ?_
      refine ox rfl rfl rfl rfl (ex_move rfl rfl) ?_
      refine ops_off rfl (guard_off rfl rfl rfl hg7755) rfl rfl ?_
      refine ops_off rfl (guard_off rfl rfl rfl hg7755) rfl rfl ?_
      refine ops_off rfl (guard_off rfl rfl rfl hg7755) rfl rfl ?_
      have hg7756 : (((t7743 == 0) && (t7745 == 0)) && t7747) = false := by simp only [hg7755, Bool.and_true, Bool.true_and, Bool.and_false, Bool.false_and, Bool.or_true, Bool.true_or, Bool.or_false, Bool.false_or, Bool.not_true, Bool.not_false, Bool.not_not]
      refine ops_ex (v := .bool (((t7743 == 0) && (t7745 == 0)) && t7747)) rfl (guard_none rfl) rfl rfl (ex_pand_f rfl rfl hg7755) ?_
      refine ox rfl rfl rfl rfl (ex_assign rfl rfl) ?_
      refine ops_nil ?_
      replace HM := (HM.front 0 rfl rfl).drop
      replace HM := (HM.front 0 rfl rfl).drop
      exact at_meet [(4, .bool (((t7743 == 0) && (t7745 == 0)) && t7747))] ⟨rfl, HM⟩ (Sub.cons rfl Sub.nil)
  · rintro _ w7757 ⟨rfl, HM⟩
    refine at_then ?_
    refine run_ret ?_
    have hR := Option.some.inj H
    subst hR
    exact at_ret1 rfl rfl ⟨_, rfl, rfl, HM⟩

def laws_FnTexts.l0 (t7825 : Tx) : Nat → Int → Int → Option Int
  | 0, _, _ => none
  | k + 1, a7886, a7887 => (bif (decide (a7887 < (t7825.fOuts.length : Int))) then (chk (idxOk a7887 t7825.fOuts.length) (laws_FnTexts.l0 t7825 k (wrap64 (a7886 + ((gt t7825.fOuts a7887).fValue))) (wrap64 (a7887 + 1)))) else some a7886)
theorem laws_FnTexts.l0_z (t7825 : Tx) (a7886 : Int) (a7887 : Int) : laws_FnTexts.l0 t7825 0 a7886 a7887 = none := rfl
theorem laws_FnTexts.l0_s (t7825 : Tx) (k : Nat) (a7886 : Int) (a7887 : Int) : laws_FnTexts.l0 t7825 (k + 1) a7886 a7887 = (bif (decide (a7887 < (t7825.fOuts.length : Int))) then (chk (idxOk a7887 t7825.fOuts.length) (laws_FnTexts.l0 t7825 k (wrap64 (a7886 + ((gt t7825.fOuts a7887).fValue))) (wrap64 (a7887 + 1)))) else some a7886) := rfl
def laws_FnTexts.f (k : Nat) (x0 : List Int) : Option Bool := ((laws_lwBig.f k x0).bind fun t7765 => (bif t7765 then some true else ((spec_DrawParseTx.f k x0).bind fun t7769 => ((impl_ParseTx.f k t7769).bind fun t7772 => ((bif (t7772.fCode == 0) then impl_TxText.f k t7772.fTx else some default).bind fun t7793 => ((bif ((!((t7772.fCode == 0) && (!sEq t7793.fText t7769))) && (t7772.fCode != 0)) then spec_ParseTx.f k t7769 else some default).bind fun t7795 => (bif ((((t7772.fCode == 0) && (!sEq t7793.fText t7769)) || ((t7772.fCode != 0) && (t7795.fCode != t7772.fCode))) || ((t7772.fCode == 0) && ((t7772.fTx.fIns.length : Int) == 0))) then some false else ((spec_DrawTxText.f k x0).bind fun t7825 => ((impl_TxText.f k t7825).bind fun t7837 => (bif (t7837.fCode != 0) then ((spec_TxText.f k t7825).bind fun t7853 => ((bif (t7853.fCode == t7837.fCode) then impl_TxFault.f k t7825 else some default).bind fun t7855 => ((bif (t7853.fCode == t7837.fCode) then spec_TxFault.f k t7825 else some default).bind fun t7857 => some ((t7853.fCode == t7837.fCode) && (t7855 == t7857))))) else ((impl_OutSum.f k t7825).bind fun t7865 => ((laws_FnTexts.l0 t7825 k 0 0).bind (fun a7881 => ((impl_ParseTx.f k t7837.fText).bind fun t7895 => ((impl_SameTxs.f k t7895.fTx t7825).bind fun t7901 => ((bif ((t7901 && (t7865.fCode == 0)) && (t7865.fValue == a7881)) then impl_ClashTx.f k t7825 t7825 else some default).bind fun t7903 => ((bif (((t7901 && (t7865.fCode == 0)) && (t7865.fValue == a7881)) && t7903) then impl_TxFault.f k t7825 else some default).bind fun t7905 => some ((((t7901 && (t7865.fCode == 0)) && (t7865.fValue == a7881)) && t7903) && (t7905 == 0)))))))))))))))))))
theorem laws_FnTexts.calls {k : Nat} {x0 : List Int} {p0 : Value} {w : World} (htab : TabP w) (hp0 : RdS kU8 w p0 x0) {r : Bool} (H : laws_FnTexts.f k x0 = some r) :
    Calls Tryz.prog 3 ([p0] : List Value).toArray w (fun e w_ => ∃ v, e = .returned v ∧ v = (.bool r) ∧ Mem w [] w_ []) := by
  have HM := Mem.start w
  refine calls_run (N := 116) Tryz.func3 rfl rfl rfl rfl ?_
  unfold laws_FnTexts.f at H
  refine run_seq ?_
  refine run_region rfl ?_
  refine ox rfl rfl rfl rfl (ex_assign rfl rfl) ?_
  refine ops_nil (at_then (run_seq ?_))
  refine run_seq ?_
  obtain ⟨t7765, h7766, H⟩ := bind_some H
  refine run_region rfl ?_
  refine ox rfl rfl rfl rfl (ex_move rfl rfl) ?_
  refine od rfl rfl rfl rfl (does_callk rfl callok4 rfl (laws_lwBig.calls (x0 := x0) (HM.rd hp0) h7766)) ?_
  rintro _ w7767 ⟨rfl, hn⟩
  replace HM : Mem w [] w7767 [] := HM.call hn
  refine ops_nil (at_then ?_)
  refine run_cond (b := t7765) rfl (fun hb7768 => ?_) (fun hb7768 => ?_)
  · replace H := cond_t hb7768 H
    refine run_seq ?_
    refine run_region rfl ?_
    refine ox rfl rfl rfl rfl (ex_assign rfl rfl) ?_
    refine ops_nil (at_then ?_)
    refine run_ret ?_
    refine at_then_ret ?_
    have hR := Option.some.inj H
    subst hR
    exact at_ret1 rfl rfl ⟨_, rfl, rfl, HM⟩
  · replace H := cond_f hb7768 H
    refine run_skip ?_
    refine at_then ?_
    refine run_seq ?_
    obtain ⟨t7769, h7770, H⟩ := bind_some H
    refine run_region rfl ?_
    refine ox rfl rfl rfl rfl (ex_move rfl rfl) ?_
    refine od rfl rfl rfl rfl (does_callk rfl callok5 rfl (spec_DrawParseTx.calls (x0 := x0) (HM.rd hp0) h7770)) ?_
    rintro _ w7771 ⟨rfl, hn⟩
    replace HM : Mem w [] w7771 [] := HM.call hn
    refine ox rfl rfl rfl rfl (ex_assign rfl rfl) ?_
    refine ops_nil (at_then (run_seq ?_))
    obtain ⟨t7772, h7773, H⟩ := bind_some H
    refine run_region rfl ?_
    refine ox rfl rfl rfl rfl (ex_move rfl rfl) ?_
    refine od rfl rfl rfl rfl (does_callk rfl callok6 rfl (impl_ParseTx.calls (x0 := t7769) (HM.tabP htab) h7773)) ?_
    rintro _ w7781 ⟨u7774, u7776, rfl, hn⟩
    replace HM : Mem w [] w7781 [own kRef 62 u7774 t7772.fTx.fIns, own kOut 44 u7776 t7772.fTx.fOuts] := HM.call hn
    refine od rfl rfl rfl rfl (does_alloc (cs := [.int .i64 0, .int .i64 0, .int .i64 0, .slice none 0 0, .slice none 0 0]) rfl tz30 rfl HM) ?_
    rintro _ w7782 ⟨b7778, rfl, HM⟩
    refine odS rfl rfl rfl (does_store (vs := [.int .i64 t7772.fCode, .int .i64 t7772.fTx.fKind, .int .i64 t7772.fTx.fMember, u7774, u7776]) (cs' := [.int .i64 t7772.fCode, .int .i64 t7772.fTx.fKind, .int .i64 t7772.fTx.fMember, u7774, u7776]) rfl rfl rfl rfl tsz30 (Ones.int (Ones.int (Ones.int (Ones.rd (HM.own_rd 1 rfl) (Ones.rd (HM.own_rd 2 rfl) Ones.nil))))) rfl rfl HM) ?_
    rintro w7783 HM
    refine ops_nil (at_then (run_seq ?_))
    refine run_seq ?_
    obtain ⟨t7793, h7794, H⟩ := bind_some H
    obtain ⟨t7795, h7796, H⟩ := bind_some H
    refine run_meet (fun ρ_ w_ => ρ_ = [(0, p0), (51, .bool ((((t7772.fCode == 0) && (!sEq t7793.fText t7769)) || ((t7772.fCode != 0) && (t7795.fCode != t7772.fCode))) || ((t7772.fCode == 0) && ((t7772.fTx.fIns.length : Int) == 0))))] ∧ Mem w [] w_ []) ?_ ?_
    · skip
      refine run_drawf (fun w_ => Mem w [] w_ [box b7778 30 [.int .i64 t7772.fCode, .int .i64 t7772.fTx.fKind, .int .i64 t7772.fTx.fMember, u7774, u7776], own kRef 62 u7774 t7772.fTx.fIns, own kOut 44 u7776 t7772.fTx.fOuts]) [(0, true), (1, true), (2, true), (3, true), (4, true), (5, true), (8, true), (6, false), (7, true), (9, true), (10, true), (11, true), (12, true), (13, true), (14, true), (15, true), (16, true), (19, true), (20, true), (17, false), (18, true), (21, true), (22, true), (23, true), (24, true), (25, true), (26, true), (27, true), (28, true), (29, true), (30, true), (31, true), (32, true), (33, true), (34, true), (35, true)] mixed rfl rfl (by kernel_rfl) ?_
      replace HM := HM.grow (fr_drew _)
      have hS := Mem.suf (M := []) HM
      refine dp rfl rfl rfl rfl (ex_fieldAddr (off' := 0) rfl rfl Tryz.underlying30 rfl tsz2 rfl) hS ?_
      refine drwp_take rfl (guard_none rfl) rfl rfl (fun w_ hS_ => (ex_load1 rfl rfl Tryz.underlying2 rfl ((hS_.box_at 0 rfl) 0 _ rfl))) hS ?_
      refine dp rfl rfl rfl rfl (ex_eql rfl rfl rfl) hS ?_
      refine dp rfl rfl rfl rfl (ex_move rfl rfl) hS ?_
      refine bool_cases (t7772.fCode == 0) (fun hg7801 => ?_) (fun hg7801 => ?_)
      · skip
        refine drwp_take rfl (guard_on rfl rfl rfl hg7801) rfl rfl (fun w_ hS_ => (ex_fieldAddr (off' := 1) rfl rfl Tryz.underlying30 rfl tsz28 rfl)) hS ?_
        refine drwp_take rfl (guard_on rfl rfl rfl hg7801) rfl rfl (fun w_ hS_ => (ex_loadN (cs := [(.int .i64 t7772.fTx.fKind), (.int .i64 t7772.fTx.fMember), u7774, u7776]) rfl rfl Tryz.underlying28 rfl tsz28 rfl ((hS_.box_at 0 rfl).sub 1 4 rfl))) hS ?_
        refine drwp_take rfl (guard_on rfl rfl rfl hg7801) rfl rfl (fun w_ hS_ => (ex_move rfl rfl)) hS ?_
        refine drwp_one rfl (guard_on rfl rfl rfl hg7801) rfl rfl (does_callk rfl callok7 rfl (impl_TxText.calls (x0 := t7772.fTx) (HM.tabP htab) (HM.own_rd 1 rfl) (HM.own_rd 2 rfl) (cond_t hg7801 h7794))) ?_
        rintro _ w7802 ⟨rfl, hn⟩
        replace HM : Mem w [] w7802 [box b7778 30 [.int .i64 t7772.fCode, .int .i64 t7772.fTx.fKind, .int .i64 t7772.fTx.fMember, u7774, u7776], own kRef 62 u7774 t7772.fTx.fIns, own kOut 44 u7776 t7772.fTx.fOuts] := HM.call hn
        have hS := Mem.suf (M := []) HM
        refine ⟨hS, ?_⟩
        refine drwp_take rfl (guard_on rfl rfl rfl hg7801) rfl rfl (fun w_ hS_ => (ex_field1 rfl rfl Tryz.underlying33 rfl Tryz.underlying9 rfl rfl)) hS ?_
        refine drwp_take rfl (guard_on rfl rfl rfl hg7801) rfl rfl (fun w_ hS_ => (ex_sneq rfl rfl rfl)) hS ?_
        refine drwp_take (v := .bool ((t7772.fCode == 0) && (!sEq t7793.fText t7769))) rfl (guard_none rfl) rfl rfl (fun w_ hS_ => (ex_pand_t rfl rfl hg7801 rfl)) hS ?_
        refine dp rfl rfl rfl rfl (ex_move rfl rfl) hS ?_
        refine bool_cases ((t7772.fCode == 0) && (!sEq t7793.fText t7769)) (fun hg7803 => ?_) (fun hg7803 => ?_)
        · skip
          refine drwp_off rfl (guard_off rfl rfl rfl hg7803) rfl rfl hS ?_
          refine drwp_off rfl (guard_off rfl rfl rfl hg7803) rfl rfl hS ?_
          refine drwp_off rfl (guard_off rfl rfl rfl hg7803) rfl rfl hS ?_
          refine drwp_off rfl (guard_off rfl rfl rfl hg7803) rfl rfl hS ?_
          refine drwp_off rfl (guard_undef rfl rfl rfl) rfl rfl hS ?_
          refine drwp_off rfl (guard_undef rfl rfl rfl) rfl rfl hS ?_
          refine drwp_off rfl (guard_undef rfl rfl rfl) rfl rfl hS ?_
          refine drwp_off1 rfl (guard_undef rfl rfl rfl) rfl rfl ⟨hS, ?_⟩
          refine drwp_off rfl (guard_undef rfl rfl rfl) rfl rfl hS ?_
          refine drwp_off rfl (guard_undef rfl rfl rfl) rfl rfl hS ?_
          refine drwp_off rfl (guard_off rfl rfl rfl hg7803) rfl rfl hS ?_
          have hg7804 : (((t7772.fCode == 0) && (!sEq t7793.fText t7769)) || ((t7772.fCode != 0) && (t7795.fCode != t7772.fCode))) = true := by simp only [hg7803, Bool.and_true, Bool.true_and, Bool.and_false, Bool.false_and, Bool.or_true, Bool.true_or, Bool.or_false, Bool.false_or, Bool.not_true, Bool.not_false, Bool.not_not]
          refine drwp_take (v := .bool (((t7772.fCode == 0) && (!sEq t7793.fText t7769)) || ((t7772.fCode != 0) && (t7795.fCode != t7772.fCode)))) rfl (guard_none rfl) rfl rfl (fun w_ hS_ => (ex_por_t rfl rfl hg7803)) hS ?_
          refine dp rfl rfl rfl rfl (ex_move rfl rfl) hS ?_
          refine drwp_off rfl (guard_off rfl rfl rfl hg7804) rfl rfl hS ?_
          refine drwp_off rfl (guard_off rfl rfl rfl hg7804) rfl rfl hS ?_
          refine drwp_off rfl (guard_off rfl rfl rfl hg7804) rfl rfl hS ?_
          refine drwp_off rfl (guard_off rfl rfl rfl hg7804) rfl rfl hS ?_
          refine drwp_off rfl (guard_undef rfl rfl rfl) rfl rfl hS ?_
          refine drwp_off rfl (guard_undef rfl rfl rfl) rfl rfl hS ?_
          refine drwp_off rfl (guard_undef rfl rfl rfl) rfl rfl hS ?_
          refine drwp_off rfl (guard_undef rfl rfl rfl) rfl rfl hS ?_
          refine drwp_off rfl (guard_undef rfl rfl rfl) rfl rfl hS ?_
          refine drwp_off rfl (guard_off rfl rfl rfl hg7804) rfl rfl hS ?_
          have hg7805 : ((((t7772.fCode == 0) && (!sEq t7793.fText t7769)) || ((t7772.fCode != 0) && (t7795.fCode != t7772.fCode))) || ((t7772.fCode == 0) && ((t7772.fTx.fIns.length : Int) == 0))) = true := by simp only [hg7804, Bool.and_true, Bool.true_and, Bool.and_false, Bool.false_and, Bool.or_true, Bool.true_or, Bool.or_false, Bool.false_or, Bool.not_true, Bool.not_false, Bool.not_not]
          refine drwp_take (v := .bool ((((t7772.fCode == 0) && (!sEq t7793.fText t7769)) || ((t7772.fCode != 0) && (t7795.fCode != t7772.fCode))) || ((t7772.fCode == 0) && ((t7772.fTx.fIns.length : Int) == 0)))) rfl (guard_none rfl) rfl rfl (fun w_ hS_ => (ex_por_t rfl rfl hg7804)) hS ?_
          refine drwp_done ?_
          replace HM := (HM.front 0 rfl rfl).drop
          replace HM := (HM.front 0 rfl rfl).drop
          replace HM := (HM.front 0 rfl rfl).drop
          exact at_meet [(0, p0), (51, .bool ((((t7772.fCode == 0) && (!sEq t7793.fText t7769)) || ((t7772.fCode != 0) && (t7795.fCode != t7772.fCode))) || ((t7772.fCode == 0) && ((t7772.fTx.fIns.length : Int) == 0))))] ⟨rfl, HM⟩ (Sub.cons rfl (Sub.cons rfl Sub.nil))
        · skip
          refine drwp_take rfl (guard_on rfl rfl rfl hg7803) rfl rfl (fun w_ hS_ => (ex_fieldAddr (off' := 0) rfl rfl Tryz.underlying30 rfl tsz2 rfl)) hS ?_
          refine drwp_take rfl (guard_on rfl rfl rfl hg7803) rfl rfl (fun w_ hS_ => (ex_load1 rfl rfl Tryz.underlying2 rfl ((hS_.box_at 0 rfl) 0 _ rfl))) hS ?_
          refine drwp_take rfl (guard_on rfl rfl rfl hg7803) rfl rfl (fun w_ hS_ => (ex_neq rfl rfl rfl)) hS ?_
          refine drwp_take rfl (guard_on rfl rfl rfl hg7803) rfl rfl (fun w_ hS_ => (ex_move rfl rfl)) hS ?_
          refine bool_cases (t7772.fCode != 0) (fun hg7806 => ?_) (fun hg7806 => ?_)
          · skip
            refine drwp_take rfl (guard_on rfl rfl rfl hg7806) rfl rfl (fun w_ hS_ => (ex_move rfl rfl)) hS ?_
            refine drwp_take rfl (guard_on rfl rfl rfl hg7806) rfl rfl (fun w_ hS_ => (ex_fieldAddr (off' := 0) rfl rfl Tryz.underlying30 rfl tsz2 rfl)) hS ?_
            refine drwp_take rfl (guard_on rfl rfl rfl hg7806) rfl rfl (fun w_ hS_ => (ex_load1 rfl rfl Tryz.underlying2 rfl ((hS_.box_at 0 rfl) 0 _ rfl))) hS ?_
            refine drwp_one rfl (guard_on rfl rfl rfl hg7806) rfl rfl (does_callk rfl callok8 rfl (spec_ParseTx.calls (x0 := t7769) (cond_t (and_mk (not_mk hg7803) hg7806) h7796))) ?_
            rintro _ w7807 ⟨u7797, u7799, rfl, hn⟩
            replace HM : Mem w [] w7807 [own kRef 62 u7797 t7795.fTx.fIns, own kOut 44 u7799 t7795.fTx.fOuts, box b7778 30 [.int .i64 t7772.fCode, .int .i64 t7772.fTx.fKind, .int .i64 t7772.fTx.fMember, u7774, u7776], own kRef 62 u7774 t7772.fTx.fIns, own kOut 44 u7776 t7772.fTx.fOuts] := HM.call hn
            have hS := Mem.suf (M := [own kRef 62 u7797 t7795.fTx.fIns, own kOut 44 u7799 t7795.fTx.fOuts]) HM
            refine ⟨hS, ?_⟩
            refine drwp_take rfl (guard_on rfl rfl rfl hg7806) rfl rfl (fun w_ hS_ => (ex_field1 rfl rfl Tryz.underlying30 rfl Tryz.underlying2 rfl rfl)) hS ?_
            refine drwp_take rfl (guard_on rfl rfl rfl hg7806) rfl rfl (fun w_ hS_ => (ex_neq rfl rfl rfl)) hS ?_
            refine drwp_take (v := .bool ((t7772.fCode != 0) && (t7795.fCode != t7772.fCode))) rfl (guard_on rfl rfl rfl hg7803) rfl rfl (fun w_ hS_ => (ex_pand_t rfl rfl hg7806 rfl)) hS ?_
            refine drwp_take (v := .bool (((t7772.fCode == 0) && (!sEq t7793.fText t7769)) || ((t7772.fCode != 0) && (t7795.fCode != t7772.fCode)))) rfl (guard_none rfl) rfl rfl (fun w_ hS_ => (ex_por_f rfl rfl hg7803 rfl)) hS ?_
            refine dp rfl rfl rfl rfl (ex_move rfl rfl) hS ?_
            refine bool_cases (((t7772.fCode == 0) && (!sEq t7793.fText t7769)) || ((t7772.fCode != 0) && (t7795.fCode != t7772.fCode))) (fun hg7808 => ?_) (fun hg7808 => ?_)
            · skip
              refine drwp_off rfl (guard_off rfl rfl rfl hg7808) rfl rfl hS ?_
              refine drwp_off rfl (guard_off rfl rfl rfl hg7808) rfl rfl hS ?_
              refine drwp_off rfl (guard_off rfl rfl rfl hg7808) rfl rfl hS ?_
              refine drwp_off rfl (guard_off rfl rfl rfl hg7808) rfl rfl hS ?_
              refine drwp_off rfl (guard_undef rfl rfl rfl) rfl rfl hS ?_
              refine drwp_off rfl (guard_undef rfl rfl rfl) rfl rfl hS ?_
              refine drwp_off rfl (guard_undef rfl rfl rfl) rfl rfl hS ?_
              refine drwp_off rfl (guard_undef rfl rfl rfl) rfl rfl hS ?_
              refine drwp_off rfl (guard_undef rfl rfl rfl) rfl rfl hS ?_
              refine drwp_off rfl (guard_off rfl rfl rfl hg7808) rfl rfl hS ?_
              have hg7809 : ((((t7772.fCode == 0) && (!sEq t7793.fText t7769)) || ((t7772.fCode != 0) && (t7795.fCode != t7772.fCode))) || ((t7772.fCode == 0) && ((t7772.fTx.fIns.length : Int) == 0))) = true := by simp only [hg7808, Bool.and_true, Bool.true_and, Bool.and_false, Bool.false_and, Bool.or_true, Bool.true_or, Bool.or_false, Bool.false_or, Bool.not_true, Bool.not_false, Bool.not_not]
              refine drwp_take (v := .bool ((((t7772.fCode == 0) && (!sEq t7793.fText t7769)) || ((t7772.fCode != 0) && (t7795.fCode != t7772.fCode))) || ((t7772.fCode == 0) && ((t7772.fTx.fIns.length : Int) == 0)))) rfl (guard_none rfl) rfl rfl (fun w_ hS_ => (ex_por_t rfl rfl hg7808)) hS ?_
              refine drwp_done ?_
              replace HM := (HM.front 0 rfl rfl).drop
              replace HM := (HM.front 0 rfl rfl).drop
              replace HM := (HM.front 0 rfl rfl).drop
              replace HM := (HM.front 0 rfl rfl).drop
              replace HM := (HM.front 0 rfl rfl).drop
              exact at_meet [(0, p0), (51, .bool ((((t7772.fCode == 0) && (!sEq t7793.fText t7769)) || ((t7772.fCode != 0) && (t7795.fCode != t7772.fCode))) || ((t7772.fCode == 0) && ((t7772.fTx.fIns.length : Int) == 0))))] ⟨rfl, HM⟩ (Sub.cons rfl (Sub.cons rfl Sub.nil))
            · skip
              refine drwp_take rfl (guard_on rfl rfl rfl hg7808) rfl rfl (fun w_ hS_ => (ex_fieldAddr (off' := 0) rfl rfl Tryz.underlying30 rfl tsz2 rfl)) hS ?_
              refine drwp_take rfl (guard_on rfl rfl rfl hg7808) rfl rfl (fun w_ hS_ => (ex_load1 rfl rfl Tryz.underlying2 rfl ((hS_.box_at 0 rfl) 0 _ rfl))) hS ?_
              refine drwp_take rfl (guard_on rfl rfl rfl hg7808) rfl rfl (fun w_ hS_ => (ex_eql rfl rfl rfl)) hS ?_
              refine drwp_take rfl (guard_on rfl rfl rfl hg7808) rfl rfl (fun w_ hS_ => (ex_move rfl rfl)) hS ?_
              refine drwp_take rfl (guard_on rfl rfl rfl hg7801) rfl rfl (fun w_ hS_ => (ex_fieldAddr (off' := 1) rfl rfl Tryz.underlying30 rfl tsz28 rfl)) hS ?_
              refine drwp_take rfl (guard_on rfl rfl rfl hg7801) rfl rfl (fun w_ hS_ => (ex_fieldAddr (off' := 3) rfl rfl Tryz.underlying28 rfl tsz25 rfl)) hS ?_
              refine drwp_take rfl (guard_on rfl rfl rfl hg7801) rfl rfl (fun w_ hS_ => (ex_load1 rfl rfl Tryz.underlying25 rfl ((hS_.box_at 0 rfl) 3 _ rfl))) hS ?_
              refine drwp_take rfl (guard_on rfl rfl rfl hg7801) rfl rfl (fun w_ hS_ => (ex_len (d := kRef) (xs := t7772.fTx.fIns) rfl rfl Tryz.underlying25 (hS_.own_rd 1 rfl))) hS ?_
              refine drwp_take rfl (guard_on rfl rfl rfl hg7801) rfl rfl (fun w_ hS_ => (ex_eql rfl rfl rfl)) hS ?_
              refine drwp_take (v := .bool ((t7772.fCode == 0) && ((t7772.fTx.fIns.length : Int) == 0))) rfl (guard_on rfl rfl rfl hg7808) rfl rfl (fun w_ hS_ => (ex_pand_t rfl rfl hg7801 rfl)) hS ?_
              refine drwp_take (v := .bool ((((t7772.fCode == 0) && (!sEq t7793.fText t7769)) || ((t7772.fCode != 0) && (t7795.fCode != t7772.fCode))) || ((t7772.fCode == 0) && ((t7772.fTx.fIns.length : Int) == 0)))) rfl (guard_none rfl) rfl rfl (fun w_ hS_ => (ex_por_f rfl rfl hg7808 rfl)) hS ?_
              refine drwp_done ?_
              replace HM := (HM.front 0 rfl rfl).drop
              replace HM := (HM.front 0 rfl rfl).drop
              replace HM := (HM.front 0 rfl rfl).drop
              replace HM := (HM.front 0 rfl rfl).drop
              replace HM := (HM.front 0 rfl rfl).drop
              exact at_meet [(0, p0), (51, .bool ((((t7772.fCode == 0) && (!sEq t7793.fText t7769)) || ((t7772.fCode != 0) && (t7795.fCode != t7772.fCode))) || ((t7772.fCode == 0) && ((t7772.fTx.fIns.length : Int) == 0))))] ⟨rfl, HM⟩ (Sub.cons rfl (Sub.cons rfl Sub.nil))
          · skip
            refine drwp_off rfl (guard_off rfl rfl rfl hg7806) rfl rfl hS ?_
            refine drwp_off rfl (guard_off rfl rfl rfl hg7806) rfl rfl hS ?_
            refine drwp_off rfl (guard_off rfl rfl rfl hg7806) rfl rfl hS ?_
            refine drwp_off1 rfl (guard_off rfl rfl rfl hg7806) rfl rfl ⟨hS, ?_⟩
            refine drwp_off rfl (guard_off rfl rfl rfl hg7806) rfl rfl hS ?_
            refine drwp_off rfl (guard_off rfl rfl rfl hg7806) rfl rfl hS ?_
            have hg7810 : ((t7772.fCode != 0) && (t7795.fCode != t7772.fCode)) = false := by simp only [hg7806, Bool.and_true, Bool.true_and, Bool.and_false, Bool.false_and, Bool.or_true, Bool.true_or, Bool.or_false, Bool.false_or, Bool.not_true, Bool.not_false, Bool.not_not]
            refine drwp_take (v := .bool ((t7772.fCode != 0) && (t7795.fCode != t7772.fCode))) rfl (guard_on rfl rfl rfl hg7803) rfl rfl (fun w_ hS_ => (ex_pand_f rfl rfl hg7806)) hS ?_
            refine drwp_take (v := .bool (((t7772.fCode == 0) && (!sEq t7793.fText t7769)) || ((t7772.fCode != 0) && (t7795.fCode != t7772.fCode)))) rfl (guard_none rfl) rfl rfl (fun w_ hS_ => (ex_por_f rfl rfl hg7803 rfl)) hS ?_
            refine dp rfl rfl rfl rfl (ex_move rfl rfl) hS ?_
            refine bool_cases (((t7772.fCode == 0) && (!sEq t7793.fText t7769)) || ((t7772.fCode != 0) && (t7795.fCode != t7772.fCode))) (fun hg7811 => ?_) (fun hg7811 => ?_)
            · skip
              refine drwp_off rfl (guard_off rfl rfl rfl hg7811) rfl rfl hS ?_
              refine drwp_off rfl (guard_off rfl rfl rfl hg7811) rfl rfl hS ?_
              refine drwp_off rfl (guard_off rfl rfl rfl hg7811) rfl rfl hS ?_
              refine drwp_off rfl (guard_off rfl rfl rfl hg7811) rfl rfl hS ?_
              refine drwp_off rfl (guard_undef rfl rfl rfl) rfl rfl hS ?_
              refine drwp_off rfl (guard_undef rfl rfl rfl) rfl rfl hS ?_
              refine drwp_off rfl (guard_undef rfl rfl rfl) rfl rfl hS ?_
              refine drwp_off rfl (guard_undef rfl rfl rfl) rfl rfl hS ?_
              refine drwp_off rfl (guard_undef rfl rfl rfl) rfl rfl hS ?_
              refine drwp_off rfl (guard_off rfl rfl rfl hg7811) rfl rfl hS ?_
              have hg7812 : ((((t7772.fCode == 0) && (!sEq t7793.fText t7769)) || ((t7772.fCode != 0) && (t7795.fCode != t7772.fCode))) || ((t7772.fCode == 0) && ((t7772.fTx.fIns.length : Int) == 0))) = true := by simp only [hg7811, Bool.and_true, Bool.true_and, Bool.and_false, Bool.false_and, Bool.or_true, Bool.true_or, Bool.or_false, Bool.false_or, Bool.not_true, Bool.not_false, Bool.not_not]
              refine drwp_take (v := .bool ((((t7772.fCode == 0) && (!sEq t7793.fText t7769)) || ((t7772.fCode != 0) && (t7795.fCode != t7772.fCode))) || ((t7772.fCode == 0) && ((t7772.fTx.fIns.length : Int) == 0)))) rfl (guard_none rfl) rfl rfl (fun w_ hS_ => (ex_por_t rfl rfl hg7811)) hS ?_
              refine drwp_done ?_
              replace HM := (HM.front 0 rfl rfl).drop
              replace HM := (HM.front 0 rfl rfl).drop
              replace HM := (HM.front 0 rfl rfl).drop
              exact at_meet [(0, p0), (51, .bool ((((t7772.fCode == 0) && (!sEq t7793.fText t7769)) || ((t7772.fCode != 0) && (t7795.fCode != t7772.fCode))) || ((t7772.fCode == 0) && ((t7772.fTx.fIns.length : Int) == 0))))] ⟨rfl, HM⟩ (Sub.cons rfl (Sub.cons rfl Sub.nil))
            · skip
              refine drwp_take rfl (guard_on rfl rfl rfl hg7811) rfl rfl (fun w_ hS_ => (ex_fieldAddr (off' := 0) rfl rfl Tryz.underlying30 rfl tsz2 rfl)) hS ?_
              refine drwp_take rfl (guard_on rfl rfl rfl hg7811) rfl rfl (fun w_ hS_ => (ex_load1 rfl rfl Tryz.underlying2 rfl ((hS_.box_at 0 rfl) 0 _ rfl))) hS ?_
              refine drwp_take rfl (guard_on rfl rfl rfl hg7811) rfl rfl (fun w_ hS_ => (ex_eql rfl rfl rfl)) hS ?_
              refine drwp_take rfl (guard_on rfl rfl rfl hg7811) rfl rfl (fun w_ hS_ => (ex_move rfl rfl)) hS ?_
              refine drwp_take rfl (guard_on rfl rfl rfl hg7801) rfl rfl (fun w_ hS_ => (ex_fieldAddr (off' := 1) rfl rfl Tryz.underlying30 rfl tsz28 rfl)) hS ?_
              refine drwp_take rfl (guard_on rfl rfl rfl hg7801) rfl rfl (fun w_ hS_ => (ex_fieldAddr (off' := 3) rfl rfl Tryz.underlying28 rfl tsz25 rfl)) hS ?_
              refine drwp_take rfl (guard_on rfl rfl rfl hg7801) rfl rfl (fun w_ hS_ => (ex_load1 rfl rfl Tryz.underlying25 rfl ((hS_.box_at 0 rfl) 3 _ rfl))) hS ?_
              refine drwp_take rfl (guard_on rfl rfl rfl hg7801) rfl rfl (fun w_ hS_ => (ex_len (d := kRef) (xs := t7772.fTx.fIns) rfl rfl Tryz.underlying25 (hS_.own_rd 1 rfl))) hS ?_
              refine drwp_take rfl (guard_on rfl rfl rfl hg7801) rfl rfl (fun w_ hS_ => (ex_eql rfl rfl rfl)) hS ?_
              refine drwp_take (v := .bool ((t7772.fCode == 0) && ((t7772.fTx.fIns.length : Int) == 0))) rfl (guard_on rfl rfl rfl hg7811) rfl rfl (fun w_ hS_ => (ex_pand_t rfl rfl hg7801 rfl)) hS ?_
              refine drwp_take (v := .bool ((((t7772.fCode == 0) && (!sEq t7793.fText t7769)) || ((t7772.fCode != 0) && (t7795.fCode != t7772.fCode))) || ((t7772.fCode == 0) && ((t7772.fTx.fIns.length : Int) == 0)))) rfl (guard_none rfl) rfl rfl (fun w_ hS_ => (ex_por_f rfl rfl hg7811 rfl)) hS ?_
              refine drwp_done ?_
              replace HM := (HM.front 0 rfl rfl).drop
              replace HM := (HM.front 0 rfl rfl).drop
              replace HM := (HM.front 0 rfl rfl).drop
              exact at_meet [(0, p0), (51, .bool ((((t7772.fCode == 0) && (!sEq t7793.fText t7769)) || ((t7772.fCode != 0) && (t7795.fCode != t7772.fCode))) || ((t7772.fCode == 0) && ((t7772.fTx.fIns.length : Int) == 0))))] ⟨rfl, HM⟩ (Sub.cons rfl (Sub.cons rfl Sub.nil))
      · skip
        refine drwp_off rfl (guard_off rfl rfl rfl hg7801) rfl rfl hS ?_
        refine drwp_off rfl (guard_off rfl rfl rfl hg7801) rfl rfl hS ?_
        refine drwp_off rfl (guard_off rfl rfl rfl hg7801) rfl rfl hS ?_
        refine drwp_off1 rfl (guard_off rfl rfl rfl hg7801) rfl rfl ⟨hS, ?_⟩
        refine drwp_off rfl (guard_off rfl rfl rfl hg7801) rfl rfl hS ?_
        refine drwp_off rfl (guard_off rfl rfl rfl hg7801) rfl rfl hS ?_
        have hg7813 : ((t7772.fCode == 0) && (!sEq t7793.fText t7769)) = false := by simp only [hg7801, Bool.and_true, Bool.true_and, Bool.and_false, Bool.false_and, Bool.or_true, Bool.true_or, Bool.or_false, Bool.false_or, Bool.not_true, Bool.not_false, Bool.not_not]
        refine drwp_take (v := .bool ((t7772.fCode == 0) && (!sEq t7793.fText t7769))) rfl (guard_none rfl) rfl rfl (fun w_ hS_ => (ex_pand_f rfl rfl hg7801)) hS ?_
        refine dp rfl rfl rfl rfl (ex_move rfl rfl) hS ?_
        refine drwp_take rfl (guard_on rfl rfl rfl hg7813) rfl rfl (fun w_ hS_ => (ex_fieldAddr (off' := 0) rfl rfl Tryz.underlying30 rfl tsz2 rfl)) hS ?_
        refine drwp_take rfl (guard_on rfl rfl rfl hg7813) rfl rfl (fun w_ hS_ => (ex_load1 rfl rfl Tryz.underlying2 rfl ((hS_.box_at 0 rfl) 0 _ rfl))) hS ?_
        refine drwp_take rfl (guard_on rfl rfl rfl hg7813) rfl rfl (fun w_ hS_ => (ex_neq rfl rfl rfl)) hS ?_
        refine drwp_take rfl (guard_on rfl rfl rfl hg7813) rfl rfl (fun w_ hS_ => (ex_move rfl rfl)) hS ?_
        refine bool_cases (t7772.fCode != 0) (fun hg7814 => ?_) (fun hg7814 => ?_)
        · skip
          refine drwp_take rfl (guard_on rfl rfl rfl hg7814) rfl rfl (fun w_ hS_ => (ex_move rfl rfl)) hS ?_
          refine drwp_take rfl (guard_on rfl rfl rfl hg7814) rfl rfl (fun w_ hS_ => (ex_fieldAddr (off' := 0) rfl rfl Tryz.underlying30 rfl tsz2 rfl)) hS ?_
          refine drwp_take rfl (guard_on rfl rfl rfl hg7814) rfl rfl (fun w_ hS_ => (ex_load1 rfl rfl Tryz.underlying2 rfl ((hS_.box_at 0 rfl) 0 _ rfl))) hS ?_
          refine drwp_one rfl (guard_on rfl rfl rfl hg7814) rfl rfl (does_callk rfl callok8 rfl (spec_ParseTx.calls (x0 := t7769) (cond_t (and_mk (not_mk hg7813) hg7814) h7796))) ?_
          rintro _ w7815 ⟨u7797, u7799, rfl, hn⟩
          replace HM : Mem w [] w7815 [own kRef 62 u7797 t7795.fTx.fIns, own kOut 44 u7799 t7795.fTx.fOuts, box b7778 30 [.int .i64 t7772.fCode, .int .i64 t7772.fTx.fKind, .int .i64 t7772.fTx.fMember, u7774, u7776], own kRef 62 u7774 t7772.fTx.fIns, own kOut 44 u7776 t7772.fTx.fOuts] := HM.call hn
          have hS := Mem.suf (M := [own kRef 62 u7797 t7795.fTx.fIns, own kOut 44 u7799 t7795.fTx.fOuts]) HM
          refine ⟨hS, ?_⟩
          refine drwp_take rfl (guard_on rfl rfl rfl hg7814) rfl rfl (fun w_ hS_ => (ex_field1 rfl rfl Tryz.underlying30 rfl Tryz.underlying2 rfl rfl)) hS ?_
          refine drwp_take rfl (guard_on rfl rfl rfl hg7814) rfl rfl (fun w_ hS_ => (ex_neq rfl rfl rfl)) hS ?_
          refine drwp_take (v := .bool ((t7772.fCode != 0) && (t7795.fCode != t7772.fCode))) rfl (guard_on rfl rfl rfl hg7813) rfl rfl (fun w_ hS_ => (ex_pand_t rfl rfl hg7814 rfl)) hS ?_
          refine drwp_take (v := .bool (((t7772.fCode == 0) && (!sEq t7793.fText t7769)) || ((t7772.fCode != 0) && (t7795.fCode != t7772.fCode)))) rfl (guard_none rfl) rfl rfl (fun w_ hS_ => (ex_por_f rfl rfl hg7813 rfl)) hS ?_
          refine dp rfl rfl rfl rfl (ex_move rfl rfl) hS ?_
          refine bool_cases (((t7772.fCode == 0) && (!sEq t7793.fText t7769)) || ((t7772.fCode != 0) && (t7795.fCode != t7772.fCode))) (fun hg7816 => ?_) (fun hg7816 => ?_)
          · skip
            refine drwp_off rfl (guard_off rfl rfl rfl hg7816) rfl rfl hS ?_
            refine drwp_off rfl (guard_off rfl rfl rfl hg7816) rfl rfl hS ?_
            refine drwp_off rfl (guard_off rfl rfl rfl hg7816) rfl rfl hS ?_
            refine drwp_off rfl (guard_off rfl rfl rfl hg7816) rfl rfl hS ?_
            refine drwp_off rfl (guard_undef rfl rfl rfl) rfl rfl hS ?_
            refine drwp_off rfl (guard_undef rfl rfl rfl) rfl rfl hS ?_
            refine drwp_off rfl (guard_undef rfl rfl rfl) rfl rfl hS ?_
            refine drwp_off rfl (guard_undef rfl rfl rfl) rfl rfl hS ?_
            refine drwp_off rfl (guard_undef rfl rfl rfl) rfl rfl hS ?_
            refine drwp_off rfl (guard_off rfl rfl rfl hg7816) rfl rfl hS ?_
            have hg7817 : ((((t7772.fCode == 0) && (!sEq t7793.fText t7769)) || ((t7772.fCode != 0) && (t7795.fCode != t7772.fCode))) || ((t7772.fCode == 0) && ((t7772.fTx.fIns.length : Int) == 0))) = true := by simp only [hg7816, Bool.and_true, Bool.true_and, Bool.and_false, Bool.false_and, Bool.or_true, Bool.true_or, Bool.or_false, Bool.false_or, Bool.not_true, Bool.not_false, Bool.not_not]
            refine drwp_take (v := .bool ((((t7772.fCode == 0) && (!sEq t7793.fText t7769)) || ((t7772.fCode != 0) && (t7795.fCode != t7772.fCode))) || ((t7772.fCode == 0) && ((t7772.fTx.fIns.length : Int) == 0)))) rfl (guard_none rfl) rfl rfl (fun w_ hS_ => (ex_por_t rfl rfl hg7816)) hS ?_
            refine drwp_done ?_
            replace HM := (HM.front 0 rfl rfl).drop
            replace HM := (HM.front 0 rfl rfl).drop
            replace HM := (HM.front 0 rfl rfl).drop
            replace HM := (HM.front 0 rfl rfl).drop
            replace HM := (HM.front 0 rfl rfl).drop
            exact at_meet [(0, p0), (51, .bool ((((t7772.fCode == 0) && (!sEq t7793.fText t7769)) || ((t7772.fCode != 0) && (t7795.fCode != t7772.fCode))) || ((t7772.fCode == 0) && ((t7772.fTx.fIns.length : Int) == 0))))] ⟨rfl, HM⟩ (Sub.cons rfl (Sub.cons rfl Sub.nil))
          · skip
            refine drwp_take rfl (guard_on rfl rfl rfl hg7816) rfl rfl (fun w_ hS_ => (ex_fieldAddr (off' := 0) rfl rfl Tryz.underlying30 rfl tsz2 rfl)) hS ?_
            refine drwp_take rfl (guard_on rfl rfl rfl hg7816) rfl rfl (fun w_ hS_ => (ex_load1 rfl rfl Tryz.underlying2 rfl ((hS_.box_at 0 rfl) 0 _ rfl))) hS ?_
            refine drwp_take rfl (guard_on rfl rfl rfl hg7816) rfl rfl (fun w_ hS_ => (ex_eql rfl rfl rfl)) hS ?_
            refine drwp_take rfl (guard_on rfl rfl rfl hg7816) rfl rfl (fun w_ hS_ => (ex_move rfl rfl)) hS ?_
            refine drwp_off rfl (guard_off rfl rfl rfl hg7801) rfl rfl hS ?_
            refine drwp_off rfl (guard_off rfl rfl rfl hg7801) rfl rfl hS ?_
            refine drwp_off rfl (guard_off rfl rfl rfl hg7801) rfl rfl hS ?_
            refine drwp_off rfl (guard_off rfl rfl rfl hg7801) rfl rfl hS ?_
            refine drwp_off rfl (guard_off rfl rfl rfl hg7801) rfl rfl hS ?_
            have hg7818 : ((t7772.fCode == 0) && ((t7772.fTx.fIns.length : Int) == 0)) = false := by simp only [hg7801, Bool.and_true, Bool.true_and, Bool.and_false, Bool.false_and, Bool.or_true, Bool.true_or, Bool.or_false, Bool.false_or, Bool.not_true, Bool.not_false, Bool.not_not]
            refine drwp_take (v := .bool ((t7772.fCode == 0) && ((t7772.fTx.fIns.length : Int) == 0))) rfl (guard_on rfl rfl rfl hg7816) rfl rfl (fun w_ hS_ => (ex_pand_f rfl rfl hg7801)) hS ?_
            refine drwp_take (v := .bool ((((t7772.fCode == 0) && (!sEq t7793.fText t7769)) || ((t7772.fCode != 0) && (t7795.fCode != t7772.fCode))) || ((t7772.fCode == 0) && ((t7772.fTx.fIns.length : Int) == 0)))) rfl (guard_none rfl) rfl rfl (fun w_ hS_ => (ex_por_f rfl rfl hg7816 rfl)) hS ?_
            refine drwp_done ?_
            replace HM := (HM.front 0 rfl rfl).drop
            replace HM := (HM.front 0 rfl rfl).drop
            replace HM := (HM.front 0 rfl rfl).drop
            replace HM := (HM.front 0 rfl rfl).drop
            replace HM := (HM.front 0 rfl rfl).drop
            exact at_meet [(0, p0), (51, .bool ((((t7772.fCode == 0) && (!sEq t7793.fText t7769)) || ((t7772.fCode != 0) && (t7795.fCode != t7772.fCode))) || ((t7772.fCode == 0) && ((t7772.fTx.fIns.length : Int) == 0))))] ⟨rfl, HM⟩ (Sub.cons rfl (Sub.cons rfl Sub.nil))
        · skip
          refine drwp_off rfl (guard_off rfl rfl rfl hg7814) rfl rfl hS ?_
          refine drwp_off rfl (guard_off rfl rfl rfl hg7814) rfl rfl hS ?_
          refine drwp_off rfl (guard_off rfl rfl rfl hg7814) rfl rfl hS ?_
          refine drwp_off1 rfl (guard_off rfl rfl rfl hg7814) rfl rfl ⟨hS, ?_⟩
          refine drwp_off rfl (guard_off rfl rfl rfl hg7814) rfl rfl hS ?_
          refine drwp_off rfl (guard_off rfl rfl rfl hg7814) rfl rfl hS ?_
          have hg7819 : ((t7772.fCode != 0) && (t7795.fCode != t7772.fCode)) = false := by simp only [hg7814, Bool.and_true, Bool.true_and, Bool.and_false, Bool.false_and, Bool.or_true, Bool.true_or, Bool.or_false, Bool.false_or, Bool.not_true, Bool.not_false, Bool.not_not]
          refine drwp_take (v := .bool ((t7772.fCode != 0) && (t7795.fCode != t7772.fCode))) rfl (guard_on rfl rfl rfl hg7813) rfl rfl (fun w_ hS_ => (ex_pand_f rfl rfl hg7814)) hS ?_
          refine drwp_take (v := .bool (((t7772.fCode == 0) && (!sEq t7793.fText t7769)) || ((t7772.fCode != 0) && (t7795.fCode != t7772.fCode)))) rfl (guard_none rfl) rfl rfl (fun w_ hS_ => (ex_por_f rfl rfl hg7813 rfl)) hS ?_
          refine dp rfl rfl rfl rfl (ex_move rfl rfl) hS ?_
          refine bool_cases (((t7772.fCode == 0) && (!sEq t7793.fText t7769)) || ((t7772.fCode != 0) && (t7795.fCode != t7772.fCode))) (fun hg7820 => ?_) (fun hg7820 => ?_)
          · skip
            refine drwp_off rfl (guard_off rfl rfl rfl hg7820) rfl rfl hS ?_
            refine drwp_off rfl (guard_off rfl rfl rfl hg7820) rfl rfl hS ?_
            refine drwp_off rfl (guard_off rfl rfl rfl hg7820) rfl rfl hS ?_
            refine drwp_off rfl (guard_off rfl rfl rfl hg7820) rfl rfl hS ?_
            refine drwp_off rfl (guard_undef rfl rfl rfl) rfl rfl hS ?_
            refine drwp_off rfl (guard_undef rfl rfl rfl) rfl rfl hS ?_
            refine drwp_off rfl (guard_undef rfl rfl rfl) rfl rfl hS ?_
            refine drwp_off rfl (guard_undef rfl rfl rfl) rfl rfl hS ?_
            refine drwp_off rfl (guard_undef rfl rfl rfl) rfl rfl hS ?_
            refine drwp_off rfl (guard_off rfl rfl rfl hg7820) rfl rfl hS ?_
            have hg7821 : ((((t7772.fCode == 0) && (!sEq t7793.fText t7769)) || ((t7772.fCode != 0) && (t7795.fCode != t7772.fCode))) || ((t7772.fCode == 0) && ((t7772.fTx.fIns.length : Int) == 0))) = true := by simp only [hg7820, Bool.and_true, Bool.true_and, Bool.and_false, Bool.false_and, Bool.or_true, Bool.true_or, Bool.or_false, Bool.false_or, Bool.not_true, Bool.not_false, Bool.not_not]
            refine drwp_take (v := .bool ((((t7772.fCode == 0) && (!sEq t7793.fText t7769)) || ((t7772.fCode != 0) && (t7795.fCode != t7772.fCode))) || ((t7772.fCode == 0) && ((t7772.fTx.fIns.length : Int) == 0)))) rfl (guard_none rfl) rfl rfl (fun w_ hS_ => (ex_por_t rfl rfl hg7820)) hS ?_
            refine drwp_done ?_
            replace HM := (HM.front 0 rfl rfl).drop
            replace HM := (HM.front 0 rfl rfl).drop
            replace HM := (HM.front 0 rfl rfl).drop
            exact at_meet [(0, p0), (51, .bool ((((t7772.fCode == 0) && (!sEq t7793.fText t7769)) || ((t7772.fCode != 0) && (t7795.fCode != t7772.fCode))) || ((t7772.fCode == 0) && ((t7772.fTx.fIns.length : Int) == 0))))] ⟨rfl, HM⟩ (Sub.cons rfl (Sub.cons rfl Sub.nil))
          · skip
            refine drwp_take rfl (guard_on rfl rfl rfl hg7820) rfl rfl (fun w_ hS_ => (ex_fieldAddr (off' := 0) rfl rfl Tryz.underlying30 rfl tsz2 rfl)) hS ?_
            refine drwp_take rfl (guard_on rfl rfl rfl hg7820) rfl rfl (fun w_ hS_ => (ex_load1 rfl rfl Tryz.underlying2 rfl ((hS_.box_at 0 rfl) 0 _ rfl))) hS ?_
            refine drwp_take rfl (guard_on rfl rfl rfl hg7820) rfl rfl (fun w_ hS_ => (ex_eql rfl rfl rfl)) hS ?_
            refine drwp_take rfl (guard_on rfl rfl rfl hg7820) rfl rfl (fun w_ hS_ => (ex_move rfl rfl)) hS ?_
            refine drwp_off rfl (guard_off rfl rfl rfl hg7801) rfl rfl hS ?_
            refine drwp_off rfl (guard_off rfl rfl rfl hg7801) rfl rfl hS ?_
            refine drwp_off rfl (guard_off rfl rfl rfl hg7801) rfl rfl hS ?_
            refine drwp_off rfl (guard_off rfl rfl rfl hg7801) rfl rfl hS ?_
            refine drwp_off rfl (guard_off rfl rfl rfl hg7801) rfl rfl hS ?_
            have hg7822 : ((t7772.fCode == 0) && ((t7772.fTx.fIns.length : Int) == 0)) = false := by simp only [hg7801, Bool.and_true, Bool.true_and, Bool.and_false, Bool.false_and, Bool.or_true, Bool.true_or, Bool.or_false, Bool.false_or, Bool.not_true, Bool.not_false, Bool.not_not]
            refine drwp_take (v := .bool ((t7772.fCode == 0) && ((t7772.fTx.fIns.length : Int) == 0))) rfl (guard_on rfl rfl rfl hg7820) rfl rfl (fun w_ hS_ => (ex_pand_f rfl rfl hg7801)) hS ?_
            refine drwp_take (v := .bool ((((t7772.fCode == 0) && (!sEq t7793.fText t7769)) || ((t7772.fCode != 0) && (t7795.fCode != t7772.fCode))) || ((t7772.fCode == 0) && ((t7772.fTx.fIns.length : Int) == 0)))) rfl (guard_none rfl) rfl rfl (fun w_ hS_ => (ex_por_f rfl rfl hg7820 rfl)) hS ?_
            refine drwp_done ?_
            replace HM := (HM.front 0 rfl rfl).drop
            replace HM := (HM.front 0 rfl rfl).drop
            replace HM := (HM.front 0 rfl rfl).drop
            exact at_meet [(0, p0), (51, .bool ((((t7772.fCode == 0) && (!sEq t7793.fText t7769)) || ((t7772.fCode != 0) && (t7795.fCode != t7772.fCode))) || ((t7772.fCode == 0) && ((t7772.fTx.fIns.length : Int) == 0))))] ⟨rfl, HM⟩ (Sub.cons rfl (Sub.cons rfl Sub.nil))
    · rintro _ w7823 ⟨rfl, HM⟩
      refine at_then ?_
      refine run_cond (b := ((((t7772.fCode == 0) && (!sEq t7793.fText t7769)) || ((t7772.fCode != 0) && (t7795.fCode != t7772.fCode))) || ((t7772.fCode == 0) && ((t7772.fTx.fIns.length : Int) == 0)))) rfl (fun hb7824 => ?_) (fun hb7824 => ?_)
      · replace H := cond_t hb7824 H
        refine run_seq ?_
        refine run_region rfl ?_
        refine ox rfl rfl rfl rfl (ex_assign rfl rfl) ?_
        refine ops_nil (at_then ?_)
        refine run_ret ?_
        refine at_then_ret ?_
        have hR := Option.some.inj H
        subst hR
        exact at_ret1 rfl rfl ⟨_, rfl, rfl, HM⟩
      · replace H := cond_f hb7824 H
        refine run_skip ?_
        refine at_then ?_
        refine run_seq ?_
        obtain ⟨t7825, h7826, H⟩ := bind_some H
        refine run_region rfl ?_
        refine ox rfl rfl rfl rfl (ex_move rfl rfl) ?_
        refine od rfl rfl rfl rfl (does_callk rfl callok9 rfl (spec_DrawTxText.calls (x0 := x0) (HM.rd hp0) h7826)) ?_
        rintro _ w7834 ⟨u7827, u7829, rfl, hn⟩
        replace HM : Mem w [] w7834 [own kRef 62 u7827 t7825.fIns, own kOut 44 u7829 t7825.fOuts] := HM.call hn
        refine od rfl rfl rfl rfl (does_alloc (cs := [.int .i64 0, .int .i64 0, .slice none 0 0, .slice none 0 0]) rfl tz28 rfl HM) ?_
        rintro _ w7835 ⟨b7831, rfl, HM⟩
        refine odS rfl rfl rfl (does_store (vs := [.int .i64 t7825.fKind, .int .i64 t7825.fMember, u7827, u7829]) (cs' := [.int .i64 t7825.fKind, .int .i64 t7825.fMember, u7827, u7829]) rfl rfl rfl rfl tsz28 (Ones.int (Ones.int (Ones.rd (HM.own_rd 1 rfl) (Ones.rd (HM.own_rd 2 rfl) Ones.nil)))) rfl rfl HM) ?_
        rintro w7836 HM
        refine ops_nil (at_then (run_seq ?_))
        obtain ⟨t7837, h7838, H⟩ := bind_some H
        refine run_region rfl ?_
        refine ox rfl rfl rfl rfl (ex_loadN (cs := [(.int .i64 t7825.fKind), (.int .i64 t7825.fMember), u7827, u7829]) rfl rfl Tryz.underlying28 rfl tsz28 rfl ((HM.box_at 0 rfl).sub 0 4 rfl)) ?_
        refine od rfl rfl rfl rfl (does_callk rfl callok7 rfl (impl_TxText.calls (x0 := t7825) (HM.tabP htab) (HM.own_rd 1 rfl) (HM.own_rd 2 rfl) h7838)) ?_
        rintro _ w7842 ⟨rfl, hn⟩
        replace HM : Mem w [] w7842 [box b7831 28 [.int .i64 t7825.fKind, .int .i64 t7825.fMember, u7827, u7829], own kRef 62 u7827 t7825.fIns, own kOut 44 u7829 t7825.fOuts] := HM.call hn
        refine od rfl rfl rfl rfl (does_alloc (cs := [.int .i64 0, .string (⟨#[]⟩ : ByteArray)]) rfl tz33 rfl HM) ?_
        rintro _ w7843 ⟨b7839, rfl, HM⟩
        refine odS rfl rfl rfl (does_store (vs := [.int .i64 t7837.fCode, .string t7837.fText]) (cs' := [.int .i64 t7837.fCode, .string t7837.fText]) rfl rfl rfl rfl tsz33 (Ones.int (Ones.str Ones.nil)) rfl rfl HM) ?_
        rintro w7844 HM
        refine ops_nil (at_then (run_seq ?_))
        refine run_seq ?_
        refine run_region rfl ?_
        refine ox rfl rfl rfl rfl (ex_fieldAddr (off' := 0) rfl rfl Tryz.underlying33 rfl tsz2 rfl) ?_
        refine ox rfl rfl rfl rfl (ex_load1 rfl rfl Tryz.underlying2 rfl ((HM.box_at 0 rfl) 0 _ rfl)) ?_
        refine ox rfl rfl rfl rfl (ex_neq rfl rfl rfl) ?_
        refine ops_nil (at_then ?_)
        refine run_cond (b := (t7837.fCode != 0)) rfl (fun hb7852 => ?_) (fun hb7852 => ?_)
        · replace H := cond_t hb7852 H
          refine run_seq ?_
          obtain ⟨t7853, h7854, H⟩ := bind_some H
          obtain ⟨t7855, h7856, H⟩ := bind_some H
          obtain ⟨t7857, h7858, H⟩ := bind_some H
          refine run_meet (fun ρ_ w_ => ρ_ = [(2, .bool ((t7853.fCode == t7837.fCode) && (t7855 == t7857)))] ∧ Mem w [] w_ []) ?_ ?_
          · skip
            refine run_drawf (fun w_ => Mem w [] w_ [box b7839 33 [.int .i64 t7837.fCode, .string t7837.fText], box b7831 28 [.int .i64 t7825.fKind, .int .i64 t7825.fMember, u7827, u7829], own kRef 62 u7827 t7825.fIns, own kOut 44 u7829 t7825.fOuts]) [(0, true), (3, true), (4, true), (1, false), (2, true), (5, true), (6, true), (7, true), (9, true), (8, false), (10, false), (11, true), (12, true), (13, true)] mixed rfl rfl (by kernel_rfl) ?_
            replace HM := HM.grow (fr_drew _)
            have hS := Mem.suf (M := []) HM
            refine drwp_take rfl (guard_none rfl) rfl rfl (fun w_ hS_ => (ex_loadN (cs := [(.int .i64 t7825.fKind), (.int .i64 t7825.fMember), u7827, u7829]) rfl rfl Tryz.underlying28 rfl tsz28 rfl ((hS_.box_at 1 rfl).sub 0 4 rfl))) hS ?_
            refine dp rfl rfl rfl rfl (ex_fieldAddr (off' := 0) rfl rfl Tryz.underlying33 rfl tsz2 rfl) hS ?_
            refine drwp_take rfl (guard_none rfl) rfl rfl (fun w_ hS_ => (ex_load1 rfl rfl Tryz.underlying2 rfl ((hS_.box_at 0 rfl) 0 _ rfl))) hS ?_
            refine drwp_one rfl (guard_none rfl) rfl rfl (does_callk rfl callok10 rfl (spec_TxText.calls (x0 := t7825) (HM.own_rd 2 rfl) (HM.own_rd 3 rfl) h7854)) ?_
            rintro _ w7859 ⟨rfl, hn⟩
            replace HM : Mem w [] w7859 [box b7839 33 [.int .i64 t7837.fCode, .string t7837.fText], box b7831 28 [.int .i64 t7825.fKind, .int .i64 t7825.fMember, u7827, u7829], own kRef 62 u7827 t7825.fIns, own kOut 44 u7829 t7825.fOuts] := HM.call hn
            have hS := Mem.suf (M := []) HM
            refine ⟨hS, ?_⟩
            refine dp rfl rfl rfl rfl (ex_field1 rfl rfl Tryz.underlying33 rfl Tryz.underlying2 rfl rfl) hS ?_
            refine dp rfl rfl rfl rfl (ex_eql rfl rfl rfl) hS ?_
            refine dp rfl rfl rfl rfl (ex_move rfl rfl) hS ?_
            refine bool_cases (t7853.fCode == t7837.fCode) (fun hg7860 => ?_) (fun hg7860 => ?_)
            · skip
              refine drwp_take rfl (guard_on rfl rfl rfl hg7860) rfl rfl (fun w_ hS_ => (ex_loadN (cs := [(.int .i64 t7825.fKind), (.int .i64 t7825.fMember), u7827, u7829]) rfl rfl Tryz.underlying28 rfl tsz28 rfl ((hS_.box_at 1 rfl).sub 0 4 rfl))) hS ?_
              refine drwp_take rfl (guard_on rfl rfl rfl hg7860) rfl rfl (fun w_ hS_ => (ex_loadN (cs := [(.int .i64 t7825.fKind), (.int .i64 t7825.fMember), u7827, u7829]) rfl rfl Tryz.underlying28 rfl tsz28 rfl ((hS_.box_at 1 rfl).sub 0 4 rfl))) hS ?_
              refine drwp_one rfl (guard_on rfl rfl rfl hg7860) rfl rfl (does_callk rfl callok11 rfl (impl_TxFault.calls (x0 := t7825) (HM.own_rd 2 rfl) (HM.own_rd 3 rfl) (cond_t hg7860 h7856))) ?_
              rintro _ w7861 ⟨rfl, hn⟩
              replace HM : Mem w [] w7861 [box b7839 33 [.int .i64 t7837.fCode, .string t7837.fText], box b7831 28 [.int .i64 t7825.fKind, .int .i64 t7825.fMember, u7827, u7829], own kRef 62 u7827 t7825.fIns, own kOut 44 u7829 t7825.fOuts] := HM.call hn
              have hS := Mem.suf (M := []) HM
              refine ⟨hS, ?_⟩
              refine drwp_one rfl (guard_on rfl rfl rfl hg7860) rfl rfl (does_callk rfl callok12 rfl (spec_TxFault.calls (x0 := t7825) (HM.own_rd 2 rfl) (HM.own_rd 3 rfl) (cond_t hg7860 h7858))) ?_
              rintro _ w7862 ⟨rfl, hn⟩
              replace HM : Mem w [] w7862 [box b7839 33 [.int .i64 t7837.fCode, .string t7837.fText], box b7831 28 [.int .i64 t7825.fKind, .int .i64 t7825.fMember, u7827, u7829], own kRef 62 u7827 t7825.fIns, own kOut 44 u7829 t7825.fOuts] := HM.call hn
              have hS := Mem.suf (M := []) HM
              refine ⟨hS, ?_⟩
              refine drwp_take rfl (guard_on rfl rfl rfl hg7860) rfl rfl (fun w_ hS_ => (ex_eql rfl rfl rfl)) hS ?_
              refine drwp_take (v := .bool ((t7853.fCode == t7837.fCode) && (t7855 == t7857))) rfl (guard_none rfl) rfl rfl (fun w_ hS_ => (ex_pand_t rfl rfl hg7860 rfl)) hS ?_
              refine dp rfl rfl rfl rfl (ex_assign rfl rfl) hS ?_
              refine drwp_done ?_
              replace HM := (HM.front 0 rfl rfl).drop
              replace HM := (HM.front 0 rfl rfl).drop
              replace HM := (HM.front 0 rfl rfl).drop
              replace HM := (HM.front 0 rfl rfl).drop
              exact at_meet [(2, .bool ((t7853.fCode == t7837.fCode) && (t7855 == t7857)))] ⟨rfl, HM⟩ (Sub.cons rfl Sub.nil)
            · skip
              refine drwp_off rfl (guard_off rfl rfl rfl hg7860) rfl rfl hS ?_
              refine drwp_off rfl (guard_off rfl rfl rfl hg7860) rfl rfl hS ?_
              refine drwp_off1 rfl (guard_off rfl rfl rfl hg7860) rfl rfl ⟨hS, ?_⟩
              refine drwp_off1 rfl (guard_off rfl rfl rfl hg7860) rfl rfl ⟨hS, ?_⟩
              refine drwp_off rfl (guard_off rfl rfl rfl hg7860) rfl rfl hS ?_
              have hg7863 : ((t7853.fCode == t7837.fCode) && (t7855 == t7857)) = false := by simp only [hg7860, Bool.and_true, Bool.true_and, Bool.and_false, Bool.false_and, Bool.or_true, Bool.true_or, Bool.or_false, Bool.false_or, Bool.not_true, Bool.not_false, Bool.not_not]
              refine drwp_take (v := .bool ((t7853.fCode == t7837.fCode) && (t7855 == t7857))) rfl (guard_none rfl) rfl rfl (fun w_ hS_ => (ex_pand_f rfl rfl hg7860)) hS ?_
              refine dp rfl rfl rfl rfl (ex_assign rfl rfl) hS ?_
              refine drwp_done ?_
              replace HM := (HM.front 0 rfl rfl).drop
              replace HM := (HM.front 0 rfl rfl).drop
              replace HM := (HM.front 0 rfl rfl).drop
              replace HM := (HM.front 0 rfl rfl).drop
              exact at_meet [(2, .bool ((t7853.fCode == t7837.fCode) && (t7855 == t7857)))] ⟨rfl, HM⟩ (Sub.cons rfl Sub.nil)
          · rintro _ w7864 ⟨rfl, HM⟩
            refine at_then ?_
            refine run_ret ?_
            refine at_then_ret ?_
            have hR := Option.some.inj H
            subst hR
            exact at_ret1 rfl rfl ⟨_, rfl, rfl, HM⟩
        · replace H := cond_f hb7852 H
          refine run_skip ?_
          refine at_then ?_
          refine run_seq ?_
          obtain ⟨t7865, h7866, H⟩ := bind_some H
          refine run_region rfl ?_
          refine ox rfl rfl rfl rfl (ex_loadN (cs := [(.int .i64 t7825.fKind), (.int .i64 t7825.fMember), u7827, u7829]) rfl rfl Tryz.underlying28 rfl tsz28 rfl ((HM.box_at 1 rfl).sub 0 4 rfl)) ?_
          refine od rfl rfl rfl rfl (does_callk rfl callok13 rfl (impl_OutSum.calls (x0 := t7825) (HM.own_rd 2 rfl) (HM.own_rd 3 rfl) h7866)) ?_
          rintro _ w7870 ⟨rfl, hn⟩
          replace HM : Mem w [] w7870 [box b7839 33 [.int .i64 t7837.fCode, .string t7837.fText], box b7831 28 [.int .i64 t7825.fKind, .int .i64 t7825.fMember, u7827, u7829], own kRef 62 u7827 t7825.fIns, own kOut 44 u7829 t7825.fOuts] := HM.call hn
          refine od rfl rfl rfl rfl (does_alloc (cs := [.int .i64 0, .int .i64 0]) rfl tz38 rfl HM) ?_
          rintro _ w7871 ⟨b7867, rfl, HM⟩
          refine odS rfl rfl rfl (does_store (vs := [.int .i64 t7865.fCode, .int .i64 t7865.fValue]) (cs' := [.int .i64 t7865.fCode, .int .i64 t7865.fValue]) rfl rfl rfl rfl tsz38 (Ones.int (Ones.int Ones.nil)) rfl rfl HM) ?_
          rintro w7872 HM
          refine ops_nil (at_then (run_seq ?_))
          refine run_region rfl ?_
          refine ox rfl rfl rfl rfl (ex_assign rfl rfl) ?_
          refine ops_nil (at_then ?_)
          obtain ⟨o7882, ho7883, H⟩ := bind_some H
          refine run_mid (fun ρ_ w_ => ∃ a7881 : Int, a7881 = o7882 ∧ ρ_ = [(5, .pointer (some ⟨b7831, 0, none⟩)), (6, .pointer (some ⟨b7839, 0, none⟩)), (7, .pointer (some ⟨b7867, 0, none⟩)), (8, .int .i64 a7881)] ∧ Mem w [] w_ [box b7831 28 [.int .i64 t7825.fKind, .int .i64 t7825.fMember, u7827, u7829], own kRef 62 u7827 t7825.fIns, own kOut 44 u7829 t7825.fOuts, box b7839 33 [.int .i64 t7837.fCode, .string t7837.fText], box b7867 38 [.int .i64 t7865.fCode, .int .i64 t7865.fValue]]) ?_ ?_
          · clear H
            refine run_seq ?_
            refine run_region rfl ?_
            refine ox rfl rfl rfl rfl (ex_assign rfl rfl) ?_
            refine ops_nil (at_then ?_)
            refine run_block ?_
            replace HM := HM.front 1 rfl rfl
            replace HM := HM.front 4 rfl rfl
            replace HM := HM.front 4 rfl rfl
            replace HM := HM.front 4 rfl rfl
            refine run_loop (fun k_ ρ_ w_ => ∃ a7886 : Int, ∃ a7887 : Int, laws_FnTexts.l0 t7825 k_ a7886 a7887 = some o7882 ∧ ρ_ = [(5, .pointer (some ⟨b7831, 0, none⟩)), (6, .pointer (some ⟨b7839, 0, none⟩)), (7, .pointer (some ⟨b7867, 0, none⟩)), (8, .int .i64 a7886), (9, .int .i64 a7887)] ∧ Mem w [] w_ [box b7831 28 [.int .i64 t7825.fKind, .int .i64 t7825.fMember, u7827, u7829], own kRef 62 u7827 t7825.fIns, own kOut 44 u7829 t7825.fOuts, box b7839 33 [.int .i64 t7837.fCode, .string t7837.fText], box b7867 38 [.int .i64 t7865.fCode, .int .i64 t7865.fValue]]) k (ρ1 := [(5, .pointer (some ⟨b7831, 0, none⟩)), (6, .pointer (some ⟨b7839, 0, none⟩)), (7, .pointer (some ⟨b7867, 0, none⟩)), (8, .int .i64 0), (9, .int .i64 0)]) ⟨_, _, ho7883, rfl, HM⟩ (Sub.cons rfl (Sub.cons rfl (Sub.cons rfl (Sub.cons rfl (Sub.cons rfl Sub.nil))))) ?_
            clear HM ho7883
            rintro k7890 _ w7891 ⟨a7886, a7887, ho7883, rfl, HM⟩
            obtain _ | k7890 := k7890
            · exact nomatch ((laws_FnTexts.l0_z t7825 a7886 a7887).symm.trans ho7883)
            replace ho7883 := (laws_FnTexts.l0_s t7825 k7890 a7886 a7887).symm.trans ho7883
            refine run_seq ?_
            refine run_seq ?_
            refine run_region rfl ?_
            refine ox rfl rfl rfl rfl (ex_move rfl rfl) ?_
            refine ox rfl rfl rfl rfl (ex_fieldAddr (off' := 3) rfl rfl Tryz.underlying28 rfl tsz26 rfl) ?_
            refine ox rfl rfl rfl rfl (ex_load1 rfl rfl Tryz.underlying26 rfl ((HM.box_at 0 rfl) 3 _ rfl)) ?_
            refine ox rfl rfl rfl rfl (ex_len (d := kOut) (xs := t7825.fOuts) rfl rfl Tryz.underlying26 (HM.own_rd 2 rfl)) ?_
            refine ox rfl rfl rfl rfl (ex_lss rfl rfl rfl) ?_
            refine ops_nil (at_then ?_)
            refine run_cond (b := (decide (a7887 < (t7825.fOuts.length : Int)))) rfl (fun hb7892 => ?_) (fun hb7892 => ?_)
            · replace ho7883 := cond_t hb7892 ho7883
              refine run_skip ?_
              refine at_then ?_
              refine run_seq ?_
              refine run_block ?_
              obtain ⟨e7893, ho7883⟩ := chk_some ho7883
              refine run_region rfl ?_
              refine ox rfl rfl rfl rfl (ex_move rfl rfl) ?_
              refine ox rfl rfl rfl rfl (ex_fieldAddr (off' := 3) rfl rfl Tryz.underlying28 rfl tsz26 rfl) ?_
              refine ox rfl rfl rfl rfl (ex_load1 rfl rfl Tryz.underlying26 rfl ((HM.box_at 0 rfl) 3 _ rfl)) ?_
              refine ox rfl rfl rfl rfl (ex_move rfl rfl) ?_
              refine ox rfl rfl rfl rfl (ex_indexAddr (d := kOut) rfl rfl rfl Tryz.underlying26 tsz44 (HM.own_rd 2 rfl) (idx_lo e7893) (idx_hi e7893)) ?_
              refine ox rfl rfl rfl rfl (ex_fieldAddr (off' := so u7829 + (a7887).toNat * 4) rfl rfl Tryz.underlying44 rfl tsz2 rfl) ?_
              refine ox rfl rfl rfl rfl (let ⟨_, hc_, _⟩ := rd_with1 (HM.own_rd 2 rfl) e7893; ex_load1 rfl rfl Tryz.underlying2 rfl (hc_ 0 _ rfl)) ?_
              refine ox rfl rfl rfl rfl (ex_add rfl rfl rfl) ?_
              refine ox rfl rfl rfl rfl (ex_assign rfl rfl) ?_
              refine ops_nil ?_
              refine at_block ?_
              refine at_then ?_
              refine run_region rfl ?_
              refine ox rfl rfl rfl rfl (ex_move rfl rfl) ?_
              refine ox rfl rfl rfl rfl (ex_add rfl rfl rfl) ?_
              refine ox rfl rfl rfl rfl (ex_assign rfl rfl) ?_
              refine ops_nil ?_
              exact at_again k7890 (ρ1 := [(5, .pointer (some ⟨b7831, 0, none⟩)), (6, .pointer (some ⟨b7839, 0, none⟩)), (7, .pointer (some ⟨b7867, 0, none⟩)), (8, .int .i64 (wrap64 (a7886 + ((gt t7825.fOuts a7887).fValue)))), (9, .int .i64 (wrap64 (a7887 + 1)))]) (Nat.lt_succ_self _) ⟨_, _, ho7883, rfl, HM⟩ (Sub.cons rfl (Sub.cons rfl (Sub.cons rfl (Sub.cons rfl (Sub.cons rfl Sub.nil)))))
            · replace ho7883 := cond_f hb7892 ho7883
              refine run_exit ?_
              refine at_then_exit ?_
              refine at_then_exit ?_
              refine at_block_exit ?_
              exact at_mid (ρ' := [(5, .pointer (some ⟨b7831, 0, none⟩)), (6, .pointer (some ⟨b7839, 0, none⟩)), (7, .pointer (some ⟨b7867, 0, none⟩)), (8, .int .i64 a7886)]) ⟨_, (Option.some.inj ho7883), rfl, HM⟩ (Sub.cons rfl (Sub.cons rfl (Sub.cons rfl (Sub.cons rfl Sub.nil))))
          · rintro _ w7894 ⟨a7881, rfl, rfl, HM⟩
            refine run_seq ?_
            obtain ⟨t7895, h7896, H⟩ := bind_some H
            obtain ⟨t7901, h7902, H⟩ := bind_some H
            obtain ⟨t7903, h7904, H⟩ := bind_some H
            obtain ⟨t7905, h7906, H⟩ := bind_some H
            refine run_meet (fun ρ_ w_ => ρ_ = [(2, .bool ((((t7901 && (t7865.fCode == 0)) && (t7865.fValue == a7881)) && t7903) && (t7905 == 0)))] ∧ Mem w [] w_ []) ?_ ?_
            · skip
              refine run_drawf (fun w_ => Mem w [] w_ [box b7831 28 [.int .i64 t7825.fKind, .int .i64 t7825.fMember, u7827, u7829], own kRef 62 u7827 t7825.fIns, own kOut 44 u7829 t7825.fOuts, box b7839 33 [.int .i64 t7837.fCode, .string t7837.fText], box b7867 38 [.int .i64 t7865.fCode, .int .i64 t7865.fValue]]) [(0, true), (1, true), (4, true), (2, false), (3, true), (5, false), (6, true), (7, true), (8, true), (9, true), (10, true), (11, true), (12, true), (13, true), (14, true), (15, true), (16, true), (17, true), (18, true), (19, true), (20, false), (21, true), (22, true), (23, true), (24, false), (25, true), (26, true), (27, true)] mixed rfl rfl (by kernel_rfl) ?_
              replace HM := HM.grow (fr_drew _)
              have hS := Mem.suf (M := []) HM
              refine dp rfl rfl rfl rfl (ex_fieldAddr (off' := 1) rfl rfl Tryz.underlying33 rfl tsz9 rfl) hS ?_
              refine drwp_take rfl (guard_none rfl) rfl rfl (fun w_ hS_ => (ex_load1 rfl rfl Tryz.underlying9 rfl ((hS_.box_at 3 rfl) 1 _ rfl))) hS ?_
              refine drwp_take rfl (guard_none rfl) rfl rfl (fun w_ hS_ => (ex_loadN (cs := [(.int .i64 t7825.fKind), (.int .i64 t7825.fMember), u7827, u7829]) rfl rfl Tryz.underlying28 rfl tsz28 rfl ((hS_.box_at 0 rfl).sub 0 4 rfl))) hS ?_
              refine drwp_one rfl (guard_none rfl) rfl rfl (does_callk rfl callok6 rfl (impl_ParseTx.calls (x0 := t7837.fText) (HM.tabP htab) h7896)) ?_
              rintro _ w7907 ⟨u7897, u7899, rfl, hn⟩
              replace HM : Mem w [] w7907 [own kRef 62 u7897 t7895.fTx.fIns, own kOut 44 u7899 t7895.fTx.fOuts, box b7831 28 [.int .i64 t7825.fKind, .int .i64 t7825.fMember, u7827, u7829], own kRef 62 u7827 t7825.fIns, own kOut 44 u7829 t7825.fOuts, box b7839 33 [.int .i64 t7837.fCode, .string t7837.fText], box b7867 38 [.int .i64 t7865.fCode, .int .i64 t7865.fValue]] := HM.call hn
              have hS := Mem.suf (M := [own kRef 62 u7897 t7895.fTx.fIns, own kOut 44 u7899 t7895.fTx.fOuts]) HM
              refine ⟨hS, ?_⟩
              refine dp rfl rfl rfl rfl (ex_fieldN (us := #[(.int .i64 t7895.fTx.fKind), (.int .i64 t7895.fTx.fMember), u7897, u7899]) rfl rfl Tryz.underlying30 rfl Tryz.underlying28 rfl tsz28 rfl) hS ?_
              refine drwp_one rfl (guard_none rfl) rfl rfl (does_callk rfl callok14 rfl (impl_SameTxs.calls (x0 := t7895.fTx) (x1 := t7825) (HM.own_rd 0 rfl) (HM.own_rd 1 rfl) (HM.own_rd 3 rfl) (HM.own_rd 4 rfl) h7902)) ?_
              rintro _ w7908 ⟨rfl, hn⟩
              replace HM : Mem w [] w7908 [own kRef 62 u7897 t7895.fTx.fIns, own kOut 44 u7899 t7895.fTx.fOuts, box b7831 28 [.int .i64 t7825.fKind, .int .i64 t7825.fMember, u7827, u7829], own kRef 62 u7827 t7825.fIns, own kOut 44 u7829 t7825.fOuts, box b7839 33 [.int .i64 t7837.fCode, .string t7837.fText], box b7867 38 [.int .i64 t7865.fCode, .int .i64 t7865.fValue]] := HM.call hn
              have hS := Mem.suf (M := [own kRef 62 u7897 t7895.fTx.fIns, own kOut 44 u7899 t7895.fTx.fOuts]) HM
              refine ⟨hS, ?_⟩
              refine dp rfl rfl rfl rfl (ex_move rfl rfl) hS ?_
              refine bool_cases t7901 (fun hg7909 => ?_) (fun hg7909 => ?_)
              · skip
                refine drwp_take rfl (guard_on rfl rfl rfl hg7909) rfl rfl (fun w_ hS_ => (ex_fieldAddr (off' := 0) rfl rfl Tryz.underlying38 rfl tsz2 rfl)) hS ?_
                refine drwp_take rfl (guard_on rfl rfl rfl hg7909) rfl rfl (fun w_ hS_ => (ex_load1 rfl rfl Tryz.underlying2 rfl ((hS_.box_at 4 rfl) 0 _ rfl))) hS ?_
                refine drwp_take rfl (guard_on rfl rfl rfl hg7909) rfl rfl (fun w_ hS_ => (ex_eql rfl rfl rfl)) hS ?_
                refine drwp_take (v := .bool (t7901 && (t7865.fCode == 0))) rfl (guard_none rfl) rfl rfl (fun w_ hS_ => (ex_pand_t rfl rfl hg7909 rfl)) hS ?_
                refine dp rfl rfl rfl rfl (ex_move rfl rfl) hS ?_
                refine bool_cases (t7901 && (t7865.fCode == 0)) (fun hg7910 => ?_) (fun hg7910 => ?_)
                · skip
                  refine drwp_take rfl (guard_on rfl rfl rfl hg7910) rfl rfl (fun w_ hS_ => (ex_fieldAddr (off' := 1) rfl rfl Tryz.underlying38 rfl tsz2 rfl)) hS ?_
                  refine drwp_take rfl (guard_on rfl rfl rfl hg7910) rfl rfl (fun w_ hS_ => (ex_load1 rfl rfl Tryz.underlying2 rfl ((hS_.box_at 4 rfl) 1 _ rfl))) hS ?_
                  refine drwp_take rfl (guard_on rfl rfl rfl hg7910) rfl rfl (fun w_ hS_ => (ex_move rfl rfl)) hS ?_
                  refine drwp_take rfl (guard_on rfl rfl rfl hg7910) rfl rfl (fun w_ hS_ => (ex_eql rfl rfl rfl)) hS ?_
                  refine drwp_take (v := .bool ((t7901 && (t7865.fCode == 0)) && (t7865.fValue == a7881))) rfl (guard_none rfl) rfl rfl (fun w_ hS_ => (ex_pand_t rfl rfl hg7910 rfl)) hS ?_
                  refine dp rfl rfl rfl rfl (ex_move rfl rfl) hS ?_
                  refine bool_cases ((t7901 && (t7865.fCode == 0)) && (t7865.fValue == a7881)) (fun hg7911 => ?_) (fun hg7911 => ?_)
                  · skip
                    refine drwp_take rfl (guard_on rfl rfl rfl hg7911) rfl rfl (fun w_ hS_ => (ex_loadN (cs := [(.int .i64 t7825.fKind), (.int .i64 t7825.fMember), u7827, u7829]) rfl rfl Tryz.underlying28 rfl tsz28 rfl ((hS_.box_at 0 rfl).sub 0 4 rfl))) hS ?_
                    refine drwp_take rfl (guard_on rfl rfl rfl hg7911) rfl rfl (fun w_ hS_ => (ex_loadN (cs := [(.int .i64 t7825.fKind), (.int .i64 t7825.fMember), u7827, u7829]) rfl rfl Tryz.underlying28 rfl tsz28 rfl ((hS_.box_at 0 rfl).sub 0 4 rfl))) hS ?_
                    refine drwp_one rfl (guard_on rfl rfl rfl hg7911) rfl rfl (does_callk rfl callok15 rfl (impl_ClashTx.calls (x0 := t7825) (x1 := t7825) (HM.own_rd 3 rfl) (HM.own_rd 4 rfl) (HM.own_rd 3 rfl) (HM.own_rd 4 rfl) (cond_t hg7911 h7904))) ?_
                    rintro _ w7912 ⟨rfl, hn⟩
                    replace HM : Mem w [] w7912 [own kRef 62 u7897 t7895.fTx.fIns, own kOut 44 u7899 t7895.fTx.fOuts, box b7831 28 [.int .i64 t7825.fKind, .int .i64 t7825.fMember, u7827, u7829], own kRef 62 u7827 t7825.fIns, own kOut 44 u7829 t7825.fOuts, box b7839 33 [.int .i64 t7837.fCode, .string t7837.fText], box b7867 38 [.int .i64 t7865.fCode, .int .i64 t7865.fValue]] := HM.call hn
                    have hS := Mem.suf (M := [own kRef 62 u7897 t7895.fTx.fIns, own kOut 44 u7899 t7895.fTx.fOuts]) HM
                    refine ⟨hS, ?_⟩
                    refine drwp_take (v := .bool (((t7901 && (t7865.fCode == 0)) && (t7865.fValue == a7881)) && t7903)) rfl (guard_none rfl) rfl rfl (fun w_ hS_ => (ex_pand_t rfl rfl hg7911 rfl)) hS ?_
                    refine dp rfl rfl rfl rfl (ex_move rfl rfl) hS ?_
                    refine bool_cases (((t7901 && (t7865.fCode == 0)) && (t7865.fValue == a7881)) && t7903) (fun hg7913 => ?_) (fun hg7913 => ?_)
                    · skip
                      refine drwp_take rfl (guard_on rfl rfl rfl hg7913) rfl rfl (fun w_ hS_ => (ex_loadN (cs := [(.int .i64 t7825.fKind), (.int .i64 t7825.fMember), u7827, u7829]) rfl rfl Tryz.underlying28 rfl tsz28 rfl ((hS_.box_at 0 rfl).sub 0 4 rfl))) hS ?_
                      refine drwp_one rfl (guard_on rfl rfl rfl hg7913) rfl rfl (does_callk rfl callok11 rfl (impl_TxFault.calls (x0 := t7825) (HM.own_rd 3 rfl) (HM.own_rd 4 rfl) (cond_t hg7913 h7906))) ?_
                      rintro _ w7914 ⟨rfl, hn⟩
                      replace HM : Mem w [] w7914 [own kRef 62 u7897 t7895.fTx.fIns, own kOut 44 u7899 t7895.fTx.fOuts, box b7831 28 [.int .i64 t7825.fKind, .int .i64 t7825.fMember, u7827, u7829], own kRef 62 u7827 t7825.fIns, own kOut 44 u7829 t7825.fOuts, box b7839 33 [.int .i64 t7837.fCode, .string t7837.fText], box b7867 38 [.int .i64 t7865.fCode, .int .i64 t7865.fValue]] := HM.call hn
                      have hS := Mem.suf (M := [own kRef 62 u7897 t7895.fTx.fIns, own kOut 44 u7899 t7895.fTx.fOuts]) HM
                      refine ⟨hS, ?_⟩
                      refine drwp_take rfl (guard_on rfl rfl rfl hg7913) rfl rfl (fun w_ hS_ => (ex_eql rfl rfl rfl)) hS ?_
                      refine drwp_take (v := .bool ((((t7901 && (t7865.fCode == 0)) && (t7865.fValue == a7881)) && t7903) && (t7905 == 0))) rfl (guard_none rfl) rfl rfl (fun w_ hS_ => (ex_pand_t rfl rfl hg7913 rfl)) hS ?_
                      refine dp rfl rfl rfl rfl (ex_assign rfl rfl) hS ?_
                      refine drwp_done ?_
                      replace HM := (HM.front 0 rfl rfl).drop
                      replace HM := (HM.front 0 rfl rfl).drop
                      replace HM := (HM.front 0 rfl rfl).drop
                      replace HM := (HM.front 0 rfl rfl).drop
                      replace HM := (HM.front 0 rfl rfl).drop
                      replace HM := (HM.front 0 rfl rfl).drop
                      replace HM := (HM.front 0 rfl rfl).drop
                      exact at_meet [(2, .bool ((((t7901 && (t7865.fCode == 0)) && (t7865.fValue == a7881)) && t7903) && (t7905 == 0)))] ⟨rfl, HM⟩ (Sub.cons rfl Sub.nil)
                    · skip
                      refine drwp_off rfl (guard_off rfl rfl rfl hg7913) rfl rfl hS ?_
                      refine drwp_off1 rfl (guard_off rfl rfl rfl hg7913) rfl rfl ⟨hS, ?_⟩
                      refine drwp_off rfl (guard_off rfl rfl rfl hg7913) rfl rfl hS ?_
                      have hg7915 : ((((t7901 && (t7865.fCode == 0)) && (t7865.fValue == a7881)) && t7903) && (t7905 == 0)) = false := by simp only [hg7913, Bool.and_true, Bool.true_and, Bool.and_false, Bool.false_and, Bool.or_true, Bool.true_or, Bool.or_false, Bool.false_or, Bool.not_true, Bool.not_false, Bool.not_not]
                      refine drwp_take (v := .bool ((((t7901 && (t7865.fCode == 0)) && (t7865.fValue == a7881)) && t7903) && (t7905 == 0))) rfl (guard_none rfl) rfl rfl (fun w_ hS_ => (ex_pand_f rfl rfl hg7913)) hS ?_
                      refine dp rfl rfl rfl rfl (ex_assign rfl rfl) hS ?_
                      refine drwp_done ?_
                      replace HM := (HM.front 0 rfl rfl).drop
                      replace HM := (HM.front 0 rfl rfl).drop
                      replace HM := (HM.front 0 rfl rfl).drop
                      replace HM := (HM.front 0 rfl rfl).drop
                      replace HM := (HM.front 0 rfl rfl).drop
                      replace HM := (HM.front 0 rfl rfl).drop
                      replace HM := (HM.front 0 rfl rfl).drop
                      exact at_meet [(2, .bool ((((t7901 && (t7865.fCode == 0)) && (t7865.fValue == a7881)) && t7903) && (t7905 == 0)))] ⟨rfl, HM⟩ (Sub.cons rfl Sub.nil)
                  · skip
                    refine drwp_off rfl (guard_off rfl rfl rfl hg7911) rfl rfl hS ?_
                    refine drwp_off rfl (guard_off rfl rfl rfl hg7911) rfl rfl hS ?_
                    refine drwp_off1 rfl (guard_off rfl rfl rfl hg7911) rfl rfl ⟨hS, ?_⟩
                    have hg7916 : (((t7901 && (t7865.fCode == 0)) && (t7865.fValue == a7881)) && t7903) = false := by simp only [hg7911, Bool.and_true, Bool.true_and, Bool.and_false, Bool.false_and, Bool.or_true, Bool.true_or, Bool.or_false, Bool.false_or, Bool.not_true, Bool.not_false, Bool.not_not]
                    refine drwp_take (v := .bool (((t7901 && (t7865.fCode == 0)) && (t7865.fValue == a7881)) && t7903)) rfl (guard_none rfl) rfl rfl (fun w_ hS_ => (ex_pand_f rfl rfl hg7911)) hS ?_
                    refine dp rfl rfl rfl rfl (ex_move rfl rfl) hS ?_
                    refine drwp_off rfl (guard_off rfl rfl rfl hg7916) rfl rfl hS ?_
                    refine drwp_off1 rfl (guard_off rfl rfl rfl hg7916) rfl rfl ⟨hS, ?_⟩
                    refine drwp_off rfl (guard_off rfl rfl rfl hg7916) rfl rfl hS ?_
                    have hg7917 : ((((t7901 && (t7865.fCode == 0)) && (t7865.fValue == a7881)) && t7903) && (t7905 == 0)) = false := by simp only [hg7916, Bool.and_true, Bool.true_and, Bool.and_false, Bool.false_and, Bool.or_true, Bool.true_or, Bool.or_false, Bool.false_or, Bool.not_true, Bool.not_false, Bool.not_not]
                    refine drwp_take (v := .bool ((((t7901 && (t7865.fCode == 0)) && (t7865.fValue == a7881)) && t7903) && (t7905 == 0))) rfl (guard_none rfl) rfl rfl (fun w_ hS_ => (ex_pand_f rfl rfl hg7916)) hS ?_
                    refine dp rfl rfl rfl rfl (ex_assign rfl rfl) hS ?_
                    refine drwp_done ?_
                    replace HM := (HM.front 0 rfl rfl).drop
                    replace HM := (HM.front 0 rfl rfl).drop
                    replace HM := (HM.front 0 rfl rfl).drop
                    replace HM := (HM.front 0 rfl rfl).drop
                    replace HM := (HM.front 0 rfl rfl).drop
                    replace HM := (HM.front 0 rfl rfl).drop
                    replace HM := (HM.front 0 rfl rfl).drop
                    exact at_meet [(2, .bool ((((t7901 && (t7865.fCode == 0)) && (t7865.fValue == a7881)) && t7903) && (t7905 == 0)))] ⟨rfl, HM⟩ (Sub.cons rfl Sub.nil)
                · skip
                  refine drwp_off rfl (guard_off rfl rfl rfl hg7910) rfl rfl hS ?_
                  refine drwp_off rfl (guard_off rfl rfl rfl hg7910) rfl rfl hS ?_
                  refine drwp_off rfl (guard_off rfl rfl rfl hg7910) rfl rfl hS ?_
                  refine drwp_off rfl (guard_off rfl rfl rfl hg7910) rfl rfl hS ?_
                  have hg7918 : ((t7901 && (t7865.fCode == 0)) && (t7865.fValue == a7881)) = false := by simp only [hg7910, Bool.and_true, Bool.true_and, Bool.and_false, Bool.false_and, Bool.or_true, Bool.true_or, Bool.or_false, Bool.false_or, Bool.not_true, Bool.not_false, Bool.not_not]
                  refine drwp_take (v := .bool ((t7901 && (t7865.fCode == 0)) && (t7865.fValue == a7881))) rfl (guard_none rfl) rfl rfl (fun w_ hS_ => (ex_pand_f rfl rfl hg7910)) hS ?_
                  refine dp rfl rfl rfl rfl (ex_move rfl rfl) hS ?_
                  refine drwp_off rfl (guard_off rfl rfl rfl hg7918) rfl rfl hS ?_
                  refine drwp_off rfl (guard_off rfl rfl rfl hg7918) rfl rfl hS ?_
                  refine drwp_off1 rfl (guard_off rfl rfl rfl hg7918) rfl rfl ⟨hS, ?_⟩
                  have hg7919 : (((t7901 && (t7865.fCode == 0)) && (t7865.fValue == a7881)) && t7903) = false := by simp only [hg7918, Bool.and_true, Bool.true_and, Bool.and_false, Bool.false_and, Bool.or_true, Bool.true_or, Bool.or_false, Bool.false_or, Bool.not_true, Bool.not_false, Bool.not_not]
                  refine drwp_take (v := .bool (((t7901 && (t7865.fCode == 0)) && (t7865.fValue == a7881)) && t7903)) rfl (guard_none rfl) rfl rfl (fun w_ hS_ => (ex_pand_f rfl rfl hg7918)) hS ?_
                  refine dp rfl rfl rfl rfl (ex_move rfl rfl) hS ?_
                  refine drwp_off rfl (guard_off rfl rfl rfl hg7919) rfl rfl hS ?_
                  refine drwp_off1 rfl (guard_off rfl rfl rfl hg7919) rfl rfl ⟨hS, ?_⟩
                  refine drwp_off rfl (guard_off rfl rfl rfl hg7919) rfl rfl hS ?_
                  have hg7920 : ((((t7901 && (t7865.fCode == 0)) && (t7865.fValue == a7881)) && t7903) && (t7905 == 0)) = false := by simp only [hg7919, Bool.and_true, Bool.true_and, Bool.and_false, Bool.false_and, Bool.or_true, Bool.true_or, Bool.or_false, Bool.false_or, Bool.not_true, Bool.not_false, Bool.not_not]
                  refine drwp_take (v := .bool ((((t7901 && (t7865.fCode == 0)) && (t7865.fValue == a7881)) && t7903) && (t7905 == 0))) rfl (guard_none rfl) rfl rfl (fun w_ hS_ => (ex_pand_f rfl rfl hg7919)) hS ?_
                  refine dp rfl rfl rfl rfl (ex_assign rfl rfl) hS ?_
                  refine drwp_done ?_
                  replace HM := (HM.front 0 rfl rfl).drop
                  replace HM := (HM.front 0 rfl rfl).drop
                  replace HM := (HM.front 0 rfl rfl).drop
                  replace HM := (HM.front 0 rfl rfl).drop
                  replace HM := (HM.front 0 rfl rfl).drop
                  replace HM := (HM.front 0 rfl rfl).drop
                  replace HM := (HM.front 0 rfl rfl).drop
                  exact at_meet [(2, .bool ((((t7901 && (t7865.fCode == 0)) && (t7865.fValue == a7881)) && t7903) && (t7905 == 0)))] ⟨rfl, HM⟩ (Sub.cons rfl Sub.nil)
              · skip
                refine drwp_off rfl (guard_off rfl rfl rfl hg7909) rfl rfl hS ?_
                refine drwp_off rfl (guard_off rfl rfl rfl hg7909) rfl rfl hS ?_
                refine drwp_off rfl (guard_off rfl rfl rfl hg7909) rfl rfl hS ?_
                have hg7921 : (t7901 && (t7865.fCode == 0)) = false := by simp only [hg7909, Bool.and_true, Bool.true_and, Bool.and_false, Bool.false_and, Bool.or_true, Bool.true_or, Bool.or_false, Bool.false_or, Bool.not_true, Bool.not_false, Bool.not_not]
                refine drwp_take (v := .bool (t7901 && (t7865.fCode == 0))) rfl (guard_none rfl) rfl rfl (fun w_ hS_ => (ex_pand_f rfl rfl hg7909)) hS ?_
                refine dp rfl rfl rfl rfl (ex_move rfl rfl) hS ?_
                refine drwp_off rfl (guard_off rfl rfl rfl hg7921) rfl rfl hS ?_
                refine drwp_off rfl (guard_off rfl rfl rfl hg7921) rfl rfl hS ?_
                refine drwp_off rfl (guard_off rfl rfl rfl hg7921) rfl rfl hS ?_
                refine drwp_off rfl (guard_off rfl rfl rfl hg7921) rfl rfl hS ?_
                have hg7922 : ((t7901 && (t7865.fCode == 0)) && (t7865.fValue == a7881)) = false := by simp only [hg7921, Bool.and_true, Bool.true_and, Bool.and_false, Bool.false_and, Bool.or_true, Bool.true_or, Bool.or_false, Bool.false_or, Bool.not_true, Bool.not_false, Bool.not_not]
                refine drwp_take (v := .bool ((t7901 && (t7865.fCode == 0)) && (t7865.fValue == a7881))) rfl (guard_none rfl) rfl rfl (fun w_ hS_ => (ex_pand_f rfl rfl hg7921)) hS ?_
                refine dp rfl rfl rfl rfl (ex_move rfl rfl) hS ?_
                refine drwp_off rfl (guard_off rfl rfl rfl hg7922) rfl rfl hS ?_
                refine drwp_off rfl (guard_off rfl rfl rfl hg7922) rfl rfl hS ?_
                refine drwp_off1 rfl (guard_off rfl rfl rfl hg7922) rfl rfl ⟨hS, ?_⟩
                have hg7923 : (((t7901 && (t7865.fCode == 0)) && (t7865.fValue == a7881)) && t7903) = false := by simp only [hg7922, Bool.and_true, Bool.true_and, Bool.and_false, Bool.false_and, Bool.or_true, Bool.true_or, Bool.or_false, Bool.false_or, Bool.not_true, Bool.not_false, Bool.not_not]
                refine drwp_take (v := .bool (((t7901 && (t7865.fCode == 0)) && (t7865.fValue == a7881)) && t7903)) rfl (guard_none rfl) rfl rfl (fun w_ hS_ => (ex_pand_f rfl rfl hg7922)) hS ?_
                refine dp rfl rfl rfl rfl (ex_move rfl rfl) hS ?_
                refine drwp_off rfl (guard_off rfl rfl rfl hg7923) rfl rfl hS ?_
                refine drwp_off1 rfl (guard_off rfl rfl rfl hg7923) rfl rfl ⟨hS, ?_⟩
                refine drwp_off rfl (guard_off rfl rfl rfl hg7923) rfl rfl hS ?_
                have hg7924 : ((((t7901 && (t7865.fCode == 0)) && (t7865.fValue == a7881)) && t7903) && (t7905 == 0)) = false := by simp only [hg7923, Bool.and_true, Bool.true_and, Bool.and_false, Bool.false_and, Bool.or_true, Bool.true_or, Bool.or_false, Bool.false_or, Bool.not_true, Bool.not_false, Bool.not_not]
                refine drwp_take (v := .bool ((((t7901 && (t7865.fCode == 0)) && (t7865.fValue == a7881)) && t7903) && (t7905 == 0))) rfl (guard_none rfl) rfl rfl (fun w_ hS_ => (ex_pand_f rfl rfl hg7923)) hS ?_
                refine dp rfl rfl rfl rfl (ex_assign rfl rfl) hS ?_
                refine drwp_done ?_
                replace HM := (HM.front 0 rfl rfl).drop
                replace HM := (HM.front 0 rfl rfl).drop
                replace HM := (HM.front 0 rfl rfl).drop
                replace HM := (HM.front 0 rfl rfl).drop
                replace HM := (HM.front 0 rfl rfl).drop
                replace HM := (HM.front 0 rfl rfl).drop
                replace HM := (HM.front 0 rfl rfl).drop
                exact at_meet [(2, .bool ((((t7901 && (t7865.fCode == 0)) && (t7865.fValue == a7881)) && t7903) && (t7905 == 0)))] ⟨rfl, HM⟩ (Sub.cons rfl Sub.nil)
            · rintro _ w7925 ⟨rfl, HM⟩
              refine at_then ?_
              refine run_ret ?_
              have hR := Option.some.inj H
              subst hR
              exact at_ret1 rfl rfl ⟨_, rfl, rfl, HM⟩
end Go.Proofs.YtmaolhocmkkmjaaGreatDoor.Zk
