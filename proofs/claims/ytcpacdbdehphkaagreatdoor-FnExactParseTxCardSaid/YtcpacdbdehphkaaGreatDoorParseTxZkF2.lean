/- What functions of the program compute, each as a plain function, and that they do. Conditions: as each theorem states them. -/
import Derived.Test.YtcpacdbdehphkaaGreatDoorParseTxZkF1
namespace Go.Proofs.YtcpacdbdehphkaaGreatDoor.Zk
open Go Go.RowKit Go.IntWalk Go.Proofs
set_option linter.unusedVariables false
set_option linter.unusedSimpArgs false
set_option maxRecDepth 100000
set_option maxHeartbeats 4000000
def spec_l3Fault.l0 (x0 : Tx) : Nat → Int → Option (Int ⊕ Unit)
  | 0, _ => none
  | k + 1, a1631 => (bif (decide (a1631 < (x0.fIns.length : Int))) then (chk (idxOk a1631 x0.fIns.length) ((spec_l3Ref.f k (gt x0.fIns a1631)).bind fun t1662 => (bif !t1662 then some (.inl 3) else (chk (cutOk a1631 x0.fIns.length) (chk (idxOk a1631 x0.fIns.length) ((spec_l3Among.f k (x0.fIns.take (a1631).toNat) (gt x0.fIns a1631)).bind fun t1672 => (bif t1672 then some (.inl 7) else spec_l3Fault.l0 x0 k (wrap64 (a1631 + 1))))))))) else some (.inr ()))
theorem spec_l3Fault.l0_z (x0 : Tx) (a1631 : Int) : spec_l3Fault.l0 x0 0 a1631 = none := rfl
theorem spec_l3Fault.l0_s (x0 : Tx) (k : Nat) (a1631 : Int) : spec_l3Fault.l0 x0 (k + 1) a1631 = (bif (decide (a1631 < (x0.fIns.length : Int))) then (chk (idxOk a1631 x0.fIns.length) ((spec_l3Ref.f k (gt x0.fIns a1631)).bind fun t1662 => (bif !t1662 then some (.inl 3) else (chk (cutOk a1631 x0.fIns.length) (chk (idxOk a1631 x0.fIns.length) ((spec_l3Among.f k (x0.fIns.take (a1631).toNat) (gt x0.fIns a1631)).bind fun t1672 => (bif t1672 then some (.inl 7) else spec_l3Fault.l0 x0 k (wrap64 (a1631 + 1))))))))) else some (.inr ())) := rfl
def spec_l3Fault.f (k : Nat) (x0 : Tx) : Option Int := ((spec_l1In.f k x0.fKind 0 2).bind fun t1516 => (bif ((!t1516) || ((x0.fKind == 0) != (x0.fMember == 0))) then some 1 else ((bif (x0.fKind != 0) then spec_l1Key.f k x0.fMember else some default).bind fun t1526 => (bif ((x0.fKind != 0) && (!t1526)) then some 3 else ((spec_l1In.f k (x0.fIns.length : Int) 1 4).bind fun t1538 => ((bif (!(!t1538)) then spec_l1In.f k (x0.fOuts.length : Int) 1 4 else some default).bind fun t1540 => (bif ((!t1538) || (!t1540)) then some 2 else ((spec_l3Fault.l0 x0 k 0).bind fun o1609 => thn o1609 (fun r => some r) (fun _ => ((spec_l3Outs.f k x0).bind fun t1677 => some t1677))))))))))
theorem spec_l3Fault.calls {k : Nat} {x0 : Tx} {b0 f0 : Nat} {p0_0 : Value} {p0_1 : Value} {w : World} (hc0 : CellsAt w b0 f0 [.int .i64 x0.fKind, .int .i64 x0.fMember, p0_0, p0_1]) (hp0_0 : RdS kRef w p0_0 x0.fIns) (hp0_1 : RdS kOut w p0_1 x0.fOuts) {r : Int} (H : spec_l3Fault.f k x0 = some r) :
    Calls Tryz.prog 19 ([.pointer (some ⟨b0, f0, none⟩)] : List Value).toArray w (fun e w_ => ∃ v, e = .returned v ∧ v = (.int .i64 r) ∧ Mem w [] w_ []) := by
  have HM := Mem.start w
  refine calls_run (N := 86) Tryz.func19 rfl rfl rfl rfl ?_
  unfold spec_l3Fault.f at H
  refine run_seq ?_
  refine run_region rfl ?_
  refine ops_ex rfl (guard_none rfl) rfl rfl (ex_assign rfl rfl) ?_
  refine ops_nil ?_
  refine at_then ?_
  refine run_seq ?_
  refine run_seq ?_
  obtain ⟨t1516, h1517, H⟩ := bind_some H
  refine run_meet (fun ρ_ w_ => ρ_ = [(0, .pointer (some ⟨b0, f0, none⟩)), (22, .bool ((!t1516) || ((x0.fKind == 0) != (x0.fMember == 0))))] ∧ Mem w [] w_ []) ?_ ?_
  · skip
    refine run_drawf (fun w_ => Mem w [] w_ []) [(0, true), (1, true), (2, true), (3, true), (4, false), (5, true), (6, true), (7, true), (8, true), (9, true), (10, true), (11, true), (12, true), (13, true), (14, true), (15, true), (16, true), (17, true), (18, true)] mixed rfl rfl (by kernel_rfl) ?_
    replace HM := HM.grow (fr_drew _)
    have hS := Mem.suf (M := []) HM
    refine drwp_take rfl (guard_none rfl) rfl rfl (fun w_ hS_ => (ex_move rfl rfl)) hS ?_
    refine drwp_take rfl (guard_none rfl) rfl rfl (fun w_ hS_ => (ex_nilCheck rfl rfl)) hS ?_
    refine drwp_take rfl (guard_none rfl) rfl rfl (fun w_ hS_ => (ex_fieldAddr (off' := f0) rfl rfl Tryz.underlying25 rfl tsz2 rfl)) hS ?_
    refine drwp_take rfl (guard_none rfl) rfl rfl (fun w_ hS_ => (ex_load1 rfl rfl Tryz.underlying2 rfl ((hS_.at_ hc0) 0 _ rfl))) hS ?_
    refine drwp_one rfl (guard_none rfl) rfl rfl (does_callk rfl callok36 rfl (spec_l1In.calls (x0 := x0.fKind) (x1 := 0) (x2 := 2) h1517)) ?_
    rintro _ w1518 ⟨rfl, hn⟩
    replace HM : Mem w [] w1518 [] := HM.call hn
    refine ⟨Mem.suf (M := []) HM, ?_⟩
    have hS := Mem.suf (M := []) HM
    refine drwp_take rfl (guard_none rfl) rfl rfl (fun w_ hS_ => (ex_not rfl rfl)) hS ?_
    refine drwp_take rfl (guard_none rfl) rfl rfl (fun w_ hS_ => (ex_move rfl rfl)) hS ?_
    refine bool_cases (!t1516) (fun hg1519 => ?_) (fun hg1519 => ?_)
    · skip
      refine drwp_off rfl (guard_off rfl rfl rfl hg1519) rfl rfl hS ?_
      refine drwp_off rfl (guard_off rfl rfl rfl hg1519) rfl rfl hS ?_
      refine drwp_off rfl (guard_off rfl rfl rfl hg1519) rfl rfl hS ?_
      refine drwp_off rfl (guard_off rfl rfl rfl hg1519) rfl rfl hS ?_
      refine drwp_off rfl (guard_off rfl rfl rfl hg1519) rfl rfl hS ?_
      refine drwp_off rfl (guard_off rfl rfl rfl hg1519) rfl rfl hS ?_
      refine drwp_off rfl (guard_off rfl rfl rfl hg1519) rfl rfl hS ?_
      refine drwp_off rfl (guard_off rfl rfl rfl hg1519) rfl rfl hS ?_
      refine drwp_off rfl (guard_off rfl rfl rfl hg1519) rfl rfl hS ?_
      refine drwp_off rfl (guard_off rfl rfl rfl hg1519) rfl rfl hS ?_
      refine drwp_off rfl (guard_off rfl rfl rfl hg1519) rfl rfl hS ?_
      have hg1520 : ((!t1516) || ((x0.fKind == 0) != (x0.fMember == 0))) = true := by simp only [hg1519, Bool.and_true, Bool.true_and, Bool.and_false, Bool.false_and, Bool.or_true, Bool.true_or, Bool.or_false, Bool.false_or, Bool.not_true, Bool.not_false, Bool.not_not]
      refine drwp_take (v := .bool ((!t1516) || ((x0.fKind == 0) != (x0.fMember == 0)))) rfl (guard_none rfl) rfl rfl (fun w_ hS_ => (ex_por_t rfl rfl hg1519)) hS ?_
      refine drwp_done ?_
      exact at_meet [(0, .pointer (some ⟨b0, f0, none⟩)), (22, .bool ((!t1516) || ((x0.fKind == 0) != (x0.fMember == 0))))] ⟨rfl, HM⟩ (Sub.cons rfl (Sub.cons rfl Sub.nil))
    · skip
      refine drwp_take rfl (guard_on rfl rfl rfl hg1519) rfl rfl (fun w_ hS_ => (ex_move rfl rfl)) hS ?_
      refine drwp_take rfl (guard_on rfl rfl rfl hg1519) rfl rfl (fun w_ hS_ => (ex_nilCheck rfl rfl)) hS ?_
      refine drwp_take rfl (guard_on rfl rfl rfl hg1519) rfl rfl (fun w_ hS_ => (ex_fieldAddr (off' := f0) rfl rfl Tryz.underlying25 rfl tsz2 rfl)) hS ?_
      refine drwp_take rfl (guard_on rfl rfl rfl hg1519) rfl rfl (fun w_ hS_ => (ex_load1 rfl rfl Tryz.underlying2 rfl ((hS_.at_ hc0) 0 _ rfl))) hS ?_
      refine drwp_take rfl (guard_on rfl rfl rfl hg1519) rfl rfl (fun w_ hS_ => (ex_eql rfl rfl rfl)) hS ?_
      refine drwp_take rfl (guard_on rfl rfl rfl hg1519) rfl rfl (fun w_ hS_ => (ex_move rfl rfl)) hS ?_
      refine drwp_take rfl (guard_on rfl rfl rfl hg1519) rfl rfl (fun w_ hS_ => (ex_nilCheck rfl rfl)) hS ?_
      refine drwp_take rfl (guard_on rfl rfl rfl hg1519) rfl rfl (fun w_ hS_ => (ex_fieldAddr (off' := f0 + 1) rfl rfl Tryz.underlying25 rfl tsz2 rfl)) hS ?_
      refine drwp_take rfl (guard_on rfl rfl rfl hg1519) rfl rfl (fun w_ hS_ => (ex_load1 rfl rfl Tryz.underlying2 rfl ((hS_.at_ hc0) 1 _ rfl))) hS ?_
      refine drwp_take rfl (guard_on rfl rfl rfl hg1519) rfl rfl (fun w_ hS_ => (ex_eql rfl rfl rfl)) hS ?_
      refine drwp_take rfl (guard_on rfl rfl rfl hg1519) rfl rfl (fun w_ hS_ => (ex_bneq rfl rfl rfl Tryz.underlying4)) hS ?_
      refine drwp_take (v := .bool ((!t1516) || ((x0.fKind == 0) != (x0.fMember == 0)))) rfl (guard_none rfl) rfl rfl (fun w_ hS_ => (ex_por_f rfl rfl hg1519 rfl)) hS ?_
      refine drwp_done ?_
      exact at_meet [(0, .pointer (some ⟨b0, f0, none⟩)), (22, .bool ((!t1516) || ((x0.fKind == 0) != (x0.fMember == 0))))] ⟨rfl, HM⟩ (Sub.cons rfl (Sub.cons rfl Sub.nil))
  · rintro _ w1521 ⟨rfl, HM⟩
    refine at_then ?_
    refine run_cond (b := ((!t1516) || ((x0.fKind == 0) != (x0.fMember == 0)))) rfl (fun hb1522 => ?_) (fun hb1522 => ?_)
    · replace H := cond_t hb1522 H
      refine run_seq ?_
      refine run_region rfl ?_
      refine ops_ex rfl (guard_none rfl) rfl rfl (ex_assign rfl rfl) ?_
      refine ops_nil ?_
      refine at_then ?_
      refine run_ret ?_
      refine at_then_ret ?_
      have hR := Option.some.inj H
      subst hR
      exact at_ret1 rfl rfl ⟨_, rfl, rfl, HM⟩
    · replace H := cond_f hb1522 H
      refine run_skip ?_
      refine at_then ?_
      refine run_seq ?_
      refine run_seq ?_
      obtain ⟨t1526, h1527, H⟩ := bind_some H
      refine run_meet (fun ρ_ w_ => ρ_ = [(0, .pointer (some ⟨b0, f0, none⟩)), (35, .bool ((x0.fKind != 0) && (!t1526)))] ∧ Mem w [] w_ []) ?_ ?_
      · skip
        refine run_region rfl ?_
        refine ops_ex rfl (guard_none rfl) rfl rfl (ex_move rfl rfl) ?_
        refine ops_ex rfl (guard_none rfl) rfl rfl (ex_nilCheck rfl rfl) ?_
        refine ops_ex rfl (guard_none rfl) rfl rfl (ex_fieldAddr (off' := f0) rfl rfl Tryz.underlying25 rfl tsz2 rfl) ?_
        refine ops_ex rfl (guard_none rfl) rfl rfl (ex_load1 rfl rfl Tryz.underlying2 rfl ((HM.at_ hc0) 0 _ rfl)) ?_
        refine ops_ex rfl (guard_none rfl) rfl rfl (ex_neq rfl rfl rfl) ?_
        refine ops_ex rfl (guard_none rfl) rfl rfl (ex_move rfl rfl) ?_
        refine bool_cases (x0.fKind != 0) (fun hg1528 => ?_) (fun hg1528 => ?_)
        · skip
          refine ops_ex rfl (guard_on rfl rfl rfl hg1528) rfl rfl (ex_move rfl rfl) ?_
          refine ops_ex rfl (guard_on rfl rfl rfl hg1528) rfl rfl (ex_nilCheck rfl rfl) ?_
          refine ops_ex rfl (guard_on rfl rfl rfl hg1528) rfl rfl (ex_fieldAddr (off' := f0 + 1) rfl rfl Tryz.underlying25 rfl tsz2 rfl) ?_
          refine ops_ex rfl (guard_on rfl rfl rfl hg1528) rfl rfl (ex_load1 rfl rfl Tryz.underlying2 rfl ((HM.at_ hc0) 1 _ rfl)) ?_
          refine ops_does rfl (guard_on rfl rfl rfl hg1528) rfl rfl (does_callk rfl callok37 rfl (spec_l1Key.calls (x0 := x0.fMember) (cond_t hg1528 h1527))) ?_
          rintro _ w1529 ⟨rfl, hn⟩
          replace HM : Mem w [] w1529 [] := HM.call hn
          refine ops_ex rfl (guard_on rfl rfl rfl hg1528) rfl rfl (ex_not rfl rfl) ?_
          refine ops_ex (v := .bool ((x0.fKind != 0) && (!t1526))) rfl (guard_none rfl) rfl rfl (ex_pand_t rfl rfl hg1528 rfl) ?_
          refine ops_nil ?_
          exact at_meet [(0, .pointer (some ⟨b0, f0, none⟩)), (35, .bool ((x0.fKind != 0) && (!t1526)))] ⟨rfl, HM⟩ (Sub.cons rfl (Sub.cons rfl Sub.nil))
        · skip
          refine ops_off rfl (guard_off rfl rfl rfl hg1528) rfl rfl ?_
          refine ops_off rfl (guard_off rfl rfl rfl hg1528) rfl rfl ?_
          refine ops_off rfl (guard_off rfl rfl rfl hg1528) rfl rfl ?_
          refine ops_off rfl (guard_off rfl rfl rfl hg1528) rfl rfl ?_
          refine ops_off rfl (guard_off rfl rfl rfl hg1528) rfl rfl ?_
          refine ops_off rfl (guard_off rfl rfl rfl hg1528) rfl rfl ?_
          have hg1530 : ((x0.fKind != 0) && (!t1526)) = false := by simp only [hg1528, Bool.and_true, Bool.true_and, Bool.and_false, Bool.false_and, Bool.or_true, Bool.true_or, Bool.or_false, Bool.false_or, Bool.not_true, Bool.not_false, Bool.not_not]
          refine ops_ex (v := .bool ((x0.fKind != 0) && (!t1526))) rfl (guard_none rfl) rfl rfl (ex_pand_f rfl rfl hg1528) ?_
          refine ops_nil ?_
          exact at_meet [(0, .pointer (some ⟨b0, f0, none⟩)), (35, .bool ((x0.fKind != 0) && (!t1526)))] ⟨rfl, HM⟩ (Sub.cons rfl (Sub.cons rfl Sub.nil))
      · rintro _ w1531 ⟨rfl, HM⟩
        refine at_then ?_
        refine run_cond (b := ((x0.fKind != 0) && (!t1526))) rfl (fun hb1532 => ?_) (fun hb1532 => ?_)
        · replace H := cond_t hb1532 H
          refine run_seq ?_
          refine run_region rfl ?_
          refine ops_ex rfl (guard_none rfl) rfl rfl (ex_assign rfl rfl) ?_
          refine ops_nil ?_
          refine at_then ?_
          refine run_ret ?_
          refine at_then_ret ?_
          have hR := Option.some.inj H
          subst hR
          exact at_ret1 rfl rfl ⟨_, rfl, rfl, HM⟩
        · replace H := cond_f hb1532 H
          refine run_skip ?_
          refine at_then ?_
          refine run_seq ?_
          refine run_seq ?_
          obtain ⟨t1538, h1539, H⟩ := bind_some H
          obtain ⟨t1540, h1541, H⟩ := bind_some H
          refine run_meet (fun ρ_ w_ => ρ_ = [(0, .pointer (some ⟨b0, f0, none⟩)), (51, .bool ((!t1538) || (!t1540)))] ∧ Mem w [] w_ []) ?_ ?_
          · skip
            refine run_region rfl ?_
            refine ops_ex rfl (guard_none rfl) rfl rfl (ex_move rfl rfl) ?_
            refine ops_ex rfl (guard_none rfl) rfl rfl (ex_nilCheck rfl rfl) ?_
            refine ops_ex rfl (guard_none rfl) rfl rfl (ex_fieldAddr (off' := f0 + 2) rfl rfl Tryz.underlying25 rfl tsz22 rfl) ?_
            refine ops_ex rfl (guard_none rfl) rfl rfl (ex_load1 rfl rfl Tryz.underlying22 rfl ((HM.at_ hc0) 2 _ rfl)) ?_
            refine ops_ex rfl (guard_none rfl) rfl rfl (ex_len (d := kRef) (xs := x0.fIns) rfl rfl Tryz.underlying22 hp0_0) ?_
            refine ops_does rfl (guard_none rfl) rfl rfl (does_callk rfl callok36 rfl (spec_l1In.calls (x0 := (x0.fIns.length : Int)) (x1 := 1) (x2 := 4) h1539)) ?_
            rintro _ w1542 ⟨rfl, hn⟩
            replace HM : Mem w [] w1542 [] := HM.call hn
            refine ops_ex rfl (guard_none rfl) rfl rfl (ex_not rfl rfl) ?_
            refine ops_ex rfl (guard_none rfl) rfl rfl (ex_move rfl rfl) ?_
            refine bool_cases (!t1538) (fun hg1543 => ?_) (fun hg1543 => ?_)
            · skip
              refine ops_off rfl (guard_off rfl rfl rfl hg1543) rfl rfl ?_
              refine ops_off rfl (guard_off rfl rfl rfl hg1543) rfl rfl ?_
              refine ops_off rfl (guard_off rfl rfl rfl hg1543) rfl rfl ?_
              refine ops_off rfl (guard_off rfl rfl rfl hg1543) rfl rfl ?_
              refine ops_off rfl (guard_off rfl rfl rfl hg1543) rfl rfl ?_
              refine ops_off rfl (guard_off rfl rfl rfl hg1543) rfl rfl ?_
              refine ops_off rfl (guard_off rfl rfl rfl hg1543) rfl rfl ?_
              have hg1544 : ((!t1538) || (!t1540)) = true := by simp only [hg1543, Bool.and_true, Bool.true_and, Bool.and_false, Bool.false_and, Bool.or_true, Bool.true_or, Bool.or_false, Bool.false_or, Bool.not_true, Bool.not_false, Bool.not_not]
              refine ops_ex (v := .bool ((!t1538) || (!t1540))) rfl (guard_none rfl) rfl rfl (ex_por_t rfl rfl hg1543) ?_
              refine ops_nil ?_
              exact at_meet [(0, .pointer (some ⟨b0, f0, none⟩)), (51, .bool ((!t1538) || (!t1540)))] ⟨rfl, HM⟩ (Sub.cons rfl (Sub.cons rfl Sub.nil))
            · skip
              refine ops_ex rfl (guard_on rfl rfl rfl hg1543) rfl rfl (ex_move rfl rfl) ?_
              refine ops_ex rfl (guard_on rfl rfl rfl hg1543) rfl rfl (ex_nilCheck rfl rfl) ?_
              refine ops_ex rfl (guard_on rfl rfl rfl hg1543) rfl rfl (ex_fieldAddr (off' := f0 + 3) rfl rfl Tryz.underlying25 rfl tsz23 rfl) ?_
              refine ops_ex rfl (guard_on rfl rfl rfl hg1543) rfl rfl (ex_load1 rfl rfl Tryz.underlying23 rfl ((HM.at_ hc0) 3 _ rfl)) ?_
              refine ops_ex rfl (guard_on rfl rfl rfl hg1543) rfl rfl (ex_len (d := kOut) (xs := x0.fOuts) rfl rfl Tryz.underlying23 hp0_1) ?_
              refine ops_does rfl (guard_on rfl rfl rfl hg1543) rfl rfl (does_callk rfl callok36 rfl (spec_l1In.calls (x0 := (x0.fOuts.length : Int)) (x1 := 1) (x2 := 4) (cond_t (not_mk hg1543) h1541))) ?_
              rintro _ w1545 ⟨rfl, hn⟩
              replace HM : Mem w [] w1545 [] := HM.call hn
              refine ops_ex rfl (guard_on rfl rfl rfl hg1543) rfl rfl (ex_not rfl rfl) ?_
              refine ops_ex (v := .bool ((!t1538) || (!t1540))) rfl (guard_none rfl) rfl rfl (ex_por_f rfl rfl hg1543 rfl) ?_
              refine ops_nil ?_
              exact at_meet [(0, .pointer (some ⟨b0, f0, none⟩)), (51, .bool ((!t1538) || (!t1540)))] ⟨rfl, HM⟩ (Sub.cons rfl (Sub.cons rfl Sub.nil))
          · rintro _ w1546 ⟨rfl, HM⟩
            refine at_then ?_
            refine run_cond (b := ((!t1538) || (!t1540))) rfl (fun hb1547 => ?_) (fun hb1547 => ?_)
            · replace H := cond_t hb1547 H
              refine run_seq ?_
              refine run_region rfl ?_
              refine ops_ex rfl (guard_none rfl) rfl rfl (ex_assign rfl rfl) ?_
              refine ops_nil ?_
              refine at_then ?_
              refine run_ret ?_
              refine at_then_ret ?_
              have hR := Option.some.inj H
              subst hR
              exact at_ret1 rfl rfl ⟨_, rfl, rfl, HM⟩
            · replace H := cond_f hb1547 H
              refine run_skip ?_
              refine at_then ?_
              obtain ⟨o1609, ho1610, H⟩ := bind_some H
              refine run_mid (fun ρ_ w_ => Sum.inr () = o1609 ∧ ρ_ = [(0, .pointer (some ⟨b0, f0, none⟩))] ∧ Mem w [] w_ []) ?_ ?_
              · skip
                refine run_seq ?_
                refine run_region rfl ?_
                refine ops_ex rfl (guard_none rfl) rfl rfl (ex_assign rfl rfl) ?_
                refine ops_nil ?_
                refine at_then ?_
                refine run_block ?_
                refine run_loop (fun k_ ρ_ w_ => ∃ a1631 : Int, spec_l3Fault.l0 x0 k_ a1631 = some o1609 ∧ ρ_ = [(0, .pointer (some ⟨b0, f0, none⟩)), (3, .int .i64 a1631)] ∧ Mem w [] w_ []) k (ρ1 := [(0, .pointer (some ⟨b0, f0, none⟩)), (3, .int .i64 0)]) ⟨_, ho1610, rfl, HM⟩ (Sub.cons rfl (Sub.cons rfl Sub.nil)) ?_
                clear HM ho1610
                rintro k1652 _ w1653 ⟨a1631, ho1610, rfl, HM⟩
                obtain _ | k1652 := k1652
                · exact nomatch ((spec_l3Fault.l0_z x0 a1631).symm.trans ho1610)
                replace ho1610 := (spec_l3Fault.l0_s x0 k1652 a1631).symm.trans ho1610
                refine run_seq ?_
                refine run_seq ?_
                refine run_region rfl ?_
                refine ops_ex rfl (guard_none rfl) rfl rfl (ex_move rfl rfl) ?_
                refine ops_ex rfl (guard_none rfl) rfl rfl (ex_move rfl rfl) ?_
                refine ops_ex rfl (guard_none rfl) rfl rfl (ex_nilCheck rfl rfl) ?_
                refine ops_ex rfl (guard_none rfl) rfl rfl (ex_fieldAddr (off' := f0 + 2) rfl rfl Tryz.underlying25 rfl tsz22 rfl) ?_
                refine ops_ex rfl (guard_none rfl) rfl rfl (ex_load1 rfl rfl Tryz.underlying22 rfl ((HM.at_ hc0) 2 _ rfl)) ?_
                refine ops_ex rfl (guard_none rfl) rfl rfl (ex_len (d := kRef) (xs := x0.fIns) rfl rfl Tryz.underlying22 hp0_0) ?_
                refine ops_ex rfl (guard_none rfl) rfl rfl (ex_lss rfl rfl rfl) ?_
                refine ops_nil ?_
                refine at_then ?_
                refine run_cond (b := (decide (a1631 < (x0.fIns.length : Int)))) rfl (fun hb1654 => ?_) (fun hb1654 => ?_)
                · replace ho1610 := cond_t hb1654 ho1610
                  refine run_skip ?_
                  refine at_then ?_
                  refine run_seq ?_
                  refine run_block ?_
                  refine run_seq ?_
                  refine run_seq ?_
                  obtain ⟨e1660, ho1610⟩ := chk_some ho1610
                  obtain ⟨t1662, h1663, ho1610⟩ := bind_some ho1610
                  refine run_region rfl ?_
                  refine ops_ex rfl (guard_none rfl) rfl rfl (ex_move rfl rfl) ?_
                  refine ops_ex rfl (guard_none rfl) rfl rfl (ex_nilCheck rfl rfl) ?_
                  refine ops_ex rfl (guard_none rfl) rfl rfl (ex_fieldAddr (off' := f0 + 2) rfl rfl Tryz.underlying25 rfl tsz22 rfl) ?_
                  refine ops_ex rfl (guard_none rfl) rfl rfl (ex_load1 rfl rfl Tryz.underlying22 rfl ((HM.at_ hc0) 2 _ rfl)) ?_
                  refine ops_ex rfl (guard_none rfl) rfl rfl (ex_move rfl rfl) ?_
                  have hc1661 : CellsAt _ (sb p0_0) (so p0_0 + (a1631).toNat * 2) [(.int .i64 ((gt x0.fIns a1631).fTx)), (.int .i64 ((gt x0.fIns a1631).fAt))] := rd_plain hp0_0 e1660
                  refine ops_ex rfl (guard_none rfl) rfl rfl (ex_indexAddr (d := kRef) rfl rfl rfl Tryz.underlying22 tsz60 hp0_0 (idx_lo e1660) (idx_hi e1660)) ?_
                  refine ops_ex rfl (guard_none rfl) rfl rfl (ex_loadN (cs := [(.int .i64 ((gt x0.fIns a1631).fTx)), (.int .i64 ((gt x0.fIns a1631).fAt))]) rfl rfl Tryz.underlying60 rfl tsz60 rfl ((HM.at_ hc1661).sub 0 2 rfl)) ?_
                  refine ops_does rfl (guard_none rfl) rfl rfl (does_callk rfl callok38 rfl (spec_l3Ref.calls (x0 := (gt x0.fIns a1631)) h1663)) ?_
                  rintro _ w1664 ⟨rfl, hn⟩
                  replace HM : Mem w [] w1664 [] := HM.call hn
                  refine ops_ex rfl (guard_none rfl) rfl rfl (ex_not rfl rfl) ?_
                  refine ops_nil ?_
                  refine at_then ?_
                  refine run_cond (b := !t1662) rfl (fun hb1665 => ?_) (fun hb1665 => ?_)
                  · replace ho1610 := cond_t hb1665 ho1610
                    refine run_seq ?_
                    refine run_region rfl ?_
                    refine ops_ex rfl (guard_none rfl) rfl rfl (ex_assign rfl rfl) ?_
                    refine ops_nil ?_
                    refine at_then ?_
                    refine run_ret ?_
                    refine at_then_ret ?_
                    refine at_block_ret ?_
                    refine at_then_ret ?_
                    refine at_then_ret ?_
                    refine at_block_ret ?_
                    refine at_then_ret ?_
                    have hR := Option.some.inj ho1610
                    subst hR
                    have hT := thn_inl H
                    have hR := Option.some.inj hT
                    subst hR
                    exact at_ret1 rfl rfl ⟨_, rfl, rfl, HM⟩
                  · replace ho1610 := cond_f hb1665 ho1610
                    refine run_skip ?_
                    refine at_then ?_
                    refine run_seq ?_
                    obtain ⟨e1666, ho1610⟩ := chk_some ho1610
                    obtain ⟨e1670, ho1610⟩ := chk_some ho1610
                    obtain ⟨t1672, h1673, ho1610⟩ := bind_some ho1610
                    refine run_drawf (fun w_ => Mem w [] w_ []) [(0, true), (1, true), (2, true), (3, true), (4, true), (5, true), (6, true), (7, true), (8, true), (9, true), (10, true), (11, true), (12, true), (13, false)] mixed rfl rfl (by kernel_rfl) ?_
                    replace HM := HM.grow (fr_drew _)
                    have hS := Mem.suf (M := []) HM
                    refine drwp_take rfl (guard_none rfl) rfl rfl (fun w_ hS_ => (ex_move rfl rfl)) hS ?_
                    refine drwp_take rfl (guard_none rfl) rfl rfl (fun w_ hS_ => (ex_nilCheck rfl rfl)) hS ?_
                    refine drwp_take rfl (guard_none rfl) rfl rfl (fun w_ hS_ => (ex_fieldAddr (off' := f0 + 2) rfl rfl Tryz.underlying25 rfl tsz22 rfl)) hS ?_
                    refine drwp_take rfl (guard_none rfl) rfl rfl (fun w_ hS_ => (ex_load1 rfl rfl Tryz.underlying22 rfl ((hS_.at_ hc0) 2 _ rfl))) hS ?_
                    refine drwp_take rfl (guard_none rfl) rfl rfl (fun w_ hS_ => (ex_move rfl rfl)) hS ?_
                    refine drwp_takeE rfl (guard_none rfl) rfl rfl (ex_cutH kRef rfl rfl rfl Tryz.underlying22 tsz60 hp0_0 e1666) hS ?_
                    rintro u1667 hr1669
                    refine drwp_take rfl (guard_none rfl) rfl rfl (fun w_ hS_ => (ex_move rfl rfl)) hS ?_
                    refine drwp_take rfl (guard_none rfl) rfl rfl (fun w_ hS_ => (ex_nilCheck rfl rfl)) hS ?_
                    refine drwp_take rfl (guard_none rfl) rfl rfl (fun w_ hS_ => (ex_fieldAddr (off' := f0 + 2) rfl rfl Tryz.underlying25 rfl tsz22 rfl)) hS ?_
                    refine drwp_take rfl (guard_none rfl) rfl rfl (fun w_ hS_ => (ex_load1 rfl rfl Tryz.underlying22 rfl ((hS_.at_ hc0) 2 _ rfl))) hS ?_
                    refine drwp_take rfl (guard_none rfl) rfl rfl (fun w_ hS_ => (ex_move rfl rfl)) hS ?_
                    have hc1671 : CellsAt _ (sb p0_0) (so p0_0 + (a1631).toNat * 2) [(.int .i64 ((gt x0.fIns a1631).fTx)), (.int .i64 ((gt x0.fIns a1631).fAt))] := rd_plain hp0_0 e1670
                    refine drwp_take rfl (guard_none rfl) rfl rfl (fun w_ hS_ => (ex_indexAddr (d := kRef) rfl rfl rfl Tryz.underlying22 tsz60 hp0_0 (idx_lo e1670) (idx_hi e1670))) hS ?_
                    refine drwp_take rfl (guard_none rfl) rfl rfl (fun w_ hS_ => (ex_loadN (cs := [(.int .i64 ((gt x0.fIns a1631).fTx)), (.int .i64 ((gt x0.fIns a1631).fAt))]) rfl rfl Tryz.underlying60 rfl tsz60 rfl ((hS_.at_ hc1671).sub 0 2 rfl))) hS ?_
                    refine drwp_one rfl (guard_none rfl) rfl rfl (does_callk rfl callok39 rfl (spec_l3Among.calls (x0 := x0.fIns.take (a1631).toNat) (x1 := (gt x0.fIns a1631)) (HM.rd hr1669) h1673)) ?_
                    rintro _ w1674 ⟨rfl, hn⟩
                    replace HM : Mem w [] w1674 [] := HM.call hn
                    refine ⟨Mem.suf (M := []) HM, ?_⟩
                    have hS := Mem.suf (M := []) HM
                    refine drwp_done ?_
                    refine at_then ?_
                    refine run_cond (b := t1672) rfl (fun hb1675 => ?_) (fun hb1675 => ?_)
                    · replace ho1610 := cond_t hb1675 ho1610
                      refine run_seq ?_
                      refine run_region rfl ?_
                      refine ops_ex rfl (guard_none rfl) rfl rfl (ex_assign rfl rfl) ?_
                      refine ops_nil ?_
                      refine at_then ?_
                      refine run_ret ?_
                      refine at_block_ret ?_
                      refine at_then_ret ?_
                      refine at_then_ret ?_
                      refine at_block_ret ?_
                      refine at_then_ret ?_
                      have hR := Option.some.inj ho1610
                      subst hR
                      have hT := thn_inl H
                      have hR := Option.some.inj hT
                      subst hR
                      exact at_ret1 rfl rfl ⟨_, rfl, rfl, HM⟩
                    · replace ho1610 := cond_f hb1675 ho1610
                      refine run_skip ?_
                      refine at_block ?_
                      refine at_then ?_
                      refine run_region rfl ?_
                      refine ops_ex rfl (guard_none rfl) rfl rfl (ex_move rfl rfl) ?_
                      refine ops_ex rfl (guard_none rfl) rfl rfl (ex_add rfl rfl rfl) ?_
                      refine ops_ex rfl (guard_none rfl) rfl rfl (ex_assign rfl rfl) ?_
                      refine ops_nil ?_
                      exact at_again k1652 (ρ1 := [(0, .pointer (some ⟨b0, f0, none⟩)), (3, .int .i64 (wrap64 (a1631 + 1)))]) (Nat.lt_succ_self _) ⟨_, ho1610, rfl, HM⟩ (Sub.cons rfl (Sub.cons rfl Sub.nil))
                · replace ho1610 := cond_f hb1654 ho1610
                  refine run_exit ?_
                  refine at_then_exit ?_
                  refine at_then_exit ?_
                  refine at_block_exit ?_
                  exact at_mid (ρ' := [(0, .pointer (some ⟨b0, f0, none⟩))]) ⟨(Option.some.inj ho1610), rfl, HM⟩ (Sub.cons rfl Sub.nil)
              · rintro _ w1676 ⟨rfl, rfl, HM⟩
                replace H := (thn_inr H)
                refine run_seq ?_
                obtain ⟨t1677, h1678, H⟩ := bind_some H
                refine run_region rfl ?_
                refine ops_ex rfl (guard_none rfl) rfl rfl (ex_move rfl rfl) ?_
                refine ops_does rfl (guard_none rfl) rfl rfl (does_callk rfl callok40 rfl (spec_l3Outs.calls (x0 := x0) (HM.at_ hc0) (HM.rd hp0_0) (HM.rd hp0_1) h1678)) ?_
                rintro _ w1679 ⟨rfl, hn⟩
                replace HM : Mem w [] w1679 [] := HM.call hn
                refine ops_ex rfl (guard_none rfl) rfl rfl (ex_assign rfl rfl) ?_
                refine ops_nil ?_
                refine at_then ?_
                refine run_ret ?_
                have hR := Option.some.inj H
                subst hR
                exact at_ret1 rfl rfl ⟨_, rfl, rfl, HM⟩

def spec_l2Digits.f : Nat → Int → Option ByteArray
  | 0, _ => none
  | k + 1, x0 => (bif (decide (x0 < 10)) then some (strOfNums ([IntKind.u8.wrap (wrap64 (48 + x0))] : List Int)) else (chk ((10 : Int) != 0) (chk ((10 : Int) != 0) ((spec_l2Digits.f k (IntKind.i64.wrap (Int.tdiv x0 (10 : Int)))).bind fun t1714 => (chk (leB (t1714.size + (strOfNums ([IntKind.u8.wrap (wrap64 (48 + (Int.tmod x0 (10 : Int))))] : List Int)).size) 9223372036854775807) (some (t1714 ++ (strOfNums ([IntKind.u8.wrap (wrap64 (48 + (Int.tmod x0 (10 : Int))))] : List Int)))))))))
theorem spec_l2Digits.f_s (k : Nat) (x0 : Int) : spec_l2Digits.f (k + 1) x0 = (bif (decide (x0 < 10)) then some (strOfNums ([IntKind.u8.wrap (wrap64 (48 + x0))] : List Int)) else (chk ((10 : Int) != 0) (chk ((10 : Int) != 0) ((spec_l2Digits.f k (IntKind.i64.wrap (Int.tdiv x0 (10 : Int)))).bind fun t1714 => (chk (leB (t1714.size + (strOfNums ([IntKind.u8.wrap (wrap64 (48 + (Int.tmod x0 (10 : Int))))] : List Int)).size) 9223372036854775807) (some (t1714 ++ (strOfNums ([IntKind.u8.wrap (wrap64 (48 + (Int.tmod x0 (10 : Int))))] : List Int))))))))) := rfl
theorem spec_l2Digits.calls_all : ∀ (k : Nat) (x0 : Int), ∀ {w : World} {r : ByteArray} (H : spec_l2Digits.f k x0 = some r),
    Calls Tryz.prog 41 ([.int .i64 x0] : List Value).toArray w (fun e w_ => ∃ v, e = .returned v ∧ v = (.string r) ∧ Mem w [] w_ []) := by
  intro k
  induction k with
  | zero => intro x0  w  r H; exact nomatch H
  | succ k ih =>
  intro x0  w  r H
  have HM := Mem.start w
  refine calls_run (N := 20) Tryz.func41 rfl rfl rfl rfl ?_
  rw [spec_l2Digits.f_s] at H
  refine run_seq ?_
  refine run_region rfl ?_
  refine ops_ex rfl (guard_none rfl) rfl rfl (ex_assign rfl rfl) ?_
  refine ops_nil ?_
  refine at_then ?_
  refine run_seq ?_
  refine run_seq ?_
  refine run_region rfl ?_
  refine ops_ex rfl (guard_none rfl) rfl rfl (ex_move rfl rfl) ?_
  refine ops_ex rfl (guard_none rfl) rfl rfl (ex_lss rfl rfl rfl) ?_
  refine ops_nil ?_
  refine at_then ?_
  refine run_cond (b := (decide (x0 < 10))) rfl (fun hb1707 => ?_) (fun hb1707 => ?_)
  · replace H := cond_t hb1707 H
    refine run_seq ?_
    refine run_region rfl ?_
    refine ops_ex rfl (guard_none rfl) rfl rfl (ex_move rfl rfl) ?_
    refine ops_ex rfl (guard_none rfl) rfl rfl (ex_add rfl rfl rfl) ?_
    refine ops_ex rfl (guard_none rfl) rfl rfl (ex_conv rfl rfl (by rw [Tryz.underlying2]; rfl) Tryz.underlying5) ?_
    refine ops_does rfl (guard_none rfl) rfl rfl (does_lit (e := 5) (cs := [.int .u8 (IntKind.u8.wrap (wrap64 (48 + x0)))]) (xs := ([IntKind.u8.wrap (wrap64 (48 + x0))] : List Int)) kU8 rfl rfl (fun _ => by kernel_rfl) rfl rfl (fun _ _ h => by have h' : _ = [] := h; subst h'; exact (Elems.cons (d := kU8) (x := IntKind.u8.wrap (wrap64 (48 + x0))) (f := []) ⟨rfl, rfl⟩ .nil)) HM.emp) ?_
    rintro v1708 w1711 HM
    refine ops_ex rfl (guard_none rfl) rfl rfl (ex_bstr (e := 5) rfl rfl Tryz.underlying72 Tryz.underlying5 Tryz.underlying9 (HM.own_rd 0 rfl)) ?_
    refine ops_ex rfl (guard_none rfl) rfl rfl (ex_assign rfl rfl) ?_
    refine ops_nil ?_
    refine at_then ?_
    refine run_ret ?_
    refine at_then_ret ?_
    replace HM := (HM.front 0 rfl rfl).drop
    have hR := Option.some.inj H
    subst hR
    exact at_ret1 rfl rfl ⟨_, rfl, rfl, HM⟩
  · replace H := cond_f hb1707 H
    refine run_skip ?_
    refine at_then ?_
    refine run_seq ?_
    obtain ⟨e1712, H⟩ := chk_some H
    obtain ⟨e1713, H⟩ := chk_some H
    obtain ⟨t1714, h1715, H⟩ := bind_some H
    obtain ⟨e1719, H⟩ := chk_some H
    refine run_meet (fun ρ_ w_ => ρ_ = [(2, .string (t1714 ++ (strOfNums ([IntKind.u8.wrap (wrap64 (48 + (Int.tmod x0 (10 : Int))))] : List Int))))] ∧ Mem w [] w_ []) ?_ ?_
    · skip
      refine run_draw (fun w_ => Mem w [] w_ []) mixed rfl (l := #[false, false, false, false, false, false, false, false, false, false, false]) rfl ?_
      replace HM := HM.grow (fr_drew _)
      have hS := Mem.suf (M := []) HM
      refine drw_take (i := 0) (l' := #[true, false, false, false, false, false, false, false, false, false, false]) rfl (guard_none rfl) rfl rfl (by kernel_rfl) (fun w_ hS_ => (ex_move rfl rfl)) hS ?_
      refine drw_take (i := 1) (l' := #[true, true, false, false, false, false, false, false, false, false, false]) rfl (guard_none rfl) rfl rfl (by kernel_rfl) (fun w_ hS_ => (ex_quok rfl rfl rfl e1712)) hS ?_
      refine drw_take (i := 3) (l' := #[true, true, false, true, false, false, false, false, false, false, false]) rfl (guard_none rfl) rfl rfl (by kernel_rfl) (fun w_ hS_ => (ex_move rfl rfl)) hS ?_
      refine drw_take (i := 4) (l' := #[true, true, false, true, true, false, false, false, false, false, false]) rfl (guard_none rfl) rfl rfl (by kernel_rfl) (fun w_ hS_ => (ex_remk rfl rfl rfl e1713)) hS ?_
      refine drw_take (i := 5) (l' := #[true, true, false, true, true, true, false, false, false, false, false]) rfl (guard_none rfl) rfl rfl (by kernel_rfl) (fun w_ hS_ => (ex_add rfl rfl rfl)) hS ?_
      refine drw_take (i := 6) (l' := #[true, true, false, true, true, true, true, false, false, false, false]) rfl (guard_none rfl) rfl rfl (by kernel_rfl) (fun w_ hS_ => (ex_conv rfl rfl (by rw [Tryz.underlying2]; rfl) Tryz.underlying5)) hS ?_
      refine drw_any [2, 7] (by kernel_rfl) rfl (.cons ?_ (.cons ?_ .nil))
      · skip
        refine br_does (l' := #[true, true, true, true, true, true, true, false, false, false, false]) rfl (guard_none rfl) rfl rfl (by kernel_rfl) (does_callk rfl callok41 rfl (ih (IntKind.i64.wrap (Int.tdiv x0 (10 : Int))) h1715)) ?_
        rintro _ w1720 ⟨rfl, hn⟩
        replace HM : Mem w [] w1720 [] := HM.call hn
        refine ⟨Mem.suf (M := []) HM, ?_⟩
        have hS := Mem.suf (M := []) HM
        refine drw_any [7] (by kernel_rfl) rfl (.cons ?_ .nil)
        refine br_does (l' := #[true, true, true, true, true, true, true, true, false, false, false]) rfl (guard_none rfl) rfl rfl (by kernel_rfl) (does_lit (e := 5) (cs := [.int .u8 (IntKind.u8.wrap (wrap64 (48 + (Int.tmod x0 (10 : Int)))))]) (xs := ([IntKind.u8.wrap (wrap64 (48 + (Int.tmod x0 (10 : Int))))] : List Int)) kU8 rfl rfl (fun _ => by kernel_rfl) rfl rfl (fun _ _ h => by have h' : _ = [] := h; subst h'; exact (Elems.cons (d := kU8) (x := IntKind.u8.wrap (wrap64 (48 + (Int.tmod x0 (10 : Int))))) (f := []) ⟨rfl, rfl⟩ .nil)) HM.emp) ?_
        rintro v1716 w1721 HM
        refine ⟨Mem.suf (M := [own kU8 5 v1716 ([IntKind.u8.wrap (wrap64 (48 + (Int.tmod x0 (10 : Int))))] : List Int)]) HM, ?_⟩
        have hS := Mem.suf (M := [own kU8 5 v1716 ([IntKind.u8.wrap (wrap64 (48 + (Int.tmod x0 (10 : Int))))] : List Int)]) HM
        refine drw_any [8] (by kernel_rfl) rfl (.cons ?_ .nil)
        refine br_does (l' := #[true, true, true, true, true, true, true, true, true, false, false]) rfl (guard_none rfl) rfl rfl (by kernel_rfl) (does_ex' (ex_bstr (e := 5) rfl rfl Tryz.underlying72 Tryz.underlying5 Tryz.underlying9 (HM.own_rd 0 rfl))) ?_
        rintro _ _ ⟨rfl, rfl⟩
        refine ⟨hS, ?_⟩
        refine drw_take (i := 9) (l' := #[true, true, true, true, true, true, true, true, true, true, false]) rfl (guard_none rfl) rfl rfl (by kernel_rfl) (fun w_ hS_ => (ex_sadd rfl rfl rfl (leB_le e1719))) hS ?_
        refine drw_take (i := 10) (l' := #[true, true, true, true, true, true, true, true, true, true, true]) rfl (guard_none rfl) rfl rfl (by kernel_rfl) (fun w_ hS_ => (ex_assign rfl rfl)) hS ?_
        refine drw_done (by kernel_rfl) ?_
        replace HM := (HM.front 0 rfl rfl).drop
        exact at_meet [(2, .string (t1714 ++ (strOfNums ([IntKind.u8.wrap (wrap64 (48 + (Int.tmod x0 (10 : Int))))] : List Int))))] ⟨rfl, HM⟩ (Sub.cons rfl Sub.nil)
      · skip
        refine br_does (l' := #[true, true, false, true, true, true, true, true, false, false, false]) rfl (guard_none rfl) rfl rfl (by kernel_rfl) (does_lit (e := 5) (cs := [.int .u8 (IntKind.u8.wrap (wrap64 (48 + (Int.tmod x0 (10 : Int)))))]) (xs := ([IntKind.u8.wrap (wrap64 (48 + (Int.tmod x0 (10 : Int))))] : List Int)) kU8 rfl rfl (fun _ => by kernel_rfl) rfl rfl (fun _ _ h => by have h' : _ = [] := h; subst h'; exact (Elems.cons (d := kU8) (x := IntKind.u8.wrap (wrap64 (48 + (Int.tmod x0 (10 : Int))))) (f := []) ⟨rfl, rfl⟩ .nil)) HM.emp) ?_
        rintro v1716 w1722 HM
        refine ⟨Mem.suf (M := [own kU8 5 v1716 ([IntKind.u8.wrap (wrap64 (48 + (Int.tmod x0 (10 : Int))))] : List Int)]) HM, ?_⟩
        have hS := Mem.suf (M := [own kU8 5 v1716 ([IntKind.u8.wrap (wrap64 (48 + (Int.tmod x0 (10 : Int))))] : List Int)]) HM
        refine drw_any [2, 8] (by kernel_rfl) rfl (.cons ?_ (.cons ?_ .nil))
        · skip
          refine br_does (l' := #[true, true, true, true, true, true, true, true, false, false, false]) rfl (guard_none rfl) rfl rfl (by kernel_rfl) (does_callk rfl callok41 rfl (ih (IntKind.i64.wrap (Int.tdiv x0 (10 : Int))) h1715)) ?_
          rintro _ w1723 ⟨rfl, hn⟩
          replace HM : Mem w [] w1723 [own kU8 5 v1716 ([IntKind.u8.wrap (wrap64 (48 + (Int.tmod x0 (10 : Int))))] : List Int)] := HM.call hn
          refine ⟨Mem.suf (M := [own kU8 5 v1716 ([IntKind.u8.wrap (wrap64 (48 + (Int.tmod x0 (10 : Int))))] : List Int)]) HM, ?_⟩
          have hS := Mem.suf (M := [own kU8 5 v1716 ([IntKind.u8.wrap (wrap64 (48 + (Int.tmod x0 (10 : Int))))] : List Int)]) HM
          refine drw_any [8] (by kernel_rfl) rfl (.cons ?_ .nil)
          refine br_does (l' := #[true, true, true, true, true, true, true, true, true, false, false]) rfl (guard_none rfl) rfl rfl (by kernel_rfl) (does_ex' (ex_bstr (e := 5) rfl rfl Tryz.underlying72 Tryz.underlying5 Tryz.underlying9 (HM.own_rd 0 rfl))) ?_
          rintro _ _ ⟨rfl, rfl⟩
          refine ⟨hS, ?_⟩
          refine drw_take (i := 9) (l' := #[true, true, true, true, true, true, true, true, true, true, false]) rfl (guard_none rfl) rfl rfl (by kernel_rfl) (fun w_ hS_ => (ex_sadd rfl rfl rfl (leB_le e1719))) hS ?_
          refine drw_take (i := 10) (l' := #[true, true, true, true, true, true, true, true, true, true, true]) rfl (guard_none rfl) rfl rfl (by kernel_rfl) (fun w_ hS_ => (ex_assign rfl rfl)) hS ?_
          refine drw_done (by kernel_rfl) ?_
          replace HM := (HM.front 0 rfl rfl).drop
          exact at_meet [(2, .string (t1714 ++ (strOfNums ([IntKind.u8.wrap (wrap64 (48 + (Int.tmod x0 (10 : Int))))] : List Int))))] ⟨rfl, HM⟩ (Sub.cons rfl Sub.nil)
        · skip
          refine br_does (l' := #[true, true, false, true, true, true, true, true, true, false, false]) rfl (guard_none rfl) rfl rfl (by kernel_rfl) (does_ex' (ex_bstr (e := 5) rfl rfl Tryz.underlying72 Tryz.underlying5 Tryz.underlying9 (HM.own_rd 0 rfl))) ?_
          rintro _ _ ⟨rfl, rfl⟩
          refine ⟨hS, ?_⟩
          refine drw_any [2] (by kernel_rfl) rfl (.cons ?_ .nil)
          refine br_does (l' := #[true, true, true, true, true, true, true, true, true, false, false]) rfl (guard_none rfl) rfl rfl (by kernel_rfl) (does_callk rfl callok41 rfl (ih (IntKind.i64.wrap (Int.tdiv x0 (10 : Int))) h1715)) ?_
          rintro _ w1724 ⟨rfl, hn⟩
          replace HM : Mem w [] w1724 [own kU8 5 v1716 ([IntKind.u8.wrap (wrap64 (48 + (Int.tmod x0 (10 : Int))))] : List Int)] := HM.call hn
          refine ⟨Mem.suf (M := [own kU8 5 v1716 ([IntKind.u8.wrap (wrap64 (48 + (Int.tmod x0 (10 : Int))))] : List Int)]) HM, ?_⟩
          have hS := Mem.suf (M := [own kU8 5 v1716 ([IntKind.u8.wrap (wrap64 (48 + (Int.tmod x0 (10 : Int))))] : List Int)]) HM
          refine drw_take (i := 9) (l' := #[true, true, true, true, true, true, true, true, true, true, false]) rfl (guard_none rfl) rfl rfl (by kernel_rfl) (fun w_ hS_ => (ex_sadd rfl rfl rfl (leB_le e1719))) hS ?_
          refine drw_take (i := 10) (l' := #[true, true, true, true, true, true, true, true, true, true, true]) rfl (guard_none rfl) rfl rfl (by kernel_rfl) (fun w_ hS_ => (ex_assign rfl rfl)) hS ?_
          refine drw_done (by kernel_rfl) ?_
          replace HM := (HM.front 0 rfl rfl).drop
          exact at_meet [(2, .string (t1714 ++ (strOfNums ([IntKind.u8.wrap (wrap64 (48 + (Int.tmod x0 (10 : Int))))] : List Int))))] ⟨rfl, HM⟩ (Sub.cons rfl Sub.nil)
    · rintro _ w1725 ⟨rfl, HM⟩
      refine at_then ?_
      refine run_ret ?_
      have hR := Option.some.inj H
      subst hR
      exact at_ret1 rfl rfl ⟨_, rfl, rfl, HM⟩
theorem spec_l2Digits.calls {k : Nat} {x0 : Int}  {w : World}  {r : ByteArray} (H : spec_l2Digits.f k x0 = some r) :
    Calls Tryz.prog 41 ([.int .i64 x0] : List Value).toArray w (fun e w_ => ∃ v, e = .returned v ∧ v = (.string r) ∧ Mem w [] w_ []) := spec_l2Digits.calls_all k x0  H

def spec_l2Text.l0 (x0 : Rule) : Nat → ByteArray → Int → Option ByteArray
  | 0, _, _ => none
  | k + 1, a1891, a1892 => (bif (decide (a1892 < (x0.fKeys.length : Int))) then (chk (leB (a1891.size + (⟨#[44]⟩ : ByteArray).size) 9223372036854775807) (chk (idxOk a1892 x0.fKeys.length) ((spec_l2Digits.f k (gt x0.fKeys a1892)).bind fun t1906 => (chk (leB ((a1891 ++ (⟨#[44]⟩ : ByteArray)).size + t1906.size) 9223372036854775807) (spec_l2Text.l0 x0 k ((a1891 ++ (⟨#[44]⟩ : ByteArray)) ++ t1906) (wrap64 (a1892 + 1))))))) else some a1891)
theorem spec_l2Text.l0_z (x0 : Rule) (a1891 : ByteArray) (a1892 : Int) : spec_l2Text.l0 x0 0 a1891 a1892 = none := rfl
theorem spec_l2Text.l0_s (x0 : Rule) (k : Nat) (a1891 : ByteArray) (a1892 : Int) : spec_l2Text.l0 x0 (k + 1) a1891 a1892 = (bif (decide (a1892 < (x0.fKeys.length : Int))) then (chk (leB (a1891.size + (⟨#[44]⟩ : ByteArray).size) 9223372036854775807) (chk (idxOk a1892 x0.fKeys.length) ((spec_l2Digits.f k (gt x0.fKeys a1892)).bind fun t1906 => (chk (leB ((a1891 ++ (⟨#[44]⟩ : ByteArray)).size + t1906.size) 9223372036854775807) (spec_l2Text.l0 x0 k ((a1891 ++ (⟨#[44]⟩ : ByteArray)) ++ t1906) (wrap64 (a1892 + 1))))))) else some a1891) := rfl
def spec_l2Text.f (k : Nat) (x0 : Rule) : Option ByteArray := (chk (idxOk (0 : Int) x0.fKeys.length) ((spec_l2Digits.f k x0.fNeed).bind fun t1850 => (chk (leB (t1850.size + (⟨#[32, 111, 102, 32]⟩ : ByteArray).size) 9223372036854775807) ((spec_l2Digits.f k (gt x0.fKeys (0 : Int))).bind fun t1853 => (chk (leB ((t1850 ++ (⟨#[32, 111, 102, 32]⟩ : ByteArray)).size + t1853.size) 9223372036854775807) ((spec_l2Text.l0 x0 k ((t1850 ++ (⟨#[32, 111, 102, 32]⟩ : ByteArray)) ++ t1853) 1).bind (fun a1881 => (bif (x0.fAfter != 0) then (chk (leB (a1881.size + (⟨#[32, 97, 102, 116, 101, 114, 32]⟩ : ByteArray).size) 9223372036854775807) ((spec_l2Digits.f k x0.fAfter).bind fun t1913 => (chk (leB ((a1881 ++ (⟨#[32, 97, 102, 116, 101, 114, 32]⟩ : ByteArray)).size + t1913.size) 9223372036854775807) (some ((a1881 ++ (⟨#[32, 97, 102, 116, 101, 114, 32]⟩ : ByteArray)) ++ t1913))))) else some a1881))))))))
theorem spec_l2Text.calls {k : Nat} {x0 : Rule} {b0 f0 : Nat} {p0_0 : Value} {w : World} (hc0 : CellsAt w b0 f0 [p0_0, .int .i64 x0.fNeed, .int .i64 x0.fAfter]) (hp0_0 : RdS kInt w p0_0 x0.fKeys) {r : ByteArray} (H : spec_l2Text.f k x0 = some r) :
    Calls Tryz.prog 42 ([.pointer (some ⟨b0, f0, none⟩)] : List Value).toArray w (fun e w_ => ∃ v, e = .returned v ∧ v = (.string r) ∧ Mem w [] w_ []) := by
  have HM := Mem.start w
  refine calls_run (N := 53) Tryz.func42 rfl rfl rfl rfl ?_
  unfold spec_l2Text.f at H
  refine run_seq ?_
  refine run_region rfl ?_
  refine ops_ex rfl (guard_none rfl) rfl rfl (ex_assign rfl rfl) ?_
  refine ops_nil ?_
  refine at_then ?_
  refine run_seq ?_
  obtain ⟨e1848, H⟩ := chk_some H
  obtain ⟨t1850, h1851, H⟩ := bind_some H
  obtain ⟨e1852, H⟩ := chk_some H
  obtain ⟨t1853, h1854, H⟩ := bind_some H
  obtain ⟨e1855, H⟩ := chk_some H
  refine run_drawf (fun w_ => Mem w [] w_ []) [(0, true), (1, true), (2, true), (3, true), (6, true), (7, true), (8, true), (9, true), (10, true), (11, true), (4, false), (5, true), (12, false), (13, true), (14, true)] mixed rfl rfl (by kernel_rfl) ?_
  replace HM := HM.grow (fr_drew _)
  have hS := Mem.suf (M := []) HM
  refine drwp_take rfl (guard_none rfl) rfl rfl (fun w_ hS_ => (ex_move rfl rfl)) hS ?_
  refine drwp_take rfl (guard_none rfl) rfl rfl (fun w_ hS_ => (ex_nilCheck rfl rfl)) hS ?_
  refine drwp_take rfl (guard_none rfl) rfl rfl (fun w_ hS_ => (ex_fieldAddr (off' := f0 + 1) rfl rfl Tryz.underlying44 rfl tsz2 rfl)) hS ?_
  refine drwp_take rfl (guard_none rfl) rfl rfl (fun w_ hS_ => (ex_load1 rfl rfl Tryz.underlying2 rfl ((hS_.at_ hc0) 1 _ rfl))) hS ?_
  refine drwp_take rfl (guard_none rfl) rfl rfl (fun w_ hS_ => (ex_move rfl rfl)) hS ?_
  refine drwp_take rfl (guard_none rfl) rfl rfl (fun w_ hS_ => (ex_nilCheck rfl rfl)) hS ?_
  refine drwp_take rfl (guard_none rfl) rfl rfl (fun w_ hS_ => (ex_fieldAddr (off' := f0) rfl rfl Tryz.underlying44 rfl tsz42 rfl)) hS ?_
  refine drwp_take rfl (guard_none rfl) rfl rfl (fun w_ hS_ => (ex_load1 rfl rfl Tryz.underlying42 rfl ((hS_.at_ hc0) 0 _ rfl))) hS ?_
  have hc1849 : CellsAt _ (sb p0_0) (so p0_0 + ((0 : Int)).toNat * 1) [(.int .i64 (gt x0.fKeys (0 : Int)))] := rd_plain hp0_0 e1848
  refine drwp_take rfl (guard_none rfl) rfl rfl (fun w_ hS_ => (ex_indexAddr (d := kInt) rfl rfl rfl Tryz.underlying42 tsz2 hp0_0 (idx_lo e1848) (idx_hi e1848))) hS ?_
  refine drwp_take rfl (guard_none rfl) rfl rfl (fun w_ hS_ => (ex_load1 rfl rfl Tryz.underlying2 rfl ((hS_.at_ hc1849) 0 _ rfl))) hS ?_
  refine drwp_one rfl (guard_none rfl) rfl rfl (does_callk rfl callok41 rfl (spec_l2Digits.calls (x0 := x0.fNeed) h1851)) ?_
  rintro _ w1856 ⟨rfl, hn⟩
  replace HM : Mem w [] w1856 [] := HM.call hn
  refine ⟨Mem.suf (M := []) HM, ?_⟩
  have hS := Mem.suf (M := []) HM
  refine drwp_take rfl (guard_none rfl) rfl rfl (fun w_ hS_ => (ex_sadd rfl rfl rfl (leB_le e1852))) hS ?_
  refine drwp_one rfl (guard_none rfl) rfl rfl (does_callk rfl callok41 rfl (spec_l2Digits.calls (x0 := (gt x0.fKeys (0 : Int))) h1854)) ?_
  rintro _ w1857 ⟨rfl, hn⟩
  replace HM : Mem w [] w1857 [] := HM.call hn
  refine ⟨Mem.suf (M := []) HM, ?_⟩
  have hS := Mem.suf (M := []) HM
  refine drwp_take rfl (guard_none rfl) rfl rfl (fun w_ hS_ => (ex_sadd rfl rfl rfl (leB_le e1855))) hS ?_
  refine drwp_take rfl (guard_none rfl) rfl rfl (fun w_ hS_ => (ex_assign rfl rfl)) hS ?_
  refine drwp_done ?_
  refine at_then ?_
  obtain ⟨o1882, ho1883, H⟩ := bind_some H
  refine run_mid (fun ρ_ w_ => ∃ a1881 : ByteArray, a1881 = o1882 ∧ ρ_ = [(0, .pointer (some ⟨b0, f0, none⟩)), (3, .string a1881)] ∧ Mem w [] w_ []) ?_ ?_
  · clear H
    refine run_seq ?_
    refine run_region rfl ?_
    refine ops_ex rfl (guard_none rfl) rfl rfl (ex_assign rfl rfl) ?_
    refine ops_nil ?_
    refine at_then ?_
    refine run_block ?_
    refine run_loop (fun k_ ρ_ w_ => ∃ a1891 : ByteArray, ∃ a1892 : Int, spec_l2Text.l0 x0 k_ a1891 a1892 = some o1882 ∧ ρ_ = [(0, .pointer (some ⟨b0, f0, none⟩)), (3, .string a1891), (4, .int .i64 a1892)] ∧ Mem w [] w_ []) k (ρ1 := [(0, .pointer (some ⟨b0, f0, none⟩)), (3, .string ((t1850 ++ (⟨#[32, 111, 102, 32]⟩ : ByteArray)) ++ t1853)), (4, .int .i64 1)]) ⟨_, _, ho1883, rfl, HM⟩ (Sub.cons rfl (Sub.cons rfl (Sub.cons rfl Sub.nil))) ?_
    clear HM ho1883
    rintro k1900 _ w1901 ⟨a1891, a1892, ho1883, rfl, HM⟩
    obtain _ | k1900 := k1900
    · exact nomatch ((spec_l2Text.l0_z x0 a1891 a1892).symm.trans ho1883)
    replace ho1883 := (spec_l2Text.l0_s x0 k1900 a1891 a1892).symm.trans ho1883
    refine run_seq ?_
    refine run_seq ?_
    refine run_region rfl ?_
    refine ops_ex rfl (guard_none rfl) rfl rfl (ex_move rfl rfl) ?_
    refine ops_ex rfl (guard_none rfl) rfl rfl (ex_move rfl rfl) ?_
    refine ops_ex rfl (guard_none rfl) rfl rfl (ex_nilCheck rfl rfl) ?_
    refine ops_ex rfl (guard_none rfl) rfl rfl (ex_fieldAddr (off' := f0) rfl rfl Tryz.underlying44 rfl tsz42 rfl) ?_
    refine ops_ex rfl (guard_none rfl) rfl rfl (ex_load1 rfl rfl Tryz.underlying42 rfl ((HM.at_ hc0) 0 _ rfl)) ?_
    refine ops_ex rfl (guard_none rfl) rfl rfl (ex_len (d := kInt) (xs := x0.fKeys) rfl rfl Tryz.underlying42 hp0_0) ?_
    refine ops_ex rfl (guard_none rfl) rfl rfl (ex_lss rfl rfl rfl) ?_
    refine ops_nil ?_
    refine at_then ?_
    refine run_cond (b := (decide (a1892 < (x0.fKeys.length : Int)))) rfl (fun hb1902 => ?_) (fun hb1902 => ?_)
    · replace ho1883 := cond_t hb1902 ho1883
      refine run_skip ?_
      refine at_then ?_
      refine run_seq ?_
      refine run_block ?_
      obtain ⟨e1903, ho1883⟩ := chk_some ho1883
      obtain ⟨e1904, ho1883⟩ := chk_some ho1883
      obtain ⟨t1906, h1907, ho1883⟩ := bind_some ho1883
      obtain ⟨e1908, ho1883⟩ := chk_some ho1883
      refine run_region rfl ?_
      refine ops_ex rfl (guard_none rfl) rfl rfl (ex_move rfl rfl) ?_
      refine ops_ex rfl (guard_none rfl) rfl rfl (ex_sadd rfl rfl rfl (leB_le e1903)) ?_
      refine ops_ex rfl (guard_none rfl) rfl rfl (ex_move rfl rfl) ?_
      refine ops_ex rfl (guard_none rfl) rfl rfl (ex_nilCheck rfl rfl) ?_
      refine ops_ex rfl (guard_none rfl) rfl rfl (ex_fieldAddr (off' := f0) rfl rfl Tryz.underlying44 rfl tsz42 rfl) ?_
      refine ops_ex rfl (guard_none rfl) rfl rfl (ex_load1 rfl rfl Tryz.underlying42 rfl ((HM.at_ hc0) 0 _ rfl)) ?_
      refine ops_ex rfl (guard_none rfl) rfl rfl (ex_move rfl rfl) ?_
      have hc1905 : CellsAt _ (sb p0_0) (so p0_0 + (a1892).toNat * 1) [(.int .i64 (gt x0.fKeys a1892))] := rd_plain hp0_0 e1904
      refine ops_ex rfl (guard_none rfl) rfl rfl (ex_indexAddr (d := kInt) rfl rfl rfl Tryz.underlying42 tsz2 hp0_0 (idx_lo e1904) (idx_hi e1904)) ?_
      refine ops_ex rfl (guard_none rfl) rfl rfl (ex_load1 rfl rfl Tryz.underlying2 rfl ((HM.at_ hc1905) 0 _ rfl)) ?_
      refine ops_does rfl (guard_none rfl) rfl rfl (does_callk rfl callok41 rfl (spec_l2Digits.calls (x0 := (gt x0.fKeys a1892)) h1907)) ?_
      rintro _ w1909 ⟨rfl, hn⟩
      replace HM : Mem w [] w1909 [] := HM.call hn
      refine ops_ex rfl (guard_none rfl) rfl rfl (ex_sadd rfl rfl rfl (leB_le e1908)) ?_
      refine ops_ex rfl (guard_none rfl) rfl rfl (ex_assign rfl rfl) ?_
      refine ops_nil ?_
      refine at_block ?_
      refine at_then ?_
      refine run_region rfl ?_
      refine ops_ex rfl (guard_none rfl) rfl rfl (ex_move rfl rfl) ?_
      refine ops_ex rfl (guard_none rfl) rfl rfl (ex_add rfl rfl rfl) ?_
      refine ops_ex rfl (guard_none rfl) rfl rfl (ex_assign rfl rfl) ?_
      refine ops_nil ?_
      exact at_again k1900 (ρ1 := [(0, .pointer (some ⟨b0, f0, none⟩)), (3, .string ((a1891 ++ (⟨#[44]⟩ : ByteArray)) ++ t1906)), (4, .int .i64 (wrap64 (a1892 + 1)))]) (Nat.lt_succ_self _) ⟨_, _, ho1883, rfl, HM⟩ (Sub.cons rfl (Sub.cons rfl (Sub.cons rfl Sub.nil)))
    · replace ho1883 := cond_f hb1902 ho1883
      refine run_exit ?_
      refine at_then_exit ?_
      refine at_then_exit ?_
      refine at_block_exit ?_
      exact at_mid (ρ' := [(0, .pointer (some ⟨b0, f0, none⟩)), (3, .string a1891)]) ⟨_, (Option.some.inj ho1883), rfl, HM⟩ (Sub.cons rfl (Sub.cons rfl Sub.nil))
  · rintro _ w1910 ⟨a1881, rfl, rfl, HM⟩
    refine run_seq ?_
    refine run_seq ?_
    refine run_region rfl ?_
    refine ops_ex rfl (guard_none rfl) rfl rfl (ex_move rfl rfl) ?_
    refine ops_ex rfl (guard_none rfl) rfl rfl (ex_nilCheck rfl rfl) ?_
    refine ops_ex rfl (guard_none rfl) rfl rfl (ex_fieldAddr (off' := f0 + 2) rfl rfl Tryz.underlying44 rfl tsz2 rfl) ?_
    refine ops_ex rfl (guard_none rfl) rfl rfl (ex_load1 rfl rfl Tryz.underlying2 rfl ((HM.at_ hc0) 2 _ rfl)) ?_
    refine ops_ex rfl (guard_none rfl) rfl rfl (ex_neq rfl rfl rfl) ?_
    refine ops_nil ?_
    refine at_then ?_
    refine run_cond (b := (x0.fAfter != 0)) rfl (fun hb1911 => ?_) (fun hb1911 => ?_)
    · replace H := cond_t hb1911 H
      obtain ⟨e1912, H⟩ := chk_some H
      obtain ⟨t1913, h1914, H⟩ := bind_some H
      obtain ⟨e1915, H⟩ := chk_some H
      refine run_region rfl ?_
      refine ops_ex rfl (guard_none rfl) rfl rfl (ex_move rfl rfl) ?_
      refine ops_ex rfl (guard_none rfl) rfl rfl (ex_sadd rfl rfl rfl (leB_le e1912)) ?_
      refine ops_ex rfl (guard_none rfl) rfl rfl (ex_move rfl rfl) ?_
      refine ops_ex rfl (guard_none rfl) rfl rfl (ex_nilCheck rfl rfl) ?_
      refine ops_ex rfl (guard_none rfl) rfl rfl (ex_fieldAddr (off' := f0 + 2) rfl rfl Tryz.underlying44 rfl tsz2 rfl) ?_
      refine ops_ex rfl (guard_none rfl) rfl rfl (ex_load1 rfl rfl Tryz.underlying2 rfl ((HM.at_ hc0) 2 _ rfl)) ?_
      refine ops_does rfl (guard_none rfl) rfl rfl (does_callk rfl callok41 rfl (spec_l2Digits.calls (x0 := x0.fAfter) h1914)) ?_
      rintro _ w1916 ⟨rfl, hn⟩
      replace HM : Mem w [] w1916 [] := HM.call hn
      refine ops_ex rfl (guard_none rfl) rfl rfl (ex_sadd rfl rfl rfl (leB_le e1915)) ?_
      refine ops_ex rfl (guard_none rfl) rfl rfl (ex_assign rfl rfl) ?_
      refine ops_nil ?_
      refine at_then ?_
      refine run_seq ?_
      refine run_region rfl ?_
      refine ops_ex rfl (guard_none rfl) rfl rfl (ex_move rfl rfl) ?_
      refine ops_ex rfl (guard_none rfl) rfl rfl (ex_assign rfl rfl) ?_
      refine ops_nil ?_
      refine at_then ?_
      refine run_ret ?_
      have hR := Option.some.inj H
      subst hR
      exact at_ret1 rfl rfl ⟨_, rfl, rfl, HM⟩
    · replace H := cond_f hb1911 H
      refine run_skip ?_
      refine at_then ?_
      refine run_seq ?_
      refine run_region rfl ?_
      refine ops_ex rfl (guard_none rfl) rfl rfl (ex_move rfl rfl) ?_
      refine ops_ex rfl (guard_none rfl) rfl rfl (ex_assign rfl rfl) ?_
      refine ops_nil ?_
      refine at_then ?_
      refine run_ret ?_
      have hR := Option.some.inj H
      subst hR
      exact at_ret1 rfl rfl ⟨_, rfl, rfl, HM⟩

def spec_l3Text.l0 (x0 : Tx) : Nat → ByteArray → Int → Option ByteArray
  | 0, _, _ => none
  | k + 1, a2064, a2065 => (bif (decide (a2065 < (x0.fIns.length : Int))) then ((bif (a2065 == 0) then some (⟨#[32]⟩ : ByteArray) else some (⟨#[43]⟩ : ByteArray)).bind (fun a2089 => (chk (leB (a2064.size + a2089.size) 9223372036854775807) (chk (idxOk a2065 x0.fIns.length) (chk (idxOk a2065 x0.fIns.length) ((spec_l2Digits.f k ((gt x0.fIns a2065).fTx)).bind fun t2099 => (chk (leB ((a2064 ++ a2089).size + t2099.size) 9223372036854775807) (chk (leB (((a2064 ++ a2089) ++ t2099).size + (⟨#[58]⟩ : ByteArray).size) 9223372036854775807) ((spec_l2Digits.f k ((gt x0.fIns a2065).fAt)).bind fun t2103 => (chk (leB ((((a2064 ++ a2089) ++ t2099) ++ (⟨#[58]⟩ : ByteArray)).size + t2103.size) 9223372036854775807) (spec_l3Text.l0 x0 k ((((a2064 ++ a2089) ++ t2099) ++ (⟨#[58]⟩ : ByteArray)) ++ t2103) (wrap64 (a2065 + 1))))))))))))) else some a2064)
theorem spec_l3Text.l0_z (x0 : Tx) (a2064 : ByteArray) (a2065 : Int) : spec_l3Text.l0 x0 0 a2064 a2065 = none := rfl
theorem spec_l3Text.l0_s (x0 : Tx) (k : Nat) (a2064 : ByteArray) (a2065 : Int) : spec_l3Text.l0 x0 (k + 1) a2064 a2065 = (bif (decide (a2065 < (x0.fIns.length : Int))) then ((bif (a2065 == 0) then some (⟨#[32]⟩ : ByteArray) else some (⟨#[43]⟩ : ByteArray)).bind (fun a2089 => (chk (leB (a2064.size + a2089.size) 9223372036854775807) (chk (idxOk a2065 x0.fIns.length) (chk (idxOk a2065 x0.fIns.length) ((spec_l2Digits.f k ((gt x0.fIns a2065).fTx)).bind fun t2099 => (chk (leB ((a2064 ++ a2089).size + t2099.size) 9223372036854775807) (chk (leB (((a2064 ++ a2089) ++ t2099).size + (⟨#[58]⟩ : ByteArray).size) 9223372036854775807) ((spec_l2Digits.f k ((gt x0.fIns a2065).fAt)).bind fun t2103 => (chk (leB ((((a2064 ++ a2089) ++ t2099) ++ (⟨#[58]⟩ : ByteArray)).size + t2103.size) 9223372036854775807) (spec_l3Text.l0 x0 k ((((a2064 ++ a2089) ++ t2099) ++ (⟨#[58]⟩ : ByteArray)) ++ t2103) (wrap64 (a2065 + 1))))))))))))) else some a2064) := rfl
def spec_l3Text.l1 (x0 : Tx) : Nat → ByteArray → Int → Option ByteArray
  | 0, _, _ => none
  | k + 1, a2190, a2191 => (bif (decide (a2191 < (x0.fOuts.length : Int))) then (chk (leB (a2190.size + (⟨#[32]⟩ : ByteArray).size) 9223372036854775807) (chk (idxOk a2191 x0.fOuts.length) (chk (idxOk a2191 x0.fOuts.length) ((spec_l2Digits.f k ((gt x0.fOuts a2191).fValue)).bind fun t2223 => (chk (leB ((a2190 ++ (⟨#[32]⟩ : ByteArray)).size + t2223.size) 9223372036854775807) (chk (leB (((a2190 ++ (⟨#[32]⟩ : ByteArray)) ++ t2223).size + (⟨#[61]⟩ : ByteArray).size) 9223372036854775807) ((spec_l2Text.f k ((gt x0.fOuts a2191).fRule)).bind fun t2227 => ((spec_l3Swap.f k t2227 32 95).bind fun t2229 => (chk (leB ((((a2190 ++ (⟨#[32]⟩ : ByteArray)) ++ t2223) ++ (⟨#[61]⟩ : ByteArray)).size + t2229.size) 9223372036854775807) (spec_l3Text.l1 x0 k ((((a2190 ++ (⟨#[32]⟩ : ByteArray)) ++ t2223) ++ (⟨#[61]⟩ : ByteArray)) ++ t2229) (wrap64 (a2191 + 1)))))))))))) else some a2190)
theorem spec_l3Text.l1_z (x0 : Tx) (a2190 : ByteArray) (a2191 : Int) : spec_l3Text.l1 x0 0 a2190 a2191 = none := rfl
theorem spec_l3Text.l1_s (x0 : Tx) (k : Nat) (a2190 : ByteArray) (a2191 : Int) : spec_l3Text.l1 x0 (k + 1) a2190 a2191 = (bif (decide (a2191 < (x0.fOuts.length : Int))) then (chk (leB (a2190.size + (⟨#[32]⟩ : ByteArray).size) 9223372036854775807) (chk (idxOk a2191 x0.fOuts.length) (chk (idxOk a2191 x0.fOuts.length) ((spec_l2Digits.f k ((gt x0.fOuts a2191).fValue)).bind fun t2223 => (chk (leB ((a2190 ++ (⟨#[32]⟩ : ByteArray)).size + t2223.size) 9223372036854775807) (chk (leB (((a2190 ++ (⟨#[32]⟩ : ByteArray)) ++ t2223).size + (⟨#[61]⟩ : ByteArray).size) 9223372036854775807) ((spec_l2Text.f k ((gt x0.fOuts a2191).fRule)).bind fun t2227 => ((spec_l3Swap.f k t2227 32 95).bind fun t2229 => (chk (leB ((((a2190 ++ (⟨#[32]⟩ : ByteArray)) ++ t2223) ++ (⟨#[61]⟩ : ByteArray)).size + t2229.size) 9223372036854775807) (spec_l3Text.l1 x0 k ((((a2190 ++ (⟨#[32]⟩ : ByteArray)) ++ t2223) ++ (⟨#[61]⟩ : ByteArray)) ++ t2229) (wrap64 (a2191 + 1)))))))))))) else some a2190) := rfl
def spec_l3Text.f (k : Nat) (x0 : Tx) : Option ByteArray := (chk (idxOk x0.fKind ([(⟨#[112, 97, 121]⟩ : ByteArray), (⟨#[106, 111, 105, 110, 32]⟩ : ByteArray), (⟨#[108, 101, 97, 118, 101, 32]⟩ : ByteArray)] : List ByteArray).length) ((bif (x0.fKind != 0) then ((spec_l2Digits.f k x0.fMember).bind fun t1982 => (chk (leB ((gt ([(⟨#[112, 97, 121]⟩ : ByteArray), (⟨#[106, 111, 105, 110, 32]⟩ : ByteArray), (⟨#[108, 101, 97, 118, 101, 32]⟩ : ByteArray)] : List ByteArray) x0.fKind).size + t1982.size) 9223372036854775807) (some ((gt ([(⟨#[112, 97, 121]⟩ : ByteArray), (⟨#[106, 111, 105, 110, 32]⟩ : ByteArray), (⟨#[108, 101, 97, 118, 101, 32]⟩ : ByteArray)] : List ByteArray) x0.fKind) ++ t1982)))) else some (gt ([(⟨#[112, 97, 121]⟩ : ByteArray), (⟨#[106, 111, 105, 110, 32]⟩ : ByteArray), (⟨#[108, 101, 97, 118, 101, 32]⟩ : ByteArray)] : List ByteArray) x0.fKind)).bind (fun a1978 => ((spec_l3Text.l0 x0 k a1978 0).bind (fun a2043 => ((spec_l3Text.l1 x0 k a2043 0).bind (fun a2168 => some a2168)))))))
theorem spec_l3Text.calls {k : Nat} {x0 : Tx} {b0 f0 : Nat} {p0_0 : Value} {p0_1 : Value} {w : World} (hc0 : CellsAt w b0 f0 [.int .i64 x0.fKind, .int .i64 x0.fMember, p0_0, p0_1]) (hp0_0 : RdS kRef w p0_0 x0.fIns) (hp0_1 : RdS kOut w p0_1 x0.fOuts) {r : ByteArray} (H : spec_l3Text.f k x0 = some r) :
    Calls Tryz.prog 20 ([.pointer (some ⟨b0, f0, none⟩)] : List Value).toArray w (fun e w_ => ∃ v, e = .returned v ∧ v = (.string r) ∧ Mem w [] w_ []) := by
  have HM := Mem.start w
  refine calls_run (N := 94) Tryz.func20 rfl rfl rfl rfl ?_
  unfold spec_l3Text.f at H
  refine run_seq ?_
  refine run_region rfl ?_
  refine ops_ex rfl (guard_none rfl) rfl rfl (ex_assign rfl rfl) ?_
  refine ops_nil ?_
  refine at_then ?_
  refine run_seq ?_
  obtain ⟨e1968, H⟩ := chk_some H
  refine run_region rfl ?_
  refine ops_does rfl (guard_none rfl) rfl rfl (does_lit (e := 9) (cs := [.string (⟨#[112, 97, 121]⟩ : ByteArray), .string (⟨#[106, 111, 105, 110, 32]⟩ : ByteArray), .string (⟨#[108, 101, 97, 118, 101, 32]⟩ : ByteArray)]) (xs := ([(⟨#[112, 97, 121]⟩ : ByteArray), (⟨#[106, 111, 105, 110, 32]⟩ : ByteArray), (⟨#[108, 101, 97, 118, 101, 32]⟩ : ByteArray)] : List ByteArray)) kStr rfl rfl (fun _ => by kernel_rfl) rfl rfl (fun _ _ h => by have h' : _ = [] := h; subst h'; exact (Elems.cons (d := kStr) (x := (⟨#[112, 97, 121]⟩ : ByteArray)) (f := []) ⟨rfl, rfl⟩ (Elems.cons (d := kStr) (x := (⟨#[106, 111, 105, 110, 32]⟩ : ByteArray)) (f := []) ⟨rfl, rfl⟩ (Elems.cons (d := kStr) (x := (⟨#[108, 101, 97, 118, 101, 32]⟩ : ByteArray)) (f := []) ⟨rfl, rfl⟩ .nil)))) HM.emp) ?_
  rintro v1965 w1969 HM
  refine ops_ex rfl (guard_none rfl) rfl rfl (ex_move rfl rfl) ?_
  refine ops_ex rfl (guard_none rfl) rfl rfl (ex_nilCheck rfl rfl) ?_
  refine ops_ex rfl (guard_none rfl) rfl rfl (ex_fieldAddr (off' := f0) rfl rfl Tryz.underlying25 rfl tsz2 rfl) ?_
  refine ops_ex rfl (guard_none rfl) rfl rfl (ex_load1 rfl rfl Tryz.underlying2 rfl ((HM.at_ hc0) 0 _ rfl)) ?_
  refine ops_ex rfl (guard_none rfl) rfl rfl (ex_indexAddr (d := kStr) rfl rfl rfl Tryz.underlying36 tsz9 (HM.own_rd 0 rfl) (idx_lo e1968) (idx_hi e1968)) ?_
  refine ops_ex rfl (guard_none rfl) rfl rfl (ex_load1 rfl rfl Tryz.underlying9 rfl ((rd_plain (HM.own_rd 0 rfl) e1968) 0 _ rfl)) ?_
  refine ops_ex rfl (guard_none rfl) rfl rfl (ex_assign rfl rfl) ?_
  refine ops_nil ?_
  refine at_then ?_
  obtain ⟨o1979, ho1980, H⟩ := bind_some H
  refine run_mid (fun ρ_ w_ => ∃ a1978 : ByteArray, a1978 = o1979 ∧ ρ_ = [(0, .pointer (some ⟨b0, f0, none⟩)), (3, .string a1978)] ∧ Mem w [] w_ []) ?_ ?_
  · clear H
    refine run_seq ?_
    refine run_region rfl ?_
    refine ops_ex rfl (guard_none rfl) rfl rfl (ex_move rfl rfl) ?_
    refine ops_ex rfl (guard_none rfl) rfl rfl (ex_nilCheck rfl rfl) ?_
    refine ops_ex rfl (guard_none rfl) rfl rfl (ex_fieldAddr (off' := f0) rfl rfl Tryz.underlying25 rfl tsz2 rfl) ?_
    refine ops_ex rfl (guard_none rfl) rfl rfl (ex_load1 rfl rfl Tryz.underlying2 rfl ((HM.at_ hc0) 0 _ rfl)) ?_
    refine ops_ex rfl (guard_none rfl) rfl rfl (ex_neq rfl rfl rfl) ?_
    refine ops_nil ?_
    refine at_then ?_
    refine run_cond (b := (x0.fKind != 0)) rfl (fun hb1981 => ?_) (fun hb1981 => ?_)
    · replace ho1980 := cond_t hb1981 ho1980
      obtain ⟨t1982, h1983, ho1980⟩ := bind_some ho1980
      obtain ⟨e1984, ho1980⟩ := chk_some ho1980
      refine run_region rfl ?_
      refine ops_ex rfl (guard_none rfl) rfl rfl (ex_move rfl rfl) ?_
      refine ops_ex rfl (guard_none rfl) rfl rfl (ex_move rfl rfl) ?_
      refine ops_ex rfl (guard_none rfl) rfl rfl (ex_nilCheck rfl rfl) ?_
      refine ops_ex rfl (guard_none rfl) rfl rfl (ex_fieldAddr (off' := f0 + 1) rfl rfl Tryz.underlying25 rfl tsz2 rfl) ?_
      refine ops_ex rfl (guard_none rfl) rfl rfl (ex_load1 rfl rfl Tryz.underlying2 rfl ((HM.at_ hc0) 1 _ rfl)) ?_
      refine ops_does rfl (guard_none rfl) rfl rfl (does_callk rfl callok41 rfl (spec_l2Digits.calls (x0 := x0.fMember) h1983)) ?_
      rintro _ w1985 ⟨rfl, hn⟩
      replace HM : Mem w [] w1985 [own kStr 9 v1965 ([(⟨#[112, 97, 121]⟩ : ByteArray), (⟨#[106, 111, 105, 110, 32]⟩ : ByteArray), (⟨#[108, 101, 97, 118, 101, 32]⟩ : ByteArray)] : List ByteArray)] := HM.call hn
      refine ops_ex rfl (guard_none rfl) rfl rfl (ex_sadd rfl rfl rfl (leB_le e1984)) ?_
      refine ops_ex rfl (guard_none rfl) rfl rfl (ex_assign rfl rfl) ?_
      refine ops_nil ?_
      replace HM := (HM.front 0 rfl rfl).drop
      exact at_mid (ρ' := [(0, .pointer (some ⟨b0, f0, none⟩)), (3, .string ((gt ([(⟨#[112, 97, 121]⟩ : ByteArray), (⟨#[106, 111, 105, 110, 32]⟩ : ByteArray), (⟨#[108, 101, 97, 118, 101, 32]⟩ : ByteArray)] : List ByteArray) x0.fKind) ++ t1982))]) ⟨_, (Option.some.inj ho1980), rfl, HM⟩ (Sub.cons rfl (Sub.cons rfl Sub.nil))
    · replace ho1980 := cond_f hb1981 ho1980
      refine run_skip ?_
      replace HM := (HM.front 0 rfl rfl).drop
      exact at_mid (ρ' := [(0, .pointer (some ⟨b0, f0, none⟩)), (3, .string (gt ([(⟨#[112, 97, 121]⟩ : ByteArray), (⟨#[106, 111, 105, 110, 32]⟩ : ByteArray), (⟨#[108, 101, 97, 118, 101, 32]⟩ : ByteArray)] : List ByteArray) x0.fKind))]) ⟨_, (Option.some.inj ho1980), rfl, HM⟩ (Sub.cons rfl (Sub.cons rfl Sub.nil))
  · rintro _ w1986 ⟨a1978, rfl, rfl, HM⟩
    obtain ⟨o2044, ho2045, H⟩ := bind_some H
    refine run_mid (fun ρ_ w_ => ∃ a2043 : ByteArray, a2043 = o2044 ∧ ρ_ = [(0, .pointer (some ⟨b0, f0, none⟩)), (3, .string a2043)] ∧ Mem w [] w_ []) ?_ ?_
    · clear H
      refine run_seq ?_
      refine run_region rfl ?_
      refine ops_ex rfl (guard_none rfl) rfl rfl (ex_assign rfl rfl) ?_
      refine ops_nil ?_
      refine at_then ?_
      refine run_block ?_
      refine run_loop (fun k_ ρ_ w_ => ∃ a2064 : ByteArray, ∃ a2065 : Int, spec_l3Text.l0 x0 k_ a2064 a2065 = some o2044 ∧ ρ_ = [(0, .pointer (some ⟨b0, f0, none⟩)), (3, .string a2064), (4, .int .i64 a2065)] ∧ Mem w [] w_ []) k (ρ1 := [(0, .pointer (some ⟨b0, f0, none⟩)), (3, .string a1978), (4, .int .i64 0)]) ⟨_, _, ho2045, rfl, HM⟩ (Sub.cons rfl (Sub.cons rfl (Sub.cons rfl Sub.nil))) ?_
      clear HM ho2045
      rintro k2084 _ w2085 ⟨a2064, a2065, ho2045, rfl, HM⟩
      obtain _ | k2084 := k2084
      · exact nomatch ((spec_l3Text.l0_z x0 a2064 a2065).symm.trans ho2045)
      replace ho2045 := (spec_l3Text.l0_s x0 k2084 a2064 a2065).symm.trans ho2045
      refine run_seq ?_
      refine run_seq ?_
      refine run_region rfl ?_
      refine ops_ex rfl (guard_none rfl) rfl rfl (ex_move rfl rfl) ?_
      refine ops_ex rfl (guard_none rfl) rfl rfl (ex_move rfl rfl) ?_
      refine ops_ex rfl (guard_none rfl) rfl rfl (ex_nilCheck rfl rfl) ?_
      refine ops_ex rfl (guard_none rfl) rfl rfl (ex_fieldAddr (off' := f0 + 2) rfl rfl Tryz.underlying25 rfl tsz22 rfl) ?_
      refine ops_ex rfl (guard_none rfl) rfl rfl (ex_load1 rfl rfl Tryz.underlying22 rfl ((HM.at_ hc0) 2 _ rfl)) ?_
      refine ops_ex rfl (guard_none rfl) rfl rfl (ex_len (d := kRef) (xs := x0.fIns) rfl rfl Tryz.underlying22 hp0_0) ?_
      refine ops_ex rfl (guard_none rfl) rfl rfl (ex_lss rfl rfl rfl) ?_
      refine ops_nil ?_
      refine at_then ?_
      refine run_cond (b := (decide (a2065 < (x0.fIns.length : Int)))) rfl (fun hb2086 => ?_) (fun hb2086 => ?_)
      · replace ho2045 := cond_t hb2086 ho2045
        refine run_skip ?_
        refine at_then ?_
        refine run_seq ?_
        refine run_block ?_
        refine run_seq ?_
        refine run_region rfl ?_
        refine ops_ex rfl (guard_none rfl) rfl rfl (ex_assign rfl rfl) ?_
        refine ops_nil ?_
        refine at_then ?_
        obtain ⟨o2090, ho2091, ho2045⟩ := bind_some ho2045
        refine run_mid (fun ρ_ w_ => ∃ a2089 : ByteArray, a2089 = o2090 ∧ ρ_ = [(0, .pointer (some ⟨b0, f0, none⟩)), (3, .string a2064), (4, .int .i64 a2065), (5, .string a2089)] ∧ Mem w [] w_ []) ?_ ?_
        · clear ho2045
          refine run_seq ?_
          refine run_region rfl ?_
          refine ops_ex rfl (guard_none rfl) rfl rfl (ex_move rfl rfl) ?_
          refine ops_ex rfl (guard_none rfl) rfl rfl (ex_eql rfl rfl rfl) ?_
          refine ops_nil ?_
          refine at_then ?_
          refine run_cond (b := (a2065 == 0)) rfl (fun hb2092 => ?_) (fun hb2092 => ?_)
          · replace ho2091 := cond_t hb2092 ho2091
            refine run_region rfl ?_
            refine ops_ex rfl (guard_none rfl) rfl rfl (ex_assign rfl rfl) ?_
            refine ops_nil ?_
            exact at_mid (ρ' := [(0, .pointer (some ⟨b0, f0, none⟩)), (3, .string a2064), (4, .int .i64 a2065), (5, .string (⟨#[32]⟩ : ByteArray))]) ⟨_, (Option.some.inj ho2091), rfl, HM⟩ (Sub.cons rfl (Sub.cons rfl (Sub.cons rfl (Sub.cons rfl Sub.nil))))
          · replace ho2091 := cond_f hb2092 ho2091
            refine run_skip ?_
            exact at_mid (ρ' := [(0, .pointer (some ⟨b0, f0, none⟩)), (3, .string a2064), (4, .int .i64 a2065), (5, .string (⟨#[43]⟩ : ByteArray))]) ⟨_, (Option.some.inj ho2091), rfl, HM⟩ (Sub.cons rfl (Sub.cons rfl (Sub.cons rfl (Sub.cons rfl Sub.nil))))
        · rintro _ w2093 ⟨a2089, rfl, rfl, HM⟩
          obtain ⟨e2094, ho2045⟩ := chk_some ho2045
          obtain ⟨e2095, ho2045⟩ := chk_some ho2045
          obtain ⟨e2097, ho2045⟩ := chk_some ho2045
          obtain ⟨t2099, h2100, ho2045⟩ := bind_some ho2045
          obtain ⟨e2101, ho2045⟩ := chk_some ho2045
          obtain ⟨e2102, ho2045⟩ := chk_some ho2045
          obtain ⟨t2103, h2104, ho2045⟩ := bind_some ho2045
          obtain ⟨e2105, ho2045⟩ := chk_some ho2045
          refine run_drawf (fun w_ => Mem w [] w_ []) [(0, true), (1, true), (2, true), (3, true), (4, true), (5, true), (6, true), (7, true), (8, true), (9, true), (10, true), (14, true), (15, true), (16, true), (17, true), (18, true), (19, true), (20, true), (21, true), (11, false), (12, true), (13, true), (22, false), (23, true), (24, true)] mixed rfl rfl (by kernel_rfl) ?_
          replace HM := HM.grow (fr_drew _)
          have hS := Mem.suf (M := []) HM
          refine drwp_take rfl (guard_none rfl) rfl rfl (fun w_ hS_ => (ex_move rfl rfl)) hS ?_
          refine drwp_take rfl (guard_none rfl) rfl rfl (fun w_ hS_ => (ex_move rfl rfl)) hS ?_
          refine drwp_take rfl (guard_none rfl) rfl rfl (fun w_ hS_ => (ex_sadd rfl rfl rfl (leB_le e2094))) hS ?_
          refine drwp_take rfl (guard_none rfl) rfl rfl (fun w_ hS_ => (ex_move rfl rfl)) hS ?_
          refine drwp_take rfl (guard_none rfl) rfl rfl (fun w_ hS_ => (ex_nilCheck rfl rfl)) hS ?_
          refine drwp_take rfl (guard_none rfl) rfl rfl (fun w_ hS_ => (ex_fieldAddr (off' := f0 + 2) rfl rfl Tryz.underlying25 rfl tsz22 rfl)) hS ?_
          refine drwp_take rfl (guard_none rfl) rfl rfl (fun w_ hS_ => (ex_load1 rfl rfl Tryz.underlying22 rfl ((hS_.at_ hc0) 2 _ rfl))) hS ?_
          refine drwp_take rfl (guard_none rfl) rfl rfl (fun w_ hS_ => (ex_move rfl rfl)) hS ?_
          have hc2096 : CellsAt _ (sb p0_0) (so p0_0 + (a2065).toNat * 2) [(.int .i64 ((gt x0.fIns a2065).fTx)), (.int .i64 ((gt x0.fIns a2065).fAt))] := rd_plain hp0_0 e2095
          refine drwp_take rfl (guard_none rfl) rfl rfl (fun w_ hS_ => (ex_indexAddr (d := kRef) rfl rfl rfl Tryz.underlying22 tsz60 hp0_0 (idx_lo e2095) (idx_hi e2095))) hS ?_
          refine drwp_take rfl (guard_none rfl) rfl rfl (fun w_ hS_ => (ex_fieldAddr (off' := so p0_0 + (a2065).toNat * 2) rfl rfl Tryz.underlying60 rfl tsz2 rfl)) hS ?_
          refine drwp_take rfl (guard_none rfl) rfl rfl (fun w_ hS_ => (ex_load1 rfl rfl Tryz.underlying2 rfl ((hS_.at_ hc2096) 0 _ rfl))) hS ?_
          refine drwp_take rfl (guard_none rfl) rfl rfl (fun w_ hS_ => (ex_move rfl rfl)) hS ?_
          refine drwp_take rfl (guard_none rfl) rfl rfl (fun w_ hS_ => (ex_nilCheck rfl rfl)) hS ?_
          refine drwp_take rfl (guard_none rfl) rfl rfl (fun w_ hS_ => (ex_fieldAddr (off' := f0 + 2) rfl rfl Tryz.underlying25 rfl tsz22 rfl)) hS ?_
          refine drwp_take rfl (guard_none rfl) rfl rfl (fun w_ hS_ => (ex_load1 rfl rfl Tryz.underlying22 rfl ((hS_.at_ hc0) 2 _ rfl))) hS ?_
          refine drwp_take rfl (guard_none rfl) rfl rfl (fun w_ hS_ => (ex_move rfl rfl)) hS ?_
          have hc2098 : CellsAt _ (sb p0_0) (so p0_0 + (a2065).toNat * 2) [(.int .i64 ((gt x0.fIns a2065).fTx)), (.int .i64 ((gt x0.fIns a2065).fAt))] := rd_plain hp0_0 e2097
          refine drwp_take rfl (guard_none rfl) rfl rfl (fun w_ hS_ => (ex_indexAddr (d := kRef) rfl rfl rfl Tryz.underlying22 tsz60 hp0_0 (idx_lo e2097) (idx_hi e2097))) hS ?_
          refine drwp_take rfl (guard_none rfl) rfl rfl (fun w_ hS_ => (ex_fieldAddr (off' := so p0_0 + (a2065).toNat * 2 + 1) rfl rfl Tryz.underlying60 rfl tsz2 rfl)) hS ?_
          refine drwp_take rfl (guard_none rfl) rfl rfl (fun w_ hS_ => (ex_load1 rfl rfl Tryz.underlying2 rfl ((hS_.at_ hc2098) 1 _ rfl))) hS ?_
          refine drwp_one rfl (guard_none rfl) rfl rfl (does_callk rfl callok41 rfl (spec_l2Digits.calls (x0 := (gt x0.fIns a2065).fTx) h2100)) ?_
          rintro _ w2106 ⟨rfl, hn⟩
          replace HM : Mem w [] w2106 [] := HM.call hn
          refine ⟨Mem.suf (M := []) HM, ?_⟩
          have hS := Mem.suf (M := []) HM
          refine drwp_take rfl (guard_none rfl) rfl rfl (fun w_ hS_ => (ex_sadd rfl rfl rfl (leB_le e2101))) hS ?_
          refine drwp_take rfl (guard_none rfl) rfl rfl (fun w_ hS_ => (ex_sadd rfl rfl rfl (leB_le e2102))) hS ?_
          refine drwp_one rfl (guard_none rfl) rfl rfl (does_callk rfl callok41 rfl (spec_l2Digits.calls (x0 := (gt x0.fIns a2065).fAt) h2104)) ?_
          rintro _ w2107 ⟨rfl, hn⟩
          replace HM : Mem w [] w2107 [] := HM.call hn
          refine ⟨Mem.suf (M := []) HM, ?_⟩
          have hS := Mem.suf (M := []) HM
          refine drwp_take rfl (guard_none rfl) rfl rfl (fun w_ hS_ => (ex_sadd rfl rfl rfl (leB_le e2105))) hS ?_
          refine drwp_take rfl (guard_none rfl) rfl rfl (fun w_ hS_ => (ex_assign rfl rfl)) hS ?_
          refine drwp_done ?_
          refine at_block ?_
          refine at_then ?_
          refine run_region rfl ?_
          refine ops_ex rfl (guard_none rfl) rfl rfl (ex_move rfl rfl) ?_
          refine ops_ex rfl (guard_none rfl) rfl rfl (ex_add rfl rfl rfl) ?_
          refine ops_ex rfl (guard_none rfl) rfl rfl (ex_assign rfl rfl) ?_
          refine ops_nil ?_
          exact at_again k2084 (ρ1 := [(0, .pointer (some ⟨b0, f0, none⟩)), (3, .string ((((a2064 ++ a2089) ++ t2099) ++ (⟨#[58]⟩ : ByteArray)) ++ t2103)), (4, .int .i64 (wrap64 (a2065 + 1)))]) (Nat.lt_succ_self _) ⟨_, _, ho2045, rfl, HM⟩ (Sub.cons rfl (Sub.cons rfl (Sub.cons rfl Sub.nil)))
      · replace ho2045 := cond_f hb2086 ho2045
        refine run_exit ?_
        refine at_then_exit ?_
        refine at_then_exit ?_
        refine at_block_exit ?_
        exact at_mid (ρ' := [(0, .pointer (some ⟨b0, f0, none⟩)), (3, .string a2064)]) ⟨_, (Option.some.inj ho2045), rfl, HM⟩ (Sub.cons rfl (Sub.cons rfl Sub.nil))
    · rintro _ w2108 ⟨a2043, rfl, rfl, HM⟩
      obtain ⟨o2169, ho2170, H⟩ := bind_some H
      refine run_mid (fun ρ_ w_ => ∃ a2168 : ByteArray, a2168 = o2169 ∧ ρ_ = [(3, .string a2168)] ∧ Mem w [] w_ []) ?_ ?_
      · clear H
        refine run_seq ?_
        refine run_region rfl ?_
        refine ops_ex rfl (guard_none rfl) rfl rfl (ex_assign rfl rfl) ?_
        refine ops_nil ?_
        refine at_then ?_
        refine run_block ?_
        refine run_loop (fun k_ ρ_ w_ => ∃ a2190 : ByteArray, ∃ a2191 : Int, spec_l3Text.l1 x0 k_ a2190 a2191 = some o2169 ∧ ρ_ = [(0, .pointer (some ⟨b0, f0, none⟩)), (3, .string a2190), (6, .int .i64 a2191)] ∧ Mem w [] w_ []) k (ρ1 := [(0, .pointer (some ⟨b0, f0, none⟩)), (3, .string a2043), (6, .int .i64 0)]) ⟨_, _, ho2170, rfl, HM⟩ (Sub.cons rfl (Sub.cons rfl (Sub.cons rfl Sub.nil))) ?_
        clear HM ho2170
        rintro k2211 _ w2212 ⟨a2190, a2191, ho2170, rfl, HM⟩
        obtain _ | k2211 := k2211
        · exact nomatch ((spec_l3Text.l1_z x0 a2190 a2191).symm.trans ho2170)
        replace ho2170 := (spec_l3Text.l1_s x0 k2211 a2190 a2191).symm.trans ho2170
        refine run_seq ?_
        refine run_seq ?_
        refine run_region rfl ?_
        refine ops_ex rfl (guard_none rfl) rfl rfl (ex_move rfl rfl) ?_
        refine ops_ex rfl (guard_none rfl) rfl rfl (ex_move rfl rfl) ?_
        refine ops_ex rfl (guard_none rfl) rfl rfl (ex_nilCheck rfl rfl) ?_
        refine ops_ex rfl (guard_none rfl) rfl rfl (ex_fieldAddr (off' := f0 + 3) rfl rfl Tryz.underlying25 rfl tsz23 rfl) ?_
        refine ops_ex rfl (guard_none rfl) rfl rfl (ex_load1 rfl rfl Tryz.underlying23 rfl ((HM.at_ hc0) 3 _ rfl)) ?_
        refine ops_ex rfl (guard_none rfl) rfl rfl (ex_len (d := kOut) (xs := x0.fOuts) rfl rfl Tryz.underlying23 hp0_1) ?_
        refine ops_ex rfl (guard_none rfl) rfl rfl (ex_lss rfl rfl rfl) ?_
        refine ops_nil ?_
        refine at_then ?_
        refine run_cond (b := (decide (a2191 < (x0.fOuts.length : Int)))) rfl (fun hb2213 => ?_) (fun hb2213 => ?_)
        · replace ho2170 := cond_t hb2213 ho2170
          refine run_skip ?_
          refine at_then ?_
          refine run_seq ?_
          refine run_block ?_
          obtain ⟨e2214, ho2170⟩ := chk_some ho2170
          obtain ⟨e2215, ho2170⟩ := chk_some ho2170
          obtain ⟨e2219, ho2170⟩ := chk_some ho2170
          obtain ⟨t2223, h2224, ho2170⟩ := bind_some ho2170
          obtain ⟨e2225, ho2170⟩ := chk_some ho2170
          obtain ⟨e2226, ho2170⟩ := chk_some ho2170
          obtain ⟨t2227, h2228, ho2170⟩ := bind_some ho2170
          obtain ⟨t2229, h2230, ho2170⟩ := bind_some ho2170
          obtain ⟨e2231, ho2170⟩ := chk_some ho2170
          refine run_drawf (fun w_ => Mem w [] w_ []) [(0, true), (1, true), (2, true), (3, true), (4, true), (5, true), (6, true), (7, true), (8, true), (9, true), (13, true), (14, true), (15, true), (16, true), (17, true), (18, true), (19, true), (10, false), (11, true), (12, true), (20, false), (21, false), (22, true), (23, true)] mixed rfl rfl (by kernel_rfl) ?_
          replace HM := HM.grow (fr_drew _)
          have hS := Mem.suf (M := []) HM
          refine drwp_take rfl (guard_none rfl) rfl rfl (fun w_ hS_ => (ex_move rfl rfl)) hS ?_
          refine drwp_take rfl (guard_none rfl) rfl rfl (fun w_ hS_ => (ex_sadd rfl rfl rfl (leB_le e2214))) hS ?_
          refine drwp_take rfl (guard_none rfl) rfl rfl (fun w_ hS_ => (ex_move rfl rfl)) hS ?_
          refine drwp_take rfl (guard_none rfl) rfl rfl (fun w_ hS_ => (ex_nilCheck rfl rfl)) hS ?_
          refine drwp_take rfl (guard_none rfl) rfl rfl (fun w_ hS_ => (ex_fieldAddr (off' := f0 + 3) rfl rfl Tryz.underlying25 rfl tsz23 rfl)) hS ?_
          refine drwp_take rfl (guard_none rfl) rfl rfl (fun w_ hS_ => (ex_load1 rfl rfl Tryz.underlying23 rfl ((hS_.at_ hc0) 3 _ rfl))) hS ?_
          refine drwp_take rfl (guard_none rfl) rfl rfl (fun w_ hS_ => (ex_move rfl rfl)) hS ?_
          obtain ⟨kv2217, hc2216, hk2218⟩ : ∃ u, CellsAt _ (sb p0_1) (so p0_1 + (a2191).toNat * 4) [(.int .i64 ((gt x0.fOuts a2191).fValue)), u, (.int .i64 ((gt x0.fOuts a2191).fRule.fNeed)), (.int .i64 ((gt x0.fOuts a2191).fRule.fAfter))] ∧ RdS kInt _ u ((gt x0.fOuts a2191).fRule.fKeys) := rd_with1 hp0_1 e2215
          refine drwp_take rfl (guard_none rfl) rfl rfl (fun w_ hS_ => (ex_indexAddr (d := kOut) rfl rfl rfl Tryz.underlying23 tsz49 hp0_1 (idx_lo e2215) (idx_hi e2215))) hS ?_
          refine drwp_take rfl (guard_none rfl) rfl rfl (fun w_ hS_ => (ex_fieldAddr (off' := so p0_1 + (a2191).toNat * 4) rfl rfl Tryz.underlying49 rfl tsz2 rfl)) hS ?_
          refine drwp_take rfl (guard_none rfl) rfl rfl (fun w_ hS_ => (ex_load1 rfl rfl Tryz.underlying2 rfl ((hS_.at_ hc2216) 0 _ rfl))) hS ?_
          refine drwp_take rfl (guard_none rfl) rfl rfl (fun w_ hS_ => (ex_move rfl rfl)) hS ?_
          refine drwp_take rfl (guard_none rfl) rfl rfl (fun w_ hS_ => (ex_nilCheck rfl rfl)) hS ?_
          refine drwp_take rfl (guard_none rfl) rfl rfl (fun w_ hS_ => (ex_fieldAddr (off' := f0 + 3) rfl rfl Tryz.underlying25 rfl tsz23 rfl)) hS ?_
          refine drwp_take rfl (guard_none rfl) rfl rfl (fun w_ hS_ => (ex_load1 rfl rfl Tryz.underlying23 rfl ((hS_.at_ hc0) 3 _ rfl))) hS ?_
          refine drwp_take rfl (guard_none rfl) rfl rfl (fun w_ hS_ => (ex_move rfl rfl)) hS ?_
          obtain ⟨kv2221, hc2220, hk2222⟩ : ∃ u, CellsAt _ (sb p0_1) (so p0_1 + (a2191).toNat * 4) [(.int .i64 ((gt x0.fOuts a2191).fValue)), u, (.int .i64 ((gt x0.fOuts a2191).fRule.fNeed)), (.int .i64 ((gt x0.fOuts a2191).fRule.fAfter))] ∧ RdS kInt _ u ((gt x0.fOuts a2191).fRule.fKeys) := rd_with1 hp0_1 e2219
          refine drwp_take rfl (guard_none rfl) rfl rfl (fun w_ hS_ => (ex_indexAddr (d := kOut) rfl rfl rfl Tryz.underlying23 tsz49 hp0_1 (idx_lo e2219) (idx_hi e2219))) hS ?_
          refine drwp_take rfl (guard_none rfl) rfl rfl (fun w_ hS_ => (ex_fieldAddr (off' := so p0_1 + (a2191).toNat * 4 + 1) rfl rfl Tryz.underlying49 rfl tsz44 rfl)) hS ?_
          refine drwp_one rfl (guard_none rfl) rfl rfl (does_callk rfl callok41 rfl (spec_l2Digits.calls (x0 := (gt x0.fOuts a2191).fValue) h2224)) ?_
          rintro _ w2232 ⟨rfl, hn⟩
          replace HM : Mem w [] w2232 [] := HM.call hn
          refine ⟨Mem.suf (M := []) HM, ?_⟩
          have hS := Mem.suf (M := []) HM
          refine drwp_take rfl (guard_none rfl) rfl rfl (fun w_ hS_ => (ex_sadd rfl rfl rfl (leB_le e2225))) hS ?_
          refine drwp_take rfl (guard_none rfl) rfl rfl (fun w_ hS_ => (ex_sadd rfl rfl rfl (leB_le e2226))) hS ?_
          refine drwp_one rfl (guard_none rfl) rfl rfl (does_callk rfl callok42 rfl (spec_l2Text.calls (x0 := (gt x0.fOuts a2191).fRule) (CellsAt.sub (HM.at_ hc2220) 1 3 rfl) (HM.rd hk2222) h2228)) ?_
          rintro _ w2233 ⟨rfl, hn⟩
          replace HM : Mem w [] w2233 [] := HM.call hn
          refine ⟨Mem.suf (M := []) HM, ?_⟩
          have hS := Mem.suf (M := []) HM
          refine drwp_one rfl (guard_none rfl) rfl rfl (does_callk rfl callok18 rfl (spec_l3Swap.calls (x0 := t2227) (x1 := 32) (x2 := 95) h2230)) ?_
          rintro _ w2234 ⟨rfl, hn⟩
          replace HM : Mem w [] w2234 [] := HM.call hn
          refine ⟨Mem.suf (M := []) HM, ?_⟩
          have hS := Mem.suf (M := []) HM
          refine drwp_take rfl (guard_none rfl) rfl rfl (fun w_ hS_ => (ex_sadd rfl rfl rfl (leB_le e2231))) hS ?_
          refine drwp_take rfl (guard_none rfl) rfl rfl (fun w_ hS_ => (ex_assign rfl rfl)) hS ?_
          refine drwp_done ?_
          refine at_block ?_
          refine at_then ?_
          refine run_region rfl ?_
          refine ops_ex rfl (guard_none rfl) rfl rfl (ex_move rfl rfl) ?_
          refine ops_ex rfl (guard_none rfl) rfl rfl (ex_add rfl rfl rfl) ?_
          refine ops_ex rfl (guard_none rfl) rfl rfl (ex_assign rfl rfl) ?_
          refine ops_nil ?_
          exact at_again k2211 (ρ1 := [(0, .pointer (some ⟨b0, f0, none⟩)), (3, .string ((((a2190 ++ (⟨#[32]⟩ : ByteArray)) ++ t2223) ++ (⟨#[61]⟩ : ByteArray)) ++ t2229)), (6, .int .i64 (wrap64 (a2191 + 1)))]) (Nat.lt_succ_self _) ⟨_, _, ho2170, rfl, HM⟩ (Sub.cons rfl (Sub.cons rfl (Sub.cons rfl Sub.nil)))
        · replace ho2170 := cond_f hb2213 ho2170
          refine run_exit ?_
          refine at_then_exit ?_
          refine at_then_exit ?_
          refine at_block_exit ?_
          exact at_mid (ρ' := [(3, .string a2190)]) ⟨_, (Option.some.inj ho2170), rfl, HM⟩ (Sub.cons rfl Sub.nil)
      · rintro _ w2235 ⟨a2168, rfl, rfl, HM⟩
        refine run_seq ?_
        refine run_region rfl ?_
        refine ops_ex rfl (guard_none rfl) rfl rfl (ex_move rfl rfl) ?_
        refine ops_ex rfl (guard_none rfl) rfl rfl (ex_assign rfl rfl) ?_
        refine ops_nil ?_
        refine at_then ?_
        refine run_ret ?_
        have hR := Option.some.inj H
        subst hR
        exact at_ret1 rfl rfl ⟨_, rfl, rfl, HM⟩
end Go.Proofs.YtcpacdbdehphkaaGreatDoor.Zk
