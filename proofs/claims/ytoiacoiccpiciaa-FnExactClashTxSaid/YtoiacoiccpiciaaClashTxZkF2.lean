/- What functions of the program compute, each as a plain function, and that they do. Conditions: as each theorem states them. -/
import Derived.Test.YtoiacoiccpiciaaClashTxZkF1
namespace Go.Proofs.Ytoiacoiccpiciaa.Zk
open Go Go.RowKit Go.IntWalk Go.Proofs
set_option linter.unusedVariables false
set_option linter.unusedSimpArgs false
set_option maxRecDepth 100000
set_option maxHeartbeats 4000000
def spec_l3Clash.l0 (x0 : Tx) (x1 : Tx) : Nat → Int → Option (Bool ⊕ Unit)
  | 0, _ => none
  | k + 1, a1390 => (bif (decide (a1390 < (x0.fIns.length : Int))) then (chk (idxOk a1390 x0.fIns.length) ((spec_l3Among.f k x1.fIns (gt x0.fIns a1390)).bind fun t1402 => (bif t1402 then some (.inl true) else spec_l3Clash.l0 x0 x1 k (wrap64 (a1390 + 1))))) else some (.inr ()))
theorem spec_l3Clash.l0_z (x0 : Tx) (x1 : Tx) (a1390 : Int) : spec_l3Clash.l0 x0 x1 0 a1390 = none := rfl
theorem spec_l3Clash.l0_s (x0 : Tx) (x1 : Tx) (k : Nat) (a1390 : Int) : spec_l3Clash.l0 x0 x1 (k + 1) a1390 = (bif (decide (a1390 < (x0.fIns.length : Int))) then (chk (idxOk a1390 x0.fIns.length) ((spec_l3Among.f k x1.fIns (gt x0.fIns a1390)).bind fun t1402 => (bif t1402 then some (.inl true) else spec_l3Clash.l0 x0 x1 k (wrap64 (a1390 + 1))))) else some (.inr ())) := rfl
def spec_l3Clash.f (k : Nat) (x0 : Tx) (x1 : Tx) : Option Bool := ((spec_l3Clash.l0 x0 x1 k 0).bind fun o1382 => thn o1382 (fun r => some r) (fun _ => some false))
theorem spec_l3Clash.calls {k : Nat} {x0 : Tx} {x1 : Tx} {b0 f0 : Nat} {p0_0 : Value} {p0_1 : Value} {b1 f1 : Nat} {p1_0 : Value} {p1_1 : Value} {w : World} (hc0 : CellsAt w b0 f0 [.int .i64 x0.fKind, .int .i64 x0.fMember, p0_0, p0_1]) (hp0_0 : RdS kRef w p0_0 x0.fIns) (hp0_1 : RdS kOut w p0_1 x0.fOuts) (hc1 : CellsAt w b1 f1 [.int .i64 x1.fKind, .int .i64 x1.fMember, p1_0, p1_1]) (hp1_0 : RdS kRef w p1_0 x1.fIns) (hp1_1 : RdS kOut w p1_1 x1.fOuts) {r : Bool} (H : spec_l3Clash.f k x0 x1 = some r) :
    Calls Try.prog 93 ([.pointer (some ⟨b0, f0, none⟩), .pointer (some ⟨b1, f1, none⟩)] : List Value).toArray w (fun e w_ => ∃ v, e = .returned v ∧ v = (.bool r) ∧ Mem w [] w_ []) := by
  have HM := Mem.start w
  refine calls_run (N := 27) Try.func93 rfl rfl rfl rfl ?_
  unfold spec_l3Clash.f at H
  refine run_seq ?_
  refine run_region rfl ?_
  refine ops_ex rfl (guard_none rfl) rfl rfl (ex_assign rfl rfl) ?_
  refine ops_nil ?_
  refine at_then ?_
  obtain ⟨o1382, ho1383, H⟩ := bind_some H
  refine run_mid (fun ρ_ w_ => Sum.inr () = o1382 ∧ ρ_ = [] ∧ Mem w [] w_ []) ?_ ?_
  · skip
    refine run_seq ?_
    refine run_region rfl ?_
    refine ops_ex rfl (guard_none rfl) rfl rfl (ex_assign rfl rfl) ?_
    refine ops_nil ?_
    refine at_then ?_
    refine run_block ?_
    refine run_loop (fun k_ ρ_ w_ => ∃ a1390 : Int, spec_l3Clash.l0 x0 x1 k_ a1390 = some o1382 ∧ ρ_ = [(0, .pointer (some ⟨b0, f0, none⟩)), (1, .pointer (some ⟨b1, f1, none⟩)), (5, .int .i64 a1390)] ∧ Mem w [] w_ []) k (ρ1 := [(0, .pointer (some ⟨b0, f0, none⟩)), (1, .pointer (some ⟨b1, f1, none⟩)), (5, .int .i64 0)]) ⟨_, ho1383, rfl, HM⟩ (Sub.cons rfl (Sub.cons rfl (Sub.cons rfl Sub.nil))) ?_
    clear HM ho1383
    rintro k1397 _ w1398 ⟨a1390, ho1383, rfl, HM⟩
    obtain _ | k1397 := k1397
    · exact nomatch ((spec_l3Clash.l0_z x0 x1 a1390).symm.trans ho1383)
    replace ho1383 := (spec_l3Clash.l0_s x0 x1 k1397 a1390).symm.trans ho1383
    refine run_seq ?_
    refine run_seq ?_
    refine run_region rfl ?_
    refine ops_ex rfl (guard_none rfl) rfl rfl (ex_move rfl rfl) ?_
    refine ops_ex rfl (guard_none rfl) rfl rfl (ex_move rfl rfl) ?_
    refine ops_ex rfl (guard_none rfl) rfl rfl (ex_nilCheck rfl rfl) ?_
    refine ops_ex rfl (guard_none rfl) rfl rfl (ex_fieldAddr (off' := f0 + 2) rfl rfl Try.underlying37 rfl tsz34 rfl) ?_
    refine ops_ex rfl (guard_none rfl) rfl rfl (ex_load1 rfl rfl Try.underlying34 rfl ((HM.at_ hc0) 2 _ rfl)) ?_
    refine ops_ex rfl (guard_none rfl) rfl rfl (ex_len (d := kRef) (xs := x0.fIns) rfl rfl Try.underlying34 hp0_0) ?_
    refine ops_ex rfl (guard_none rfl) rfl rfl (ex_lss rfl rfl rfl) ?_
    refine ops_nil ?_
    refine at_then ?_
    refine run_cond (b := (decide (a1390 < (x0.fIns.length : Int)))) rfl (fun hb1399 => ?_) (fun hb1399 => ?_)
    · replace ho1383 := cond_t hb1399 ho1383
      refine run_skip ?_
      refine at_then ?_
      refine run_seq ?_
      refine run_block ?_
      refine run_seq ?_
      obtain ⟨e1400, ho1383⟩ := chk_some ho1383
      obtain ⟨t1402, h1403, ho1383⟩ := bind_some ho1383
      refine run_drawf (fun w_ => Mem w [] w_ []) [(0, true), (1, true), (2, true), (3, true), (4, true), (5, true), (6, true), (7, true), (8, true), (9, true), (10, true), (11, false)] mixed rfl rfl (by kernel_rfl) ?_
      replace HM := HM.grow (fr_drew _)
      have hS := Mem.suf (M := []) HM
      refine drwp_take rfl (guard_none rfl) rfl rfl (fun w_ hS_ => (ex_move rfl rfl)) hS ?_
      refine drwp_take rfl (guard_none rfl) rfl rfl (fun w_ hS_ => (ex_nilCheck rfl rfl)) hS ?_
      refine drwp_take rfl (guard_none rfl) rfl rfl (fun w_ hS_ => (ex_fieldAddr (off' := f1 + 2) rfl rfl Try.underlying37 rfl tsz34 rfl)) hS ?_
      refine drwp_take rfl (guard_none rfl) rfl rfl (fun w_ hS_ => (ex_load1 rfl rfl Try.underlying34 rfl ((hS_.at_ hc1) 2 _ rfl))) hS ?_
      refine drwp_take rfl (guard_none rfl) rfl rfl (fun w_ hS_ => (ex_move rfl rfl)) hS ?_
      refine drwp_take rfl (guard_none rfl) rfl rfl (fun w_ hS_ => (ex_nilCheck rfl rfl)) hS ?_
      refine drwp_take rfl (guard_none rfl) rfl rfl (fun w_ hS_ => (ex_fieldAddr (off' := f0 + 2) rfl rfl Try.underlying37 rfl tsz34 rfl)) hS ?_
      refine drwp_take rfl (guard_none rfl) rfl rfl (fun w_ hS_ => (ex_load1 rfl rfl Try.underlying34 rfl ((hS_.at_ hc0) 2 _ rfl))) hS ?_
      refine drwp_take rfl (guard_none rfl) rfl rfl (fun w_ hS_ => (ex_move rfl rfl)) hS ?_
      have hc1401 : CellsAt _ (sb p0_0) (so p0_0 + (a1390).toNat * 2) [(.int .i64 ((gt x0.fIns a1390).fTx)), (.int .i64 ((gt x0.fIns a1390).fAt))] := rd_plain hp0_0 e1400
      refine drwp_take rfl (guard_none rfl) rfl rfl (fun w_ hS_ => (ex_indexAddr (d := kRef) rfl rfl rfl Try.underlying34 tsz99 hp0_0 (idx_lo e1400) (idx_hi e1400))) hS ?_
      refine drwp_take rfl (guard_none rfl) rfl rfl (fun w_ hS_ => (ex_loadN (cs := [(.int .i64 ((gt x0.fIns a1390).fTx)), (.int .i64 ((gt x0.fIns a1390).fAt))]) rfl rfl Try.underlying99 rfl tsz99 rfl ((hS_.at_ hc1401).sub 0 2 rfl))) hS ?_
      refine drwp_one rfl (guard_none rfl) rfl rfl (does_callk rfl callok138 rfl (spec_l3Among.calls (x0 := x1.fIns) (x1 := (gt x0.fIns a1390)) (HM.rd hp1_0) h1403)) ?_
      rintro _ w1404 ⟨rfl, hn⟩
      replace HM : Mem w [] w1404 [] := HM.call hn
      refine ⟨Mem.suf (M := []) HM, ?_⟩
      have hS := Mem.suf (M := []) HM
      refine drwp_done ?_
      refine at_then ?_
      refine run_cond (b := t1402) rfl (fun hb1405 => ?_) (fun hb1405 => ?_)
      · replace ho1383 := cond_t hb1405 ho1383
        refine run_seq ?_
        refine run_region rfl ?_
        refine ops_ex rfl (guard_none rfl) rfl rfl (ex_assign rfl rfl) ?_
        refine ops_nil ?_
        refine at_then ?_
        refine run_ret ?_
        refine at_block_ret ?_
        refine at_then_ret ?_
        refine at_then_ret ?_
        refine at_block_ret ?_
        refine at_then_ret ?_
        have hR := Option.some.inj ho1383
        subst hR
        have hT := thn_inl H
        have hR := Option.some.inj hT
        subst hR
        exact at_ret1 rfl rfl ⟨_, rfl, rfl, HM⟩
      · replace ho1383 := cond_f hb1405 ho1383
        refine run_skip ?_
        refine at_block ?_
        refine at_then ?_
        refine run_region rfl ?_
        refine ops_ex rfl (guard_none rfl) rfl rfl (ex_move rfl rfl) ?_
        refine ops_ex rfl (guard_none rfl) rfl rfl (ex_add rfl rfl rfl) ?_
        refine ops_ex rfl (guard_none rfl) rfl rfl (ex_assign rfl rfl) ?_
        refine ops_nil ?_
        exact at_again k1397 (ρ1 := [(0, .pointer (some ⟨b0, f0, none⟩)), (1, .pointer (some ⟨b1, f1, none⟩)), (5, .int .i64 (wrap64 (a1390 + 1)))]) (Nat.lt_succ_self _) ⟨_, ho1383, rfl, HM⟩ (Sub.cons rfl (Sub.cons rfl (Sub.cons rfl Sub.nil)))
    · replace ho1383 := cond_f hb1399 ho1383
      refine run_exit ?_
      refine at_then_exit ?_
      refine at_then_exit ?_
      refine at_block_exit ?_
      exact at_mid (ρ' := []) ⟨(Option.some.inj ho1383), rfl, HM⟩ Sub.nil
  · rintro _ w1406 ⟨rfl, rfl, HM⟩
    replace H := (thn_inr H)
    refine run_seq ?_
    refine run_region rfl ?_
    refine ops_ex rfl (guard_none rfl) rfl rfl (ex_assign rfl rfl) ?_
    refine ops_nil ?_
    refine at_then ?_
    refine run_ret ?_
    have hR := Option.some.inj H
    subst hR
    exact at_ret1 rfl rfl ⟨_, rfl, rfl, HM⟩

def spec_ClashTx.f (k : Nat) (x0 : Tx) (x1 : Tx) : Option Bool := ((spec_l3Fault.f k x0).bind fun t1417 => ((bif (t1417 == 0) then spec_l3Fault.f k x1 else some default).bind fun t1419 => ((bif ((t1417 == 0) && (t1419 == 0)) then spec_l3Clash.f k x0 x1 else some default).bind fun t1421 => some (((t1417 == 0) && (t1419 == 0)) && t1421))))
theorem spec_ClashTx.calls {k : Nat} {x0 : Tx} {x1 : Tx} {p0_0 : Value} {p0_1 : Value} {p1_0 : Value} {p1_1 : Value} {w : World} (hp0_0 : RdS kRef w p0_0 x0.fIns) (hp0_1 : RdS kOut w p0_1 x0.fOuts) (hp1_0 : RdS kRef w p1_0 x1.fIns) (hp1_1 : RdS kOut w p1_1 x1.fOuts) {r : Bool} (H : spec_ClashTx.f k x0 x1 = some r) :
    Calls Try.prog 37 ([.agg #[(.int .i64 x0.fKind), (.int .i64 x0.fMember), p0_0, p0_1], .agg #[(.int .i64 x1.fKind), (.int .i64 x1.fMember), p1_0, p1_1]] : List Value).toArray w (fun e w_ => ∃ v, e = .returned v ∧ v = (.bool r) ∧ Mem w [] w_ []) := by
  have HM := Mem.start w
  refine calls_run (N := 14) Try.func37 rfl rfl rfl rfl ?_
  unfold spec_ClashTx.f at H
  refine run_seq ?_
  refine run_region rfl ?_
  refine ops_does rfl (guard_none rfl) rfl rfl (does_box (cs := [.int .i64 x0.fKind, .int .i64 x0.fMember, p0_0, p0_1]) rfl rfl rfl HM) ?_
  rintro _ w1415 ⟨b1409, rfl, HM⟩
  refine ops_does rfl (guard_none rfl) rfl rfl (does_box (cs := [.int .i64 x1.fKind, .int .i64 x1.fMember, p1_0, p1_1]) rfl rfl rfl HM) ?_
  rintro _ w1416 ⟨b1412, rfl, HM⟩
  refine ops_ex rfl (guard_none rfl) rfl rfl (ex_assign rfl rfl) ?_
  refine ops_nil ?_
  refine at_then ?_
  refine run_seq ?_
  obtain ⟨t1417, h1418, H⟩ := bind_some H
  obtain ⟨t1419, h1420, H⟩ := bind_some H
  obtain ⟨t1421, h1422, H⟩ := bind_some H
  refine run_meet (fun ρ_ w_ => ρ_ = [(4, .bool (((t1417 == 0) && (t1419 == 0)) && t1421))] ∧ Mem w [] w_ []) ?_ ?_
  · skip
    refine run_region rfl ?_
    refine ops_does rfl (guard_none rfl) rfl rfl (does_callk rfl callok84 rfl (spec_l3Fault.calls (x0 := x0) (HM.box_at 1 rfl) (HM.rd hp0_0) (HM.rd hp0_1) h1418)) ?_
    rintro _ w1423 ⟨rfl, hn⟩
    replace HM : Mem w [] w1423 [box b1412 37 [.int .i64 x1.fKind, .int .i64 x1.fMember, p1_0, p1_1], box b1409 37 [.int .i64 x0.fKind, .int .i64 x0.fMember, p0_0, p0_1]] := HM.call hn
    refine ops_ex rfl (guard_none rfl) rfl rfl (ex_eql rfl rfl rfl) ?_
    refine ops_ex rfl (guard_none rfl) rfl rfl (ex_move rfl rfl) ?_
    refine bool_cases (t1417 == 0) (fun hg1424 => ?_) (fun hg1424 => ?_)
    · skip
      refine ops_does rfl (guard_on rfl rfl rfl hg1424) rfl rfl (does_callk rfl callok84 rfl (spec_l3Fault.calls (x0 := x1) (HM.box_at 0 rfl) (HM.rd hp1_0) (HM.rd hp1_1) (cond_t hg1424 h1420))) ?_
      rintro _ w1425 ⟨rfl, hn⟩
      replace HM : Mem w [] w1425 [box b1412 37 [.int .i64 x1.fKind, .int .i64 x1.fMember, p1_0, p1_1], box b1409 37 [.int .i64 x0.fKind, .int .i64 x0.fMember, p0_0, p0_1]] := HM.call hn
      refine ops_ex rfl (guard_on rfl rfl rfl hg1424) rfl rfl (ex_eql rfl rfl rfl) ?_
      refine ops_ex (v := .bool ((t1417 == 0) && (t1419 == 0))) rfl (guard_none rfl) rfl rfl (ex_pand_t rfl rfl hg1424 rfl) ?_
      refine ops_ex rfl (guard_none rfl) rfl rfl (ex_move rfl rfl) ?_
      refine bool_cases ((t1417 == 0) && (t1419 == 0)) (fun hg1426 => ?_) (fun hg1426 => ?_)
      · skip
        refine ops_does rfl (guard_on rfl rfl rfl hg1426) rfl rfl (does_callk rfl callok93 rfl (spec_l3Clash.calls (x0 := x0) (x1 := x1) (HM.box_at 1 rfl) (HM.rd hp0_0) (HM.rd hp0_1) (HM.box_at 0 rfl) (HM.rd hp1_0) (HM.rd hp1_1) (cond_t hg1426 h1422))) ?_
        rintro _ w1427 ⟨rfl, hn⟩
        replace HM : Mem w [] w1427 [box b1412 37 [.int .i64 x1.fKind, .int .i64 x1.fMember, p1_0, p1_1], box b1409 37 [.int .i64 x0.fKind, .int .i64 x0.fMember, p0_0, p0_1]] := HM.call hn
        refine ops_ex (v := .bool (((t1417 == 0) && (t1419 == 0)) && t1421)) rfl (guard_none rfl) rfl rfl (ex_pand_t rfl rfl hg1426 rfl) ?_
        refine ops_ex rfl (guard_none rfl) rfl rfl (ex_assign rfl rfl) ?_
        refine ops_nil ?_
        replace HM := (HM.front 0 rfl rfl).drop
        replace HM := (HM.front 0 rfl rfl).drop
        exact at_meet [(4, .bool (((t1417 == 0) && (t1419 == 0)) && t1421))] ⟨rfl, HM⟩ (Sub.cons rfl Sub.nil)
      · skip
        refine ops_off rfl (guard_off rfl rfl rfl hg1426) rfl rfl ?_
        have hg1428 : (((t1417 == 0) && (t1419 == 0)) && t1421) = false := by simp only [hg1426, Bool.and_true, Bool.true_and, Bool.and_false, Bool.false_and, Bool.or_true, Bool.true_or, Bool.or_false, Bool.false_or, Bool.not_true, Bool.not_false, Bool.not_not]
        refine ops_ex (v := .bool (((t1417 == 0) && (t1419 == 0)) && t1421)) rfl (guard_none rfl) rfl rfl (ex_pand_f rfl rfl hg1426) ?_
        refine ops_ex rfl (guard_none rfl) rfl rfl (ex_assign rfl rfl) ?_
        refine ops_nil ?_
        replace HM := (HM.front 0 rfl rfl).drop
        replace HM := (HM.front 0 rfl rfl).drop
        exact at_meet [(4, .bool (((t1417 == 0) && (t1419 == 0)) && t1421))] ⟨rfl, HM⟩ (Sub.cons rfl Sub.nil)
    · skip
      refine ops_off rfl (guard_off rfl rfl rfl hg1424) rfl rfl ?_
      refine ops_off rfl (guard_off rfl rfl rfl hg1424) rfl rfl ?_
      have hg1429 : ((t1417 == 0) && (t1419 == 0)) = false := by simp only [hg1424, Bool.and_true, Bool.true_and, Bool.and_false, Bool.false_and, Bool.or_true, Bool.true_or, Bool.or_false, Bool.false_or, Bool.not_true, Bool.not_false, Bool.not_not]
      refine ops_ex (v := .bool ((t1417 == 0) && (t1419 == 0))) rfl (guard_none rfl) rfl rfl (ex_pand_f rfl rfl hg1424) ?_
      refine ops_ex rfl (guard_none rfl) rfl rfl (ex_move rfl rfl) ?_
      refine ops_off rfl (guard_off rfl rfl rfl hg1429) rfl rfl ?_
      have hg1430 : (((t1417 == 0) && (t1419 == 0)) && t1421) = false := by simp only [hg1429, Bool.and_true, Bool.true_and, Bool.and_false, Bool.false_and, Bool.or_true, Bool.true_or, Bool.or_false, Bool.false_or, Bool.not_true, Bool.not_false, Bool.not_not]
      refine ops_ex (v := .bool (((t1417 == 0) && (t1419 == 0)) && t1421)) rfl (guard_none rfl) rfl rfl (ex_pand_f rfl rfl hg1429) ?_
      refine ops_ex rfl (guard_none rfl) rfl rfl (ex_assign rfl rfl) ?_
      refine ops_nil ?_
      replace HM := (HM.front 0 rfl rfl).drop
      replace HM := (HM.front 0 rfl rfl).drop
      exact at_meet [(4, .bool (((t1417 == 0) && (t1419 == 0)) && t1421))] ⟨rfl, HM⟩ (Sub.cons rfl Sub.nil)
  · rintro _ w1431 ⟨rfl, HM⟩
    refine at_then ?_
    refine run_ret ?_
    have hR := Option.some.inj H
    subst hR
    exact at_ret1 rfl rfl ⟨_, rfl, rfl, HM⟩

def impl_within.f (k : Nat) (x0 : Int) (x1 : Int) (x2 : Int) : Option Bool := some ((decide (x1 ≤ x0)) && (decide (x0 ≤ x2)))
theorem impl_within.calls {k : Nat} {x0 : Int} {x1 : Int} {x2 : Int}  {w : World}  {r : Bool} (H : impl_within.f k x0 x1 x2 = some r) :
    Calls Try.prog 81 ([.int .i64 x0, .int .i64 x1, .int .i64 x2] : List Value).toArray w (fun e w_ => ∃ v, e = .returned v ∧ v = (.bool r) ∧ Mem w [] w_ []) := by
  have HM := Mem.start w
  refine calls_run (N := 15) Try.func81 rfl rfl rfl rfl ?_
  unfold impl_within.f at H
  refine run_seq ?_
  refine run_region rfl ?_
  refine ops_ex rfl (guard_none rfl) rfl rfl (ex_assign rfl rfl) ?_
  refine ops_nil ?_
  refine at_then ?_
  refine run_seq ?_
  refine run_meet (fun ρ_ w_ => ρ_ = [(6, .bool ((decide (x1 ≤ x0)) && (decide (x0 ≤ x2))))] ∧ Mem w [] w_ []) ?_ ?_
  · skip
    refine run_region rfl ?_
    refine ops_ex rfl (guard_none rfl) rfl rfl (ex_move rfl rfl) ?_
    refine ops_ex rfl (guard_none rfl) rfl rfl (ex_move rfl rfl) ?_
    refine ops_ex rfl (guard_none rfl) rfl rfl (ex_geq rfl rfl rfl) ?_
    refine ops_ex rfl (guard_none rfl) rfl rfl (ex_move rfl rfl) ?_
    refine bool_cases (decide (x1 ≤ x0)) (fun hg1461 => ?_) (fun hg1461 => ?_)
    · skip
      refine ops_ex rfl (guard_on rfl rfl rfl hg1461) rfl rfl (ex_move rfl rfl) ?_
      refine ops_ex rfl (guard_on rfl rfl rfl hg1461) rfl rfl (ex_move rfl rfl) ?_
      refine ops_ex rfl (guard_on rfl rfl rfl hg1461) rfl rfl (ex_leq rfl rfl rfl) ?_
      refine ops_ex (v := .bool ((decide (x1 ≤ x0)) && (decide (x0 ≤ x2)))) rfl (guard_none rfl) rfl rfl (ex_pand_t rfl rfl hg1461 rfl) ?_
      refine ops_ex rfl (guard_none rfl) rfl rfl (ex_assign rfl rfl) ?_
      refine ops_nil ?_
      exact at_meet [(6, .bool ((decide (x1 ≤ x0)) && (decide (x0 ≤ x2))))] ⟨rfl, HM⟩ (Sub.cons rfl Sub.nil)
    · skip
      refine ops_off rfl (guard_off rfl rfl rfl hg1461) rfl rfl ?_
      refine ops_off rfl (guard_off rfl rfl rfl hg1461) rfl rfl ?_
      refine ops_off rfl (guard_off rfl rfl rfl hg1461) rfl rfl ?_
      have hg1462 : ((decide (x1 ≤ x0)) && (decide (x0 ≤ x2))) = false := by simp only [hg1461, Bool.and_true, Bool.true_and, Bool.and_false, Bool.false_and, Bool.or_true, Bool.true_or, Bool.or_false, Bool.false_or, Bool.not_true, Bool.not_false, Bool.not_not]
      refine ops_ex (v := .bool ((decide (x1 ≤ x0)) && (decide (x0 ≤ x2)))) rfl (guard_none rfl) rfl rfl (ex_pand_f rfl rfl hg1461) ?_
      refine ops_ex rfl (guard_none rfl) rfl rfl (ex_assign rfl rfl) ?_
      refine ops_nil ?_
      exact at_meet [(6, .bool ((decide (x1 ≤ x0)) && (decide (x0 ≤ x2))))] ⟨rfl, HM⟩ (Sub.cons rfl Sub.nil)
  · rintro _ w1463 ⟨rfl, HM⟩
    refine at_then ?_
    refine run_ret ?_
    have hR := Option.some.inj H
    subst hR
    exact at_ret1 rfl rfl ⟨_, rfl, rfl, HM⟩

def impl_isKey.f (k : Nat) (x0 : Int) : Option Bool := ((impl_within.f k x0 1 999).bind fun t1469 => some t1469)
theorem impl_isKey.calls {k : Nat} {x0 : Int}  {w : World}  {r : Bool} (H : impl_isKey.f k x0 = some r) :
    Calls Try.prog 86 ([.int .i64 x0] : List Value).toArray w (fun e w_ => ∃ v, e = .returned v ∧ v = (.bool r) ∧ Mem w [] w_ []) := by
  have HM := Mem.start w
  refine calls_run (N := 5) Try.func86 rfl rfl rfl rfl ?_
  unfold impl_isKey.f at H
  refine run_seq ?_
  refine run_region rfl ?_
  refine ops_ex rfl (guard_none rfl) rfl rfl (ex_assign rfl rfl) ?_
  refine ops_nil ?_
  refine at_then ?_
  refine run_seq ?_
  obtain ⟨t1469, h1470, H⟩ := bind_some H
  refine run_region rfl ?_
  refine ops_ex rfl (guard_none rfl) rfl rfl (ex_move rfl rfl) ?_
  refine ops_does rfl (guard_none rfl) rfl rfl (does_callk rfl callok81 rfl (impl_within.calls (x0 := x0) (x1 := 1) (x2 := 999) h1470)) ?_
  rintro _ w1471 ⟨rfl, hn⟩
  replace HM : Mem w [] w1471 [] := HM.call hn
  refine ops_ex rfl (guard_none rfl) rfl rfl (ex_assign rfl rfl) ?_
  refine ops_nil ?_
  refine at_then ?_
  refine run_ret ?_
  have hR := Option.some.inj H
  subst hR
  exact at_ret1 rfl rfl ⟨_, rfl, rfl, HM⟩

def impl_TxFault_1.f (k : Nat) (x0 : Int) : Option Bool := some ((decide (x0 < 1)) || (decide (4 < x0)))
theorem impl_TxFault_1.calls {k : Nat} {x0 : Int}  {w : World}  {r : Bool} (H : impl_TxFault_1.f k x0 = some r) :
    Calls Try.prog 85 ([.int .i64 x0] : List Value).toArray w (fun e w_ => ∃ v, e = .returned v ∧ v = (.bool r) ∧ Mem w [] w_ []) := by
  have HM := Mem.start w
  refine calls_run (N := 9) Try.func85 rfl rfl rfl rfl ?_
  unfold impl_TxFault_1.f at H
  refine run_seq ?_
  refine run_region rfl ?_
  refine ops_ex rfl (guard_none rfl) rfl rfl (ex_assign rfl rfl) ?_
  refine ops_nil ?_
  refine at_then ?_
  refine run_seq ?_
  refine run_meet (fun ρ_ w_ => ρ_ = [(2, .bool ((decide (x0 < 1)) || (decide (4 < x0))))] ∧ Mem w [] w_ []) ?_ ?_
  · skip
    refine run_region rfl ?_
    refine ops_ex rfl (guard_none rfl) rfl rfl (ex_move rfl rfl) ?_
    refine ops_ex rfl (guard_none rfl) rfl rfl (ex_lss rfl rfl rfl) ?_
    refine ops_ex rfl (guard_none rfl) rfl rfl (ex_move rfl rfl) ?_
    refine bool_cases (decide (x0 < 1)) (fun hg1475 => ?_) (fun hg1475 => ?_)
    · skip
      refine ops_off rfl (guard_off rfl rfl rfl hg1475) rfl rfl ?_
      refine ops_off rfl (guard_off rfl rfl rfl hg1475) rfl rfl ?_
      have hg1476 : ((decide (x0 < 1)) || (decide (4 < x0))) = true := by simp only [hg1475, Bool.and_true, Bool.true_and, Bool.and_false, Bool.false_and, Bool.or_true, Bool.true_or, Bool.or_false, Bool.false_or, Bool.not_true, Bool.not_false, Bool.not_not]
      refine ops_ex (v := .bool ((decide (x0 < 1)) || (decide (4 < x0)))) rfl (guard_none rfl) rfl rfl (ex_por_t rfl rfl hg1475) ?_
      refine ops_ex rfl (guard_none rfl) rfl rfl (ex_assign rfl rfl) ?_
      refine ops_nil ?_
      exact at_meet [(2, .bool ((decide (x0 < 1)) || (decide (4 < x0))))] ⟨rfl, HM⟩ (Sub.cons rfl Sub.nil)
    · skip
      refine ops_ex rfl (guard_on rfl rfl rfl hg1475) rfl rfl (ex_move rfl rfl) ?_
      refine ops_ex rfl (guard_on rfl rfl rfl hg1475) rfl rfl (ex_gtr rfl rfl rfl) ?_
      refine ops_ex (v := .bool ((decide (x0 < 1)) || (decide (4 < x0)))) rfl (guard_none rfl) rfl rfl (ex_por_f rfl rfl hg1475 rfl) ?_
      refine ops_ex rfl (guard_none rfl) rfl rfl (ex_assign rfl rfl) ?_
      refine ops_nil ?_
      exact at_meet [(2, .bool ((decide (x0 < 1)) || (decide (4 < x0))))] ⟨rfl, HM⟩ (Sub.cons rfl Sub.nil)
  · rintro _ w1477 ⟨rfl, HM⟩
    refine at_then ?_
    refine run_ret ?_
    have hR := Option.some.inj H
    subst hR
    exact at_ret1 rfl rfl ⟨_, rfl, rfl, HM⟩

def impl_isId.f (k : Nat) (x0 : Int) : Option Bool := ((impl_within.f k x0 1 60).bind fun t1505 => some t1505)
theorem impl_isId.calls {k : Nat} {x0 : Int}  {w : World}  {r : Bool} (H : impl_isId.f k x0 = some r) :
    Calls Try.prog 131 ([.int .i64 x0] : List Value).toArray w (fun e w_ => ∃ v, e = .returned v ∧ v = (.bool r) ∧ Mem w [] w_ []) := by
  have HM := Mem.start w
  refine calls_run (N := 5) Try.func131 rfl rfl rfl rfl ?_
  unfold impl_isId.f at H
  refine run_seq ?_
  refine run_region rfl ?_
  refine ops_ex rfl (guard_none rfl) rfl rfl (ex_assign rfl rfl) ?_
  refine ops_nil ?_
  refine at_then ?_
  refine run_seq ?_
  obtain ⟨t1505, h1506, H⟩ := bind_some H
  refine run_region rfl ?_
  refine ops_ex rfl (guard_none rfl) rfl rfl (ex_move rfl rfl) ?_
  refine ops_does rfl (guard_none rfl) rfl rfl (does_callk rfl callok81 rfl (impl_within.calls (x0 := x0) (x1 := 1) (x2 := 60) h1506)) ?_
  rintro _ w1507 ⟨rfl, hn⟩
  replace HM : Mem w [] w1507 [] := HM.call hn
  refine ops_ex rfl (guard_none rfl) rfl rfl (ex_assign rfl rfl) ?_
  refine ops_nil ?_
  refine at_then ?_
  refine run_ret ?_
  have hR := Option.some.inj H
  subst hR
  exact at_ret1 rfl rfl ⟨_, rfl, rfl, HM⟩

def impl_isRef.f (k : Nat) (x0 : Ref) : Option Bool := ((impl_isId.f k x0.fTx).bind fun t1516 => ((bif t1516 then impl_within.f k x0.fAt 0 3 else some default).bind fun t1518 => some (t1516 && t1518)))
theorem impl_isRef.calls {k : Nat} {x0 : Ref}  {w : World}  {r : Bool} (H : impl_isRef.f k x0 = some r) :
    Calls Try.prog 79 ([.agg #[(.int .i64 x0.fTx), (.int .i64 x0.fAt)]] : List Value).toArray w (fun e w_ => ∃ v, e = .returned v ∧ v = (.bool r) ∧ Mem w [] w_ []) := by
  have HM := Mem.start w
  refine calls_run (N := 11) Try.func79 rfl rfl rfl rfl ?_
  unfold impl_isRef.f at H
  refine run_seq ?_
  refine run_region rfl ?_
  refine ops_does rfl (guard_none rfl) rfl rfl (does_box (cs := [.int .i64 x0.fTx, .int .i64 x0.fAt]) rfl rfl rfl HM) ?_
  rintro _ w1515 ⟨b1512, rfl, HM⟩
  refine ops_ex rfl (guard_none rfl) rfl rfl (ex_assign rfl rfl) ?_
  refine ops_nil ?_
  refine at_then ?_
  refine run_seq ?_
  obtain ⟨t1516, h1517, H⟩ := bind_some H
  obtain ⟨t1518, h1519, H⟩ := bind_some H
  refine run_meet (fun ρ_ w_ => ρ_ = [(2, .bool (t1516 && t1518))] ∧ Mem w [] w_ []) ?_ ?_
  · skip
    refine run_region rfl ?_
    refine ops_ex rfl (guard_none rfl) rfl rfl (ex_fieldAddr (off' := 0) rfl rfl Try.underlying99 rfl tsz2 rfl) ?_
    refine ops_ex rfl (guard_none rfl) rfl rfl (ex_load1 rfl rfl Try.underlying2 rfl ((HM.box_at 0 rfl) 0 _ rfl)) ?_
    refine ops_does rfl (guard_none rfl) rfl rfl (does_callk rfl callok131 rfl (impl_isId.calls (x0 := x0.fTx) h1517)) ?_
    rintro _ w1520 ⟨rfl, hn⟩
    replace HM : Mem w [] w1520 [box b1512 99 [.int .i64 x0.fTx, .int .i64 x0.fAt]] := HM.call hn
    refine ops_ex rfl (guard_none rfl) rfl rfl (ex_move rfl rfl) ?_
    refine bool_cases t1516 (fun hg1521 => ?_) (fun hg1521 => ?_)
    · skip
      refine ops_ex rfl (guard_on rfl rfl rfl hg1521) rfl rfl (ex_fieldAddr (off' := 1) rfl rfl Try.underlying99 rfl tsz2 rfl) ?_
      refine ops_ex rfl (guard_on rfl rfl rfl hg1521) rfl rfl (ex_load1 rfl rfl Try.underlying2 rfl ((HM.box_at 0 rfl) 1 _ rfl)) ?_
      refine ops_does rfl (guard_on rfl rfl rfl hg1521) rfl rfl (does_callk rfl callok81 rfl (impl_within.calls (x0 := x0.fAt) (x1 := 0) (x2 := 3) (cond_t hg1521 h1519))) ?_
      rintro _ w1522 ⟨rfl, hn⟩
      replace HM : Mem w [] w1522 [box b1512 99 [.int .i64 x0.fTx, .int .i64 x0.fAt]] := HM.call hn
      refine ops_ex (v := .bool (t1516 && t1518)) rfl (guard_none rfl) rfl rfl (ex_pand_t rfl rfl hg1521 rfl) ?_
      refine ops_ex rfl (guard_none rfl) rfl rfl (ex_assign rfl rfl) ?_
      refine ops_nil ?_
      replace HM := (HM.front 0 rfl rfl).drop
      exact at_meet [(2, .bool (t1516 && t1518))] ⟨rfl, HM⟩ (Sub.cons rfl Sub.nil)
    · skip
      refine ops_off rfl (guard_off rfl rfl rfl hg1521) rfl rfl ?_
      refine ops_off rfl (guard_off rfl rfl rfl hg1521) rfl rfl ?_
      refine ops_off rfl (guard_off rfl rfl rfl hg1521) rfl rfl ?_
      have hg1523 : (t1516 && t1518) = false := by simp only [hg1521, Bool.and_true, Bool.true_and, Bool.and_false, Bool.false_and, Bool.or_true, Bool.true_or, Bool.or_false, Bool.false_or, Bool.not_true, Bool.not_false, Bool.not_not]
      refine ops_ex (v := .bool (t1516 && t1518)) rfl (guard_none rfl) rfl rfl (ex_pand_f rfl rfl hg1521) ?_
      refine ops_ex rfl (guard_none rfl) rfl rfl (ex_assign rfl rfl) ?_
      refine ops_nil ?_
      replace HM := (HM.front 0 rfl rfl).drop
      exact at_meet [(2, .bool (t1516 && t1518))] ⟨rfl, HM⟩ (Sub.cons rfl Sub.nil)
  · rintro _ w1524 ⟨rfl, HM⟩
    refine at_then ?_
    refine run_ret ?_
    have hR := Option.some.inj H
    subst hR
    exact at_ret1 rfl rfl ⟨_, rfl, rfl, HM⟩

def slices_Index_impl_Ref.l0 (x0 : List Ref) (x1 : Ref) : Nat → Int → Option (Int ⊕ Unit)
  | 0, _ => none
  | k + 1, a1579 => (bif (decide (a1579 < (x0.length : Int))) then (chk (idxOk a1579 x0.length) (bif ((x1.fTx == ((gt x0 a1579).fTx)) && (x1.fAt == ((gt x0 a1579).fAt))) then some (.inl a1579) else slices_Index_impl_Ref.l0 x0 x1 k (wrap64 (a1579 + 1)))) else some (.inr ()))
theorem slices_Index_impl_Ref.l0_z (x0 : List Ref) (x1 : Ref) (a1579 : Int) : slices_Index_impl_Ref.l0 x0 x1 0 a1579 = none := rfl
theorem slices_Index_impl_Ref.l0_s (x0 : List Ref) (x1 : Ref) (k : Nat) (a1579 : Int) : slices_Index_impl_Ref.l0 x0 x1 (k + 1) a1579 = (bif (decide (a1579 < (x0.length : Int))) then (chk (idxOk a1579 x0.length) (bif ((x1.fTx == ((gt x0 a1579).fTx)) && (x1.fAt == ((gt x0 a1579).fAt))) then some (.inl a1579) else slices_Index_impl_Ref.l0 x0 x1 k (wrap64 (a1579 + 1)))) else some (.inr ())) := rfl
def slices_Index_impl_Ref.f (k : Nat) (x0 : List Ref) (x1 : Ref) : Option Int := ((slices_Index_impl_Ref.l0 x0 x1 k 0).bind fun o1573 => thn o1573 (fun r => some r) (fun _ => some (-1)))
theorem slices_Index_impl_Ref.calls {k : Nat} {x0 : List Ref} {x1 : Ref} {p0 : Value} {w : World} (hp0 : RdS kRef w p0 x0) {r : Int} (H : slices_Index_impl_Ref.f k x0 x1 = some r) :
    Calls Try.prog 140 ([p0, .agg #[(.int .i64 x1.fTx), (.int .i64 x1.fAt)]] : List Value).toArray w (fun e w_ => ∃ v, e = .returned v ∧ v = (.int .i64 r) ∧ Mem w [] w_ []) := by
  have HM := Mem.start w
  refine calls_run (N := 19) Try.func140 rfl rfl rfl rfl ?_
  unfold slices_Index_impl_Ref.f at H
  refine run_seq ?_
  refine run_region rfl ?_
  refine ops_does rfl (guard_none rfl) rfl rfl (does_box (cs := [.int .i64 x1.fTx, .int .i64 x1.fAt]) rfl rfl rfl HM) ?_
  rintro _ w1559 ⟨b1556, rfl, HM⟩
  refine ops_ex rfl (guard_none rfl) rfl rfl (ex_assign rfl rfl) ?_
  refine ops_nil ?_
  refine at_then ?_
  obtain ⟨o1573, ho1574, H⟩ := bind_some H
  refine run_mid (fun ρ_ w_ => Sum.inr () = o1573 ∧ ρ_ = [] ∧ Mem w [] w_ []) ?_ ?_
  · skip
    refine run_seq ?_
    refine run_region rfl ?_
    refine ops_ex rfl (guard_none rfl) rfl rfl (ex_move rfl rfl) ?_
    refine ops_ex rfl (guard_none rfl) rfl rfl (ex_len (d := kRef) (xs := x0) rfl rfl Try.underlying34 hp0) ?_
    refine ops_ex rfl (guard_none rfl) rfl rfl (ex_move rfl rfl) ?_
    refine ops_nil ?_
    refine at_then ?_
    refine run_block ?_
    refine run_loop (fun k_ ρ_ w_ => ∃ a1579 : Int, slices_Index_impl_Ref.l0 x0 x1 k_ a1579 = some o1573 ∧ ρ_ = [(0, p0), (3, .pointer (some ⟨b1556, 0, none⟩)), (7, .int .i64 (x0.length : Int)), (8, .int .i64 a1579)] ∧ Mem w [] w_ [box b1556 99 [.int .i64 x1.fTx, .int .i64 x1.fAt]]) k (ρ1 := [(0, p0), (3, .pointer (some ⟨b1556, 0, none⟩)), (7, .int .i64 (x0.length : Int)), (8, .int .i64 0)]) ⟨_, ho1574, rfl, HM⟩ (Sub.cons rfl (Sub.cons rfl (Sub.cons rfl (Sub.cons rfl Sub.nil)))) ?_
    clear HM ho1574
    rintro k1584 _ w1585 ⟨a1579, ho1574, rfl, HM⟩
    obtain _ | k1584 := k1584
    · exact nomatch ((slices_Index_impl_Ref.l0_z x0 x1 a1579).symm.trans ho1574)
    replace ho1574 := (slices_Index_impl_Ref.l0_s x0 x1 k1584 a1579).symm.trans ho1574
    refine run_seq ?_
    refine run_region rfl ?_
    refine ops_ex rfl (guard_none rfl) rfl rfl (ex_lss rfl rfl rfl) ?_
    refine ops_nil ?_
    refine at_then ?_
    refine run_seq ?_
    refine run_cond (b := (decide (a1579 < (x0.length : Int)))) rfl (fun hb1586 => ?_) (fun hb1586 => ?_)
    · replace ho1574 := cond_t hb1586 ho1574
      refine run_skip ?_
      refine at_then ?_
      refine run_seq ?_
      refine run_block ?_
      refine run_seq ?_
      refine run_region rfl ?_
      refine ops_ex rfl (guard_none rfl) rfl rfl (ex_move rfl rfl) ?_
      refine ops_ex rfl (guard_none rfl) rfl rfl (ex_assign rfl rfl) ?_
      refine ops_nil ?_
      refine at_then ?_
      refine run_seq ?_
      obtain ⟨e1587, ho1574⟩ := chk_some ho1574
      refine run_drawf (fun w_ => Mem w [] w_ [box b1556 99 [.int .i64 x1.fTx, .int .i64 x1.fAt]]) [(0, true), (1, true), (2, true), (3, true), (4, true), (5, true)] mixed rfl rfl (by kernel_rfl) ?_
      replace HM := HM.grow (fr_drew _)
      have hS := Mem.suf (M := []) HM
      refine drwp_take rfl (guard_none rfl) rfl rfl (fun w_ hS_ => (ex_loadN (cs := [(.int .i64 x1.fTx), (.int .i64 x1.fAt)]) rfl rfl Try.underlying99 rfl tsz99 rfl ((hS_.box_at 0 rfl).sub 0 2 rfl))) hS ?_
      refine drwp_take rfl (guard_none rfl) rfl rfl (fun w_ hS_ => (ex_move rfl rfl)) hS ?_
      refine drwp_take rfl (guard_none rfl) rfl rfl (fun w_ hS_ => (ex_move rfl rfl)) hS ?_
      have hc1588 : CellsAt _ (sb p0) (so p0 + (a1579).toNat * 2) [(.int .i64 ((gt x0 a1579).fTx)), (.int .i64 ((gt x0 a1579).fAt))] := rd_plain hp0 e1587
      refine drwp_take rfl (guard_none rfl) rfl rfl (fun w_ hS_ => (ex_indexAddr (d := kRef) rfl rfl rfl Try.underlying34 tsz99 hp0 (idx_lo e1587) (idx_hi e1587))) hS ?_
      refine drwp_take rfl (guard_none rfl) rfl rfl (fun w_ hS_ => (ex_loadN (cs := [(.int .i64 ((gt x0 a1579).fTx)), (.int .i64 ((gt x0 a1579).fAt))]) rfl rfl Try.underlying99 rfl tsz99 rfl ((hS_.at_ hc1588).sub 0 2 rfl))) hS ?_
      refine drwp_take rfl (guard_none rfl) rfl rfl (fun w_ hS_ => (ex_aeql rfl rfl rfl (by kernel_rfl) (eqs99 _ _ _ _ _))) hS ?_
      refine drwp_done ?_
      refine at_then ?_
      refine run_cond (b := ((x1.fTx == ((gt x0 a1579).fTx)) && (x1.fAt == ((gt x0 a1579).fAt)))) rfl (fun hb1589 => ?_) (fun hb1589 => ?_)
      · replace ho1574 := cond_t hb1589 ho1574
        refine run_seq ?_
        refine run_region rfl ?_
        refine ops_ex rfl (guard_none rfl) rfl rfl (ex_move rfl rfl) ?_
        refine ops_ex rfl (guard_none rfl) rfl rfl (ex_assign rfl rfl) ?_
        refine ops_nil ?_
        refine at_then ?_
        refine run_ret ?_
        refine at_block_ret ?_
        refine at_then_ret ?_
        refine at_then_ret ?_
        refine at_block_ret ?_
        refine at_then_ret ?_
        replace HM := (HM.front 0 rfl rfl).drop
        have hR := Option.some.inj ho1574
        subst hR
        have hT := thn_inl H
        have hR := Option.some.inj hT
        subst hR
        exact at_ret1 rfl rfl ⟨_, rfl, rfl, HM⟩
      · replace ho1574 := cond_f hb1589 ho1574
        refine run_skip ?_
        refine at_block ?_
        refine at_then ?_
        refine run_region rfl ?_
        refine ops_ex rfl (guard_none rfl) rfl rfl (ex_add rfl rfl rfl) ?_
        refine ops_ex rfl (guard_none rfl) rfl rfl (ex_move rfl rfl) ?_
        refine ops_nil ?_
        exact at_again k1584 (ρ1 := [(0, p0), (3, .pointer (some ⟨b1556, 0, none⟩)), (7, .int .i64 (x0.length : Int)), (8, .int .i64 (wrap64 (a1579 + 1)))]) (Nat.lt_succ_self _) ⟨_, ho1574, rfl, HM⟩ (Sub.cons rfl (Sub.cons rfl (Sub.cons rfl (Sub.cons rfl Sub.nil))))
    · replace ho1574 := cond_f hb1586 ho1574
      refine run_exit ?_
      refine at_then_exit ?_
      refine at_then_exit ?_
      refine at_block_exit ?_
      replace HM := (HM.front 0 rfl rfl).drop
      exact at_mid (ρ' := []) ⟨(Option.some.inj ho1574), rfl, HM⟩ Sub.nil
  · rintro _ w1590 ⟨rfl, rfl, HM⟩
    replace H := (thn_inr H)
    refine run_seq ?_
    refine run_region rfl ?_
    refine ops_ex rfl (guard_none rfl) rfl rfl (ex_assign rfl rfl) ?_
    refine ops_nil ?_
    refine at_then ?_
    refine run_ret ?_
    have hR := Option.some.inj H
    subst hR
    exact at_ret1 rfl rfl ⟨_, rfl, rfl, HM⟩

def slices_Contains_impl_Ref.f (k : Nat) (x0 : List Ref) (x1 : Ref) : Option Bool := ((slices_Index_impl_Ref.f k x0 x1).bind fun t1597 => some (decide (0 ≤ t1597)))
theorem slices_Contains_impl_Ref.calls {k : Nat} {x0 : List Ref} {x1 : Ref} {p0 : Value} {w : World} (hp0 : RdS kRef w p0 x0) {r : Bool} (H : slices_Contains_impl_Ref.f k x0 x1 = some r) :
    Calls Try.prog 87 ([p0, .agg #[(.int .i64 x1.fTx), (.int .i64 x1.fAt)]] : List Value).toArray w (fun e w_ => ∃ v, e = .returned v ∧ v = (.bool r) ∧ Mem w [] w_ []) := by
  have HM := Mem.start w
  refine calls_run (N := 9) Try.func87 rfl rfl rfl rfl ?_
  unfold slices_Contains_impl_Ref.f at H
  refine run_seq ?_
  refine run_region rfl ?_
  refine ops_does rfl (guard_none rfl) rfl rfl (does_box (cs := [.int .i64 x1.fTx, .int .i64 x1.fAt]) rfl rfl rfl HM) ?_
  rintro _ w1596 ⟨b1593, rfl, HM⟩
  refine ops_ex rfl (guard_none rfl) rfl rfl (ex_assign rfl rfl) ?_
  refine ops_nil ?_
  refine at_then ?_
  refine run_seq ?_
  obtain ⟨t1597, h1598, H⟩ := bind_some H
  refine run_region rfl ?_
  refine ops_ex rfl (guard_none rfl) rfl rfl (ex_move rfl rfl) ?_
  refine ops_ex rfl (guard_none rfl) rfl rfl (ex_loadN (cs := [(.int .i64 x1.fTx), (.int .i64 x1.fAt)]) rfl rfl Try.underlying99 rfl tsz99 rfl ((HM.box_at 0 rfl).sub 0 2 rfl)) ?_
  refine ops_does rfl (guard_none rfl) rfl rfl (does_callk rfl callok140 rfl (slices_Index_impl_Ref.calls (x0 := x0) (x1 := x1) (HM.rd hp0) h1598)) ?_
  rintro _ w1599 ⟨rfl, hn⟩
  replace HM : Mem w [] w1599 [box b1593 99 [.int .i64 x1.fTx, .int .i64 x1.fAt]] := HM.call hn
  refine ops_ex rfl (guard_none rfl) rfl rfl (ex_geq rfl rfl rfl) ?_
  refine ops_ex rfl (guard_none rfl) rfl rfl (ex_assign rfl rfl) ?_
  refine ops_nil ?_
  refine at_then ?_
  refine run_ret ?_
  replace HM := (HM.front 0 rfl rfl).drop
  have hR := Option.some.inj H
  subst hR
  exact at_ret1 rfl rfl ⟨_, rfl, rfl, HM⟩

def impl_areKeys_1.f (k : Nat) (x0 : Int) : Option Bool := ((impl_isKey.f k x0).bind fun t1669 => some (!t1669))
theorem impl_areKeys_1.calls {k : Nat} {x0 : Int}  {w : World}  {r : Bool} (H : impl_areKeys_1.f k x0 = some r) :
    Calls Try.prog 163 ([.int .i64 x0] : List Value).toArray w (fun e w_ => ∃ v, e = .returned v ∧ v = (.bool r) ∧ Mem w [] w_ []) := by
  have HM := Mem.start w
  refine calls_run (N := 6) Try.func163 rfl rfl rfl rfl ?_
  unfold impl_areKeys_1.f at H
  refine run_seq ?_
  refine run_region rfl ?_
  refine ops_ex rfl (guard_none rfl) rfl rfl (ex_assign rfl rfl) ?_
  refine ops_nil ?_
  refine at_then ?_
  refine run_seq ?_
  obtain ⟨t1669, h1670, H⟩ := bind_some H
  refine run_region rfl ?_
  refine ops_ex rfl (guard_none rfl) rfl rfl (ex_move rfl rfl) ?_
  refine ops_does rfl (guard_none rfl) rfl rfl (does_callk rfl callok86 rfl (impl_isKey.calls (x0 := x0) h1670)) ?_
  rintro _ w1671 ⟨rfl, hn⟩
  replace HM : Mem w [] w1671 [] := HM.call hn
  refine ops_ex rfl (guard_none rfl) rfl rfl (ex_not rfl rfl) ?_
  refine ops_ex rfl (guard_none rfl) rfl rfl (ex_assign rfl rfl) ?_
  refine ops_nil ?_
  refine at_then ?_
  refine run_ret ?_
  have hR := Option.some.inj H
  subst hR
  exact at_ret1 rfl rfl ⟨_, rfl, rfl, HM⟩

def slices_IndexFunc_int64.l0 (x0 : List Int) : Nat → Int → Option (Int ⊕ Unit)
  | 0, _ => none
  | k + 1, a1717 => (bif (decide (a1717 < (x0.length : Int))) then (chk (idxOk a1717 x0.length) ((impl_areKeys_1.f k (gt x0 a1717)).bind fun t1729 => (bif t1729 then some (.inl a1717) else slices_IndexFunc_int64.l0 x0 k (wrap64 (a1717 + 1))))) else some (.inr ()))
theorem slices_IndexFunc_int64.l0_z (x0 : List Int) (a1717 : Int) : slices_IndexFunc_int64.l0 x0 0 a1717 = none := rfl
theorem slices_IndexFunc_int64.l0_s (x0 : List Int) (k : Nat) (a1717 : Int) : slices_IndexFunc_int64.l0 x0 (k + 1) a1717 = (bif (decide (a1717 < (x0.length : Int))) then (chk (idxOk a1717 x0.length) ((impl_areKeys_1.f k (gt x0 a1717)).bind fun t1729 => (bif t1729 then some (.inl a1717) else slices_IndexFunc_int64.l0 x0 k (wrap64 (a1717 + 1))))) else some (.inr ())) := rfl
def slices_IndexFunc_int64.f (k : Nat) (x0 : List Int) : Option Int := ((slices_IndexFunc_int64.l0 x0 k 0).bind fun o1709 => thn o1709 (fun r => some r) (fun _ => some (-1)))
theorem slices_IndexFunc_int64.calls {k : Nat} {x0 : List Int} {p0 : Value} {w : World} (hp0 : RdS kInt w p0 x0) {r : Int} (H : slices_IndexFunc_int64.f k x0 = some r) :
    Calls Try.prog 170 ([p0, .func (.func 163) #[] #[]] : List Value).toArray w (fun e w_ => ∃ v, e = .returned v ∧ v = (.int .i64 r) ∧ Mem w [] w_ []) := by
  have HM := Mem.start w
  refine calls_run (N := 19) Try.func170 rfl rfl rfl rfl ?_
  unfold slices_IndexFunc_int64.f at H
  refine run_seq ?_
  refine run_region rfl ?_
  refine ops_ex rfl (guard_none rfl) rfl rfl (ex_assign rfl rfl) ?_
  refine ops_nil ?_
  refine at_then ?_
  obtain ⟨o1709, ho1710, H⟩ := bind_some H
  refine run_mid (fun ρ_ w_ => Sum.inr () = o1709 ∧ ρ_ = [] ∧ Mem w [] w_ []) ?_ ?_
  · skip
    refine run_seq ?_
    refine run_region rfl ?_
    refine ops_ex rfl (guard_none rfl) rfl rfl (ex_move rfl rfl) ?_
    refine ops_ex rfl (guard_none rfl) rfl rfl (ex_len (d := kInt) (xs := x0) rfl rfl Try.underlying74 hp0) ?_
    refine ops_ex rfl (guard_none rfl) rfl rfl (ex_move rfl rfl) ?_
    refine ops_nil ?_
    refine at_then ?_
    refine run_block ?_
    refine run_loop (fun k_ ρ_ w_ => ∃ a1717 : Int, slices_IndexFunc_int64.l0 x0 k_ a1717 = some o1709 ∧ ρ_ = [(0, p0), (1, .func (.func 163) #[] #[]), (7, .int .i64 (x0.length : Int)), (8, .int .i64 a1717)] ∧ Mem w [] w_ []) k (ρ1 := [(0, p0), (1, .func (.func 163) #[] #[]), (7, .int .i64 (x0.length : Int)), (8, .int .i64 0)]) ⟨_, ho1710, rfl, HM⟩ (Sub.cons rfl (Sub.cons rfl (Sub.cons rfl (Sub.cons rfl Sub.nil)))) ?_
    clear HM ho1710
    rintro k1724 _ w1725 ⟨a1717, ho1710, rfl, HM⟩
    obtain _ | k1724 := k1724
    · exact nomatch ((slices_IndexFunc_int64.l0_z x0 a1717).symm.trans ho1710)
    replace ho1710 := (slices_IndexFunc_int64.l0_s x0 k1724 a1717).symm.trans ho1710
    refine run_seq ?_
    refine run_region rfl ?_
    refine ops_ex rfl (guard_none rfl) rfl rfl (ex_lss rfl rfl rfl) ?_
    refine ops_nil ?_
    refine at_then ?_
    refine run_seq ?_
    refine run_cond (b := (decide (a1717 < (x0.length : Int)))) rfl (fun hb1726 => ?_) (fun hb1726 => ?_)
    · replace ho1710 := cond_t hb1726 ho1710
      refine run_skip ?_
      refine at_then ?_
      refine run_seq ?_
      refine run_block ?_
      refine run_seq ?_
      refine run_region rfl ?_
      refine ops_ex rfl (guard_none rfl) rfl rfl (ex_move rfl rfl) ?_
      refine ops_ex rfl (guard_none rfl) rfl rfl (ex_assign rfl rfl) ?_
      refine ops_nil ?_
      refine at_then ?_
      refine run_seq ?_
      obtain ⟨e1727, ho1710⟩ := chk_some ho1710
      obtain ⟨t1729, h1730, ho1710⟩ := bind_some ho1710
      refine run_region rfl ?_
      refine ops_ex rfl (guard_none rfl) rfl rfl (ex_move rfl rfl) ?_
      refine ops_ex rfl (guard_none rfl) rfl rfl (ex_move rfl rfl) ?_
      refine ops_ex rfl (guard_none rfl) rfl rfl (ex_move rfl rfl) ?_
      have hc1728 : CellsAt _ (sb p0) (so p0 + (a1717).toNat * 1) [(.int .i64 (gt x0 a1717))] := rd_plain hp0 e1727
      refine ops_ex rfl (guard_none rfl) rfl rfl (ex_indexAddr (d := kInt) rfl rfl rfl Try.underlying74 tsz2 hp0 (idx_lo e1727) (idx_hi e1727)) ?_
      refine ops_ex rfl (guard_none rfl) rfl rfl (ex_load1 rfl rfl Try.underlying2 rfl ((HM.at_ hc1728) 0 _ rfl)) ?_
      refine ops_does rfl (guard_none rfl) rfl rfl (does_callvk rfl callok163 rfl rfl rfl (impl_areKeys_1.calls (x0 := (gt x0 a1717)) h1730)) ?_
      rintro _ w1731 ⟨rfl, hn⟩
      replace HM : Mem w [] w1731 [] := HM.call hn
      refine ops_nil ?_
      refine at_then ?_
      refine run_cond (b := t1729) rfl (fun hb1732 => ?_) (fun hb1732 => ?_)
      · replace ho1710 := cond_t hb1732 ho1710
        refine run_seq ?_
        refine run_region rfl ?_
        refine ops_ex rfl (guard_none rfl) rfl rfl (ex_move rfl rfl) ?_
        refine ops_ex rfl (guard_none rfl) rfl rfl (ex_assign rfl rfl) ?_
        refine ops_nil ?_
        refine at_then ?_
        refine run_ret ?_
        refine at_block_ret ?_
        refine at_then_ret ?_
        refine at_then_ret ?_
        refine at_block_ret ?_
        refine at_then_ret ?_
        have hR := Option.some.inj ho1710
        subst hR
        have hT := thn_inl H
        have hR := Option.some.inj hT
        subst hR
        exact at_ret1 rfl rfl ⟨_, rfl, rfl, HM⟩
      · replace ho1710 := cond_f hb1732 ho1710
        refine run_skip ?_
        refine at_block ?_
        refine at_then ?_
        refine run_region rfl ?_
        refine ops_ex rfl (guard_none rfl) rfl rfl (ex_add rfl rfl rfl) ?_
        refine ops_ex rfl (guard_none rfl) rfl rfl (ex_move rfl rfl) ?_
        refine ops_nil ?_
        exact at_again k1724 (ρ1 := [(0, p0), (1, .func (.func 163) #[] #[]), (7, .int .i64 (x0.length : Int)), (8, .int .i64 (wrap64 (a1717 + 1)))]) (Nat.lt_succ_self _) ⟨_, ho1710, rfl, HM⟩ (Sub.cons rfl (Sub.cons rfl (Sub.cons rfl (Sub.cons rfl Sub.nil))))
    · replace ho1710 := cond_f hb1726 ho1710
      refine run_exit ?_
      refine at_then_exit ?_
      refine at_then_exit ?_
      refine at_block_exit ?_
      exact at_mid (ρ' := []) ⟨(Option.some.inj ho1710), rfl, HM⟩ Sub.nil
  · rintro _ w1733 ⟨rfl, rfl, HM⟩
    replace H := (thn_inr H)
    refine run_seq ?_
    refine run_region rfl ?_
    refine ops_ex rfl (guard_none rfl) rfl rfl (ex_assign rfl rfl) ?_
    refine ops_nil ?_
    refine at_then ?_
    refine run_ret ?_
    have hR := Option.some.inj H
    subst hR
    exact at_ret1 rfl rfl ⟨_, rfl, rfl, HM⟩

def slices_ContainsFunc_int64.f (k : Nat) (x0 : List Int) : Option Bool := ((slices_IndexFunc_int64.f k x0).bind fun t1736 => some (decide (0 ≤ t1736)))
theorem slices_ContainsFunc_int64.calls {k : Nat} {x0 : List Int} {p0 : Value} {w : World} (hp0 : RdS kInt w p0 x0) {r : Bool} (H : slices_ContainsFunc_int64.f k x0 = some r) :
    Calls Try.prog 162 ([p0, .func (.func 163) #[] #[]] : List Value).toArray w (fun e w_ => ∃ v, e = .returned v ∧ v = (.bool r) ∧ Mem w [] w_ []) := by
  have HM := Mem.start w
  refine calls_run (N := 9) Try.func162 rfl rfl rfl rfl ?_
  unfold slices_ContainsFunc_int64.f at H
  refine run_seq ?_
  refine run_region rfl ?_
  refine ops_ex rfl (guard_none rfl) rfl rfl (ex_assign rfl rfl) ?_
  refine ops_nil ?_
  refine at_then ?_
  refine run_seq ?_
  obtain ⟨t1736, h1737, H⟩ := bind_some H
  refine run_region rfl ?_
  refine ops_ex rfl (guard_none rfl) rfl rfl (ex_move rfl rfl) ?_
  refine ops_ex rfl (guard_none rfl) rfl rfl (ex_move rfl rfl) ?_
  refine ops_does rfl (guard_none rfl) rfl rfl (does_callk rfl callok170 rfl (slices_IndexFunc_int64.calls (x0 := x0) (HM.rd hp0) h1737)) ?_
  rintro _ w1738 ⟨rfl, hn⟩
  replace HM : Mem w [] w1738 [] := HM.call hn
  refine ops_ex rfl (guard_none rfl) rfl rfl (ex_geq rfl rfl rfl) ?_
  refine ops_ex rfl (guard_none rfl) rfl rfl (ex_assign rfl rfl) ?_
  refine ops_nil ?_
  refine at_then ?_
  refine run_ret ?_
  have hR := Option.some.inj H
  subst hR
  exact at_ret1 rfl rfl ⟨_, rfl, rfl, HM⟩

def impl_areKeys.f (k : Nat) (x0 : List Int) : Option Bool := ((slices_ContainsFunc_int64.f k x0).bind fun t1741 => some (!t1741))
theorem impl_areKeys.calls {k : Nat} {x0 : List Int} {p0 : Value} {w : World} (hp0 : RdS kInt w p0 x0) {r : Bool} (H : impl_areKeys.f k x0 = some r) :
    Calls Try.prog 132 ([p0] : List Value).toArray w (fun e w_ => ∃ v, e = .returned v ∧ v = (.bool r) ∧ Mem w [] w_ []) := by
  have HM := Mem.start w
  refine calls_run (N := 6) Try.func132 rfl rfl rfl rfl ?_
  unfold impl_areKeys.f at H
  refine run_seq ?_
  refine run_region rfl ?_
  refine ops_ex rfl (guard_none rfl) rfl rfl (ex_assign rfl rfl) ?_
  refine ops_nil ?_
  refine at_then ?_
  refine run_seq ?_
  obtain ⟨t1741, h1742, H⟩ := bind_some H
  refine run_region rfl ?_
  refine ops_ex rfl (guard_none rfl) rfl rfl (ex_move rfl rfl) ?_
  refine ops_does rfl (guard_none rfl) rfl rfl (does_callk rfl callok162 rfl (slices_ContainsFunc_int64.calls (x0 := x0) (HM.rd hp0) h1742)) ?_
  rintro _ w1743 ⟨rfl, hn⟩
  replace HM : Mem w [] w1743 [] := HM.call hn
  refine ops_ex rfl (guard_none rfl) rfl rfl (ex_not rfl rfl) ?_
  refine ops_ex rfl (guard_none rfl) rfl rfl (ex_assign rfl rfl) ?_
  refine ops_nil ?_
  refine at_then ?_
  refine run_ret ?_
  have hR := Option.some.inj H
  subst hR
  exact at_ret1 rfl rfl ⟨_, rfl, rfl, HM⟩

def impl_isHeight.f (k : Nat) (x0 : Int) : Option Bool := ((impl_within.f k x0 0 999).bind fun t1750 => some t1750)
theorem impl_isHeight.calls {k : Nat} {x0 : Int}  {w : World}  {r : Bool} (H : impl_isHeight.f k x0 = some r) :
    Calls Try.prog 80 ([.int .i64 x0] : List Value).toArray w (fun e w_ => ∃ v, e = .returned v ∧ v = (.bool r) ∧ Mem w [] w_ []) := by
  have HM := Mem.start w
  refine calls_run (N := 5) Try.func80 rfl rfl rfl rfl ?_
  unfold impl_isHeight.f at H
  refine run_seq ?_
  refine run_region rfl ?_
  refine ops_ex rfl (guard_none rfl) rfl rfl (ex_assign rfl rfl) ?_
  refine ops_nil ?_
  refine at_then ?_
  refine run_seq ?_
  obtain ⟨t1750, h1751, H⟩ := bind_some H
  refine run_region rfl ?_
  refine ops_ex rfl (guard_none rfl) rfl rfl (ex_move rfl rfl) ?_
  refine ops_does rfl (guard_none rfl) rfl rfl (does_callk rfl callok81 rfl (impl_within.calls (x0 := x0) (x1 := 0) (x2 := 999) h1751)) ?_
  rintro _ w1752 ⟨rfl, hn⟩
  replace HM : Mem w [] w1752 [] := HM.call hn
  refine ops_ex rfl (guard_none rfl) rfl rfl (ex_assign rfl rfl) ?_
  refine ops_nil ?_
  refine at_then ?_
  refine run_ret ?_
  have hR := Option.some.inj H
  subst hR
  exact at_ret1 rfl rfl ⟨_, rfl, rfl, HM⟩

def impl_isRising.l0 (x0 : List Int) : Nat → Int → Option (Bool ⊕ Unit)
  | 0, _ => none
  | k + 1, a1804 => (bif (decide (a1804 < (x0.length : Int))) then (chk (idxOk a1804 x0.length) (chk (idxOk (wrap64 (a1804 - 1)) x0.length) (bif (decide ((gt x0 a1804) ≤ (gt x0 (wrap64 (a1804 - 1))))) then some (.inl false) else impl_isRising.l0 x0 k (wrap64 (a1804 + 1))))) else some (.inr ()))
theorem impl_isRising.l0_z (x0 : List Int) (a1804 : Int) : impl_isRising.l0 x0 0 a1804 = none := rfl
theorem impl_isRising.l0_s (x0 : List Int) (k : Nat) (a1804 : Int) : impl_isRising.l0 x0 (k + 1) a1804 = (bif (decide (a1804 < (x0.length : Int))) then (chk (idxOk a1804 x0.length) (chk (idxOk (wrap64 (a1804 - 1)) x0.length) (bif (decide ((gt x0 a1804) ≤ (gt x0 (wrap64 (a1804 - 1))))) then some (.inl false) else impl_isRising.l0 x0 k (wrap64 (a1804 + 1))))) else some (.inr ())) := rfl
def impl_isRising.f (k : Nat) (x0 : List Int) : Option Bool := ((impl_isRising.l0 x0 k 1).bind fun o1796 => thn o1796 (fun r => some r) (fun _ => some true))
theorem impl_isRising.calls {k : Nat} {x0 : List Int} {p0 : Value} {w : World} (hp0 : RdS kInt w p0 x0) {r : Bool} (H : impl_isRising.f k x0 = some r) :
    Calls Try.prog 133 ([p0] : List Value).toArray w (fun e w_ => ∃ v, e = .returned v ∧ v = (.bool r) ∧ Mem w [] w_ []) := by
  have HM := Mem.start w
  refine calls_run (N := 20) Try.func133 rfl rfl rfl rfl ?_
  unfold impl_isRising.f at H
  refine run_seq ?_
  refine run_region rfl ?_
  refine ops_ex rfl (guard_none rfl) rfl rfl (ex_assign rfl rfl) ?_
  refine ops_nil ?_
  refine at_then ?_
  obtain ⟨o1796, ho1797, H⟩ := bind_some H
  refine run_mid (fun ρ_ w_ => Sum.inr () = o1796 ∧ ρ_ = [] ∧ Mem w [] w_ []) ?_ ?_
  · skip
    refine run_seq ?_
    refine run_region rfl ?_
    refine ops_ex rfl (guard_none rfl) rfl rfl (ex_assign rfl rfl) ?_
    refine ops_nil ?_
    refine at_then ?_
    refine run_block ?_
    refine run_loop (fun k_ ρ_ w_ => ∃ a1804 : Int, impl_isRising.l0 x0 k_ a1804 = some o1796 ∧ ρ_ = [(0, p0), (3, .int .i64 a1804)] ∧ Mem w [] w_ []) k (ρ1 := [(0, p0), (3, .int .i64 1)]) ⟨_, ho1797, rfl, HM⟩ (Sub.cons rfl (Sub.cons rfl Sub.nil)) ?_
    clear HM ho1797
    rintro k1811 _ w1812 ⟨a1804, ho1797, rfl, HM⟩
    obtain _ | k1811 := k1811
    · exact nomatch ((impl_isRising.l0_z x0 a1804).symm.trans ho1797)
    replace ho1797 := (impl_isRising.l0_s x0 k1811 a1804).symm.trans ho1797
    refine run_seq ?_
    refine run_seq ?_
    refine run_region rfl ?_
    refine ops_ex rfl (guard_none rfl) rfl rfl (ex_move rfl rfl) ?_
    refine ops_ex rfl (guard_none rfl) rfl rfl (ex_move rfl rfl) ?_
    refine ops_ex rfl (guard_none rfl) rfl rfl (ex_len (d := kInt) (xs := x0) rfl rfl Try.underlying74 hp0) ?_
    refine ops_ex rfl (guard_none rfl) rfl rfl (ex_lss rfl rfl rfl) ?_
    refine ops_nil ?_
    refine at_then ?_
    refine run_cond (b := (decide (a1804 < (x0.length : Int)))) rfl (fun hb1813 => ?_) (fun hb1813 => ?_)
    · replace ho1797 := cond_t hb1813 ho1797
      refine run_skip ?_
      refine at_then ?_
      refine run_seq ?_
      refine run_block ?_
      refine run_seq ?_
      obtain ⟨e1814, ho1797⟩ := chk_some ho1797
      obtain ⟨e1816, ho1797⟩ := chk_some ho1797
      refine run_drawf (fun w_ => Mem w [] w_ []) [(0, true), (1, true), (2, true), (3, true), (4, true), (5, true), (6, true), (7, true), (8, true), (9, true)] mixed rfl rfl (by kernel_rfl) ?_
      replace HM := HM.grow (fr_drew _)
      have hS := Mem.suf (M := []) HM
      refine drwp_take rfl (guard_none rfl) rfl rfl (fun w_ hS_ => (ex_move rfl rfl)) hS ?_
      refine drwp_take rfl (guard_none rfl) rfl rfl (fun w_ hS_ => (ex_move rfl rfl)) hS ?_
      have hc1815 : CellsAt _ (sb p0) (so p0 + (a1804).toNat * 1) [(.int .i64 (gt x0 a1804))] := rd_plain hp0 e1814
      refine drwp_take rfl (guard_none rfl) rfl rfl (fun w_ hS_ => (ex_indexAddr (d := kInt) rfl rfl rfl Try.underlying74 tsz2 hp0 (idx_lo e1814) (idx_hi e1814))) hS ?_
      refine drwp_take rfl (guard_none rfl) rfl rfl (fun w_ hS_ => (ex_load1 rfl rfl Try.underlying2 rfl ((hS_.at_ hc1815) 0 _ rfl))) hS ?_
      refine drwp_take rfl (guard_none rfl) rfl rfl (fun w_ hS_ => (ex_move rfl rfl)) hS ?_
      refine drwp_take rfl (guard_none rfl) rfl rfl (fun w_ hS_ => (ex_move rfl rfl)) hS ?_
      refine drwp_take rfl (guard_none rfl) rfl rfl (fun w_ hS_ => (ex_sub rfl rfl rfl)) hS ?_
      have hc1817 : CellsAt _ (sb p0) (so p0 + (wrap64 (a1804 - 1)).toNat * 1) [(.int .i64 (gt x0 (wrap64 (a1804 - 1))))] := rd_plain hp0 e1816
      refine drwp_take rfl (guard_none rfl) rfl rfl (fun w_ hS_ => (ex_indexAddr (d := kInt) rfl rfl rfl Try.underlying74 tsz2 hp0 (idx_lo e1816) (idx_hi e1816))) hS ?_
      refine drwp_take rfl (guard_none rfl) rfl rfl (fun w_ hS_ => (ex_load1 rfl rfl Try.underlying2 rfl ((hS_.at_ hc1817) 0 _ rfl))) hS ?_
      refine drwp_take rfl (guard_none rfl) rfl rfl (fun w_ hS_ => (ex_leq rfl rfl rfl)) hS ?_
      refine drwp_done ?_
      refine at_then ?_
      refine run_cond (b := (decide ((gt x0 a1804) ≤ (gt x0 (wrap64 (a1804 - 1)))))) rfl (fun hb1818 => ?_) (fun hb1818 => ?_)
      · replace ho1797 := cond_t hb1818 ho1797
        refine run_seq ?_
        refine run_region rfl ?_
        refine ops_ex rfl (guard_none rfl) rfl rfl (ex_assign rfl rfl) ?_
        refine ops_nil ?_
        refine at_then ?_
        refine run_ret ?_
        refine at_block_ret ?_
        refine at_then_ret ?_
        refine at_then_ret ?_
        refine at_block_ret ?_
        refine at_then_ret ?_
        have hR := Option.some.inj ho1797
        subst hR
        have hT := thn_inl H
        have hR := Option.some.inj hT
        subst hR
        exact at_ret1 rfl rfl ⟨_, rfl, rfl, HM⟩
      · replace ho1797 := cond_f hb1818 ho1797
        refine run_skip ?_
        refine at_block ?_
        refine at_then ?_
        refine run_region rfl ?_
        refine ops_ex rfl (guard_none rfl) rfl rfl (ex_move rfl rfl) ?_
        refine ops_ex rfl (guard_none rfl) rfl rfl (ex_add rfl rfl rfl) ?_
        refine ops_ex rfl (guard_none rfl) rfl rfl (ex_assign rfl rfl) ?_
        refine ops_nil ?_
        exact at_again k1811 (ρ1 := [(0, p0), (3, .int .i64 (wrap64 (a1804 + 1)))]) (Nat.lt_succ_self _) ⟨_, ho1797, rfl, HM⟩ (Sub.cons rfl (Sub.cons rfl Sub.nil))
    · replace ho1797 := cond_f hb1813 ho1797
      refine run_exit ?_
      refine at_then_exit ?_
      refine at_then_exit ?_
      refine at_block_exit ?_
      exact at_mid (ρ' := []) ⟨(Option.some.inj ho1797), rfl, HM⟩ Sub.nil
  · rintro _ w1819 ⟨rfl, rfl, HM⟩
    replace H := (thn_inr H)
    refine run_seq ?_
    refine run_region rfl ?_
    refine ops_ex rfl (guard_none rfl) rfl rfl (ex_assign rfl rfl) ?_
    refine ops_nil ?_
    refine at_then ?_
    refine run_ret ?_
    have hR := Option.some.inj H
    subst hR
    exact at_ret1 rfl rfl ⟨_, rfl, rfl, HM⟩

def impl_RuleFault.f (k : Nat) (x0 : Rule) : Option Int := ((impl_within.f k (x0.fKeys.length : Int) 1 3).bind fun t1827 => (bif !t1827 then some 2 else ((impl_areKeys.f k x0.fKeys).bind fun t1831 => ((bif (!(!t1831)) then impl_within.f k x0.fNeed 1 (x0.fKeys.length : Int) else some default).bind fun t1833 => ((bif (!((!t1831) || (!t1833))) then impl_isHeight.f k x0.fAfter else some default).bind fun t1835 => (bif (((!t1831) || (!t1833)) || (!t1835)) then some 3 else ((impl_isRising.f k x0.fKeys).bind fun t1847 => (bif !t1847 then some 1 else some 0))))))))
theorem impl_RuleFault.calls {k : Nat} {x0 : Rule} {p0_0 : Value} {w : World} (hp0_0 : RdS kInt w p0_0 x0.fKeys) {r : Int} (H : impl_RuleFault.f k x0 = some r) :
    Calls Try.prog 82 ([.agg #[p0_0, (.int .i64 x0.fNeed), (.int .i64 x0.fAfter)]] : List Value).toArray w (fun e w_ => ∃ v, e = .returned v ∧ v = (.int .i64 r) ∧ Mem w [] w_ []) := by
  have HM := Mem.start w
  refine calls_run (N := 34) Try.func82 rfl rfl rfl rfl ?_
  unfold impl_RuleFault.f at H
  refine run_seq ?_
  refine run_region rfl ?_
  refine ops_does rfl (guard_none rfl) rfl rfl (does_box (cs := [p0_0, .int .i64 x0.fNeed, .int .i64 x0.fAfter]) rfl rfl rfl HM) ?_
  rintro _ w1826 ⟨b1823, rfl, HM⟩
  refine ops_ex rfl (guard_none rfl) rfl rfl (ex_assign rfl rfl) ?_
  refine ops_nil ?_
  refine at_then ?_
  refine run_seq ?_
  refine run_region rfl ?_
  refine ops_ex rfl (guard_none rfl) rfl rfl (ex_fieldAddr (off' := 0) rfl rfl Try.underlying100 rfl tsz74 rfl) ?_
  refine ops_ex rfl (guard_none rfl) rfl rfl (ex_load1 rfl rfl Try.underlying74 rfl ((HM.box_at 0 rfl) 0 _ rfl)) ?_
  refine ops_ex rfl (guard_none rfl) rfl rfl (ex_len (d := kInt) (xs := x0.fKeys) rfl rfl Try.underlying74 hp0_0) ?_
  refine ops_ex rfl (guard_none rfl) rfl rfl (ex_assign rfl rfl) ?_
  refine ops_nil ?_
  refine at_then ?_
  refine run_seq ?_
  refine run_block ?_
  refine run_seq ?_
  obtain ⟨t1827, h1828, H⟩ := bind_some H
  refine run_region rfl ?_
  refine ops_ex rfl (guard_none rfl) rfl rfl (ex_move rfl rfl) ?_
  refine ops_does rfl (guard_none rfl) rfl rfl (does_callk rfl callok81 rfl (impl_within.calls (x0 := (x0.fKeys.length : Int)) (x1 := 1) (x2 := 3) h1828)) ?_
  rintro _ w1829 ⟨rfl, hn⟩
  replace HM : Mem w [] w1829 [box b1823 100 [p0_0, .int .i64 x0.fNeed, .int .i64 x0.fAfter]] := HM.call hn
  refine ops_ex rfl (guard_none rfl) rfl rfl (ex_not rfl rfl) ?_
  refine ops_ex rfl (guard_none rfl) rfl rfl (ex_assign rfl rfl) ?_
  refine ops_nil ?_
  refine at_then ?_
  refine run_cond (b := !t1827) rfl (fun hb1830 => ?_) (fun hb1830 => ?_)
  · replace H := cond_t hb1830 H
    refine run_seq ?_
    refine run_region rfl ?_
    refine ops_ex rfl (guard_none rfl) rfl rfl (ex_assign rfl rfl) ?_
    refine ops_nil ?_
    refine at_then ?_
    refine run_ret ?_
    refine at_block_ret ?_
    refine at_then_ret ?_
    replace HM := (HM.front 0 rfl rfl).drop
    have hR := Option.some.inj H
    subst hR
    exact at_ret1 rfl rfl ⟨_, rfl, rfl, HM⟩
  · replace H := cond_f hb1830 H
    refine run_seq ?_
    obtain ⟨t1831, h1832, H⟩ := bind_some H
    obtain ⟨t1833, h1834, H⟩ := bind_some H
    obtain ⟨t1835, h1836, H⟩ := bind_some H
    refine run_meet (fun ρ_ w_ => ρ_ = [(1, .pointer (some ⟨b1823, 0, none⟩)), (11, .bool (((!t1831) || (!t1833)) || (!t1835)))] ∧ Mem w [] w_ [box b1823 100 [p0_0, .int .i64 x0.fNeed, .int .i64 x0.fAfter]]) ?_ ?_
    · skip
      refine run_region rfl ?_
      refine ops_ex rfl (guard_none rfl) rfl rfl (ex_fieldAddr (off' := 0) rfl rfl Try.underlying100 rfl tsz74 rfl) ?_
      refine ops_ex rfl (guard_none rfl) rfl rfl (ex_load1 rfl rfl Try.underlying74 rfl ((HM.box_at 0 rfl) 0 _ rfl)) ?_
      refine ops_does rfl (guard_none rfl) rfl rfl (does_callk rfl callok132 rfl (impl_areKeys.calls (x0 := x0.fKeys) (HM.rd hp0_0) h1832)) ?_
      rintro _ w1837 ⟨rfl, hn⟩
      replace HM : Mem w [] w1837 [box b1823 100 [p0_0, .int .i64 x0.fNeed, .int .i64 x0.fAfter]] := HM.call hn
      refine ops_ex rfl (guard_none rfl) rfl rfl (ex_not rfl rfl) ?_
      refine ops_ex rfl (guard_none rfl) rfl rfl (ex_move rfl rfl) ?_
      refine bool_cases (!t1831) (fun hg1838 => ?_) (fun hg1838 => ?_)
      · skip
        refine ops_off rfl (guard_off rfl rfl rfl hg1838) rfl rfl ?_
        refine ops_off rfl (guard_off rfl rfl rfl hg1838) rfl rfl ?_
        refine ops_off rfl (guard_off rfl rfl rfl hg1838) rfl rfl ?_
        refine ops_off rfl (guard_off rfl rfl rfl hg1838) rfl rfl ?_
        refine ops_off rfl (guard_off rfl rfl rfl hg1838) rfl rfl ?_
        have hg1839 : ((!t1831) || (!t1833)) = true := by simp only [hg1838, Bool.and_true, Bool.true_and, Bool.and_false, Bool.false_and, Bool.or_true, Bool.true_or, Bool.or_false, Bool.false_or, Bool.not_true, Bool.not_false, Bool.not_not]
        refine ops_ex (v := .bool ((!t1831) || (!t1833))) rfl (guard_none rfl) rfl rfl (ex_por_t rfl rfl hg1838) ?_
        refine ops_ex rfl (guard_none rfl) rfl rfl (ex_move rfl rfl) ?_
        refine ops_off rfl (guard_off rfl rfl rfl hg1839) rfl rfl ?_
        refine ops_off rfl (guard_off rfl rfl rfl hg1839) rfl rfl ?_
        refine ops_off rfl (guard_off rfl rfl rfl hg1839) rfl rfl ?_
        refine ops_off rfl (guard_off rfl rfl rfl hg1839) rfl rfl ?_
        have hg1840 : (((!t1831) || (!t1833)) || (!t1835)) = true := by simp only [hg1839, Bool.and_true, Bool.true_and, Bool.and_false, Bool.false_and, Bool.or_true, Bool.true_or, Bool.or_false, Bool.false_or, Bool.not_true, Bool.not_false, Bool.not_not]
        refine ops_ex (v := .bool (((!t1831) || (!t1833)) || (!t1835))) rfl (guard_none rfl) rfl rfl (ex_por_t rfl rfl hg1839) ?_
        refine ops_ex rfl (guard_none rfl) rfl rfl (ex_assign rfl rfl) ?_
        refine ops_nil ?_
        exact at_meet [(1, .pointer (some ⟨b1823, 0, none⟩)), (11, .bool (((!t1831) || (!t1833)) || (!t1835)))] ⟨rfl, HM⟩ (Sub.cons rfl (Sub.cons rfl Sub.nil))
      · skip
        refine ops_ex rfl (guard_on rfl rfl rfl hg1838) rfl rfl (ex_fieldAddr (off' := 1) rfl rfl Try.underlying100 rfl tsz2 rfl) ?_
        refine ops_ex rfl (guard_on rfl rfl rfl hg1838) rfl rfl (ex_load1 rfl rfl Try.underlying2 rfl ((HM.box_at 0 rfl) 1 _ rfl)) ?_
        refine ops_ex rfl (guard_on rfl rfl rfl hg1838) rfl rfl (ex_move rfl rfl) ?_
        refine ops_does rfl (guard_on rfl rfl rfl hg1838) rfl rfl (does_callk rfl callok81 rfl (impl_within.calls (x0 := x0.fNeed) (x1 := 1) (x2 := (x0.fKeys.length : Int)) (cond_t (not_mk hg1838) h1834))) ?_
        rintro _ w1841 ⟨rfl, hn⟩
        replace HM : Mem w [] w1841 [box b1823 100 [p0_0, .int .i64 x0.fNeed, .int .i64 x0.fAfter]] := HM.call hn
        refine ops_ex rfl (guard_on rfl rfl rfl hg1838) rfl rfl (ex_not rfl rfl) ?_
        refine ops_ex (v := .bool ((!t1831) || (!t1833))) rfl (guard_none rfl) rfl rfl (ex_por_f rfl rfl hg1838 rfl) ?_
        refine ops_ex rfl (guard_none rfl) rfl rfl (ex_move rfl rfl) ?_
        refine bool_cases ((!t1831) || (!t1833)) (fun hg1842 => ?_) (fun hg1842 => ?_)
        · skip
          refine ops_off rfl (guard_off rfl rfl rfl hg1842) rfl rfl ?_
          refine ops_off rfl (guard_off rfl rfl rfl hg1842) rfl rfl ?_
          refine ops_off rfl (guard_off rfl rfl rfl hg1842) rfl rfl ?_
          refine ops_off rfl (guard_off rfl rfl rfl hg1842) rfl rfl ?_
          have hg1843 : (((!t1831) || (!t1833)) || (!t1835)) = true := by simp only [hg1842, Bool.and_true, Bool.true_and, Bool.and_false, Bool.false_and, Bool.or_true, Bool.true_or, Bool.or_false, Bool.false_or, Bool.not_true, Bool.not_false, Bool.not_not]
          refine ops_ex (v := .bool (((!t1831) || (!t1833)) || (!t1835))) rfl (guard_none rfl) rfl rfl (ex_por_t rfl rfl hg1842) ?_
          refine ops_ex rfl (guard_none rfl) rfl rfl (ex_assign rfl rfl) ?_
          refine ops_nil ?_
          exact at_meet [(1, .pointer (some ⟨b1823, 0, none⟩)), (11, .bool (((!t1831) || (!t1833)) || (!t1835)))] ⟨rfl, HM⟩ (Sub.cons rfl (Sub.cons rfl Sub.nil))
        · skip
          refine ops_ex rfl (guard_on rfl rfl rfl hg1842) rfl rfl (ex_fieldAddr (off' := 2) rfl rfl Try.underlying100 rfl tsz2 rfl) ?_
          refine ops_ex rfl (guard_on rfl rfl rfl hg1842) rfl rfl (ex_load1 rfl rfl Try.underlying2 rfl ((HM.box_at 0 rfl) 2 _ rfl)) ?_
          refine ops_does rfl (guard_on rfl rfl rfl hg1842) rfl rfl (does_callk rfl callok80 rfl (impl_isHeight.calls (x0 := x0.fAfter) (cond_t (not_mk hg1842) h1836))) ?_
          rintro _ w1844 ⟨rfl, hn⟩
          replace HM : Mem w [] w1844 [box b1823 100 [p0_0, .int .i64 x0.fNeed, .int .i64 x0.fAfter]] := HM.call hn
          refine ops_ex rfl (guard_on rfl rfl rfl hg1842) rfl rfl (ex_not rfl rfl) ?_
          refine ops_ex (v := .bool (((!t1831) || (!t1833)) || (!t1835))) rfl (guard_none rfl) rfl rfl (ex_por_f rfl rfl hg1842 rfl) ?_
          refine ops_ex rfl (guard_none rfl) rfl rfl (ex_assign rfl rfl) ?_
          refine ops_nil ?_
          exact at_meet [(1, .pointer (some ⟨b1823, 0, none⟩)), (11, .bool (((!t1831) || (!t1833)) || (!t1835)))] ⟨rfl, HM⟩ (Sub.cons rfl (Sub.cons rfl Sub.nil))
    · rintro _ w1845 ⟨rfl, HM⟩
      refine at_then ?_
      refine run_cond (b := (((!t1831) || (!t1833)) || (!t1835))) rfl (fun hb1846 => ?_) (fun hb1846 => ?_)
      · replace H := cond_t hb1846 H
        refine run_seq ?_
        refine run_region rfl ?_
        refine ops_ex rfl (guard_none rfl) rfl rfl (ex_assign rfl rfl) ?_
        refine ops_nil ?_
        refine at_then ?_
        refine run_ret ?_
        refine at_block_ret ?_
        refine at_then_ret ?_
        replace HM := (HM.front 0 rfl rfl).drop
        have hR := Option.some.inj H
        subst hR
        exact at_ret1 rfl rfl ⟨_, rfl, rfl, HM⟩
      · replace H := cond_f hb1846 H
        refine run_seq ?_
        obtain ⟨t1847, h1848, H⟩ := bind_some H
        refine run_region rfl ?_
        refine ops_ex rfl (guard_none rfl) rfl rfl (ex_fieldAddr (off' := 0) rfl rfl Try.underlying100 rfl tsz74 rfl) ?_
        refine ops_ex rfl (guard_none rfl) rfl rfl (ex_load1 rfl rfl Try.underlying74 rfl ((HM.box_at 0 rfl) 0 _ rfl)) ?_
        refine ops_does rfl (guard_none rfl) rfl rfl (does_callk rfl callok133 rfl (impl_isRising.calls (x0 := x0.fKeys) (HM.rd hp0_0) h1848)) ?_
        rintro _ w1849 ⟨rfl, hn⟩
        replace HM : Mem w [] w1849 [box b1823 100 [p0_0, .int .i64 x0.fNeed, .int .i64 x0.fAfter]] := HM.call hn
        refine ops_ex rfl (guard_none rfl) rfl rfl (ex_not rfl rfl) ?_
        refine ops_ex rfl (guard_none rfl) rfl rfl (ex_assign rfl rfl) ?_
        refine ops_nil ?_
        refine at_then ?_
        refine run_cond (b := !t1847) rfl (fun hb1850 => ?_) (fun hb1850 => ?_)
        · replace H := cond_t hb1850 H
          refine run_seq ?_
          refine run_region rfl ?_
          refine ops_ex rfl (guard_none rfl) rfl rfl (ex_assign rfl rfl) ?_
          refine ops_nil ?_
          refine at_then ?_
          refine run_ret ?_
          refine at_block_ret ?_
          refine at_then_ret ?_
          replace HM := (HM.front 0 rfl rfl).drop
          have hR := Option.some.inj H
          subst hR
          exact at_ret1 rfl rfl ⟨_, rfl, rfl, HM⟩
        · replace H := cond_f hb1850 H
          refine run_skip ?_
          refine at_block ?_
          refine at_then ?_
          refine run_seq ?_
          refine run_region rfl ?_
          refine ops_ex rfl (guard_none rfl) rfl rfl (ex_assign rfl rfl) ?_
          refine ops_nil ?_
          refine at_then ?_
          refine run_ret ?_
          replace HM := (HM.front 0 rfl rfl).drop
          have hR := Option.some.inj H
          subst hR
          exact at_ret1 rfl rfl ⟨_, rfl, rfl, HM⟩
end Go.Proofs.Ytoiacoiccpiciaa.Zk
