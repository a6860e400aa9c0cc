/- What functions of the program compute, each as a plain function, and that they do. Conditions: as each theorem states them. -/
import Derived.Test.YtpfaihnmonfkhaaGreatDoorCheckTxZkF1
namespace Go.Proofs.YtpfaihnmonfkhaaGreatDoor.Zk
open Go Go.RowKit Go.IntWalk Go.Proofs
set_option linter.unusedVariables false
set_option linter.unusedSimpArgs false
set_option maxRecDepth 100000
set_option maxHeartbeats 4000000
def spec_l1In.f (k : Nat) (x0 : Int) (x1 : Int) (x2 : Int) : Option Bool := some ((decide (x1 ≤ x0)) && (decide (x0 ≤ x2)))
theorem spec_l1In.calls {k : Nat} {x0 : Int} {x1 : Int} {x2 : Int}  {w : World}  {r : Bool} (H : spec_l1In.f k x0 x1 x2 = some r) :
  Calls Tryz.prog 45 ([.int .i64 x0, .int .i64 x1, .int .i64 x2] : List Value).toArray w (fun e w_ => ∃ v, e = .returned v ∧ v = (.bool r) ∧ Mem w [] w_ []) := by
 have HM := Mem.start w
 refine calls_run (N := 15) Tryz.func45 rfl rfl rfl rfl ?_
 unfold spec_l1In.f at H
 refine run_seq ?_
 refine run_region rfl ?_
 refine ox rfl rfl rfl rfl (ex_assign rfl rfl) ?_
 refine ops_nil (at_then (run_seq ?_))
 refine run_meet (fun ρ_ w_ => ρ_ = [(6, .bool ((decide (x1 ≤ x0)) && (decide (x0 ≤ x2))))] ∧ Mem w [] w_ []) ?_ ?_
 ·skip
  refine run_region rfl ?_
  refine ox rfl rfl rfl rfl (ex_move rfl rfl) ?_
  refine ox rfl rfl rfl rfl (ex_move rfl rfl) ?_
  refine ox rfl rfl rfl rfl (ex_geq rfl rfl rfl) ?_
  refine ox rfl rfl rfl rfl (ex_move rfl rfl) ?_
  refine bool_cases (decide (x1 ≤ x0)) (fun hg1318 => ?_) (fun hg1318 => ?_)
  ·skip
   refine ops_ex rfl (guard_on rfl rfl rfl hg1318) rfl rfl (ex_move rfl rfl) ?_
   refine ops_ex rfl (guard_on rfl rfl rfl hg1318) rfl rfl (ex_move rfl rfl) ?_
   refine ops_ex rfl (guard_on rfl rfl rfl hg1318) rfl rfl (ex_leq rfl rfl rfl) ?_
   refine ops_ex (v := .bool ((decide (x1 ≤ x0)) && (decide (x0 ≤ x2)))) rfl (guard_none rfl) rfl rfl (ex_pand_t rfl rfl hg1318 rfl) ?_
   refine ox rfl rfl rfl rfl (ex_assign rfl rfl) ?_
   refine ops_nil ?_
   exact at_meet [(6, .bool ((decide (x1 ≤ x0)) && (decide (x0 ≤ x2))))] ⟨rfl, HM⟩ (Sub.cons rfl Sub.nil)
  ·skip
   refine ops_off rfl (guard_off rfl rfl rfl hg1318) rfl rfl ?_
   refine ops_off rfl (guard_off rfl rfl rfl hg1318) rfl rfl ?_
   refine ops_off rfl (guard_off rfl rfl rfl hg1318) rfl rfl ?_
   have hg1319 : ((decide (x1 ≤ x0)) && (decide (x0 ≤ x2))) = false := by simp only [hg1318, Bool.and_true, Bool.true_and, Bool.and_false, Bool.false_and, Bool.or_true, Bool.true_or, Bool.or_false, Bool.false_or, Bool.not_true, Bool.not_false, Bool.not_not]
   refine ops_ex (v := .bool ((decide (x1 ≤ x0)) && (decide (x0 ≤ x2)))) rfl (guard_none rfl) rfl rfl (ex_pand_f rfl rfl hg1318) ?_
   refine ox rfl rfl rfl rfl (ex_assign rfl rfl) ?_
   refine ops_nil ?_
   exact at_meet [(6, .bool ((decide (x1 ≤ x0)) && (decide (x0 ≤ x2))))] ⟨rfl, HM⟩ (Sub.cons rfl Sub.nil)
 ·rintro _ w1320 ⟨rfl, HM⟩
  refine at_then ?_
  refine run_ret ?_
  have hR := Option.some.inj H
  subst hR
  exact at_ret1 rfl rfl ⟨_, rfl, rfl, HM⟩

def spec_l1Key.f (k : Nat) (x0 : Int) : Option Bool := ((spec_l1In.f k x0 1 999).bind fun t1323 => some t1323)
theorem spec_l1Key.calls {k : Nat} {x0 : Int}  {w : World}  {r : Bool} (H : spec_l1Key.f k x0 = some r) :
  Calls Tryz.prog 44 ([.int .i64 x0] : List Value).toArray w (fun e w_ => ∃ v, e = .returned v ∧ v = (.bool r) ∧ Mem w [] w_ []) := by
 have HM := Mem.start w
 refine calls_run (N := 5) Tryz.func44 rfl rfl rfl rfl ?_
 unfold spec_l1Key.f at H
 refine run_seq ?_
 refine run_region rfl ?_
 refine ox rfl rfl rfl rfl (ex_assign rfl rfl) ?_
 refine ops_nil (at_then (run_seq ?_))
 obtain ⟨t1323, h1324, H⟩ := bind_some H
 refine run_region rfl ?_
 refine ox rfl rfl rfl rfl (ex_move rfl rfl) ?_
 refine od rfl rfl rfl rfl (does_callk rfl callok45 rfl (spec_l1In.calls (x0 := x0) (x1 := 1) (x2 := 999) h1324)) ?_
 rintro _ w1325 ⟨rfl, hn⟩
 replace HM : Mem w [] w1325 [] := HM.call hn
 refine ox rfl rfl rfl rfl (ex_assign rfl rfl) ?_
 refine ops_nil (at_then ?_)
 refine run_ret ?_
 have hR := Option.some.inj H
 subst hR
 exact at_ret1 rfl rfl ⟨_, rfl, rfl, HM⟩

def spec_l1Signed.l0 (x0 : List Sign) (x1 : Sign) : Nat → Int → Option (Bool ⊕ Unit)
 | 0, _ => none
 | k + 1, a1389 => (bif (decide (a1389 < (x0.length : Int))) then (chk (idxOk a1389 x0.length) (bif ((((gt x0 a1389).fKey) == x1.fKey) && (((gt x0 a1389).fId) == x1.fId)) then some (.inl true) else spec_l1Signed.l0 x0 x1 k (wrap64 (a1389 + 1)))) else some (.inr ()))
theorem spec_l1Signed.l0_z (x0 : List Sign) (x1 : Sign) (a1389 : Int) : spec_l1Signed.l0 x0 x1 0 a1389 = none := rfl
theorem spec_l1Signed.l0_s (x0 : List Sign) (x1 : Sign) (k : Nat) (a1389 : Int) : spec_l1Signed.l0 x0 x1 (k + 1) a1389 = (bif (decide (a1389 < (x0.length : Int))) then (chk (idxOk a1389 x0.length) (bif ((((gt x0 a1389).fKey) == x1.fKey) && (((gt x0 a1389).fId) == x1.fId)) then some (.inl true) else spec_l1Signed.l0 x0 x1 k (wrap64 (a1389 + 1)))) else some (.inr ())) := rfl
def spec_l1Signed.f (k : Nat) (x0 : List Sign) (x1 : Sign) : Option Bool := ((spec_l1Signed.l0 x0 x1 k 0).bind fun o1383 => thn o1383 (fun r => some r) (fun _ => some false))
theorem spec_l1Signed.calls {k : Nat} {x0 : List Sign} {x1 : Sign} {p0 : Value} {w : World} (hp0 : RdS kSign w p0 x0) {r : Bool} (H : spec_l1Signed.f k x0 x1 = some r) :
  Calls Tryz.prog 46 ([p0, .agg #[(.int .i64 x1.fKey), (.int .i64 x1.fId)]] : List Value).toArray w (fun e w_ => ∃ v, e = .returned v ∧ v = (.bool r) ∧ Mem w [] w_ []) := by
 have HM := Mem.start w
 refine calls_run (N := 18) Tryz.func46 rfl rfl rfl rfl ?_
 unfold spec_l1Signed.f at H
 refine run_seq ?_
 refine run_region rfl ?_
 refine od rfl rfl rfl rfl (does_box (cs := [.int .i64 x1.fKey, .int .i64 x1.fId]) rfl rfl rfl HM) ?_
 rintro _ w1369 ⟨b1366, rfl, HM⟩
 refine ox rfl rfl rfl rfl (ex_assign rfl rfl) ?_
 refine ops_nil (at_then ?_)
 obtain ⟨o1383, ho1384, H⟩ := bind_some H
 refine run_mid (fun ρ_ w_ => Sum.inr () = o1383 ∧ ρ_ = [] ∧ Mem w [] w_ []) ?_ ?_
 ·skip
  refine run_seq ?_
  refine run_region rfl ?_
  refine ox rfl rfl rfl rfl (ex_assign rfl rfl) ?_
  refine ops_nil (at_then ?_)
  refine run_block ?_
  refine run_loop (fun k_ ρ_ w_ => ∃ a1389 : Int, spec_l1Signed.l0 x0 x1 k_ a1389 = some o1383 ∧ ρ_ = [(0, p0), (3, .pointer (some ⟨b1366, 0, none⟩)), (5, .int .i64 a1389)] ∧ Mem w [] w_ [box b1366 100 [.int .i64 x1.fKey, .int .i64 x1.fId]]) k (ρ1 := [(0, p0), (3, .pointer (some ⟨b1366, 0, none⟩)), (5, .int .i64 0)]) ⟨_, ho1384, rfl, HM⟩ (Sub.cons rfl (Sub.cons rfl (Sub.cons rfl Sub.nil))) ?_
  clear HM ho1384
  rintro k1394 _ w1395 ⟨a1389, ho1384, rfl, HM⟩
  obtain _ | k1394 := k1394
  ·exact nomatch ((spec_l1Signed.l0_z x0 x1 a1389).symm.trans ho1384)
  replace ho1384 := (spec_l1Signed.l0_s x0 x1 k1394 a1389).symm.trans ho1384
  refine run_seq ?_
  refine run_seq ?_
  refine run_region rfl ?_
  refine ox rfl rfl rfl rfl (ex_move rfl rfl) ?_
  refine ox rfl rfl rfl rfl (ex_move rfl rfl) ?_
  refine ox rfl rfl rfl rfl (ex_len (d := kSign) (xs := x0) rfl rfl Tryz.underlying37 hp0) ?_
  refine ox rfl rfl rfl rfl (ex_lss rfl rfl rfl) ?_
  refine ops_nil (at_then ?_)
  refine run_cond (b := (decide (a1389 < (x0.length : Int)))) rfl (fun hb1396 => ?_) (fun hb1396 => ?_)
  ·replace ho1384 := cond_t hb1396 ho1384
   refine run_skip ?_
   refine at_then ?_
   refine run_seq ?_
   refine run_block ?_
   refine run_seq ?_
   obtain ⟨e1397, ho1384⟩ := chk_some ho1384
   refine run_drawf (fun w_ => Mem w [] w_ [box b1366 100 [.int .i64 x1.fKey, .int .i64 x1.fId]]) [(0, true), (1, true), (2, true), (3, true), (4, true), (5, true)] mixed rfl rfl (by kernel_rfl) ?_
   replace HM := HM.grow (fr_drew _)
   have hS := Mem.suf (M := []) HM
   refine dp rfl rfl rfl rfl (ex_move rfl rfl) hS ?_
   refine dp rfl rfl rfl rfl (ex_move rfl rfl) hS ?_
   have hc1398 : CellsAt _ (sb p0) (so p0 + (a1389).toNat * 2) [(.int .i64 ((gt x0 a1389).fKey)), (.int .i64 ((gt x0 a1389).fId))] := rd_plain hp0 e1397
   refine dp rfl rfl rfl rfl (ex_indexAddr (d := kSign) rfl rfl rfl Tryz.underlying37 tsz100 hp0 (idx_lo e1397) (idx_hi e1397)) hS ?_
   refine drwp_take rfl (guard_none rfl) rfl rfl (fun w_ hS_ => (ex_loadN (cs := [(.int .i64 ((gt x0 a1389).fKey)), (.int .i64 ((gt x0 a1389).fId))]) rfl rfl Tryz.underlying100 rfl tsz100 rfl ((hS_.at_ hc1398).sub 0 2 rfl))) hS ?_
   refine drwp_take rfl (guard_none rfl) rfl rfl (fun w_ hS_ => (ex_loadN (cs := [(.int .i64 x1.fKey), (.int .i64 x1.fId)]) rfl rfl Tryz.underlying100 rfl tsz100 rfl ((hS_.box_at 0 rfl).sub 0 2 rfl))) hS ?_
   refine dp rfl rfl rfl rfl (ex_aeql rfl rfl rfl (by kernel_rfl) (eqs100 _ _ _ _ _)) hS ?_
   refine drwp_done ?_
   refine at_then ?_
   refine run_cond (b := ((((gt x0 a1389).fKey) == x1.fKey) && (((gt x0 a1389).fId) == x1.fId))) rfl (fun hb1399 => ?_) (fun hb1399 => ?_)
   ·replace ho1384 := cond_t hb1399 ho1384
    refine run_seq ?_
    refine run_region rfl ?_
    refine ox rfl rfl rfl rfl (ex_assign rfl rfl) ?_
    refine ops_nil (at_then ?_)
    refine run_ret ?_
    refine at_block_ret ?_
    refine at_then_ret ?_
    refine at_then_ret ?_
    refine at_block_ret ?_
    refine at_then_ret ?_
    replace HM := (HM.front 0 rfl rfl).drop
    have hR := Option.some.inj ho1384
    subst hR
    have hT := thn_inl H
    have hR := Option.some.inj hT
    subst hR
    exact at_ret1 rfl rfl ⟨_, rfl, rfl, HM⟩
   ·replace ho1384 := cond_f hb1399 ho1384
    refine run_skip ?_
    refine at_block ?_
    refine at_then ?_
    refine run_region rfl ?_
    refine ox rfl rfl rfl rfl (ex_move rfl rfl) ?_
    refine ox rfl rfl rfl rfl (ex_add rfl rfl rfl) ?_
    refine ox rfl rfl rfl rfl (ex_assign rfl rfl) ?_
    refine ops_nil ?_
    exact at_again k1394 (ρ1 := [(0, p0), (3, .pointer (some ⟨b1366, 0, none⟩)), (5, .int .i64 (wrap64 (a1389 + 1)))]) (Nat.lt_succ_self _) ⟨_, ho1384, rfl, HM⟩ (Sub.cons rfl (Sub.cons rfl (Sub.cons rfl Sub.nil)))
  ·replace ho1384 := cond_f hb1396 ho1384
   refine run_exit ?_
   refine at_then_exit ?_
   refine at_then_exit ?_
   refine at_block_exit ?_
   replace HM := (HM.front 0 rfl rfl).drop
   exact at_mid (ρ' := []) ⟨(Option.some.inj ho1384), rfl, HM⟩ Sub.nil
 ·rintro _ w1400 ⟨rfl, rfl, HM⟩
  replace H := (thn_inr H)
  refine run_seq ?_
  refine run_region rfl ?_
  refine ox rfl rfl rfl rfl (ex_assign rfl rfl) ?_
  refine ops_nil (at_then ?_)
  refine run_ret ?_
  have hR := Option.some.inj H
  subst hR
  exact at_ret1 rfl rfl ⟨_, rfl, rfl, HM⟩

def spec_l1Fault.l0 (x0 : Ledger) : Nat → Int → Option (Int ⊕ Unit)
 | 0, _ => none
 | k + 1, a1551 => (bif (decide (a1551 < (x0.fTexts.length : Int))) then (chk (idxOk a1551 x0.fTexts.length) (chk (!(!(decide (((gt x0.fTexts a1551).size : Int) < 1))) || (idxOk a1551 x0.fTexts.length)) (bif ((decide (((gt x0.fTexts a1551).size : Int) < 1)) || (decide (300 < ((gt x0.fTexts a1551).size : Int)))) then some (.inl 2) else (chk (cutOk a1551 x0.fTexts.length) (chk (idxOk a1551 x0.fTexts.length) ((spec_l1At.f k (x0.fTexts.take (a1551).toNat) (gt x0.fTexts a1551)).bind fun t1594 => (bif (decide (0 < t1594)) then some (.inl 7) else spec_l1Fault.l0 x0 k (wrap64 (a1551 + 1))))))))) else some (.inr ()))
theorem spec_l1Fault.l0_z (x0 : Ledger) (a1551 : Int) : spec_l1Fault.l0 x0 0 a1551 = none := rfl
theorem spec_l1Fault.l0_s (x0 : Ledger) (k : Nat) (a1551 : Int) : spec_l1Fault.l0 x0 (k + 1) a1551 = (bif (decide (a1551 < (x0.fTexts.length : Int))) then (chk (idxOk a1551 x0.fTexts.length) (chk (!(!(decide (((gt x0.fTexts a1551).size : Int) < 1))) || (idxOk a1551 x0.fTexts.length)) (bif ((decide (((gt x0.fTexts a1551).size : Int) < 1)) || (decide (300 < ((gt x0.fTexts a1551).size : Int)))) then some (.inl 2) else (chk (cutOk a1551 x0.fTexts.length) (chk (idxOk a1551 x0.fTexts.length) ((spec_l1At.f k (x0.fTexts.take (a1551).toNat) (gt x0.fTexts a1551)).bind fun t1594 => (bif (decide (0 < t1594)) then some (.inl 7) else spec_l1Fault.l0 x0 k (wrap64 (a1551 + 1))))))))) else some (.inr ())) := rfl
def spec_l1Fault.l1 (x0 : Ledger) : Nat → Int → Option (Int ⊕ Unit)
 | 0, _ => none
 | k + 1, a1714 => (bif (decide (a1714 < (x0.fSigns.length : Int))) then (chk (idxOk a1714 x0.fSigns.length) ((spec_l1Key.f k ((gt x0.fSigns a1714).fKey)).bind fun t1757 => (chk (!(!(!t1757)) || (idxOk a1714 x0.fSigns.length)) ((bif (!(!t1757)) then spec_l1In.f k ((gt x0.fSigns a1714).fId) 1 (x0.fTexts.length : Int) else some default).bind fun t1761 => (bif ((!t1757) || (!t1761)) then some (.inl 3) else (chk (cutOk a1714 x0.fSigns.length) (chk (idxOk a1714 x0.fSigns.length) ((spec_l1Signed.f k (x0.fSigns.take (a1714).toNat) (gt x0.fSigns a1714)).bind fun t1775 => (bif t1775 then some (.inl 7) else spec_l1Fault.l1 x0 k (wrap64 (a1714 + 1))))))))))) else some (.inr ()))
theorem spec_l1Fault.l1_z (x0 : Ledger) (a1714 : Int) : spec_l1Fault.l1 x0 0 a1714 = none := rfl
theorem spec_l1Fault.l1_s (x0 : Ledger) (k : Nat) (a1714 : Int) : spec_l1Fault.l1 x0 (k + 1) a1714 = (bif (decide (a1714 < (x0.fSigns.length : Int))) then (chk (idxOk a1714 x0.fSigns.length) ((spec_l1Key.f k ((gt x0.fSigns a1714).fKey)).bind fun t1757 => (chk (!(!(!t1757)) || (idxOk a1714 x0.fSigns.length)) ((bif (!(!t1757)) then spec_l1In.f k ((gt x0.fSigns a1714).fId) 1 (x0.fTexts.length : Int) else some default).bind fun t1761 => (bif ((!t1757) || (!t1761)) then some (.inl 3) else (chk (cutOk a1714 x0.fSigns.length) (chk (idxOk a1714 x0.fSigns.length) ((spec_l1Signed.f k (x0.fSigns.take (a1714).toNat) (gt x0.fSigns a1714)).bind fun t1775 => (bif t1775 then some (.inl 7) else spec_l1Fault.l1 x0 k (wrap64 (a1714 + 1))))))))))) else some (.inr ())) := rfl
def spec_l1Fault.f (k : Nat) (x0 : Ledger) : Option Int := (bif ((decide (60 < (x0.fTexts.length : Int))) || (decide (120 < (x0.fSigns.length : Int)))) then some 2 else ((spec_l1Fault.l0 x0 k 0).bind fun o1529 => thn o1529 (fun r => some r) (fun _ => ((spec_l1Fault.l1 x0 k 0).bind fun o1684 => thn o1684 (fun r => some r) (fun _ => some 0)))))
theorem spec_l1Fault.calls {k : Nat} {x0 : Ledger} {b0 f0 : Nat} {p0_0 : Value} {p0_1 : Value} {w : World} (hc0 : CellsAt w b0 f0 [p0_0, p0_1]) (hp0_0 : RdS kStr w p0_0 x0.fTexts) (hp0_1 : RdS kSign w p0_1 x0.fSigns) {r : Int} (H : spec_l1Fault.f k x0 = some r) :
  Calls Tryz.prog 21 ([.pointer (some ⟨b0, f0, none⟩)] : List Value).toArray w (fun e w_ => ∃ v, e = .returned v ∧ v = (.int .i64 r) ∧ Mem w [] w_ []) := by
 have HM := Mem.start w
 refine calls_run (N := 113) Tryz.func21 rfl rfl rfl rfl ?_
 unfold spec_l1Fault.f at H
 refine run_seq ?_
 refine run_region rfl ?_
 refine ox rfl rfl rfl rfl (ex_assign rfl rfl) ?_
 refine ops_nil (at_then (run_seq ?_))
 refine run_seq ?_
 refine run_meet (fun ρ_ w_ => ρ_ = [(0, .pointer (some ⟨b0, f0, none⟩)), (18, .bool ((decide (60 < (x0.fTexts.length : Int))) || (decide (120 < (x0.fSigns.length : Int)))))] ∧ Mem w [] w_ []) ?_ ?_
 ·skip
  refine run_region rfl ?_
  refine ox rfl rfl rfl rfl (ex_move rfl rfl) ?_
  refine ox rfl rfl rfl rfl (ex_nilCheck rfl rfl) ?_
  refine ox rfl rfl rfl rfl (ex_fieldAddr (off' := f0) rfl rfl Tryz.underlying39 rfl tsz22 rfl) ?_
  refine ox rfl rfl rfl rfl (ex_load1 rfl rfl Tryz.underlying22 rfl ((HM.at_ hc0) 0 _ rfl)) ?_
  refine ox rfl rfl rfl rfl (ex_len (d := kStr) (xs := x0.fTexts) rfl rfl Tryz.underlying22 hp0_0) ?_
  refine ox rfl rfl rfl rfl (ex_gtr rfl rfl rfl) ?_
  refine ox rfl rfl rfl rfl (ex_move rfl rfl) ?_
  refine bool_cases (decide (60 < (x0.fTexts.length : Int))) (fun hg1464 => ?_) (fun hg1464 => ?_)
  ·skip
   refine ops_off rfl (guard_off rfl rfl rfl hg1464) rfl rfl ?_
   refine ops_off rfl (guard_off rfl rfl rfl hg1464) rfl rfl ?_
   refine ops_off rfl (guard_off rfl rfl rfl hg1464) rfl rfl ?_
   refine ops_off rfl (guard_off rfl rfl rfl hg1464) rfl rfl ?_
   refine ops_off rfl (guard_off rfl rfl rfl hg1464) rfl rfl ?_
   refine ops_off rfl (guard_off rfl rfl rfl hg1464) rfl rfl ?_
   have hg1465 : ((decide (60 < (x0.fTexts.length : Int))) || (decide (120 < (x0.fSigns.length : Int)))) = true := by simp only [hg1464, Bool.and_true, Bool.true_and, Bool.and_false, Bool.false_and, Bool.or_true, Bool.true_or, Bool.or_false, Bool.false_or, Bool.not_true, Bool.not_false, Bool.not_not]
   refine ops_ex (v := .bool ((decide (60 < (x0.fTexts.length : Int))) || (decide (120 < (x0.fSigns.length : Int))))) rfl (guard_none rfl) rfl rfl (ex_por_t rfl rfl hg1464) ?_
   refine ops_nil ?_
   exact at_meet [(0, .pointer (some ⟨b0, f0, none⟩)), (18, .bool ((decide (60 < (x0.fTexts.length : Int))) || (decide (120 < (x0.fSigns.length : Int)))))] ⟨rfl, HM⟩ (Sub.cons rfl (Sub.cons rfl Sub.nil))
  ·skip
   refine ops_ex rfl (guard_on rfl rfl rfl hg1464) rfl rfl (ex_move rfl rfl) ?_
   refine ops_ex rfl (guard_on rfl rfl rfl hg1464) rfl rfl (ex_nilCheck rfl rfl) ?_
   refine ops_ex rfl (guard_on rfl rfl rfl hg1464) rfl rfl (ex_fieldAddr (off' := f0 + 1) rfl rfl Tryz.underlying39 rfl tsz37 rfl) ?_
   refine ops_ex rfl (guard_on rfl rfl rfl hg1464) rfl rfl (ex_load1 rfl rfl Tryz.underlying37 rfl ((HM.at_ hc0) 1 _ rfl)) ?_
   refine ops_ex rfl (guard_on rfl rfl rfl hg1464) rfl rfl (ex_len (d := kSign) (xs := x0.fSigns) rfl rfl Tryz.underlying37 hp0_1) ?_
   refine ops_ex rfl (guard_on rfl rfl rfl hg1464) rfl rfl (ex_gtr rfl rfl rfl) ?_
   refine ops_ex (v := .bool ((decide (60 < (x0.fTexts.length : Int))) || (decide (120 < (x0.fSigns.length : Int))))) rfl (guard_none rfl) rfl rfl (ex_por_f rfl rfl hg1464 rfl) ?_
   refine ops_nil ?_
   exact at_meet [(0, .pointer (some ⟨b0, f0, none⟩)), (18, .bool ((decide (60 < (x0.fTexts.length : Int))) || (decide (120 < (x0.fSigns.length : Int)))))] ⟨rfl, HM⟩ (Sub.cons rfl (Sub.cons rfl Sub.nil))
 ·rintro _ w1466 ⟨rfl, HM⟩
  refine at_then ?_
  refine run_cond (b := ((decide (60 < (x0.fTexts.length : Int))) || (decide (120 < (x0.fSigns.length : Int))))) rfl (fun hb1467 => ?_) (fun hb1467 => ?_)
  ·replace H := cond_t hb1467 H
   refine run_seq ?_
   refine run_region rfl ?_
   refine ox rfl rfl rfl rfl (ex_assign rfl rfl) ?_
   refine ops_nil (at_then ?_)
   refine run_ret ?_
   refine at_then_ret ?_
   have hR := Option.some.inj H
   subst hR
   exact at_ret1 rfl rfl ⟨_, rfl, rfl, HM⟩
  ·replace H := cond_f hb1467 H
   refine run_skip ?_
   refine at_then ?_
   obtain ⟨o1529, ho1530, H⟩ := bind_some H
   refine run_mid (fun ρ_ w_ => Sum.inr () = o1529 ∧ ρ_ = [(0, .pointer (some ⟨b0, f0, none⟩))] ∧ Mem w [] w_ []) ?_ ?_
   ·skip
    refine run_seq ?_
    refine run_region rfl ?_
    refine ox rfl rfl rfl rfl (ex_assign rfl rfl) ?_
    refine ops_nil (at_then ?_)
    refine run_block ?_
    refine run_loop (fun k_ ρ_ w_ => ∃ a1551 : Int, spec_l1Fault.l0 x0 k_ a1551 = some o1529 ∧ ρ_ = [(0, .pointer (some ⟨b0, f0, none⟩)), (3, .int .i64 a1551)] ∧ Mem w [] w_ []) k (ρ1 := [(0, .pointer (some ⟨b0, f0, none⟩)), (3, .int .i64 0)]) ⟨_, ho1530, rfl, HM⟩ (Sub.cons rfl (Sub.cons rfl Sub.nil)) ?_
    clear HM ho1530
    rintro k1572 _ w1573 ⟨a1551, ho1530, rfl, HM⟩
    obtain _ | k1572 := k1572
    ·exact nomatch ((spec_l1Fault.l0_z x0 a1551).symm.trans ho1530)
    replace ho1530 := (spec_l1Fault.l0_s x0 k1572 a1551).symm.trans ho1530
    refine run_seq ?_
    refine run_seq ?_
    refine run_region rfl ?_
    refine ox rfl rfl rfl rfl (ex_move rfl rfl) ?_
    refine ox rfl rfl rfl rfl (ex_move rfl rfl) ?_
    refine ox rfl rfl rfl rfl (ex_nilCheck rfl rfl) ?_
    refine ox rfl rfl rfl rfl (ex_fieldAddr (off' := f0) rfl rfl Tryz.underlying39 rfl tsz22 rfl) ?_
    refine ox rfl rfl rfl rfl (ex_load1 rfl rfl Tryz.underlying22 rfl ((HM.at_ hc0) 0 _ rfl)) ?_
    refine ox rfl rfl rfl rfl (ex_len (d := kStr) (xs := x0.fTexts) rfl rfl Tryz.underlying22 hp0_0) ?_
    refine ox rfl rfl rfl rfl (ex_lss rfl rfl rfl) ?_
    refine ops_nil (at_then ?_)
    refine run_cond (b := (decide (a1551 < (x0.fTexts.length : Int)))) rfl (fun hb1574 => ?_) (fun hb1574 => ?_)
    ·replace ho1530 := cond_t hb1574 ho1530
     refine run_skip ?_
     refine at_then ?_
     refine run_seq ?_
     refine run_block ?_
     refine run_seq ?_
     refine run_seq ?_
     obtain ⟨e1580, ho1530⟩ := chk_some ho1530
     obtain ⟨e1582, ho1530⟩ := chk_some ho1530
     refine run_meet (fun ρ_ w_ => ρ_ = [(0, .pointer (some ⟨b0, f0, none⟩)), (3, .int .i64 a1551), (47, .bool ((decide (((gt x0.fTexts a1551).size : Int) < 1)) || (decide (300 < ((gt x0.fTexts a1551).size : Int)))))] ∧ Mem w [] w_ []) ?_ ?_
     ·skip
      refine run_region rfl ?_
      refine ox rfl rfl rfl rfl (ex_move rfl rfl) ?_
      refine ox rfl rfl rfl rfl (ex_nilCheck rfl rfl) ?_
      refine ox rfl rfl rfl rfl (ex_fieldAddr (off' := f0) rfl rfl Tryz.underlying39 rfl tsz22 rfl) ?_
      refine ox rfl rfl rfl rfl (ex_load1 rfl rfl Tryz.underlying22 rfl ((HM.at_ hc0) 0 _ rfl)) ?_
      refine ox rfl rfl rfl rfl (ex_move rfl rfl) ?_
      have hc1581 : CellsAt _ (sb p0_0) (so p0_0 + (a1551).toNat * 1) [(.string (gt x0.fTexts a1551))] := rd_plain hp0_0 e1580
      refine ox rfl rfl rfl rfl (ex_indexAddr (d := kStr) rfl rfl rfl Tryz.underlying22 tsz9 hp0_0 (idx_lo e1580) (idx_hi e1580)) ?_
      refine ox rfl rfl rfl rfl (ex_load1 rfl rfl Tryz.underlying9 rfl ((HM.at_ hc1581) 0 _ rfl)) ?_
      refine ox rfl rfl rfl rfl (ex_strlen rfl rfl Tryz.underlying9) ?_
      refine ox rfl rfl rfl rfl (ex_lss rfl rfl rfl) ?_
      refine ox rfl rfl rfl rfl (ex_move rfl rfl) ?_
      refine bool_cases (decide (((gt x0.fTexts a1551).size : Int) < 1)) (fun hg1584 => ?_) (fun hg1584 => ?_)
      ·skip
       refine ops_off rfl (guard_off rfl rfl rfl hg1584) rfl rfl ?_
       refine ops_off rfl (guard_off rfl rfl rfl hg1584) rfl rfl ?_
       refine ops_off rfl (guard_off rfl rfl rfl hg1584) rfl rfl ?_
       refine ops_off rfl (guard_off rfl rfl rfl hg1584) rfl rfl ?_
       refine ops_off rfl (guard_off rfl rfl rfl hg1584) rfl rfl ?_
       refine ops_off rfl (guard_off rfl rfl rfl hg1584) rfl rfl ?_
       refine ops_off rfl (guard_off rfl rfl rfl hg1584) rfl rfl ?_
       refine ops_off rfl (guard_off rfl rfl rfl hg1584) rfl rfl ?_
       refine ops_off rfl (guard_off rfl rfl rfl hg1584) rfl rfl ?_
       have hg1585 : ((decide (((gt x0.fTexts a1551).size : Int) < 1)) || (decide (300 < ((gt x0.fTexts a1551).size : Int)))) = true := by simp only [hg1584, Bool.and_true, Bool.true_and, Bool.and_false, Bool.false_and, Bool.or_true, Bool.true_or, Bool.or_false, Bool.false_or, Bool.not_true, Bool.not_false, Bool.not_not]
       refine ops_ex (v := .bool ((decide (((gt x0.fTexts a1551).size : Int) < 1)) || (decide (300 < ((gt x0.fTexts a1551).size : Int))))) rfl (guard_none rfl) rfl rfl (ex_por_t rfl rfl hg1584) ?_
       refine ops_nil ?_
       exact at_meet [(0, .pointer (some ⟨b0, f0, none⟩)), (3, .int .i64 a1551), (47, .bool ((decide (((gt x0.fTexts a1551).size : Int) < 1)) || (decide (300 < ((gt x0.fTexts a1551).size : Int)))))] ⟨rfl, HM⟩ (Sub.cons rfl (Sub.cons rfl (Sub.cons rfl Sub.nil)))
      ·skip
       refine ops_ex rfl (guard_on rfl rfl rfl hg1584) rfl rfl (ex_move rfl rfl) ?_
       refine ops_ex rfl (guard_on rfl rfl rfl hg1584) rfl rfl (ex_nilCheck rfl rfl) ?_
       refine ops_ex rfl (guard_on rfl rfl rfl hg1584) rfl rfl (ex_fieldAddr (off' := f0) rfl rfl Tryz.underlying39 rfl tsz22 rfl) ?_
       refine ops_ex rfl (guard_on rfl rfl rfl hg1584) rfl rfl (ex_load1 rfl rfl Tryz.underlying22 rfl ((HM.at_ hc0) 0 _ rfl)) ?_
       refine ops_ex rfl (guard_on rfl rfl rfl hg1584) rfl rfl (ex_move rfl rfl) ?_
       have hc1583 : CellsAt _ (sb p0_0) (so p0_0 + (a1551).toNat * 1) [(.string (gt x0.fTexts a1551))] := rd_plain hp0_0 (or_t e1582 (not_mk hg1584))
       refine ops_ex rfl (guard_on rfl rfl rfl hg1584) rfl rfl (ex_indexAddr (d := kStr) rfl rfl rfl Tryz.underlying22 tsz9 hp0_0 (idx_lo (or_t e1582 (not_mk hg1584))) (idx_hi (or_t e1582 (not_mk hg1584)))) ?_
       refine ops_ex rfl (guard_on rfl rfl rfl hg1584) rfl rfl (ex_load1 rfl rfl Tryz.underlying9 rfl ((HM.at_ hc1583) 0 _ rfl)) ?_
       refine ops_ex rfl (guard_on rfl rfl rfl hg1584) rfl rfl (ex_strlen rfl rfl Tryz.underlying9) ?_
       refine ops_ex rfl (guard_on rfl rfl rfl hg1584) rfl rfl (ex_gtr rfl rfl rfl) ?_
       refine ops_ex (v := .bool ((decide (((gt x0.fTexts a1551).size : Int) < 1)) || (decide (300 < ((gt x0.fTexts a1551).size : Int))))) rfl (guard_none rfl) rfl rfl (ex_por_f rfl rfl hg1584 rfl) ?_
       refine ops_nil ?_
       exact at_meet [(0, .pointer (some ⟨b0, f0, none⟩)), (3, .int .i64 a1551), (47, .bool ((decide (((gt x0.fTexts a1551).size : Int) < 1)) || (decide (300 < ((gt x0.fTexts a1551).size : Int)))))] ⟨rfl, HM⟩ (Sub.cons rfl (Sub.cons rfl (Sub.cons rfl Sub.nil)))
     ·rintro _ w1586 ⟨rfl, HM⟩
      refine at_then ?_
      refine run_cond (b := ((decide (((gt x0.fTexts a1551).size : Int) < 1)) || (decide (300 < ((gt x0.fTexts a1551).size : Int))))) rfl (fun hb1587 => ?_) (fun hb1587 => ?_)
      ·replace ho1530 := cond_t hb1587 ho1530
       refine run_seq ?_
       refine run_region rfl ?_
       refine ox rfl rfl rfl rfl (ex_assign rfl rfl) ?_
       refine ops_nil (at_then ?_)
       refine run_ret ?_
       refine at_then_ret ?_
       refine at_block_ret ?_
       refine at_then_ret ?_
       refine at_then_ret ?_
       refine at_block_ret ?_
       refine at_then_ret ?_
       have hR := Option.some.inj ho1530
       subst hR
       have hT := thn_inl H
       have hR := Option.some.inj hT
       subst hR
       exact at_ret1 rfl rfl ⟨_, rfl, rfl, HM⟩
      ·replace ho1530 := cond_f hb1587 ho1530
       refine run_skip ?_
       refine at_then ?_
       refine run_seq ?_
       obtain ⟨e1588, ho1530⟩ := chk_some ho1530
       obtain ⟨e1592, ho1530⟩ := chk_some ho1530
       obtain ⟨t1594, h1595, ho1530⟩ := bind_some ho1530
       refine run_drawf (fun w_ => Mem w [] w_ []) [(0, true), (1, true), (2, true), (3, true), (4, true), (5, true), (6, true), (7, true), (8, true), (9, true), (10, true), (11, true), (12, true), (13, false), (14, true)] mixed rfl rfl (by kernel_rfl) ?_
       replace HM := HM.grow (fr_drew _)
       have hS := Mem.suf (M := []) HM
       refine dp rfl rfl rfl rfl (ex_move rfl rfl) hS ?_
       refine dp rfl rfl rfl rfl (ex_nilCheck rfl rfl) hS ?_
       refine dp rfl rfl rfl rfl (ex_fieldAddr (off' := f0) rfl rfl Tryz.underlying39 rfl tsz22 rfl) hS ?_
       refine drwp_take rfl (guard_none rfl) rfl rfl (fun w_ hS_ => (ex_load1 rfl rfl Tryz.underlying22 rfl ((hS_.at_ hc0) 0 _ rfl))) hS ?_
       refine dp rfl rfl rfl rfl (ex_move rfl rfl) hS ?_
       refine drwp_takeE rfl (guard_none rfl) rfl rfl (ex_cutH kStr rfl rfl rfl Tryz.underlying22 tsz9 hp0_0 e1588) hS ?_
       rintro u1589 hr1591
       refine dp rfl rfl rfl rfl (ex_move rfl rfl) hS ?_
       refine dp rfl rfl rfl rfl (ex_nilCheck rfl rfl) hS ?_
       refine dp rfl rfl rfl rfl (ex_fieldAddr (off' := f0) rfl rfl Tryz.underlying39 rfl tsz22 rfl) hS ?_
       refine drwp_take rfl (guard_none rfl) rfl rfl (fun w_ hS_ => (ex_load1 rfl rfl Tryz.underlying22 rfl ((hS_.at_ hc0) 0 _ rfl))) hS ?_
       refine dp rfl rfl rfl rfl (ex_move rfl rfl) hS ?_
       have hc1593 : CellsAt _ (sb p0_0) (so p0_0 + (a1551).toNat * 1) [(.string (gt x0.fTexts a1551))] := rd_plain hp0_0 e1592
       refine dp rfl rfl rfl rfl (ex_indexAddr (d := kStr) rfl rfl rfl Tryz.underlying22 tsz9 hp0_0 (idx_lo e1592) (idx_hi e1592)) hS ?_
       refine drwp_take rfl (guard_none rfl) rfl rfl (fun w_ hS_ => (ex_load1 rfl rfl Tryz.underlying9 rfl ((hS_.at_ hc1593) 0 _ rfl))) hS ?_
       refine drwp_one rfl (guard_none rfl) rfl rfl (does_callk rfl callok26 rfl (spec_l1At.calls (x0 := x0.fTexts.take (a1551).toNat) (x1 := (gt x0.fTexts a1551)) (HM.rd hr1591) h1595)) ?_
       rintro _ w1596 ⟨rfl, hn⟩
       replace HM : Mem w [] w1596 [] := HM.call hn
       have hS := Mem.suf (M := []) HM
       refine ⟨hS, ?_⟩
       refine dp rfl rfl rfl rfl (ex_gtr rfl rfl rfl) hS ?_
       refine drwp_done ?_
       refine at_then ?_
       refine run_cond (b := (decide (0 < t1594))) rfl (fun hb1597 => ?_) (fun hb1597 => ?_)
       ·replace ho1530 := cond_t hb1597 ho1530
        refine run_seq ?_
        refine run_region rfl ?_
        refine ox rfl rfl rfl rfl (ex_assign rfl rfl) ?_
        refine ops_nil (at_then ?_)
        refine run_ret ?_
        refine at_block_ret ?_
        refine at_then_ret ?_
        refine at_then_ret ?_
        refine at_block_ret ?_
        refine at_then_ret ?_
        have hR := Option.some.inj ho1530
        subst hR
        have hT := thn_inl H
        have hR := Option.some.inj hT
        subst hR
        exact at_ret1 rfl rfl ⟨_, rfl, rfl, HM⟩
       ·replace ho1530 := cond_f hb1597 ho1530
        refine run_skip ?_
        refine at_block ?_
        refine at_then ?_
        refine run_region rfl ?_
        refine ox rfl rfl rfl rfl (ex_move rfl rfl) ?_
        refine ox rfl rfl rfl rfl (ex_add rfl rfl rfl) ?_
        refine ox rfl rfl rfl rfl (ex_assign rfl rfl) ?_
        refine ops_nil ?_
        exact at_again k1572 (ρ1 := [(0, .pointer (some ⟨b0, f0, none⟩)), (3, .int .i64 (wrap64 (a1551 + 1)))]) (Nat.lt_succ_self _) ⟨_, ho1530, rfl, HM⟩ (Sub.cons rfl (Sub.cons rfl Sub.nil))
    ·replace ho1530 := cond_f hb1574 ho1530
     refine run_exit ?_
     refine at_then_exit ?_
     refine at_then_exit ?_
     refine at_block_exit ?_
     exact at_mid (ρ' := [(0, .pointer (some ⟨b0, f0, none⟩))]) ⟨(Option.some.inj ho1530), rfl, HM⟩ (Sub.cons rfl Sub.nil)
   ·rintro _ w1598 ⟨rfl, rfl, HM⟩
    replace H := (thn_inr H)
    obtain ⟨o1684, ho1685, H⟩ := bind_some H
    refine run_mid (fun ρ_ w_ => Sum.inr () = o1684 ∧ ρ_ = [] ∧ Mem w [] w_ []) ?_ ?_
    ·skip
     refine run_seq ?_
     refine run_region rfl ?_
     refine ox rfl rfl rfl rfl (ex_assign rfl rfl) ?_
     refine ops_nil (at_then ?_)
     refine run_block ?_
     refine run_loop (fun k_ ρ_ w_ => ∃ a1714 : Int, spec_l1Fault.l1 x0 k_ a1714 = some o1684 ∧ ρ_ = [(0, .pointer (some ⟨b0, f0, none⟩)), (4, .int .i64 a1714)] ∧ Mem w [] w_ []) k (ρ1 := [(0, .pointer (some ⟨b0, f0, none⟩)), (4, .int .i64 0)]) ⟨_, ho1685, rfl, HM⟩ (Sub.cons rfl (Sub.cons rfl Sub.nil)) ?_
     clear HM ho1685
     rintro k1743 _ w1744 ⟨a1714, ho1685, rfl, HM⟩
     obtain _ | k1743 := k1743
     ·exact nomatch ((spec_l1Fault.l1_z x0 a1714).symm.trans ho1685)
     replace ho1685 := (spec_l1Fault.l1_s x0 k1743 a1714).symm.trans ho1685
     refine run_seq ?_
     refine run_seq ?_
     refine run_region rfl ?_
     refine ox rfl rfl rfl rfl (ex_move rfl rfl) ?_
     refine ox rfl rfl rfl rfl (ex_move rfl rfl) ?_
     refine ox rfl rfl rfl rfl (ex_nilCheck rfl rfl) ?_
     refine ox rfl rfl rfl rfl (ex_fieldAddr (off' := f0 + 1) rfl rfl Tryz.underlying39 rfl tsz37 rfl) ?_
     refine ox rfl rfl rfl rfl (ex_load1 rfl rfl Tryz.underlying37 rfl ((HM.at_ hc0) 1 _ rfl)) ?_
     refine ox rfl rfl rfl rfl (ex_len (d := kSign) (xs := x0.fSigns) rfl rfl Tryz.underlying37 hp0_1) ?_
     refine ox rfl rfl rfl rfl (ex_lss rfl rfl rfl) ?_
     refine ops_nil (at_then ?_)
     refine run_cond (b := (decide (a1714 < (x0.fSigns.length : Int)))) rfl (fun hb1745 => ?_) (fun hb1745 => ?_)
     ·replace ho1685 := cond_t hb1745 ho1685
      refine run_skip ?_
      refine at_then ?_
      refine run_seq ?_
      refine run_block ?_
      refine run_seq ?_
      refine run_seq ?_
      obtain ⟨e1755, ho1685⟩ := chk_some ho1685
      obtain ⟨t1757, h1758, ho1685⟩ := bind_some ho1685
      obtain ⟨e1759, ho1685⟩ := chk_some ho1685
      obtain ⟨t1761, h1762, ho1685⟩ := bind_some ho1685
      refine run_meet (fun ρ_ w_ => ρ_ = [(0, .pointer (some ⟨b0, f0, none⟩)), (4, .int .i64 a1714), (98, .bool ((!t1757) || (!t1761)))] ∧ Mem w [] w_ []) ?_ ?_
      ·skip
       refine run_drawf (fun w_ => Mem w [] w_ []) [(0, true), (1, true), (2, true), (3, true), (4, true), (5, true), (6, true), (7, true), (8, false), (9, true), (10, true), (11, true), (12, true), (13, true), (14, true), (15, true), (16, true), (17, true), (18, true), (19, true), (20, true), (21, true), (22, true), (23, true), (24, false), (25, true), (26, true)] mixed rfl rfl (by kernel_rfl) ?_
       replace HM := HM.grow (fr_drew _)
       have hS := Mem.suf (M := []) HM
       refine dp rfl rfl rfl rfl (ex_move rfl rfl) hS ?_
       refine dp rfl rfl rfl rfl (ex_nilCheck rfl rfl) hS ?_
       refine dp rfl rfl rfl rfl (ex_fieldAddr (off' := f0 + 1) rfl rfl Tryz.underlying39 rfl tsz37 rfl) hS ?_
       refine drwp_take rfl (guard_none rfl) rfl rfl (fun w_ hS_ => (ex_load1 rfl rfl Tryz.underlying37 rfl ((hS_.at_ hc0) 1 _ rfl))) hS ?_
       refine dp rfl rfl rfl rfl (ex_move rfl rfl) hS ?_
       have hc1756 : CellsAt _ (sb p0_1) (so p0_1 + (a1714).toNat * 2) [(.int .i64 ((gt x0.fSigns a1714).fKey)), (.int .i64 ((gt x0.fSigns a1714).fId))] := rd_plain hp0_1 e1755
       refine dp rfl rfl rfl rfl (ex_indexAddr (d := kSign) rfl rfl rfl Tryz.underlying37 tsz100 hp0_1 (idx_lo e1755) (idx_hi e1755)) hS ?_
       refine dp rfl rfl rfl rfl (ex_fieldAddr (off' := so p0_1 + (a1714).toNat * 2) rfl rfl Tryz.underlying100 rfl tsz2 rfl) hS ?_
       refine drwp_take rfl (guard_none rfl) rfl rfl (fun w_ hS_ => (ex_load1 rfl rfl Tryz.underlying2 rfl ((hS_.at_ hc1756) 0 _ rfl))) hS ?_
       refine drwp_one rfl (guard_none rfl) rfl rfl (does_callk rfl callok44 rfl (spec_l1Key.calls (x0 := (gt x0.fSigns a1714).fKey) h1758)) ?_
       rintro _ w1763 ⟨rfl, hn⟩
       replace HM : Mem w [] w1763 [] := HM.call hn
       have hS := Mem.suf (M := []) HM
       refine ⟨hS, ?_⟩
       refine dp rfl rfl rfl rfl (ex_not rfl rfl) hS ?_
       refine dp rfl rfl rfl rfl (ex_move rfl rfl) hS ?_
       refine bool_cases (!t1757) (fun hg1764 => ?_) (fun hg1764 => ?_)
       ·skip
        refine drwp_off rfl (guard_off rfl rfl rfl hg1764) rfl rfl hS ?_
        refine drwp_off rfl (guard_off rfl rfl rfl hg1764) rfl rfl hS ?_
        refine drwp_off rfl (guard_off rfl rfl rfl hg1764) rfl rfl hS ?_
        refine drwp_off rfl (guard_off rfl rfl rfl hg1764) rfl rfl hS ?_
        refine drwp_off rfl (guard_off rfl rfl rfl hg1764) rfl rfl hS ?_
        refine drwp_off rfl (guard_off rfl rfl rfl hg1764) rfl rfl hS ?_
        refine drwp_off rfl (guard_off rfl rfl rfl hg1764) rfl rfl hS ?_
        refine drwp_off rfl (guard_off rfl rfl rfl hg1764) rfl rfl hS ?_
        refine drwp_off rfl (guard_off rfl rfl rfl hg1764) rfl rfl hS ?_
        refine drwp_off rfl (guard_off rfl rfl rfl hg1764) rfl rfl hS ?_
        refine drwp_off rfl (guard_off rfl rfl rfl hg1764) rfl rfl hS ?_
        refine drwp_off rfl (guard_off rfl rfl rfl hg1764) rfl rfl hS ?_
        refine drwp_off rfl (guard_off rfl rfl rfl hg1764) rfl rfl hS ?_
        refine drwp_off1 rfl (guard_off rfl rfl rfl hg1764) rfl rfl ⟨hS, ?_⟩
        refine drwp_off rfl (guard_off rfl rfl rfl hg1764) rfl rfl hS ?_
        have hg1765 : ((!t1757) || (!t1761)) = true := by simp only [hg1764, Bool.and_true, Bool.true_and, Bool.and_false, Bool.false_and, Bool.or_true, Bool.true_or, Bool.or_false, Bool.false_or, Bool.not_true, Bool.not_false, Bool.not_not]
        refine drwp_take (v := .bool ((!t1757) || (!t1761))) rfl (guard_none rfl) rfl rfl (fun w_ hS_ => (ex_por_t rfl rfl hg1764)) hS ?_
        refine drwp_done ?_
        exact at_meet [(0, .pointer (some ⟨b0, f0, none⟩)), (4, .int .i64 a1714), (98, .bool ((!t1757) || (!t1761)))] ⟨rfl, HM⟩ (Sub.cons rfl (Sub.cons rfl (Sub.cons rfl Sub.nil)))
       ·skip
        refine drwp_take rfl (guard_on rfl rfl rfl hg1764) rfl rfl (fun w_ hS_ => (ex_move rfl rfl)) hS ?_
        refine drwp_take rfl (guard_on rfl rfl rfl hg1764) rfl rfl (fun w_ hS_ => (ex_nilCheck rfl rfl)) hS ?_
        refine drwp_take rfl (guard_on rfl rfl rfl hg1764) rfl rfl (fun w_ hS_ => (ex_fieldAddr (off' := f0 + 1) rfl rfl Tryz.underlying39 rfl tsz37 rfl)) hS ?_
        refine drwp_take rfl (guard_on rfl rfl rfl hg1764) rfl rfl (fun w_ hS_ => (ex_load1 rfl rfl Tryz.underlying37 rfl ((hS_.at_ hc0) 1 _ rfl))) hS ?_
        refine drwp_take rfl (guard_on rfl rfl rfl hg1764) rfl rfl (fun w_ hS_ => (ex_move rfl rfl)) hS ?_
        have hc1760 : CellsAt _ (sb p0_1) (so p0_1 + (a1714).toNat * 2) [(.int .i64 ((gt x0.fSigns a1714).fKey)), (.int .i64 ((gt x0.fSigns a1714).fId))] := rd_plain hp0_1 (or_t e1759 (not_mk hg1764))
        refine drwp_take rfl (guard_on rfl rfl rfl hg1764) rfl rfl (fun w_ hS_ => (ex_indexAddr (d := kSign) rfl rfl rfl Tryz.underlying37 tsz100 hp0_1 (idx_lo (or_t e1759 (not_mk hg1764))) (idx_hi (or_t e1759 (not_mk hg1764))))) hS ?_
        refine drwp_take rfl (guard_on rfl rfl rfl hg1764) rfl rfl (fun w_ hS_ => (ex_fieldAddr (off' := so p0_1 + (a1714).toNat * 2 + 1) rfl rfl Tryz.underlying100 rfl tsz2 rfl)) hS ?_
        refine drwp_take rfl (guard_on rfl rfl rfl hg1764) rfl rfl (fun w_ hS_ => (ex_load1 rfl rfl Tryz.underlying2 rfl ((hS_.at_ hc1760) 1 _ rfl))) hS ?_
        refine drwp_take rfl (guard_on rfl rfl rfl hg1764) rfl rfl (fun w_ hS_ => (ex_move rfl rfl)) hS ?_
        refine drwp_take rfl (guard_on rfl rfl rfl hg1764) rfl rfl (fun w_ hS_ => (ex_nilCheck rfl rfl)) hS ?_
        refine drwp_take rfl (guard_on rfl rfl rfl hg1764) rfl rfl (fun w_ hS_ => (ex_fieldAddr (off' := f0) rfl rfl Tryz.underlying39 rfl tsz22 rfl)) hS ?_
        refine drwp_take rfl (guard_on rfl rfl rfl hg1764) rfl rfl (fun w_ hS_ => (ex_load1 rfl rfl Tryz.underlying22 rfl ((hS_.at_ hc0) 0 _ rfl))) hS ?_
        refine drwp_take rfl (guard_on rfl rfl rfl hg1764) rfl rfl (fun w_ hS_ => (ex_len (d := kStr) (xs := x0.fTexts) rfl rfl Tryz.underlying22 hp0_0)) hS ?_
        refine drwp_one rfl (guard_on rfl rfl rfl hg1764) rfl rfl (does_callk rfl callok45 rfl (spec_l1In.calls (x0 := (gt x0.fSigns a1714).fId) (x1 := 1) (x2 := (x0.fTexts.length : Int)) (cond_t (not_mk hg1764) h1762))) ?_
        rintro _ w1766 ⟨rfl, hn⟩
        replace HM : Mem w [] w1766 [] := HM.call hn
        have hS := Mem.suf (M := []) HM
        refine ⟨hS, ?_⟩
        refine drwp_take rfl (guard_on rfl rfl rfl hg1764) rfl rfl (fun w_ hS_ => (ex_not rfl rfl)) hS ?_
        refine drwp_take (v := .bool ((!t1757) || (!t1761))) rfl (guard_none rfl) rfl rfl (fun w_ hS_ => (ex_por_f rfl rfl hg1764 rfl)) hS ?_
        refine drwp_done ?_
        exact at_meet [(0, .pointer (some ⟨b0, f0, none⟩)), (4, .int .i64 a1714), (98, .bool ((!t1757) || (!t1761)))] ⟨rfl, HM⟩ (Sub.cons rfl (Sub.cons rfl (Sub.cons rfl Sub.nil)))
      ·rintro _ w1767 ⟨rfl, HM⟩
       refine at_then ?_
       refine run_cond (b := ((!t1757) || (!t1761))) rfl (fun hb1768 => ?_) (fun hb1768 => ?_)
       ·replace ho1685 := cond_t hb1768 ho1685
        refine run_seq ?_
        refine run_region rfl ?_
        refine ox rfl rfl rfl rfl (ex_assign rfl rfl) ?_
        refine ops_nil (at_then ?_)
        refine run_ret ?_
        refine at_then_ret ?_
        refine at_block_ret ?_
        refine at_then_ret ?_
        refine at_then_ret ?_
        refine at_block_ret ?_
        refine at_then_ret ?_
        have hR := Option.some.inj ho1685
        subst hR
        have hT := thn_inl H
        have hR := Option.some.inj hT
        subst hR
        exact at_ret1 rfl rfl ⟨_, rfl, rfl, HM⟩
       ·replace ho1685 := cond_f hb1768 ho1685
        refine run_skip ?_
        refine at_then ?_
        refine run_seq ?_
        obtain ⟨e1769, ho1685⟩ := chk_some ho1685
        obtain ⟨e1773, ho1685⟩ := chk_some ho1685
        obtain ⟨t1775, h1776, ho1685⟩ := bind_some ho1685
        refine run_drawf (fun w_ => Mem w [] w_ []) [(0, true), (1, true), (2, true), (3, true), (4, true), (5, true), (6, true), (7, true), (8, true), (9, true), (10, true), (11, true), (12, true), (13, false)] mixed rfl rfl (by kernel_rfl) ?_
        replace HM := HM.grow (fr_drew _)
        have hS := Mem.suf (M := []) HM
        refine dp rfl rfl rfl rfl (ex_move rfl rfl) hS ?_
        refine dp rfl rfl rfl rfl (ex_nilCheck rfl rfl) hS ?_
        refine dp rfl rfl rfl rfl (ex_fieldAddr (off' := f0 + 1) rfl rfl Tryz.underlying39 rfl tsz37 rfl) hS ?_
        refine drwp_take rfl (guard_none rfl) rfl rfl (fun w_ hS_ => (ex_load1 rfl rfl Tryz.underlying37 rfl ((hS_.at_ hc0) 1 _ rfl))) hS ?_
        refine dp rfl rfl rfl rfl (ex_move rfl rfl) hS ?_
        refine drwp_takeE rfl (guard_none rfl) rfl rfl (ex_cutH kSign rfl rfl rfl Tryz.underlying37 tsz100 hp0_1 e1769) hS ?_
        rintro u1770 hr1772
        refine dp rfl rfl rfl rfl (ex_move rfl rfl) hS ?_
        refine dp rfl rfl rfl rfl (ex_nilCheck rfl rfl) hS ?_
        refine dp rfl rfl rfl rfl (ex_fieldAddr (off' := f0 + 1) rfl rfl Tryz.underlying39 rfl tsz37 rfl) hS ?_
        refine drwp_take rfl (guard_none rfl) rfl rfl (fun w_ hS_ => (ex_load1 rfl rfl Tryz.underlying37 rfl ((hS_.at_ hc0) 1 _ rfl))) hS ?_
        refine dp rfl rfl rfl rfl (ex_move rfl rfl) hS ?_
        have hc1774 : CellsAt _ (sb p0_1) (so p0_1 + (a1714).toNat * 2) [(.int .i64 ((gt x0.fSigns a1714).fKey)), (.int .i64 ((gt x0.fSigns a1714).fId))] := rd_plain hp0_1 e1773
        refine dp rfl rfl rfl rfl (ex_indexAddr (d := kSign) rfl rfl rfl Tryz.underlying37 tsz100 hp0_1 (idx_lo e1773) (idx_hi e1773)) hS ?_
        refine drwp_take rfl (guard_none rfl) rfl rfl (fun w_ hS_ => (ex_loadN (cs := [(.int .i64 ((gt x0.fSigns a1714).fKey)), (.int .i64 ((gt x0.fSigns a1714).fId))]) rfl rfl Tryz.underlying100 rfl tsz100 rfl ((hS_.at_ hc1774).sub 0 2 rfl))) hS ?_
        refine drwp_one rfl (guard_none rfl) rfl rfl (does_callk rfl callok46 rfl (spec_l1Signed.calls (x0 := x0.fSigns.take (a1714).toNat) (x1 := (gt x0.fSigns a1714)) (HM.rd hr1772) h1776)) ?_
        rintro _ w1777 ⟨rfl, hn⟩
        replace HM : Mem w [] w1777 [] := HM.call hn
        have hS := Mem.suf (M := []) HM
        refine ⟨hS, ?_⟩
        refine drwp_done ?_
        refine at_then ?_
        refine run_cond (b := t1775) rfl (fun hb1778 => ?_) (fun hb1778 => ?_)
        ·replace ho1685 := cond_t hb1778 ho1685
         refine run_seq ?_
         refine run_region rfl ?_
         refine ox rfl rfl rfl rfl (ex_assign rfl rfl) ?_
         refine ops_nil (at_then ?_)
         refine run_ret ?_
         refine at_block_ret ?_
         refine at_then_ret ?_
         refine at_then_ret ?_
         refine at_block_ret ?_
         refine at_then_ret ?_
         have hR := Option.some.inj ho1685
         subst hR
         have hT := thn_inl H
         have hR := Option.some.inj hT
         subst hR
         exact at_ret1 rfl rfl ⟨_, rfl, rfl, HM⟩
        ·replace ho1685 := cond_f hb1778 ho1685
         refine run_skip ?_
         refine at_block ?_
         refine at_then ?_
         refine run_region rfl ?_
         refine ox rfl rfl rfl rfl (ex_move rfl rfl) ?_
         refine ox rfl rfl rfl rfl (ex_add rfl rfl rfl) ?_
         refine ox rfl rfl rfl rfl (ex_assign rfl rfl) ?_
         refine ops_nil ?_
         exact at_again k1743 (ρ1 := [(0, .pointer (some ⟨b0, f0, none⟩)), (4, .int .i64 (wrap64 (a1714 + 1)))]) (Nat.lt_succ_self _) ⟨_, ho1685, rfl, HM⟩ (Sub.cons rfl (Sub.cons rfl Sub.nil))
     ·replace ho1685 := cond_f hb1745 ho1685
      refine run_exit ?_
      refine at_then_exit ?_
      refine at_then_exit ?_
      refine at_block_exit ?_
      exact at_mid (ρ' := []) ⟨(Option.some.inj ho1685), rfl, HM⟩ Sub.nil
    ·rintro _ w1779 ⟨rfl, rfl, HM⟩
     replace H := (thn_inr H)
     refine run_seq ?_
     refine run_region rfl ?_
     refine ox rfl rfl rfl rfl (ex_assign rfl rfl) ?_
     refine ops_nil (at_then ?_)
     refine run_ret ?_
     have hR := Option.some.inj H
     subst hR
     exact at_ret1 rfl rfl ⟨_, rfl, rfl, HM⟩

def spec_l3Ref.f (k : Nat) (x0 : Ref) : Option Bool := ((spec_l1In.f k x0.fTx 1 60).bind fun t1804 => ((bif t1804 then spec_l1In.f k x0.fAt 0 3 else some default).bind fun t1806 => some (t1804 && t1806)))
theorem spec_l3Ref.calls {k : Nat} {x0 : Ref}  {w : World}  {r : Bool} (H : spec_l3Ref.f k x0 = some r) :
  Calls Tryz.prog 47 ([.agg #[(.int .i64 x0.fTx), (.int .i64 x0.fAt)]] : List Value).toArray w (fun e w_ => ∃ v, e = .returned v ∧ v = (.bool r) ∧ Mem w [] w_ []) := by
 have HM := Mem.start w
 refine calls_run (N := 11) Tryz.func47 rfl rfl rfl rfl ?_
 unfold spec_l3Ref.f at H
 refine run_seq ?_
 refine run_region rfl ?_
 refine od rfl rfl rfl rfl (does_box (cs := [.int .i64 x0.fTx, .int .i64 x0.fAt]) rfl rfl rfl HM) ?_
 rintro _ w1803 ⟨b1800, rfl, HM⟩
 refine ox rfl rfl rfl rfl (ex_assign rfl rfl) ?_
 refine ops_nil (at_then (run_seq ?_))
 obtain ⟨t1804, h1805, H⟩ := bind_some H
 obtain ⟨t1806, h1807, H⟩ := bind_some H
 refine run_meet (fun ρ_ w_ => ρ_ = [(2, .bool (t1804 && t1806))] ∧ Mem w [] w_ []) ?_ ?_
 ·skip
  refine run_region rfl ?_
  refine ox rfl rfl rfl rfl (ex_fieldAddr (off' := 0) rfl rfl Tryz.underlying81 rfl tsz2 rfl) ?_
  refine ox rfl rfl rfl rfl (ex_load1 rfl rfl Tryz.underlying2 rfl ((HM.box_at 0 rfl) 0 _ rfl)) ?_
  refine od rfl rfl rfl rfl (does_callk rfl callok45 rfl (spec_l1In.calls (x0 := x0.fTx) (x1 := 1) (x2 := 60) h1805)) ?_
  rintro _ w1808 ⟨rfl, hn⟩
  replace HM : Mem w [] w1808 [box b1800 81 [.int .i64 x0.fTx, .int .i64 x0.fAt]] := HM.call hn
  refine ox rfl rfl rfl rfl (ex_move rfl rfl) ?_
  refine bool_cases t1804 (fun hg1809 => ?_) (fun hg1809 => ?_)
  ·skip
   refine ops_ex rfl (guard_on rfl rfl rfl hg1809) rfl rfl (ex_fieldAddr (off' := 1) rfl rfl Tryz.underlying81 rfl tsz2 rfl) ?_
   refine ops_ex rfl (guard_on rfl rfl rfl hg1809) rfl rfl (ex_load1 rfl rfl Tryz.underlying2 rfl ((HM.box_at 0 rfl) 1 _ rfl)) ?_
   refine ops_does rfl (guard_on rfl rfl rfl hg1809) rfl rfl (does_callk rfl callok45 rfl (spec_l1In.calls (x0 := x0.fAt) (x1 := 0) (x2 := 3) (cond_t hg1809 h1807))) ?_
   rintro _ w1810 ⟨rfl, hn⟩
   replace HM : Mem w [] w1810 [box b1800 81 [.int .i64 x0.fTx, .int .i64 x0.fAt]] := HM.call hn
   refine ops_ex (v := .bool (t1804 && t1806)) rfl (guard_none rfl) rfl rfl (ex_pand_t rfl rfl hg1809 rfl) ?_
   refine ox rfl rfl rfl rfl (ex_assign rfl rfl) ?_
   refine ops_nil ?_
   replace HM := (HM.front 0 rfl rfl).drop
   exact at_meet [(2, .bool (t1804 && t1806))] ⟨rfl, HM⟩ (Sub.cons rfl Sub.nil)
  ·skip
   refine ops_off rfl (guard_off rfl rfl rfl hg1809) rfl rfl ?_
   refine ops_off rfl (guard_off rfl rfl rfl hg1809) rfl rfl ?_
   refine ops_off rfl (guard_off rfl rfl rfl hg1809) rfl rfl ?_
   have hg1811 : (t1804 && t1806) = false := by simp only [hg1809, Bool.and_true, Bool.true_and, Bool.and_false, Bool.false_and, Bool.or_true, Bool.true_or, Bool.or_false, Bool.false_or, Bool.not_true, Bool.not_false, Bool.not_not]
   refine ops_ex (v := .bool (t1804 && t1806)) rfl (guard_none rfl) rfl rfl (ex_pand_f rfl rfl hg1809) ?_
   refine ox rfl rfl rfl rfl (ex_assign rfl rfl) ?_
   refine ops_nil ?_
   replace HM := (HM.front 0 rfl rfl).drop
   exact at_meet [(2, .bool (t1804 && t1806))] ⟨rfl, HM⟩ (Sub.cons rfl Sub.nil)
 ·rintro _ w1812 ⟨rfl, HM⟩
  refine at_then ?_
  refine run_ret ?_
  have hR := Option.some.inj H
  subst hR
  exact at_ret1 rfl rfl ⟨_, rfl, rfl, HM⟩

def spec_l2Height.f (k : Nat) (x0 : Int) : Option Bool := ((spec_l1In.f k x0 0 999).bind fun t1821 => some t1821)
theorem spec_l2Height.calls {k : Nat} {x0 : Int}  {w : World}  {r : Bool} (H : spec_l2Height.f k x0 = some r) :
  Calls Tryz.prog 24 ([.int .i64 x0] : List Value).toArray w (fun e w_ => ∃ v, e = .returned v ∧ v = (.bool r) ∧ Mem w [] w_ []) := by
 have HM := Mem.start w
 refine calls_run (N := 5) Tryz.func24 rfl rfl rfl rfl ?_
 unfold spec_l2Height.f at H
 refine run_seq ?_
 refine run_region rfl ?_
 refine ox rfl rfl rfl rfl (ex_assign rfl rfl) ?_
 refine ops_nil (at_then (run_seq ?_))
 obtain ⟨t1821, h1822, H⟩ := bind_some H
 refine run_region rfl ?_
 refine ox rfl rfl rfl rfl (ex_move rfl rfl) ?_
 refine od rfl rfl rfl rfl (does_callk rfl callok45 rfl (spec_l1In.calls (x0 := x0) (x1 := 0) (x2 := 999) h1822)) ?_
 rintro _ w1823 ⟨rfl, hn⟩
 replace HM : Mem w [] w1823 [] := HM.call hn
 refine ox rfl rfl rfl rfl (ex_assign rfl rfl) ?_
 refine ops_nil (at_then ?_)
 refine run_ret ?_
 have hR := Option.some.inj H
 subst hR
 exact at_ret1 rfl rfl ⟨_, rfl, rfl, HM⟩

def spec_l2Fault.l0 (x0 : Rule) : Nat → Int → Option (Int ⊕ Unit)
 | 0, _ => none
 | k + 1, a1942 => (bif (decide (a1942 < (x0.fKeys.length : Int))) then (chk (idxOk a1942 x0.fKeys.length) ((spec_l1Key.f k (gt x0.fKeys a1942)).bind fun t1954 => (bif !t1954 then some (.inl 3) else spec_l2Fault.l0 x0 k (wrap64 (a1942 + 1))))) else some (.inr ()))
theorem spec_l2Fault.l0_z (x0 : Rule) (a1942 : Int) : spec_l2Fault.l0 x0 0 a1942 = none := rfl
theorem spec_l2Fault.l0_s (x0 : Rule) (k : Nat) (a1942 : Int) : spec_l2Fault.l0 x0 (k + 1) a1942 = (bif (decide (a1942 < (x0.fKeys.length : Int))) then (chk (idxOk a1942 x0.fKeys.length) ((spec_l1Key.f k (gt x0.fKeys a1942)).bind fun t1954 => (bif !t1954 then some (.inl 3) else spec_l2Fault.l0 x0 k (wrap64 (a1942 + 1))))) else some (.inr ())) := rfl
def spec_l2Fault.l1 (x0 : Rule) : Nat → Int → Option (Int ⊕ Unit)
 | 0, _ => none
 | k + 1, a2001 => (bif (decide (a2001 < (x0.fKeys.length : Int))) then (chk (idxOk a2001 x0.fKeys.length) (chk (idxOk (wrap64 (a2001 - 1)) x0.fKeys.length) (bif (decide ((gt x0.fKeys a2001) ≤ (gt x0.fKeys (wrap64 (a2001 - 1))))) then some (.inl 1) else spec_l2Fault.l1 x0 k (wrap64 (a2001 + 1))))) else some (.inr ()))
theorem spec_l2Fault.l1_z (x0 : Rule) (a2001 : Int) : spec_l2Fault.l1 x0 0 a2001 = none := rfl
theorem spec_l2Fault.l1_s (x0 : Rule) (k : Nat) (a2001 : Int) : spec_l2Fault.l1 x0 (k + 1) a2001 = (bif (decide (a2001 < (x0.fKeys.length : Int))) then (chk (idxOk a2001 x0.fKeys.length) (chk (idxOk (wrap64 (a2001 - 1)) x0.fKeys.length) (bif (decide ((gt x0.fKeys a2001) ≤ (gt x0.fKeys (wrap64 (a2001 - 1))))) then some (.inl 1) else spec_l2Fault.l1 x0 k (wrap64 (a2001 + 1))))) else some (.inr ())) := rfl
def spec_l2Fault.f (k : Nat) (x0 : Rule) : Option Int := ((spec_l1In.f k (x0.fKeys.length : Int) 1 3).bind fun t1911 => (bif !t1911 then some 2 else ((spec_l2Fault.l0 x0 k 0).bind fun o1934 => thn o1934 (fun r => some r) (fun _ => ((spec_l1In.f k x0.fNeed 1 (x0.fKeys.length : Int)).bind fun t1964 => ((bif (!(!t1964)) then spec_l2Height.f k x0.fAfter else some default).bind fun t1966 => (bif ((!t1964) || (!t1966)) then some 3 else ((spec_l2Fault.l1 x0 k 1).bind fun o1993 => thn o1993 (fun r => some r) (fun _ => some 0)))))))))
theorem spec_l2Fault.calls {k : Nat} {x0 : Rule} {b0 f0 : Nat} {p0_0 : Value} {w : World} (hc0 : CellsAt w b0 f0 [p0_0, .int .i64 x0.fNeed, .int .i64 x0.fAfter]) (hp0_0 : RdS kInt w p0_0 x0.fKeys) {r : Int} (H : spec_l2Fault.f k x0 = some r) :
  Calls Tryz.prog 85 ([.pointer (some ⟨b0, f0, none⟩)] : List Value).toArray w (fun e w_ => ∃ v, e = .returned v ∧ v = (.int .i64 r) ∧ Mem w [] w_ []) := by
 have HM := Mem.start w
 refine calls_run (N := 72) Tryz.func85 rfl rfl rfl rfl ?_
 unfold spec_l2Fault.f at H
 refine run_seq ?_
 refine run_region rfl ?_
 refine ox rfl rfl rfl rfl (ex_assign rfl rfl) ?_
 refine ops_nil (at_then (run_seq ?_))
 refine run_region rfl ?_
 refine ox rfl rfl rfl rfl (ex_move rfl rfl) ?_
 refine ox rfl rfl rfl rfl (ex_nilCheck rfl rfl) ?_
 refine ox rfl rfl rfl rfl (ex_fieldAddr (off' := f0) rfl rfl Tryz.underlying82 rfl tsz58 rfl) ?_
 refine ox rfl rfl rfl rfl (ex_load1 rfl rfl Tryz.underlying58 rfl ((HM.at_ hc0) 0 _ rfl)) ?_
 refine ox rfl rfl rfl rfl (ex_len (d := kInt) (xs := x0.fKeys) rfl rfl Tryz.underlying58 hp0_0) ?_
 refine ox rfl rfl rfl rfl (ex_assign rfl rfl) ?_
 refine ops_nil (at_then (run_seq ?_))
 refine run_seq ?_
 obtain ⟨t1911, h1912, H⟩ := bind_some H
 refine run_region rfl ?_
 refine ox rfl rfl rfl rfl (ex_move rfl rfl) ?_
 refine od rfl rfl rfl rfl (does_callk rfl callok45 rfl (spec_l1In.calls (x0 := (x0.fKeys.length : Int)) (x1 := 1) (x2 := 3) h1912)) ?_
 rintro _ w1913 ⟨rfl, hn⟩
 replace HM : Mem w [] w1913 [] := HM.call hn
 refine ox rfl rfl rfl rfl (ex_not rfl rfl) ?_
 refine ops_nil (at_then ?_)
 refine run_cond (b := !t1911) rfl (fun hb1914 => ?_) (fun hb1914 => ?_)
 ·replace H := cond_t hb1914 H
  refine run_seq ?_
  refine run_region rfl ?_
  refine ox rfl rfl rfl rfl (ex_assign rfl rfl) ?_
  refine ops_nil (at_then ?_)
  refine run_ret ?_
  refine at_then_ret ?_
  have hR := Option.some.inj H
  subst hR
  exact at_ret1 rfl rfl ⟨_, rfl, rfl, HM⟩
 ·replace H := cond_f hb1914 H
  refine run_skip ?_
  refine at_then ?_
  obtain ⟨o1934, ho1935, H⟩ := bind_some H
  refine run_mid (fun ρ_ w_ => Sum.inr () = o1934 ∧ ρ_ = [(0, .pointer (some ⟨b0, f0, none⟩)), (3, .int .i64 (x0.fKeys.length : Int))] ∧ Mem w [] w_ []) ?_ ?_
  ·skip
   refine run_seq ?_
   refine run_region rfl ?_
   refine ox rfl rfl rfl rfl (ex_assign rfl rfl) ?_
   refine ops_nil (at_then ?_)
   refine run_block ?_
   refine run_loop (fun k_ ρ_ w_ => ∃ a1942 : Int, spec_l2Fault.l0 x0 k_ a1942 = some o1934 ∧ ρ_ = [(0, .pointer (some ⟨b0, f0, none⟩)), (3, .int .i64 (x0.fKeys.length : Int)), (4, .int .i64 a1942)] ∧ Mem w [] w_ []) k (ρ1 := [(0, .pointer (some ⟨b0, f0, none⟩)), (3, .int .i64 (x0.fKeys.length : Int)), (4, .int .i64 0)]) ⟨_, ho1935, rfl, HM⟩ (Sub.cons rfl (Sub.cons rfl (Sub.cons rfl Sub.nil))) ?_
   clear HM ho1935
   rintro k1949 _ w1950 ⟨a1942, ho1935, rfl, HM⟩
   obtain _ | k1949 := k1949
   ·exact nomatch ((spec_l2Fault.l0_z x0 a1942).symm.trans ho1935)
   replace ho1935 := (spec_l2Fault.l0_s x0 k1949 a1942).symm.trans ho1935
   refine run_seq ?_
   refine run_seq ?_
   refine run_region rfl ?_
   refine ox rfl rfl rfl rfl (ex_move rfl rfl) ?_
   refine ox rfl rfl rfl rfl (ex_move rfl rfl) ?_
   refine ox rfl rfl rfl rfl (ex_nilCheck rfl rfl) ?_
   refine ox rfl rfl rfl rfl (ex_fieldAddr (off' := f0) rfl rfl Tryz.underlying82 rfl tsz58 rfl) ?_
   refine ox rfl rfl rfl rfl (ex_load1 rfl rfl Tryz.underlying58 rfl ((HM.at_ hc0) 0 _ rfl)) ?_
   refine ox rfl rfl rfl rfl (ex_len (d := kInt) (xs := x0.fKeys) rfl rfl Tryz.underlying58 hp0_0) ?_
   refine ox rfl rfl rfl rfl (ex_lss rfl rfl rfl) ?_
   refine ops_nil (at_then ?_)
   refine run_cond (b := (decide (a1942 < (x0.fKeys.length : Int)))) rfl (fun hb1951 => ?_) (fun hb1951 => ?_)
   ·replace ho1935 := cond_t hb1951 ho1935
    refine run_skip ?_
    refine at_then ?_
    refine run_seq ?_
    refine run_block ?_
    refine run_seq ?_
    obtain ⟨e1952, ho1935⟩ := chk_some ho1935
    obtain ⟨t1954, h1955, ho1935⟩ := bind_some ho1935
    refine run_region rfl ?_
    refine ox rfl rfl rfl rfl (ex_move rfl rfl) ?_
    refine ox rfl rfl rfl rfl (ex_nilCheck rfl rfl) ?_
    refine ox rfl rfl rfl rfl (ex_fieldAddr (off' := f0) rfl rfl Tryz.underlying82 rfl tsz58 rfl) ?_
    refine ox rfl rfl rfl rfl (ex_load1 rfl rfl Tryz.underlying58 rfl ((HM.at_ hc0) 0 _ rfl)) ?_
    refine ox rfl rfl rfl rfl (ex_move rfl rfl) ?_
    have hc1953 : CellsAt _ (sb p0_0) (so p0_0 + (a1942).toNat * 1) [(.int .i64 (gt x0.fKeys a1942))] := rd_plain hp0_0 e1952
    refine ox rfl rfl rfl rfl (ex_indexAddr (d := kInt) rfl rfl rfl Tryz.underlying58 tsz2 hp0_0 (idx_lo e1952) (idx_hi e1952)) ?_
    refine ox rfl rfl rfl rfl (ex_load1 rfl rfl Tryz.underlying2 rfl ((HM.at_ hc1953) 0 _ rfl)) ?_
    refine od rfl rfl rfl rfl (does_callk rfl callok44 rfl (spec_l1Key.calls (x0 := (gt x0.fKeys a1942)) h1955)) ?_
    rintro _ w1956 ⟨rfl, hn⟩
    replace HM : Mem w [] w1956 [] := HM.call hn
    refine ox rfl rfl rfl rfl (ex_not rfl rfl) ?_
    refine ops_nil (at_then ?_)
    refine run_cond (b := !t1954) rfl (fun hb1957 => ?_) (fun hb1957 => ?_)
    ·replace ho1935 := cond_t hb1957 ho1935
     refine run_seq ?_
     refine run_region rfl ?_
     refine ox rfl rfl rfl rfl (ex_assign rfl rfl) ?_
     refine ops_nil (at_then ?_)
     refine run_ret ?_
     refine at_block_ret ?_
     refine at_then_ret ?_
     refine at_then_ret ?_
     refine at_block_ret ?_
     refine at_then_ret ?_
     have hR := Option.some.inj ho1935
     subst hR
     have hT := thn_inl H
     have hR := Option.some.inj hT
     subst hR
     exact at_ret1 rfl rfl ⟨_, rfl, rfl, HM⟩
    ·replace ho1935 := cond_f hb1957 ho1935
     refine run_skip ?_
     refine at_block ?_
     refine at_then ?_
     refine run_region rfl ?_
     refine ox rfl rfl rfl rfl (ex_move rfl rfl) ?_
     refine ox rfl rfl rfl rfl (ex_add rfl rfl rfl) ?_
     refine ox rfl rfl rfl rfl (ex_assign rfl rfl) ?_
     refine ops_nil ?_
     exact at_again k1949 (ρ1 := [(0, .pointer (some ⟨b0, f0, none⟩)), (3, .int .i64 (x0.fKeys.length : Int)), (4, .int .i64 (wrap64 (a1942 + 1)))]) (Nat.lt_succ_self _) ⟨_, ho1935, rfl, HM⟩ (Sub.cons rfl (Sub.cons rfl (Sub.cons rfl Sub.nil)))
   ·replace ho1935 := cond_f hb1951 ho1935
    refine run_exit ?_
    refine at_then_exit ?_
    refine at_then_exit ?_
    refine at_block_exit ?_
    exact at_mid (ρ' := [(0, .pointer (some ⟨b0, f0, none⟩)), (3, .int .i64 (x0.fKeys.length : Int))]) ⟨(Option.some.inj ho1935), rfl, HM⟩ (Sub.cons rfl (Sub.cons rfl Sub.nil))
  ·rintro _ w1958 ⟨rfl, rfl, HM⟩
   replace H := (thn_inr H)
   refine run_seq ?_
   refine run_seq ?_
   obtain ⟨t1964, h1965, H⟩ := bind_some H
   obtain ⟨t1966, h1967, H⟩ := bind_some H
   refine run_meet (fun ρ_ w_ => ρ_ = [(0, .pointer (some ⟨b0, f0, none⟩)), (46, .bool ((!t1964) || (!t1966)))] ∧ Mem w [] w_ []) ?_ ?_
   ·skip
    refine run_region rfl ?_
    refine ox rfl rfl rfl rfl (ex_move rfl rfl) ?_
    refine ox rfl rfl rfl rfl (ex_nilCheck rfl rfl) ?_
    refine ox rfl rfl rfl rfl (ex_fieldAddr (off' := f0 + 1) rfl rfl Tryz.underlying82 rfl tsz2 rfl) ?_
    refine ox rfl rfl rfl rfl (ex_load1 rfl rfl Tryz.underlying2 rfl ((HM.at_ hc0) 1 _ rfl)) ?_
    refine ox rfl rfl rfl rfl (ex_move rfl rfl) ?_
    refine od rfl rfl rfl rfl (does_callk rfl callok45 rfl (spec_l1In.calls (x0 := x0.fNeed) (x1 := 1) (x2 := (x0.fKeys.length : Int)) h1965)) ?_
    rintro _ w1968 ⟨rfl, hn⟩
    replace HM : Mem w [] w1968 [] := HM.call hn
    refine ox rfl rfl rfl rfl (ex_not rfl rfl) ?_
    refine ox rfl rfl rfl rfl (ex_move rfl rfl) ?_
    refine bool_cases (!t1964) (fun hg1969 => ?_) (fun hg1969 => ?_)
    ·skip
     refine ops_off rfl (guard_off rfl rfl rfl hg1969) rfl rfl ?_
     refine ops_off rfl (guard_off rfl rfl rfl hg1969) rfl rfl ?_
     refine ops_off rfl (guard_off rfl rfl rfl hg1969) rfl rfl ?_
     refine ops_off rfl (guard_off rfl rfl rfl hg1969) rfl rfl ?_
     refine ops_off rfl (guard_off rfl rfl rfl hg1969) rfl rfl ?_
     refine ops_off rfl (guard_off rfl rfl rfl hg1969) rfl rfl ?_
     have hg1970 : ((!t1964) || (!t1966)) = true := by simp only [hg1969, Bool.and_true, Bool.true_and, Bool.and_false, Bool.false_and, Bool.or_true, Bool.true_or, Bool.or_false, Bool.false_or, Bool.not_true, Bool.not_false, Bool.not_not]
     refine ops_ex (v := .bool ((!t1964) || (!t1966))) rfl (guard_none rfl) rfl rfl (ex_por_t rfl rfl hg1969) ?_
     refine ops_nil ?_
     exact at_meet [(0, .pointer (some ⟨b0, f0, none⟩)), (46, .bool ((!t1964) || (!t1966)))] ⟨rfl, HM⟩ (Sub.cons rfl (Sub.cons rfl Sub.nil))
    ·skip
     refine ops_ex rfl (guard_on rfl rfl rfl hg1969) rfl rfl (ex_move rfl rfl) ?_
     refine ops_ex rfl (guard_on rfl rfl rfl hg1969) rfl rfl (ex_nilCheck rfl rfl) ?_
     refine ops_ex rfl (guard_on rfl rfl rfl hg1969) rfl rfl (ex_fieldAddr (off' := f0 + 2) rfl rfl Tryz.underlying82 rfl tsz2 rfl) ?_
     refine ops_ex rfl (guard_on rfl rfl rfl hg1969) rfl rfl (ex_load1 rfl rfl Tryz.underlying2 rfl ((HM.at_ hc0) 2 _ rfl)) ?_
     refine ops_does rfl (guard_on rfl rfl rfl hg1969) rfl rfl (does_callk rfl callok24 rfl (spec_l2Height.calls (x0 := x0.fAfter) (cond_t (not_mk hg1969) h1967))) ?_
     rintro _ w1971 ⟨rfl, hn⟩
     replace HM : Mem w [] w1971 [] := HM.call hn
     refine ops_ex rfl (guard_on rfl rfl rfl hg1969) rfl rfl (ex_not rfl rfl) ?_
     refine ops_ex (v := .bool ((!t1964) || (!t1966))) rfl (guard_none rfl) rfl rfl (ex_por_f rfl rfl hg1969 rfl) ?_
     refine ops_nil ?_
     exact at_meet [(0, .pointer (some ⟨b0, f0, none⟩)), (46, .bool ((!t1964) || (!t1966)))] ⟨rfl, HM⟩ (Sub.cons rfl (Sub.cons rfl Sub.nil))
   ·rintro _ w1972 ⟨rfl, HM⟩
    refine at_then ?_
    refine run_cond (b := ((!t1964) || (!t1966))) rfl (fun hb1973 => ?_) (fun hb1973 => ?_)
    ·replace H := cond_t hb1973 H
     refine run_seq ?_
     refine run_region rfl ?_
     refine ox rfl rfl rfl rfl (ex_assign rfl rfl) ?_
     refine ops_nil (at_then ?_)
     refine run_ret ?_
     refine at_then_ret ?_
     have hR := Option.some.inj H
     subst hR
     exact at_ret1 rfl rfl ⟨_, rfl, rfl, HM⟩
    ·replace H := cond_f hb1973 H
     refine run_skip ?_
     refine at_then ?_
     obtain ⟨o1993, ho1994, H⟩ := bind_some H
     refine run_mid (fun ρ_ w_ => Sum.inr () = o1993 ∧ ρ_ = [] ∧ Mem w [] w_ []) ?_ ?_
     ·skip
      refine run_seq ?_
      refine run_region rfl ?_
      refine ox rfl rfl rfl rfl (ex_assign rfl rfl) ?_
      refine ops_nil (at_then ?_)
      refine run_block ?_
      refine run_loop (fun k_ ρ_ w_ => ∃ a2001 : Int, spec_l2Fault.l1 x0 k_ a2001 = some o1993 ∧ ρ_ = [(0, .pointer (some ⟨b0, f0, none⟩)), (5, .int .i64 a2001)] ∧ Mem w [] w_ []) k (ρ1 := [(0, .pointer (some ⟨b0, f0, none⟩)), (5, .int .i64 1)]) ⟨_, ho1994, rfl, HM⟩ (Sub.cons rfl (Sub.cons rfl Sub.nil)) ?_
      clear HM ho1994
      rintro k2008 _ w2009 ⟨a2001, ho1994, rfl, HM⟩
      obtain _ | k2008 := k2008
      ·exact nomatch ((spec_l2Fault.l1_z x0 a2001).symm.trans ho1994)
      replace ho1994 := (spec_l2Fault.l1_s x0 k2008 a2001).symm.trans ho1994
      refine run_seq ?_
      refine run_seq ?_
      refine run_region rfl ?_
      refine ox rfl rfl rfl rfl (ex_move rfl rfl) ?_
      refine ox rfl rfl rfl rfl (ex_move rfl rfl) ?_
      refine ox rfl rfl rfl rfl (ex_nilCheck rfl rfl) ?_
      refine ox rfl rfl rfl rfl (ex_fieldAddr (off' := f0) rfl rfl Tryz.underlying82 rfl tsz58 rfl) ?_
      refine ox rfl rfl rfl rfl (ex_load1 rfl rfl Tryz.underlying58 rfl ((HM.at_ hc0) 0 _ rfl)) ?_
      refine ox rfl rfl rfl rfl (ex_len (d := kInt) (xs := x0.fKeys) rfl rfl Tryz.underlying58 hp0_0) ?_
      refine ox rfl rfl rfl rfl (ex_lss rfl rfl rfl) ?_
      refine ops_nil (at_then ?_)
      refine run_cond (b := (decide (a2001 < (x0.fKeys.length : Int)))) rfl (fun hb2010 => ?_) (fun hb2010 => ?_)
      ·replace ho1994 := cond_t hb2010 ho1994
       refine run_skip ?_
       refine at_then ?_
       refine run_seq ?_
       refine run_block ?_
       refine run_seq ?_
       obtain ⟨e2011, ho1994⟩ := chk_some ho1994
       obtain ⟨e2013, ho1994⟩ := chk_some ho1994
       refine run_drawf (fun w_ => Mem w [] w_ []) [(0, true), (1, true), (2, true), (3, true), (4, true), (5, true), (6, true), (7, true), (8, true), (9, true), (10, true), (11, true), (12, true), (13, true), (14, true), (15, true)] mixed rfl rfl (by kernel_rfl) ?_
       replace HM := HM.grow (fr_drew _)
       have hS := Mem.suf (M := []) HM
       refine dp rfl rfl rfl rfl (ex_move rfl rfl) hS ?_
       refine dp rfl rfl rfl rfl (ex_nilCheck rfl rfl) hS ?_
       refine dp rfl rfl rfl rfl (ex_fieldAddr (off' := f0) rfl rfl Tryz.underlying82 rfl tsz58 rfl) hS ?_
       refine drwp_take rfl (guard_none rfl) rfl rfl (fun w_ hS_ => (ex_load1 rfl rfl Tryz.underlying58 rfl ((hS_.at_ hc0) 0 _ rfl))) hS ?_
       refine dp rfl rfl rfl rfl (ex_move rfl rfl) hS ?_
       have hc2012 : CellsAt _ (sb p0_0) (so p0_0 + (a2001).toNat * 1) [(.int .i64 (gt x0.fKeys a2001))] := rd_plain hp0_0 e2011
       refine dp rfl rfl rfl rfl (ex_indexAddr (d := kInt) rfl rfl rfl Tryz.underlying58 tsz2 hp0_0 (idx_lo e2011) (idx_hi e2011)) hS ?_
       refine drwp_take rfl (guard_none rfl) rfl rfl (fun w_ hS_ => (ex_load1 rfl rfl Tryz.underlying2 rfl ((hS_.at_ hc2012) 0 _ rfl))) hS ?_
       refine dp rfl rfl rfl rfl (ex_move rfl rfl) hS ?_
       refine dp rfl rfl rfl rfl (ex_nilCheck rfl rfl) hS ?_
       refine dp rfl rfl rfl rfl (ex_fieldAddr (off' := f0) rfl rfl Tryz.underlying82 rfl tsz58 rfl) hS ?_
       refine drwp_take rfl (guard_none rfl) rfl rfl (fun w_ hS_ => (ex_load1 rfl rfl Tryz.underlying58 rfl ((hS_.at_ hc0) 0 _ rfl))) hS ?_
       refine dp rfl rfl rfl rfl (ex_move rfl rfl) hS ?_
       refine dp rfl rfl rfl rfl (ex_sub rfl rfl rfl) hS ?_
       have hc2014 : CellsAt _ (sb p0_0) (so p0_0 + (wrap64 (a2001 - 1)).toNat * 1) [(.int .i64 (gt x0.fKeys (wrap64 (a2001 - 1))))] := rd_plain hp0_0 e2013
       refine dp rfl rfl rfl rfl (ex_indexAddr (d := kInt) rfl rfl rfl Tryz.underlying58 tsz2 hp0_0 (idx_lo e2013) (idx_hi e2013)) hS ?_
       refine drwp_take rfl (guard_none rfl) rfl rfl (fun w_ hS_ => (ex_load1 rfl rfl Tryz.underlying2 rfl ((hS_.at_ hc2014) 0 _ rfl))) hS ?_
       refine dp rfl rfl rfl rfl (ex_leq rfl rfl rfl) hS ?_
       refine drwp_done ?_
       refine at_then ?_
       refine run_cond (b := (decide ((gt x0.fKeys a2001) ≤ (gt x0.fKeys (wrap64 (a2001 - 1)))))) rfl (fun hb2015 => ?_) (fun hb2015 => ?_)
       ·replace ho1994 := cond_t hb2015 ho1994
        refine run_seq ?_
        refine run_region rfl ?_
        refine ox rfl rfl rfl rfl (ex_assign rfl rfl) ?_
        refine ops_nil (at_then ?_)
        refine run_ret ?_
        refine at_block_ret ?_
        refine at_then_ret ?_
        refine at_then_ret ?_
        refine at_block_ret ?_
        refine at_then_ret ?_
        have hR := Option.some.inj ho1994
        subst hR
        have hT := thn_inl H
        have hR := Option.some.inj hT
        subst hR
        exact at_ret1 rfl rfl ⟨_, rfl, rfl, HM⟩
       ·replace ho1994 := cond_f hb2015 ho1994
        refine run_skip ?_
        refine at_block ?_
        refine at_then ?_
        refine run_region rfl ?_
        refine ox rfl rfl rfl rfl (ex_move rfl rfl) ?_
        refine ox rfl rfl rfl rfl (ex_add rfl rfl rfl) ?_
        refine ox rfl rfl rfl rfl (ex_assign rfl rfl) ?_
        refine ops_nil ?_
        exact at_again k2008 (ρ1 := [(0, .pointer (some ⟨b0, f0, none⟩)), (5, .int .i64 (wrap64 (a2001 + 1)))]) (Nat.lt_succ_self _) ⟨_, ho1994, rfl, HM⟩ (Sub.cons rfl (Sub.cons rfl Sub.nil))
      ·replace ho1994 := cond_f hb2010 ho1994
       refine run_exit ?_
       refine at_then_exit ?_
       refine at_then_exit ?_
       refine at_block_exit ?_
       exact at_mid (ρ' := []) ⟨(Option.some.inj ho1994), rfl, HM⟩ Sub.nil
     ·rintro _ w2016 ⟨rfl, rfl, HM⟩
      replace H := (thn_inr H)
      refine run_seq ?_
      refine run_region rfl ?_
      refine ox rfl rfl rfl rfl (ex_assign rfl rfl) ?_
      refine ops_nil (at_then ?_)
      refine run_ret ?_
      have hR := Option.some.inj H
      subst hR
      exact at_ret1 rfl rfl ⟨_, rfl, rfl, HM⟩
end Go.Proofs.YtpfaihnmonfkhaaGreatDoor.Zk
