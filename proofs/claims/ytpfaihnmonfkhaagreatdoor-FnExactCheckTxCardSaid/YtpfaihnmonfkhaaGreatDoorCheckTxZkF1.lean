/- What functions of the program compute, each as a plain function, and that they do. Conditions: as each theorem states them. -/
import Derived.Test.YtpfaihnmonfkhaaGreatDoorCheckTxZkF0
namespace Go.Proofs.YtpfaihnmonfkhaaGreatDoor.Zk
open Go Go.RowKit Go.IntWalk Go.Proofs
set_option linter.unusedVariables false
set_option linter.unusedSimpArgs false
set_option maxRecDepth 100000
set_option maxHeartbeats 4000000
def laws_toLedger.f (k : Nat) (x0 : Ledger) : Option Ledger := ((laws_toStringS.f k x0.fTexts).bind fun t570 => ((laws_toSignS.f k x0.fSigns).bind fun t576 => some (⟨t570, t576⟩ : Ledger)))
theorem laws_toLedger.calls {k : Nat} {x0 : Ledger} {p0_0 : Value} {p0_1 : Value} {w : World} (hp0_0 : RdS kStr w p0_0 x0.fTexts) (hp0_1 : RdS kSign w p0_1 x0.fSigns) {r : Ledger} (H : laws_toLedger.f k x0 = some r) :
  Calls Tryz.prog 8 ([.agg #[p0_0, p0_1]] : List Value).toArray w (fun e w_ => ∃ v, e = .returned v ∧ ∃ u0 : Value, ∃ u1 : Value, v = (.agg #[u0, u1]) ∧ Mem w [] w_ [own kStr 9 u0 r.fTexts, own kSign 100 u1 r.fSigns]) := by
 have HM := Mem.start w
 refine calls_run (N := 13) Tryz.func8 rfl rfl rfl rfl ?_
 unfold laws_toLedger.f at H
 refine run_seq ?_
 refine run_region rfl ?_
 refine od rfl rfl rfl rfl (does_box (cs := [p0_0, p0_1]) rfl rfl rfl HM) ?_
 rintro _ w564 ⟨b558, rfl, HM⟩
 refine od rfl rfl rfl rfl (does_alloc (cs := [.slice none 0 0, .slice none 0 0]) rfl tz39 rfl HM) ?_
 rintro _ w565 ⟨b561, rfl, HM⟩
 refine ops_nil (at_then (run_seq ?_))
 refine run_region rfl ?_
 refine od rfl rfl rfl rfl (does_alloc (cs := [.slice none 0 0, .slice none 0 0]) rfl tz39 rfl HM) ?_
 rintro _ w569 ⟨b566, rfl, HM⟩
 refine ops_nil (at_then (run_seq ?_))
 obtain ⟨t570, h571, H⟩ := bind_some H
 refine run_region rfl ?_
 refine ox rfl rfl rfl rfl (ex_fieldAddr (off' := 0) rfl rfl Tryz.underlying25 rfl tsz22 rfl) ?_
 refine ox rfl rfl rfl rfl (ex_load1 rfl rfl Tryz.underlying22 rfl ((HM.box_at 2 rfl) 0 _ rfl)) ?_
 refine od rfl rfl rfl rfl (does_callk rfl callok28 rfl (laws_toStringS.calls (x0 := x0.fTexts) (HM.rd hp0_0) h571)) ?_
 rintro u572 w574 ⟨_, rfl, hn⟩
 replace HM : Mem w [] w574 [own kStr 9 u572 t570, box b566 39 [.slice none 0 0, .slice none 0 0], box b561 39 [.slice none 0 0, .slice none 0 0], box b558 25 [p0_0, p0_1]] := HM.call hn
 refine ox rfl rfl rfl rfl (ex_fieldAddr (off' := 0) rfl rfl Tryz.underlying39 rfl tsz22 rfl) ?_
 replace HM := HM.front 1 rfl rfl
 refine odS rfl rfl rfl (does_store (vs := [u572]) (cs' := [u572, .slice none 0 0]) rfl rfl rfl (rd_cells (HM.own_rd 1 rfl)) tsz22 (Ones.rd (HM.own_rd 1 rfl) Ones.nil) rfl rfl HM) ?_
 rintro w575 HM
 refine ops_nil (at_then (run_seq ?_))
 obtain ⟨t576, h577, H⟩ := bind_some H
 refine run_region rfl ?_
 refine ox rfl rfl rfl rfl (ex_fieldAddr (off' := 1) rfl rfl Tryz.underlying25 rfl tsz23 rfl) ?_
 refine ox rfl rfl rfl rfl (ex_load1 rfl rfl Tryz.underlying23 rfl ((HM.box_at 3 rfl) 1 _ rfl)) ?_
 refine od rfl rfl rfl rfl (does_callk rfl callok29 rfl (laws_toSignS.calls (x0 := x0.fSigns) (HM.rd hp0_1) h577)) ?_
 rintro u578 w580 ⟨_, rfl, hn⟩
 replace HM : Mem w [] w580 [own kSign 100 u578 t576, box b566 39 [u572, .slice none 0 0], own kStr 9 u572 t570, box b561 39 [.slice none 0 0, .slice none 0 0], box b558 25 [p0_0, p0_1]] := HM.call hn
 refine ox rfl rfl rfl rfl (ex_fieldAddr (off' := 1) rfl rfl Tryz.underlying39 rfl tsz37 rfl) ?_
 replace HM := HM.front 1 rfl rfl
 refine odS rfl rfl rfl (does_store (vs := [u578]) (cs' := [u572, u578]) rfl rfl rfl (rd_cells (HM.own_rd 1 rfl)) tsz37 (Ones.rd (HM.own_rd 1 rfl) Ones.nil) rfl rfl HM) ?_
 rintro w581 HM
 refine ops_nil (at_then (run_seq ?_))
 refine run_region rfl ?_
 refine ox rfl rfl rfl rfl (ex_loadN (cs := [u572, u578]) rfl rfl Tryz.underlying39 rfl tsz39 rfl ((HM.box_at 0 rfl).sub 0 2 rfl)) ?_
 replace HM := HM.front 3 rfl rfl
 refine odS rfl rfl rfl (does_store (vs := [u572, u578]) (cs' := [u572, u578]) rfl rfl rfl rfl tsz39 (Ones.rd (HM.own_rd 3 rfl) (Ones.rd (HM.own_rd 2 rfl) Ones.nil)) rfl rfl HM) ?_
 rintro w582 HM
 refine ops_nil (at_then ?_)
 refine run_ret ?_
 replace HM := (HM.front 1 rfl rfl).drop
 replace HM := (HM.front 3 rfl rfl).drop
 replace HM := HM.front 1 rfl rfl
 replace HM := HM.front 2 rfl rfl
 replace HM := HM.front 2 rfl rfl
 have hcb0 := HM.box_at 0 rfl
 replace HM := (HM.front 0 rfl rfl).drop
 have hR := Option.some.inj H
 subst hR
 exact at_retN rfl rfl Tryz.underlying39 rfl tsz39 rfl hcb0 ⟨_, rfl, _, _, rfl, HM⟩

def laws_toRef.f (k : Nat) (x0 : Ref) : Option Ref := some x0
theorem laws_toRef.calls {k : Nat} {x0 : Ref}  {w : World}  {r : Ref} (H : laws_toRef.f k x0 = some r) :
  Calls Tryz.prog 60 ([.agg #[(.int .i64 x0.fTx), (.int .i64 x0.fAt)]] : List Value).toArray w (fun e w_ => ∃ v, e = .returned v ∧ v = (.agg #[.int .i64 r.fTx, .int .i64 r.fAt]) ∧ Mem w [] w_ []) := by
 have HM := Mem.start w
 refine calls_run (N := 11) Tryz.func60 rfl rfl rfl rfl ?_
 unfold laws_toRef.f at H
 refine run_seq ?_
 refine run_region rfl ?_
 refine od rfl rfl rfl rfl (does_box (cs := [.int .i64 x0.fTx, .int .i64 x0.fAt]) rfl rfl rfl HM) ?_
 rintro _ w623 ⟨b617, rfl, HM⟩
 refine od rfl rfl rfl rfl (does_alloc (cs := [.int .i64 0, .int .i64 0]) rfl tz81 rfl HM) ?_
 rintro _ w624 ⟨b620, rfl, HM⟩
 refine ops_nil (at_then (run_seq ?_))
 refine run_region rfl ?_
 refine od rfl rfl rfl rfl (does_alloc (cs := [.int .i64 0, .int .i64 0]) rfl tz81 rfl HM) ?_
 rintro _ w628 ⟨b625, rfl, HM⟩
 refine ops_nil (at_then (run_seq ?_))
 refine run_region rfl ?_
 refine ox rfl rfl rfl rfl (ex_fieldAddr (off' := 0) rfl rfl Tryz.underlying57 rfl tsz2 rfl) ?_
 refine ox rfl rfl rfl rfl (ex_load1 rfl rfl Tryz.underlying2 rfl ((HM.box_at 2 rfl) 0 _ rfl)) ?_
 refine ox rfl rfl rfl rfl (ex_fieldAddr (off' := 0) rfl rfl Tryz.underlying81 rfl tsz2 rfl) ?_
 refine odS rfl rfl rfl (does_store (vs := [.int .i64 x0.fTx]) (cs' := [.int .i64 x0.fTx, .int .i64 0]) rfl rfl rfl rfl tsz2 (Ones.int Ones.nil) rfl rfl HM) ?_
 rintro w629 HM
 refine ops_nil (at_then (run_seq ?_))
 refine run_region rfl ?_
 refine ox rfl rfl rfl rfl (ex_fieldAddr (off' := 1) rfl rfl Tryz.underlying57 rfl tsz2 rfl) ?_
 refine ox rfl rfl rfl rfl (ex_load1 rfl rfl Tryz.underlying2 rfl ((HM.box_at 2 rfl) 1 _ rfl)) ?_
 refine ox rfl rfl rfl rfl (ex_fieldAddr (off' := 1) rfl rfl Tryz.underlying81 rfl tsz2 rfl) ?_
 refine odS rfl rfl rfl (does_store (vs := [.int .i64 x0.fAt]) (cs' := [.int .i64 x0.fTx, .int .i64 x0.fAt]) rfl rfl rfl rfl tsz2 (Ones.int Ones.nil) rfl rfl HM) ?_
 rintro w630 HM
 refine ops_nil (at_then (run_seq ?_))
 refine run_region rfl ?_
 refine ox rfl rfl rfl rfl (ex_loadN (cs := [(.int .i64 x0.fTx), (.int .i64 x0.fAt)]) rfl rfl Tryz.underlying81 rfl tsz81 rfl ((HM.box_at 0 rfl).sub 0 2 rfl)) ?_
 replace HM := HM.front 1 rfl rfl
 refine odS rfl rfl rfl (does_store (vs := [.int .i64 x0.fTx, .int .i64 x0.fAt]) (cs' := [.int .i64 x0.fTx, .int .i64 x0.fAt]) rfl rfl rfl rfl tsz81 (Ones.int (Ones.int Ones.nil)) rfl rfl HM) ?_
 rintro w631 HM
 refine ops_nil (at_then ?_)
 refine run_ret ?_
 replace HM := (HM.front 1 rfl rfl).drop
 replace HM := (HM.front 1 rfl rfl).drop
 have hcb0 := HM.box_at 0 rfl
 replace HM := (HM.front 0 rfl rfl).drop
 have hR := Option.some.inj H
 subst hR
 exact at_retN rfl rfl Tryz.underlying81 rfl tsz81 rfl hcb0 ⟨_, rfl, rfl, HM⟩

def laws_toInt64S.l0 (x0 : List Int) : Nat → (List Int) → Int → Option ((List Int))
 | 0, _, _ => none
 | k + 1, a710, a712 => (bif (decide (a712 < (x0.length : Int))) then (chk (idxOk a712 x0.length) (chk (idxOk a712 a710.length) (laws_toInt64S.l0 x0 k (a710.set (a712).toNat (gt x0 a712)) (wrap64 (a712 + 1))))) else some a710)
theorem laws_toInt64S.l0_z (x0 : List Int) (a710 : List Int) (a712 : Int) : laws_toInt64S.l0 x0 0 a710 a712 = none := rfl
theorem laws_toInt64S.l0_s (x0 : List Int) (k : Nat) (a710 : List Int) (a712 : Int) : laws_toInt64S.l0 x0 (k + 1) a710 a712 = (bif (decide (a712 < (x0.length : Int))) then (chk (idxOk a712 x0.length) (chk (idxOk a712 a710.length) (laws_toInt64S.l0 x0 k (a710.set (a712).toNat (gt x0 a712)) (wrap64 (a712 + 1))))) else some a710) := rfl
def laws_toInt64S.f (k : Nat) (x0 : List Int) : Option ((List Int)) := (chk (decide (0 ≤ (x0.length : Int))) (chk (leB (((x0.length : Int)).toNat * 8) 281474976710656) ((laws_toInt64S.l0 x0 k (List.replicate ((x0.length : Int)).toNat 0) 0).bind (fun a701 => some a701))))
theorem laws_toInt64S.calls {k : Nat} {x0 : List Int} {p0 : Value} {w : World} (hp0 : RdS kInt w p0 x0) {r : (List Int)} (H : laws_toInt64S.f k x0 = some r) :
  Calls Tryz.prog 109 ([p0] : List Value).toArray w (fun e w_ => ∃ v, e = .returned v ∧ ∃ u0 : Value, v = u0 ∧ Mem w [] w_ [own kInt 2 u0 r]) := by
 have HM := Mem.start w
 refine calls_run (N := 22) Tryz.func109 rfl rfl rfl rfl ?_
 unfold laws_toInt64S.f at H
 refine run_seq ?_
 refine run_region rfl ?_
 refine ox rfl rfl rfl rfl (ex_assign rfl rfl) ?_
 refine ops_nil (at_then (run_seq ?_))
 obtain ⟨e681, H⟩ := chk_some H
 obtain ⟨e682, H⟩ := chk_some H
 refine run_region rfl ?_
 refine ox rfl rfl rfl rfl (ex_move rfl rfl) ?_
 refine ox rfl rfl rfl rfl (ex_len (d := kInt) (xs := x0) rfl rfl Tryz.underlying58 hp0) ?_
 refine od rfl rfl rfl rfl (does_make (x := 0) kInt rfl rfl rfl Tryz.underlying58 tsz2 tby2 tz2 rfl rfl (fun _ => ⟨rfl, rfl⟩) (of_decide_eq_true e681) rfl (leB_le e682) rfl HM) ?_
 rintro v678 w683 HM
 refine ox rfl rfl rfl rfl (ex_assign rfl rfl) ?_
 refine ops_nil (at_then ?_)
 obtain ⟨o703, ho704, H⟩ := bind_some H
 refine run_mid (fun ρ_ w_ => ∃ v700 : Value, ∃ a701 : List Int, a701 = o703 ∧ ρ_ = [(3, v700)] ∧ Mem w [] w_ [own kInt 2 v700 a701]) ?_ ?_
 ·clear H
  refine run_seq ?_
  refine run_region rfl ?_
  refine ox rfl rfl rfl rfl (ex_assign rfl rfl) ?_
  refine ops_nil (at_then ?_)
  refine run_block ?_
  refine run_loop (fun k_ ρ_ w_ => ∃ v709 : Value, ∃ a710 : List Int, ∃ a712 : Int, laws_toInt64S.l0 x0 k_ a710 a712 = some o703 ∧ ρ_ = [(0, p0), (3, v709), (4, .int .i64 a712)] ∧ Mem w [] w_ [own kInt 2 v709 a710]) k (ρ1 := [(0, p0), (3, v678), (4, .int .i64 0)]) ⟨_, _, _, ho704, rfl, HM⟩ (Sub.cons rfl (Sub.cons rfl (Sub.cons rfl Sub.nil))) ?_
  clear HM ho704
  rintro k717 _ w718 ⟨v709, a710, a712, ho704, rfl, HM⟩
  obtain _ | k717 := k717
  ·exact nomatch ((laws_toInt64S.l0_z x0 a710 a712).symm.trans ho704)
  replace ho704 := (laws_toInt64S.l0_s x0 k717 a710 a712).symm.trans ho704
  refine run_seq ?_
  refine run_seq ?_
  refine run_region rfl ?_
  refine ox rfl rfl rfl rfl (ex_move rfl rfl) ?_
  refine ox rfl rfl rfl rfl (ex_move rfl rfl) ?_
  refine ox rfl rfl rfl rfl (ex_len (d := kInt) (xs := x0) rfl rfl Tryz.underlying58 hp0) ?_
  refine ox rfl rfl rfl rfl (ex_lss rfl rfl rfl) ?_
  refine ops_nil (at_then ?_)
  refine run_cond (b := (decide (a712 < (x0.length : Int)))) rfl (fun hb719 => ?_) (fun hb719 => ?_)
  ·replace ho704 := cond_t hb719 ho704
   refine run_skip ?_
   refine at_then ?_
   refine run_seq ?_
   refine run_block ?_
   obtain ⟨e720, ho704⟩ := chk_some ho704
   obtain ⟨e722, ho704⟩ := chk_some ho704
   refine run_region rfl ?_
   refine ox rfl rfl rfl rfl (ex_move rfl rfl) ?_
   refine ox rfl rfl rfl rfl (ex_move rfl rfl) ?_
   refine ox rfl rfl rfl rfl (ex_move rfl rfl) ?_
   refine ox rfl rfl rfl rfl (ex_move rfl rfl) ?_
   have hc721 : CellsAt _ (sb p0) (so p0 + (a712).toNat * 1) [(.int .i64 (gt x0 a712))] := rd_plain hp0 e720
   refine ox rfl rfl rfl rfl (ex_indexAddr (d := kInt) rfl rfl rfl Tryz.underlying58 tsz2 hp0 (idx_lo e720) (idx_hi e720)) ?_
   refine ox rfl rfl rfl rfl (ex_load1 rfl rfl Tryz.underlying2 rfl ((HM.at_ hc721) 0 _ rfl)) ?_
   refine ox rfl rfl rfl rfl (ex_indexAddr (d := kInt) rfl rfl rfl Tryz.underlying58 tsz2 (HM.own_rd 0 rfl) (idx_lo e722) (idx_hi e722)) ?_
   refine odS rfl rfl rfl (does_setElem (vs := [(.int .i64 (gt x0 a712))]) (y := (gt x0 a712)) kInt rfl rfl rfl rfl rfl tsz2 rfl rfl (idx_nat e722) (fun _ _ h => ⟨rfl, h⟩) (HM.emp.front 1 rfl rfl)) ?_
   rintro w723 HM
   refine ops_nil ?_
   refine at_block ?_
   refine at_then ?_
   refine run_region rfl ?_
   refine ox rfl rfl rfl rfl (ex_move rfl rfl) ?_
   refine ox rfl rfl rfl rfl (ex_add rfl rfl rfl) ?_
   refine ox rfl rfl rfl rfl (ex_assign rfl rfl) ?_
   refine ops_nil ?_
   exact at_again k717 (ρ1 := [(0, p0), (3, v709), (4, .int .i64 (wrap64 (a712 + 1)))]) (Nat.lt_succ_self _) ⟨_, _, _, ho704, rfl, HM⟩ (Sub.cons rfl (Sub.cons rfl (Sub.cons rfl Sub.nil)))
  ·replace ho704 := cond_f hb719 ho704
   refine run_exit ?_
   refine at_then_exit ?_
   refine at_then_exit ?_
   refine at_block_exit ?_
   exact at_mid (ρ' := [(3, v709)]) ⟨_, _, (Option.some.inj ho704), rfl, HM⟩ (Sub.cons rfl Sub.nil)
 ·rintro _ w724 ⟨v700, a701, rfl, rfl, HM⟩
  refine run_seq ?_
  refine run_region rfl ?_
  refine ox rfl rfl rfl rfl (ex_move rfl rfl) ?_
  refine ox rfl rfl rfl rfl (ex_assign rfl rfl) ?_
  refine ops_nil (at_then ?_)
  refine run_ret ?_
  have hR := Option.some.inj H
  subst hR
  exact at_ret1 rfl rfl ⟨_, rfl, _, rfl, HM⟩

def laws_toRule.f (k : Nat) (x0 : Rule) : Option Rule := ((laws_toInt64S.f k x0.fKeys).bind fun t741 => some (⟨t741, x0.fNeed, x0.fAfter⟩ : Rule))
theorem laws_toRule.calls {k : Nat} {x0 : Rule} {p0_0 : Value} {w : World} (hp0_0 : RdS kInt w p0_0 x0.fKeys) {r : Rule} (H : laws_toRule.f k x0 = some r) :
  Calls Tryz.prog 90 ([.agg #[p0_0, (.int .i64 x0.fNeed), (.int .i64 x0.fAfter)]] : List Value).toArray w (fun e w_ => ∃ v, e = .returned v ∧ ∃ u0 : Value, v = (.agg #[u0, .int .i64 r.fNeed, .int .i64 r.fAfter]) ∧ Mem w [] w_ [own kInt 2 u0 r.fKeys]) := by
 have HM := Mem.start w
 refine calls_run (N := 15) Tryz.func90 rfl rfl rfl rfl ?_
 unfold laws_toRule.f at H
 refine run_seq ?_
 refine run_region rfl ?_
 refine od rfl rfl rfl rfl (does_box (cs := [p0_0, .int .i64 x0.fNeed, .int .i64 x0.fAfter]) rfl rfl rfl HM) ?_
 rintro _ w735 ⟨b729, rfl, HM⟩
 refine od rfl rfl rfl rfl (does_alloc (cs := [.slice none 0 0, .int .i64 0, .int .i64 0]) rfl tz82 rfl HM) ?_
 rintro _ w736 ⟨b732, rfl, HM⟩
 refine ops_nil (at_then (run_seq ?_))
 refine run_region rfl ?_
 refine od rfl rfl rfl rfl (does_alloc (cs := [.slice none 0 0, .int .i64 0, .int .i64 0]) rfl tz82 rfl HM) ?_
 rintro _ w740 ⟨b737, rfl, HM⟩
 refine ops_nil (at_then (run_seq ?_))
 obtain ⟨t741, h742, H⟩ := bind_some H
 refine run_region rfl ?_
 refine ox rfl rfl rfl rfl (ex_fieldAddr (off' := 0) rfl rfl Tryz.underlying60 rfl tsz58 rfl) ?_
 refine ox rfl rfl rfl rfl (ex_load1 rfl rfl Tryz.underlying58 rfl ((HM.box_at 2 rfl) 0 _ rfl)) ?_
 refine od rfl rfl rfl rfl (does_callk rfl callok109 rfl (laws_toInt64S.calls (x0 := x0.fKeys) (HM.rd hp0_0) h742)) ?_
 rintro u743 w745 ⟨_, rfl, hn⟩
 replace HM : Mem w [] w745 [own kInt 2 u743 t741, box b737 82 [.slice none 0 0, .int .i64 0, .int .i64 0], box b732 82 [.slice none 0 0, .int .i64 0, .int .i64 0], box b729 60 [p0_0, .int .i64 x0.fNeed, .int .i64 x0.fAfter]] := HM.call hn
 refine ox rfl rfl rfl rfl (ex_fieldAddr (off' := 0) rfl rfl Tryz.underlying82 rfl tsz58 rfl) ?_
 replace HM := HM.front 1 rfl rfl
 refine odS rfl rfl rfl (does_store (vs := [u743]) (cs' := [u743, .int .i64 0, .int .i64 0]) rfl rfl rfl (rd_cells (HM.own_rd 1 rfl)) tsz58 (Ones.rd (HM.own_rd 1 rfl) Ones.nil) rfl rfl HM) ?_
 rintro w746 HM
 refine ops_nil (at_then (run_seq ?_))
 refine run_region rfl ?_
 refine ox rfl rfl rfl rfl (ex_fieldAddr (off' := 1) rfl rfl Tryz.underlying60 rfl tsz2 rfl) ?_
 refine ox rfl rfl rfl rfl (ex_load1 rfl rfl Tryz.underlying2 rfl ((HM.box_at 3 rfl) 1 _ rfl)) ?_
 refine ox rfl rfl rfl rfl (ex_fieldAddr (off' := 1) rfl rfl Tryz.underlying82 rfl tsz2 rfl) ?_
 refine odS rfl rfl rfl (does_store (vs := [.int .i64 x0.fNeed]) (cs' := [u743, .int .i64 x0.fNeed, .int .i64 0]) rfl rfl rfl rfl tsz2 (Ones.int Ones.nil) rfl rfl HM) ?_
 rintro w747 HM
 refine ops_nil (at_then (run_seq ?_))
 refine run_region rfl ?_
 refine ox rfl rfl rfl rfl (ex_fieldAddr (off' := 2) rfl rfl Tryz.underlying60 rfl tsz2 rfl) ?_
 refine ox rfl rfl rfl rfl (ex_load1 rfl rfl Tryz.underlying2 rfl ((HM.box_at 3 rfl) 2 _ rfl)) ?_
 refine ox rfl rfl rfl rfl (ex_fieldAddr (off' := 2) rfl rfl Tryz.underlying82 rfl tsz2 rfl) ?_
 refine odS rfl rfl rfl (does_store (vs := [.int .i64 x0.fAfter]) (cs' := [u743, .int .i64 x0.fNeed, .int .i64 x0.fAfter]) rfl rfl rfl rfl tsz2 (Ones.int Ones.nil) rfl rfl HM) ?_
 rintro w748 HM
 refine ops_nil (at_then (run_seq ?_))
 refine run_region rfl ?_
 refine ox rfl rfl rfl rfl (ex_loadN (cs := [u743, (.int .i64 x0.fNeed), (.int .i64 x0.fAfter)]) rfl rfl Tryz.underlying82 rfl tsz82 rfl ((HM.box_at 0 rfl).sub 0 3 rfl)) ?_
 replace HM := HM.front 2 rfl rfl
 refine odS rfl rfl rfl (does_store (vs := [u743, .int .i64 x0.fNeed, .int .i64 x0.fAfter]) (cs' := [u743, .int .i64 x0.fNeed, .int .i64 x0.fAfter]) rfl rfl rfl rfl tsz82 (Ones.rd (HM.own_rd 2 rfl) (Ones.int (Ones.int Ones.nil))) rfl rfl HM) ?_
 rintro w749 HM
 refine ops_nil (at_then ?_)
 refine run_ret ?_
 replace HM := (HM.front 1 rfl rfl).drop
 replace HM := (HM.front 2 rfl rfl).drop
 have hcb0 := HM.box_at 0 rfl
 replace HM := (HM.front 0 rfl rfl).drop
 have hR := Option.some.inj H
 subst hR
 exact at_retN rfl rfl Tryz.underlying82 rfl tsz82 rfl hcb0 ⟨_, rfl, _, rfl, HM⟩

def laws_toOut.f (k : Nat) (x0 : Out) : Option Out := ((laws_toRule.f k x0.fRule).bind fun t767 => some (⟨x0.fValue, t767⟩ : Out))
theorem laws_toOut.calls {k : Nat} {x0 : Out} {p0_0 : Value} {w : World} (hp0_0 : RdS kInt w p0_0 x0.fRule.fKeys) {r : Out} (H : laws_toOut.f k x0 = some r) :
  Calls Tryz.prog 61 ([.agg #[(.int .i64 x0.fValue), p0_0, (.int .i64 x0.fRule.fNeed), (.int .i64 x0.fRule.fAfter)]] : List Value).toArray w (fun e w_ => ∃ v, e = .returned v ∧ ∃ u0 : Value, v = (.agg #[.int .i64 r.fValue, u0, .int .i64 r.fRule.fNeed, .int .i64 r.fRule.fAfter]) ∧ Mem w [] w_ [own kInt 2 u0 r.fRule.fKeys]) := by
 have HM := Mem.start w
 refine calls_run (N := 12) Tryz.func61 rfl rfl rfl rfl ?_
 unfold laws_toOut.f at H
 refine run_seq ?_
 refine run_region rfl ?_
 refine od rfl rfl rfl rfl (does_box (cs := [.int .i64 x0.fValue, p0_0, .int .i64 x0.fRule.fNeed, .int .i64 x0.fRule.fAfter]) rfl rfl rfl HM) ?_
 rintro _ w760 ⟨b754, rfl, HM⟩
 refine od rfl rfl rfl rfl (does_alloc (cs := [.int .i64 0, .slice none 0 0, .int .i64 0, .int .i64 0]) rfl tz84 rfl HM) ?_
 rintro _ w761 ⟨b757, rfl, HM⟩
 refine ops_nil (at_then (run_seq ?_))
 refine run_region rfl ?_
 refine od rfl rfl rfl rfl (does_alloc (cs := [.int .i64 0, .slice none 0 0, .int .i64 0, .int .i64 0]) rfl tz84 rfl HM) ?_
 rintro _ w765 ⟨b762, rfl, HM⟩
 refine ops_nil (at_then (run_seq ?_))
 refine run_region rfl ?_
 refine ox rfl rfl rfl rfl (ex_fieldAddr (off' := 0) rfl rfl Tryz.underlying62 rfl tsz2 rfl) ?_
 refine ox rfl rfl rfl rfl (ex_load1 rfl rfl Tryz.underlying2 rfl ((HM.box_at 2 rfl) 0 _ rfl)) ?_
 refine ox rfl rfl rfl rfl (ex_fieldAddr (off' := 0) rfl rfl Tryz.underlying84 rfl tsz2 rfl) ?_
 refine odS rfl rfl rfl (does_store (vs := [.int .i64 x0.fValue]) (cs' := [.int .i64 x0.fValue, .slice none 0 0, .int .i64 0, .int .i64 0]) rfl rfl rfl rfl tsz2 (Ones.int Ones.nil) rfl rfl HM) ?_
 rintro w766 HM
 refine ops_nil (at_then (run_seq ?_))
 obtain ⟨t767, h768, H⟩ := bind_some H
 refine run_region rfl ?_
 refine ox rfl rfl rfl rfl (ex_fieldAddr (off' := 1) rfl rfl Tryz.underlying62 rfl tsz60 rfl) ?_
 refine ox rfl rfl rfl rfl (ex_loadN (cs := [p0_0, (.int .i64 x0.fRule.fNeed), (.int .i64 x0.fRule.fAfter)]) rfl rfl Tryz.underlying60 rfl tsz60 rfl ((HM.box_at 2 rfl).sub 1 3 rfl)) ?_
 refine od rfl rfl rfl rfl (does_callk rfl callok90 rfl (laws_toRule.calls (x0 := x0.fRule) (HM.rd hp0_0) h768)) ?_
 rintro _ w771 ⟨u769, rfl, hn⟩
 replace HM : Mem w [] w771 [own kInt 2 u769 t767.fKeys, box b762 84 [.int .i64 x0.fValue, .slice none 0 0, .int .i64 0, .int .i64 0], box b757 84 [.int .i64 0, .slice none 0 0, .int .i64 0, .int .i64 0], box b754 62 [.int .i64 x0.fValue, p0_0, .int .i64 x0.fRule.fNeed, .int .i64 x0.fRule.fAfter]] := HM.call hn
 refine ox rfl rfl rfl rfl (ex_fieldAddr (off' := 1) rfl rfl Tryz.underlying84 rfl tsz82 rfl) ?_
 replace HM := HM.front 1 rfl rfl
 refine odS rfl rfl rfl (does_store (vs := [u769, .int .i64 t767.fNeed, .int .i64 t767.fAfter]) (cs' := [.int .i64 x0.fValue, u769, .int .i64 t767.fNeed, .int .i64 t767.fAfter]) rfl rfl rfl rfl tsz82 (Ones.rd (HM.own_rd 1 rfl) (Ones.int (Ones.int Ones.nil))) rfl rfl HM) ?_
 rintro w772 HM
 refine ops_nil (at_then (run_seq ?_))
 refine run_region rfl ?_
 refine ox rfl rfl rfl rfl (ex_loadN (cs := [(.int .i64 x0.fValue), u769, (.int .i64 t767.fNeed), (.int .i64 t767.fAfter)]) rfl rfl Tryz.underlying84 rfl tsz84 rfl ((HM.box_at 0 rfl).sub 0 4 rfl)) ?_
 replace HM := HM.front 2 rfl rfl
 refine odS rfl rfl rfl (does_store (vs := [.int .i64 x0.fValue, u769, .int .i64 t767.fNeed, .int .i64 t767.fAfter]) (cs' := [.int .i64 x0.fValue, u769, .int .i64 t767.fNeed, .int .i64 t767.fAfter]) rfl rfl rfl rfl tsz84 (Ones.int (Ones.rd (HM.own_rd 2 rfl) (Ones.int (Ones.int Ones.nil)))) rfl rfl HM) ?_
 rintro w773 HM
 refine ops_nil (at_then ?_)
 refine run_ret ?_
 replace HM := (HM.front 1 rfl rfl).drop
 replace HM := (HM.front 2 rfl rfl).drop
 have hcb0 := HM.box_at 0 rfl
 replace HM := (HM.front 0 rfl rfl).drop
 have hR := Option.some.inj H
 subst hR
 exact at_retN rfl rfl Tryz.underlying84 rfl tsz84 rfl hcb0 ⟨_, rfl, _, rfl, HM⟩

def laws_toCoin.f (k : Nat) (x0 : Coin) : Option Coin := ((laws_toRef.f k x0.fRef).bind fun t790 => ((laws_toOut.f k x0.fOut).bind fun t794 => some (⟨t790, t794, x0.fHeight, x0.fMined⟩ : Coin)))
theorem laws_toCoin.calls {k : Nat} {x0 : Coin} {p0_0 : Value} {w : World} (hp0_0 : RdS kInt w p0_0 x0.fOut.fRule.fKeys) {r : Coin} (H : laws_toCoin.f k x0 = some r) :
  Calls Tryz.prog 30 ([.agg #[(.int .i64 x0.fRef.fTx), (.int .i64 x0.fRef.fAt), (.int .i64 x0.fOut.fValue), p0_0, (.int .i64 x0.fOut.fRule.fNeed), (.int .i64 x0.fOut.fRule.fAfter), (.int .i64 x0.fHeight), (.bool x0.fMined)]] : List Value).toArray w (fun e w_ => ∃ v, e = .returned v ∧ ∃ u0 : Value, v = (.agg #[.int .i64 r.fRef.fTx, .int .i64 r.fRef.fAt, .int .i64 r.fOut.fValue, u0, .int .i64 r.fOut.fRule.fNeed, .int .i64 r.fOut.fRule.fAfter, .int .i64 r.fHeight, .bool r.fMined]) ∧ Mem w [] w_ [own kInt 2 u0 r.fOut.fRule.fKeys]) := by
 have HM := Mem.start w
 refine calls_run (N := 19) Tryz.func30 rfl rfl rfl rfl ?_
 unfold laws_toCoin.f at H
 refine run_seq ?_
 refine run_region rfl ?_
 refine od rfl rfl rfl rfl (does_box (cs := [.int .i64 x0.fRef.fTx, .int .i64 x0.fRef.fAt, .int .i64 x0.fOut.fValue, p0_0, .int .i64 x0.fOut.fRule.fNeed, .int .i64 x0.fOut.fRule.fAfter, .int .i64 x0.fHeight, .bool x0.fMined]) rfl rfl rfl HM) ?_
 rintro _ w784 ⟨b778, rfl, HM⟩
 refine od rfl rfl rfl rfl (does_alloc (cs := [.int .i64 0, .int .i64 0, .int .i64 0, .slice none 0 0, .int .i64 0, .int .i64 0, .int .i64 0, .bool false]) rfl tz86 rfl HM) ?_
 rintro _ w785 ⟨b781, rfl, HM⟩
 refine ops_nil (at_then (run_seq ?_))
 refine run_region rfl ?_
 refine od rfl rfl rfl rfl (does_alloc (cs := [.int .i64 0, .int .i64 0, .int .i64 0, .slice none 0 0, .int .i64 0, .int .i64 0, .int .i64 0, .bool false]) rfl tz86 rfl HM) ?_
 rintro _ w789 ⟨b786, rfl, HM⟩
 refine ops_nil (at_then (run_seq ?_))
 obtain ⟨t790, h791, H⟩ := bind_some H
 refine run_region rfl ?_
 refine ox rfl rfl rfl rfl (ex_fieldAddr (off' := 0) rfl rfl Tryz.underlying64 rfl tsz57 rfl) ?_
 refine ox rfl rfl rfl rfl (ex_loadN (cs := [(.int .i64 x0.fRef.fTx), (.int .i64 x0.fRef.fAt)]) rfl rfl Tryz.underlying57 rfl tsz57 rfl ((HM.box_at 2 rfl).sub 0 2 rfl)) ?_
 refine od rfl rfl rfl rfl (does_callk rfl callok60 rfl (laws_toRef.calls (x0 := x0.fRef) h791)) ?_
 rintro _ w792 ⟨rfl, hn⟩
 replace HM : Mem w [] w792 [box b786 86 [.int .i64 0, .int .i64 0, .int .i64 0, .slice none 0 0, .int .i64 0, .int .i64 0, .int .i64 0, .bool false], box b781 86 [.int .i64 0, .int .i64 0, .int .i64 0, .slice none 0 0, .int .i64 0, .int .i64 0, .int .i64 0, .bool false], box b778 64 [.int .i64 x0.fRef.fTx, .int .i64 x0.fRef.fAt, .int .i64 x0.fOut.fValue, p0_0, .int .i64 x0.fOut.fRule.fNeed, .int .i64 x0.fOut.fRule.fAfter, .int .i64 x0.fHeight, .bool x0.fMined]] := HM.call hn
 refine ox rfl rfl rfl rfl (ex_fieldAddr (off' := 0) rfl rfl Tryz.underlying86 rfl tsz81 rfl) ?_
 refine odS rfl rfl rfl (does_store (vs := [.int .i64 t790.fTx, .int .i64 t790.fAt]) (cs' := [.int .i64 t790.fTx, .int .i64 t790.fAt, .int .i64 0, .slice none 0 0, .int .i64 0, .int .i64 0, .int .i64 0, .bool false]) rfl rfl rfl rfl tsz81 (Ones.int (Ones.int Ones.nil)) rfl rfl HM) ?_
 rintro w793 HM
 refine ops_nil (at_then (run_seq ?_))
 obtain ⟨t794, h795, H⟩ := bind_some H
 refine run_region rfl ?_
 refine ox rfl rfl rfl rfl (ex_fieldAddr (off' := 2) rfl rfl Tryz.underlying64 rfl tsz62 rfl) ?_
 refine ox rfl rfl rfl rfl (ex_loadN (cs := [(.int .i64 x0.fOut.fValue), p0_0, (.int .i64 x0.fOut.fRule.fNeed), (.int .i64 x0.fOut.fRule.fAfter)]) rfl rfl Tryz.underlying62 rfl tsz62 rfl ((HM.box_at 2 rfl).sub 2 4 rfl)) ?_
 refine od rfl rfl rfl rfl (does_callk rfl callok61 rfl (laws_toOut.calls (x0 := x0.fOut) (HM.rd hp0_0) h795)) ?_
 rintro _ w798 ⟨u796, rfl, hn⟩
 replace HM : Mem w [] w798 [own kInt 2 u796 t794.fRule.fKeys, box b786 86 [.int .i64 t790.fTx, .int .i64 t790.fAt, .int .i64 0, .slice none 0 0, .int .i64 0, .int .i64 0, .int .i64 0, .bool false], box b781 86 [.int .i64 0, .int .i64 0, .int .i64 0, .slice none 0 0, .int .i64 0, .int .i64 0, .int .i64 0, .bool false], box b778 64 [.int .i64 x0.fRef.fTx, .int .i64 x0.fRef.fAt, .int .i64 x0.fOut.fValue, p0_0, .int .i64 x0.fOut.fRule.fNeed, .int .i64 x0.fOut.fRule.fAfter, .int .i64 x0.fHeight, .bool x0.fMined]] := HM.call hn
 refine ox rfl rfl rfl rfl (ex_fieldAddr (off' := 2) rfl rfl Tryz.underlying86 rfl tsz84 rfl) ?_
 replace HM := HM.front 1 rfl rfl
 refine odS rfl rfl rfl (does_store (vs := [.int .i64 t794.fValue, u796, .int .i64 t794.fRule.fNeed, .int .i64 t794.fRule.fAfter]) (cs' := [.int .i64 t790.fTx, .int .i64 t790.fAt, .int .i64 t794.fValue, u796, .int .i64 t794.fRule.fNeed, .int .i64 t794.fRule.fAfter, .int .i64 0, .bool false]) rfl rfl rfl rfl tsz84 (Ones.int (Ones.rd (HM.own_rd 1 rfl) (Ones.int (Ones.int Ones.nil)))) rfl rfl HM) ?_
 rintro w799 HM
 refine ops_nil (at_then (run_seq ?_))
 refine run_region rfl ?_
 refine ox rfl rfl rfl rfl (ex_fieldAddr (off' := 6) rfl rfl Tryz.underlying64 rfl tsz2 rfl) ?_
 refine ox rfl rfl rfl rfl (ex_load1 rfl rfl Tryz.underlying2 rfl ((HM.box_at 3 rfl) 6 _ rfl)) ?_
 refine ox rfl rfl rfl rfl (ex_fieldAddr (off' := 6) rfl rfl Tryz.underlying86 rfl tsz2 rfl) ?_
 refine odS rfl rfl rfl (does_store (vs := [.int .i64 x0.fHeight]) (cs' := [.int .i64 t790.fTx, .int .i64 t790.fAt, .int .i64 t794.fValue, u796, .int .i64 t794.fRule.fNeed, .int .i64 t794.fRule.fAfter, .int .i64 x0.fHeight, .bool false]) rfl rfl rfl rfl tsz2 (Ones.int Ones.nil) rfl rfl HM) ?_
 rintro w800 HM
 refine ops_nil (at_then (run_seq ?_))
 refine run_region rfl ?_
 refine ox rfl rfl rfl rfl (ex_fieldAddr (off' := 7) rfl rfl Tryz.underlying64 rfl tsz4 rfl) ?_
 refine ox rfl rfl rfl rfl (ex_load1 rfl rfl Tryz.underlying4 rfl ((HM.box_at 3 rfl) 7 _ rfl)) ?_
 refine ox rfl rfl rfl rfl (ex_fieldAddr (off' := 7) rfl rfl Tryz.underlying86 rfl tsz4 rfl) ?_
 refine odS rfl rfl rfl (does_store (vs := [.bool x0.fMined]) (cs' := [.int .i64 t790.fTx, .int .i64 t790.fAt, .int .i64 t794.fValue, u796, .int .i64 t794.fRule.fNeed, .int .i64 t794.fRule.fAfter, .int .i64 x0.fHeight, .bool x0.fMined]) rfl rfl rfl rfl tsz4 (Ones.bool Ones.nil) rfl rfl HM) ?_
 rintro w801 HM
 refine ops_nil (at_then (run_seq ?_))
 refine run_region rfl ?_
 refine ox rfl rfl rfl rfl (ex_loadN (cs := [(.int .i64 t790.fTx), (.int .i64 t790.fAt), (.int .i64 t794.fValue), u796, (.int .i64 t794.fRule.fNeed), (.int .i64 t794.fRule.fAfter), (.int .i64 x0.fHeight), (.bool x0.fMined)]) rfl rfl Tryz.underlying86 rfl tsz86 rfl ((HM.box_at 0 rfl).sub 0 8 rfl)) ?_
 replace HM := HM.front 2 rfl rfl
 refine odS rfl rfl rfl (does_store (vs := [.int .i64 t790.fTx, .int .i64 t790.fAt, .int .i64 t794.fValue, u796, .int .i64 t794.fRule.fNeed, .int .i64 t794.fRule.fAfter, .int .i64 x0.fHeight, .bool x0.fMined]) (cs' := [.int .i64 t790.fTx, .int .i64 t790.fAt, .int .i64 t794.fValue, u796, .int .i64 t794.fRule.fNeed, .int .i64 t794.fRule.fAfter, .int .i64 x0.fHeight, .bool x0.fMined]) rfl rfl rfl rfl tsz86 (Ones.int (Ones.int (Ones.int (Ones.rd (HM.own_rd 2 rfl) (Ones.int (Ones.int (Ones.int (Ones.bool Ones.nil)))))))) rfl rfl HM) ?_
 rintro w802 HM
 refine ops_nil (at_then ?_)
 refine run_ret ?_
 replace HM := (HM.front 1 rfl rfl).drop
 replace HM := (HM.front 2 rfl rfl).drop
 have hcb0 := HM.box_at 0 rfl
 replace HM := (HM.front 0 rfl rfl).drop
 have hR := Option.some.inj H
 subst hR
 exact at_retN rfl rfl Tryz.underlying86 rfl tsz86 rfl hcb0 ⟨_, rfl, _, rfl, HM⟩

def laws_toCoinS.l0 (x0 : List Coin) : Nat → (List Coin) → Int → Option ((List Coin))
 | 0, _, _ => none
 | k + 1, a893, a895 => (bif (decide (a895 < (x0.length : Int))) then (chk (idxOk a895 x0.length) ((laws_toCoin.f k (gt x0 a895)).bind fun t913 => (chk (idxOk a895 a893.length) (laws_toCoinS.l0 x0 k (a893.set (a895).toNat t913) (wrap64 (a895 + 1)))))) else some a893)
theorem laws_toCoinS.l0_z (x0 : List Coin) (a893 : List Coin) (a895 : Int) : laws_toCoinS.l0 x0 0 a893 a895 = none := rfl
theorem laws_toCoinS.l0_s (x0 : List Coin) (k : Nat) (a893 : List Coin) (a895 : Int) : laws_toCoinS.l0 x0 (k + 1) a893 a895 = (bif (decide (a895 < (x0.length : Int))) then (chk (idxOk a895 x0.length) ((laws_toCoin.f k (gt x0 a895)).bind fun t913 => (chk (idxOk a895 a893.length) (laws_toCoinS.l0 x0 k (a893.set (a895).toNat t913) (wrap64 (a895 + 1)))))) else some a893) := rfl
def laws_toCoinS.f (k : Nat) (x0 : List Coin) : Option ((List Coin)) := (chk (decide (0 ≤ (x0.length : Int))) (chk (leB (((x0.length : Int)).toNat * 80) 281474976710656) ((laws_toCoinS.l0 x0 k (List.replicate ((x0.length : Int)).toNat (⟨(⟨0, 0⟩ : Ref), (⟨0, (⟨[], 0, 0⟩ : Rule)⟩ : Out), 0, false⟩ : Coin)) 0).bind (fun a878 => some a878))))
theorem laws_toCoinS.calls {k : Nat} {x0 : List Coin} {p0 : Value} {w : World} (hp0 : RdS kCoin w p0 x0) {r : (List Coin)} (H : laws_toCoinS.f k x0 = some r) :
  Calls Tryz.prog 9 ([p0] : List Value).toArray w (fun e w_ => ∃ v, e = .returned v ∧ ∃ u0 : Value, v = u0 ∧ Mem w [] w_ [own kCoin 86 u0 r]) := by
 have HM := Mem.start w
 refine calls_run (N := 23) Tryz.func9 rfl rfl rfl rfl ?_
 unfold laws_toCoinS.f at H
 refine run_seq ?_
 refine run_region rfl ?_
 refine ox rfl rfl rfl rfl (ex_assign rfl rfl) ?_
 refine ops_nil (at_then (run_seq ?_))
 obtain ⟨e840, H⟩ := chk_some H
 obtain ⟨e841, H⟩ := chk_some H
 refine run_region rfl ?_
 refine ox rfl rfl rfl rfl (ex_move rfl rfl) ?_
 refine ox rfl rfl rfl rfl (ex_len (d := kCoin) (xs := x0) rfl rfl Tryz.underlying26 hp0) ?_
 refine od rfl rfl rfl rfl (does_make (x := (⟨(⟨0, 0⟩ : Ref), (⟨0, (⟨[], 0, 0⟩ : Rule)⟩ : Out), 0, false⟩ : Coin)) kCoin rfl rfl rfl Tryz.underlying41 tsz86 tby86 tz86 rfl rfl (fun _ => ⟨.slice none 0 0, rfl, OwS.nil _ _ _ _⟩) (of_decide_eq_true e840) rfl (leB_le e841) rfl HM) ?_
 rintro v837 w842 HM
 refine ox rfl rfl rfl rfl (ex_assign rfl rfl) ?_
 refine ops_nil (at_then ?_)
 obtain ⟨o880, ho881, H⟩ := bind_some H
 refine run_mid (fun ρ_ w_ => ∃ v877 : Value, ∃ a878 : List Coin, a878 = o880 ∧ ρ_ = [(3, v877)] ∧ Mem w [] w_ [own kCoin 86 v877 a878]) ?_ ?_
 ·clear H
  refine run_seq ?_
  refine run_region rfl ?_
  refine ox rfl rfl rfl rfl (ex_assign rfl rfl) ?_
  refine ops_nil (at_then ?_)
  refine run_block ?_
  refine run_loop (fun k_ ρ_ w_ => ∃ v892 : Value, ∃ a893 : List Coin, ∃ a895 : Int, laws_toCoinS.l0 x0 k_ a893 a895 = some o880 ∧ ρ_ = [(0, p0), (3, v892), (4, .int .i64 a895)] ∧ Mem w [] w_ [own kCoin 86 v892 a893]) k (ρ1 := [(0, p0), (3, v837), (4, .int .i64 0)]) ⟨_, _, _, ho881, rfl, HM⟩ (Sub.cons rfl (Sub.cons rfl (Sub.cons rfl Sub.nil))) ?_
  clear HM ho881
  rintro k906 _ w907 ⟨v892, a893, a895, ho881, rfl, HM⟩
  obtain _ | k906 := k906
  ·exact nomatch ((laws_toCoinS.l0_z x0 a893 a895).symm.trans ho881)
  replace ho881 := (laws_toCoinS.l0_s x0 k906 a893 a895).symm.trans ho881
  refine run_seq ?_
  refine run_seq ?_
  refine run_region rfl ?_
  refine ox rfl rfl rfl rfl (ex_move rfl rfl) ?_
  refine ox rfl rfl rfl rfl (ex_move rfl rfl) ?_
  refine ox rfl rfl rfl rfl (ex_len (d := kCoin) (xs := x0) rfl rfl Tryz.underlying26 hp0) ?_
  refine ox rfl rfl rfl rfl (ex_lss rfl rfl rfl) ?_
  refine ops_nil (at_then ?_)
  refine run_cond (b := (decide (a895 < (x0.length : Int)))) rfl (fun hb908 => ?_) (fun hb908 => ?_)
  ·replace ho881 := cond_t hb908 ho881
   refine run_skip ?_
   refine at_then ?_
   refine run_seq ?_
   refine run_block ?_
   obtain ⟨e909, ho881⟩ := chk_some ho881
   obtain ⟨t913, h914, ho881⟩ := bind_some ho881
   obtain ⟨e917, ho881⟩ := chk_some ho881
   refine run_region rfl ?_
   refine ox rfl rfl rfl rfl (ex_move rfl rfl) ?_
   refine ox rfl rfl rfl rfl (ex_move rfl rfl) ?_
   refine ox rfl rfl rfl rfl (ex_move rfl rfl) ?_
   refine ox rfl rfl rfl rfl (ex_move rfl rfl) ?_
   obtain ⟨kv911, hc910, hk912⟩ : ∃ u, CellsAt _ (sb p0) (so p0 + (a895).toNat * 8) [(.int .i64 ((gt x0 a895).fRef.fTx)), (.int .i64 ((gt x0 a895).fRef.fAt)), (.int .i64 ((gt x0 a895).fOut.fValue)), u, (.int .i64 ((gt x0 a895).fOut.fRule.fNeed)), (.int .i64 ((gt x0 a895).fOut.fRule.fAfter)), (.int .i64 ((gt x0 a895).fHeight)), (.bool ((gt x0 a895).fMined))] ∧ RdS kInt _ u ((gt x0 a895).fOut.fRule.fKeys) := rd_with1 hp0 e909
   refine ox rfl rfl rfl rfl (ex_indexAddr (d := kCoin) rfl rfl rfl Tryz.underlying26 tsz64 hp0 (idx_lo e909) (idx_hi e909)) ?_
   refine ox rfl rfl rfl rfl (ex_loadN (cs := [(.int .i64 ((gt x0 a895).fRef.fTx)), (.int .i64 ((gt x0 a895).fRef.fAt)), (.int .i64 ((gt x0 a895).fOut.fValue)), kv911, (.int .i64 ((gt x0 a895).fOut.fRule.fNeed)), (.int .i64 ((gt x0 a895).fOut.fRule.fAfter)), (.int .i64 ((gt x0 a895).fHeight)), (.bool ((gt x0 a895).fMined))]) rfl rfl Tryz.underlying64 rfl tsz64 rfl ((HM.at_ hc910).sub 0 8 rfl)) ?_
   refine od rfl rfl rfl rfl (does_callk rfl callok30 rfl (laws_toCoin.calls (x0 := (gt x0 a895)) (HM.rd hk912) h914)) ?_
   rintro _ w918 ⟨u915, rfl, hn⟩
   replace HM : Mem w [] w918 [own kInt 2 u915 t913.fOut.fRule.fKeys, own kCoin 86 v892 a893] := HM.call hn
   refine ox rfl rfl rfl rfl (ex_indexAddr (d := kCoin) rfl rfl rfl Tryz.underlying41 tsz86 (HM.own_rd 1 rfl) (idx_lo e917) (idx_hi e917)) ?_
   replace HM := HM.front 1 rfl rfl
   refine odS rfl rfl rfl (does_setElem (vs := [(.int .i64 t913.fRef.fTx), (.int .i64 t913.fRef.fAt), (.int .i64 t913.fOut.fValue), u915, (.int .i64 t913.fOut.fRule.fNeed), (.int .i64 t913.fOut.fRule.fAfter), (.int .i64 t913.fHeight), (.bool t913.fMined)]) (y := t913) kCoin rfl rfl rfl rfl rfl tsz86 rfl rfl (idx_nat e917) (fun _ _ h => ⟨_, rfl, h⟩) HM) ?_
   rintro w919 HM
   refine ops_nil ?_
   refine at_block ?_
   refine at_then ?_
   refine run_region rfl ?_
   refine ox rfl rfl rfl rfl (ex_move rfl rfl) ?_
   refine ox rfl rfl rfl rfl (ex_add rfl rfl rfl) ?_
   refine ox rfl rfl rfl rfl (ex_assign rfl rfl) ?_
   refine ops_nil ?_
   exact at_again k906 (ρ1 := [(0, p0), (3, v892), (4, .int .i64 (wrap64 (a895 + 1)))]) (Nat.lt_succ_self _) ⟨_, _, _, ho881, rfl, HM⟩ (Sub.cons rfl (Sub.cons rfl (Sub.cons rfl Sub.nil)))
  ·replace ho881 := cond_f hb908 ho881
   refine run_exit ?_
   refine at_then_exit ?_
   refine at_then_exit ?_
   refine at_block_exit ?_
   exact at_mid (ρ' := [(3, v892)]) ⟨_, _, (Option.some.inj ho881), rfl, HM⟩ (Sub.cons rfl Sub.nil)
 ·rintro _ w920 ⟨v877, a878, rfl, rfl, HM⟩
  refine run_seq ?_
  refine run_region rfl ?_
  refine ox rfl rfl rfl rfl (ex_move rfl rfl) ?_
  refine ox rfl rfl rfl rfl (ex_assign rfl rfl) ?_
  refine ops_nil (at_then ?_)
  refine run_ret ?_
  have hR := Option.some.inj H
  subst hR
  exact at_ret1 rfl rfl ⟨_, rfl, _, rfl, HM⟩

def laws_toRefS.l0 (x0 : List Ref) : Nat → (List Ref) → Int → Option ((List Ref))
 | 0, _, _ => none
 | k + 1, a1006, a1008 => (bif (decide (a1008 < (x0.length : Int))) then (chk (idxOk a1008 x0.length) ((laws_toRef.f k (gt x0 a1008)).bind fun t1020 => (chk (idxOk a1008 a1006.length) (laws_toRefS.l0 x0 k (a1006.set (a1008).toNat t1020) (wrap64 (a1008 + 1)))))) else some a1006)
theorem laws_toRefS.l0_z (x0 : List Ref) (a1006 : List Ref) (a1008 : Int) : laws_toRefS.l0 x0 0 a1006 a1008 = none := rfl
theorem laws_toRefS.l0_s (x0 : List Ref) (k : Nat) (a1006 : List Ref) (a1008 : Int) : laws_toRefS.l0 x0 (k + 1) a1006 a1008 = (bif (decide (a1008 < (x0.length : Int))) then (chk (idxOk a1008 x0.length) ((laws_toRef.f k (gt x0 a1008)).bind fun t1020 => (chk (idxOk a1008 a1006.length) (laws_toRefS.l0 x0 k (a1006.set (a1008).toNat t1020) (wrap64 (a1008 + 1)))))) else some a1006) := rfl
def laws_toRefS.f (k : Nat) (x0 : List Ref) : Option ((List Ref)) := (chk (decide (0 ≤ (x0.length : Int))) (chk (leB (((x0.length : Int)).toNat * 16) 281474976710656) ((laws_toRefS.l0 x0 k (List.replicate ((x0.length : Int)).toNat (⟨0, 0⟩ : Ref)) 0).bind (fun a995 => some a995))))
theorem laws_toRefS.calls {k : Nat} {x0 : List Ref} {p0 : Value} {w : World} (hp0 : RdS kRef w p0 x0) {r : (List Ref)} (H : laws_toRefS.f k x0 = some r) :
  Calls Tryz.prog 31 ([p0] : List Value).toArray w (fun e w_ => ∃ v, e = .returned v ∧ ∃ u0 : Value, v = u0 ∧ Mem w [] w_ [own kRef 81 u0 r]) := by
 have HM := Mem.start w
 refine calls_run (N := 23) Tryz.func31 rfl rfl rfl rfl ?_
 unfold laws_toRefS.f at H
 refine run_seq ?_
 refine run_region rfl ?_
 refine ox rfl rfl rfl rfl (ex_assign rfl rfl) ?_
 refine ops_nil (at_then (run_seq ?_))
 obtain ⟨e969, H⟩ := chk_some H
 obtain ⟨e970, H⟩ := chk_some H
 refine run_region rfl ?_
 refine ox rfl rfl rfl rfl (ex_move rfl rfl) ?_
 refine ox rfl rfl rfl rfl (ex_len (d := kRef) (xs := x0) rfl rfl Tryz.underlying27 hp0) ?_
 refine od rfl rfl rfl rfl (does_make (x := (⟨0, 0⟩ : Ref)) kRef rfl rfl rfl Tryz.underlying43 tsz81 tby81 tz81 rfl rfl (fun _ => ⟨rfl, rfl⟩) (of_decide_eq_true e969) rfl (leB_le e970) rfl HM) ?_
 rintro v966 w971 HM
 refine ox rfl rfl rfl rfl (ex_assign rfl rfl) ?_
 refine ops_nil (at_then ?_)
 obtain ⟨o997, ho998, H⟩ := bind_some H
 refine run_mid (fun ρ_ w_ => ∃ v994 : Value, ∃ a995 : List Ref, a995 = o997 ∧ ρ_ = [(3, v994)] ∧ Mem w [] w_ [own kRef 81 v994 a995]) ?_ ?_
 ·clear H
  refine run_seq ?_
  refine run_region rfl ?_
  refine ox rfl rfl rfl rfl (ex_assign rfl rfl) ?_
  refine ops_nil (at_then ?_)
  refine run_block ?_
  refine run_loop (fun k_ ρ_ w_ => ∃ v1005 : Value, ∃ a1006 : List Ref, ∃ a1008 : Int, laws_toRefS.l0 x0 k_ a1006 a1008 = some o997 ∧ ρ_ = [(0, p0), (3, v1005), (4, .int .i64 a1008)] ∧ Mem w [] w_ [own kRef 81 v1005 a1006]) k (ρ1 := [(0, p0), (3, v966), (4, .int .i64 0)]) ⟨_, _, _, ho998, rfl, HM⟩ (Sub.cons rfl (Sub.cons rfl (Sub.cons rfl Sub.nil))) ?_
  clear HM ho998
  rintro k1015 _ w1016 ⟨v1005, a1006, a1008, ho998, rfl, HM⟩
  obtain _ | k1015 := k1015
  ·exact nomatch ((laws_toRefS.l0_z x0 a1006 a1008).symm.trans ho998)
  replace ho998 := (laws_toRefS.l0_s x0 k1015 a1006 a1008).symm.trans ho998
  refine run_seq ?_
  refine run_seq ?_
  refine run_region rfl ?_
  refine ox rfl rfl rfl rfl (ex_move rfl rfl) ?_
  refine ox rfl rfl rfl rfl (ex_move rfl rfl) ?_
  refine ox rfl rfl rfl rfl (ex_len (d := kRef) (xs := x0) rfl rfl Tryz.underlying27 hp0) ?_
  refine ox rfl rfl rfl rfl (ex_lss rfl rfl rfl) ?_
  refine ops_nil (at_then ?_)
  refine run_cond (b := (decide (a1008 < (x0.length : Int)))) rfl (fun hb1017 => ?_) (fun hb1017 => ?_)
  ·replace ho998 := cond_t hb1017 ho998
   refine run_skip ?_
   refine at_then ?_
   refine run_seq ?_
   refine run_block ?_
   obtain ⟨e1018, ho998⟩ := chk_some ho998
   obtain ⟨t1020, h1021, ho998⟩ := bind_some ho998
   obtain ⟨e1022, ho998⟩ := chk_some ho998
   refine run_region rfl ?_
   refine ox rfl rfl rfl rfl (ex_move rfl rfl) ?_
   refine ox rfl rfl rfl rfl (ex_move rfl rfl) ?_
   refine ox rfl rfl rfl rfl (ex_move rfl rfl) ?_
   refine ox rfl rfl rfl rfl (ex_move rfl rfl) ?_
   have hc1019 : CellsAt _ (sb p0) (so p0 + (a1008).toNat * 2) [(.int .i64 ((gt x0 a1008).fTx)), (.int .i64 ((gt x0 a1008).fAt))] := rd_plain hp0 e1018
   refine ox rfl rfl rfl rfl (ex_indexAddr (d := kRef) rfl rfl rfl Tryz.underlying27 tsz57 hp0 (idx_lo e1018) (idx_hi e1018)) ?_
   refine ox rfl rfl rfl rfl (ex_loadN (cs := [(.int .i64 ((gt x0 a1008).fTx)), (.int .i64 ((gt x0 a1008).fAt))]) rfl rfl Tryz.underlying57 rfl tsz57 rfl ((HM.at_ hc1019).sub 0 2 rfl)) ?_
   refine od rfl rfl rfl rfl (does_callk rfl callok60 rfl (laws_toRef.calls (x0 := (gt x0 a1008)) h1021)) ?_
   rintro _ w1023 ⟨rfl, hn⟩
   replace HM : Mem w [] w1023 [own kRef 81 v1005 a1006] := HM.call hn
   refine ox rfl rfl rfl rfl (ex_indexAddr (d := kRef) rfl rfl rfl Tryz.underlying43 tsz81 (HM.own_rd 0 rfl) (idx_lo e1022) (idx_hi e1022)) ?_
   refine odS rfl rfl rfl (does_setElem (vs := [(.int .i64 t1020.fTx), (.int .i64 t1020.fAt)]) (y := t1020) kRef rfl rfl rfl rfl rfl tsz81 rfl rfl (idx_nat e1022) (fun _ _ h => ⟨rfl, h⟩) (HM.emp.front 1 rfl rfl)) ?_
   rintro w1024 HM
   refine ops_nil ?_
   refine at_block ?_
   refine at_then ?_
   refine run_region rfl ?_
   refine ox rfl rfl rfl rfl (ex_move rfl rfl) ?_
   refine ox rfl rfl rfl rfl (ex_add rfl rfl rfl) ?_
   refine ox rfl rfl rfl rfl (ex_assign rfl rfl) ?_
   refine ops_nil ?_
   exact at_again k1015 (ρ1 := [(0, p0), (3, v1005), (4, .int .i64 (wrap64 (a1008 + 1)))]) (Nat.lt_succ_self _) ⟨_, _, _, ho998, rfl, HM⟩ (Sub.cons rfl (Sub.cons rfl (Sub.cons rfl Sub.nil)))
  ·replace ho998 := cond_f hb1017 ho998
   refine run_exit ?_
   refine at_then_exit ?_
   refine at_then_exit ?_
   refine at_block_exit ?_
   exact at_mid (ρ' := [(3, v1005)]) ⟨_, _, (Option.some.inj ho998), rfl, HM⟩ (Sub.cons rfl Sub.nil)
 ·rintro _ w1025 ⟨v994, a995, rfl, rfl, HM⟩
  refine run_seq ?_
  refine run_region rfl ?_
  refine ox rfl rfl rfl rfl (ex_move rfl rfl) ?_
  refine ox rfl rfl rfl rfl (ex_assign rfl rfl) ?_
  refine ops_nil (at_then ?_)
  refine run_ret ?_
  have hR := Option.some.inj H
  subst hR
  exact at_ret1 rfl rfl ⟨_, rfl, _, rfl, HM⟩

def laws_toOutS.l0 (x0 : List Out) : Nat → (List Out) → Int → Option ((List Out))
 | 0, _, _ => none
 | k + 1, a1130, a1132 => (bif (decide (a1132 < (x0.length : Int))) then (chk (idxOk a1132 x0.length) ((laws_toOut.f k (gt x0 a1132)).bind fun t1150 => (chk (idxOk a1132 a1130.length) (laws_toOutS.l0 x0 k (a1130.set (a1132).toNat t1150) (wrap64 (a1132 + 1)))))) else some a1130)
theorem laws_toOutS.l0_z (x0 : List Out) (a1130 : List Out) (a1132 : Int) : laws_toOutS.l0 x0 0 a1130 a1132 = none := rfl
theorem laws_toOutS.l0_s (x0 : List Out) (k : Nat) (a1130 : List Out) (a1132 : Int) : laws_toOutS.l0 x0 (k + 1) a1130 a1132 = (bif (decide (a1132 < (x0.length : Int))) then (chk (idxOk a1132 x0.length) ((laws_toOut.f k (gt x0 a1132)).bind fun t1150 => (chk (idxOk a1132 a1130.length) (laws_toOutS.l0 x0 k (a1130.set (a1132).toNat t1150) (wrap64 (a1132 + 1)))))) else some a1130) := rfl
def laws_toOutS.f (k : Nat) (x0 : List Out) : Option ((List Out)) := (chk (decide (0 ≤ (x0.length : Int))) (chk (leB (((x0.length : Int)).toNat * 48) 281474976710656) ((laws_toOutS.l0 x0 k (List.replicate ((x0.length : Int)).toNat (⟨0, (⟨[], 0, 0⟩ : Rule)⟩ : Out)) 0).bind (fun a1115 => some a1115))))
theorem laws_toOutS.calls {k : Nat} {x0 : List Out} {p0 : Value} {w : World} (hp0 : RdS kOut w p0 x0) {r : (List Out)} (H : laws_toOutS.f k x0 = some r) :
  Calls Tryz.prog 32 ([p0] : List Value).toArray w (fun e w_ => ∃ v, e = .returned v ∧ ∃ u0 : Value, v = u0 ∧ Mem w [] w_ [own kOut 84 u0 r]) := by
 have HM := Mem.start w
 refine calls_run (N := 23) Tryz.func32 rfl rfl rfl rfl ?_
 unfold laws_toOutS.f at H
 refine run_seq ?_
 refine run_region rfl ?_
 refine ox rfl rfl rfl rfl (ex_assign rfl rfl) ?_
 refine ops_nil (at_then (run_seq ?_))
 obtain ⟨e1077, H⟩ := chk_some H
 obtain ⟨e1078, H⟩ := chk_some H
 refine run_region rfl ?_
 refine ox rfl rfl rfl rfl (ex_move rfl rfl) ?_
 refine ox rfl rfl rfl rfl (ex_len (d := kOut) (xs := x0) rfl rfl Tryz.underlying28 hp0) ?_
 refine od rfl rfl rfl rfl (does_make (x := (⟨0, (⟨[], 0, 0⟩ : Rule)⟩ : Out)) kOut rfl rfl rfl Tryz.underlying44 tsz84 tby84 tz84 rfl rfl (fun _ => ⟨.slice none 0 0, rfl, OwS.nil _ _ _ _⟩) (of_decide_eq_true e1077) rfl (leB_le e1078) rfl HM) ?_
 rintro v1074 w1079 HM
 refine ox rfl rfl rfl rfl (ex_assign rfl rfl) ?_
 refine ops_nil (at_then ?_)
 obtain ⟨o1117, ho1118, H⟩ := bind_some H
 refine run_mid (fun ρ_ w_ => ∃ v1114 : Value, ∃ a1115 : List Out, a1115 = o1117 ∧ ρ_ = [(3, v1114)] ∧ Mem w [] w_ [own kOut 84 v1114 a1115]) ?_ ?_
 ·clear H
  refine run_seq ?_
  refine run_region rfl ?_
  refine ox rfl rfl rfl rfl (ex_assign rfl rfl) ?_
  refine ops_nil (at_then ?_)
  refine run_block ?_
  refine run_loop (fun k_ ρ_ w_ => ∃ v1129 : Value, ∃ a1130 : List Out, ∃ a1132 : Int, laws_toOutS.l0 x0 k_ a1130 a1132 = some o1117 ∧ ρ_ = [(0, p0), (3, v1129), (4, .int .i64 a1132)] ∧ Mem w [] w_ [own kOut 84 v1129 a1130]) k (ρ1 := [(0, p0), (3, v1074), (4, .int .i64 0)]) ⟨_, _, _, ho1118, rfl, HM⟩ (Sub.cons rfl (Sub.cons rfl (Sub.cons rfl Sub.nil))) ?_
  clear HM ho1118
  rintro k1143 _ w1144 ⟨v1129, a1130, a1132, ho1118, rfl, HM⟩
  obtain _ | k1143 := k1143
  ·exact nomatch ((laws_toOutS.l0_z x0 a1130 a1132).symm.trans ho1118)
  replace ho1118 := (laws_toOutS.l0_s x0 k1143 a1130 a1132).symm.trans ho1118
  refine run_seq ?_
  refine run_seq ?_
  refine run_region rfl ?_
  refine ox rfl rfl rfl rfl (ex_move rfl rfl) ?_
  refine ox rfl rfl rfl rfl (ex_move rfl rfl) ?_
  refine ox rfl rfl rfl rfl (ex_len (d := kOut) (xs := x0) rfl rfl Tryz.underlying28 hp0) ?_
  refine ox rfl rfl rfl rfl (ex_lss rfl rfl rfl) ?_
  refine ops_nil (at_then ?_)
  refine run_cond (b := (decide (a1132 < (x0.length : Int)))) rfl (fun hb1145 => ?_) (fun hb1145 => ?_)
  ·replace ho1118 := cond_t hb1145 ho1118
   refine run_skip ?_
   refine at_then ?_
   refine run_seq ?_
   refine run_block ?_
   obtain ⟨e1146, ho1118⟩ := chk_some ho1118
   obtain ⟨t1150, h1151, ho1118⟩ := bind_some ho1118
   obtain ⟨e1154, ho1118⟩ := chk_some ho1118
   refine run_region rfl ?_
   refine ox rfl rfl rfl rfl (ex_move rfl rfl) ?_
   refine ox rfl rfl rfl rfl (ex_move rfl rfl) ?_
   refine ox rfl rfl rfl rfl (ex_move rfl rfl) ?_
   refine ox rfl rfl rfl rfl (ex_move rfl rfl) ?_
   obtain ⟨kv1148, hc1147, hk1149⟩ : ∃ u, CellsAt _ (sb p0) (so p0 + (a1132).toNat * 4) [(.int .i64 ((gt x0 a1132).fValue)), u, (.int .i64 ((gt x0 a1132).fRule.fNeed)), (.int .i64 ((gt x0 a1132).fRule.fAfter))] ∧ RdS kInt _ u ((gt x0 a1132).fRule.fKeys) := rd_with1 hp0 e1146
   refine ox rfl rfl rfl rfl (ex_indexAddr (d := kOut) rfl rfl rfl Tryz.underlying28 tsz62 hp0 (idx_lo e1146) (idx_hi e1146)) ?_
   refine ox rfl rfl rfl rfl (ex_loadN (cs := [(.int .i64 ((gt x0 a1132).fValue)), kv1148, (.int .i64 ((gt x0 a1132).fRule.fNeed)), (.int .i64 ((gt x0 a1132).fRule.fAfter))]) rfl rfl Tryz.underlying62 rfl tsz62 rfl ((HM.at_ hc1147).sub 0 4 rfl)) ?_
   refine od rfl rfl rfl rfl (does_callk rfl callok61 rfl (laws_toOut.calls (x0 := (gt x0 a1132)) (HM.rd hk1149) h1151)) ?_
   rintro _ w1155 ⟨u1152, rfl, hn⟩
   replace HM : Mem w [] w1155 [own kInt 2 u1152 t1150.fRule.fKeys, own kOut 84 v1129 a1130] := HM.call hn
   refine ox rfl rfl rfl rfl (ex_indexAddr (d := kOut) rfl rfl rfl Tryz.underlying44 tsz84 (HM.own_rd 1 rfl) (idx_lo e1154) (idx_hi e1154)) ?_
   replace HM := HM.front 1 rfl rfl
   refine odS rfl rfl rfl (does_setElem (vs := [(.int .i64 t1150.fValue), u1152, (.int .i64 t1150.fRule.fNeed), (.int .i64 t1150.fRule.fAfter)]) (y := t1150) kOut rfl rfl rfl rfl rfl tsz84 rfl rfl (idx_nat e1154) (fun _ _ h => ⟨_, rfl, h⟩) HM) ?_
   rintro w1156 HM
   refine ops_nil ?_
   refine at_block ?_
   refine at_then ?_
   refine run_region rfl ?_
   refine ox rfl rfl rfl rfl (ex_move rfl rfl) ?_
   refine ox rfl rfl rfl rfl (ex_add rfl rfl rfl) ?_
   refine ox rfl rfl rfl rfl (ex_assign rfl rfl) ?_
   refine ops_nil ?_
   exact at_again k1143 (ρ1 := [(0, p0), (3, v1129), (4, .int .i64 (wrap64 (a1132 + 1)))]) (Nat.lt_succ_self _) ⟨_, _, _, ho1118, rfl, HM⟩ (Sub.cons rfl (Sub.cons rfl (Sub.cons rfl Sub.nil)))
  ·replace ho1118 := cond_f hb1145 ho1118
   refine run_exit ?_
   refine at_then_exit ?_
   refine at_then_exit ?_
   refine at_block_exit ?_
   exact at_mid (ρ' := [(3, v1129)]) ⟨_, _, (Option.some.inj ho1118), rfl, HM⟩ (Sub.cons rfl Sub.nil)
 ·rintro _ w1157 ⟨v1114, a1115, rfl, rfl, HM⟩
  refine run_seq ?_
  refine run_region rfl ?_
  refine ox rfl rfl rfl rfl (ex_move rfl rfl) ?_
  refine ox rfl rfl rfl rfl (ex_assign rfl rfl) ?_
  refine ops_nil (at_then ?_)
  refine run_ret ?_
  have hR := Option.some.inj H
  subst hR
  exact at_ret1 rfl rfl ⟨_, rfl, _, rfl, HM⟩

def laws_toTx.f (k : Nat) (x0 : Tx) : Option Tx := ((laws_toRefS.f k x0.fIns).bind fun t1176 => ((laws_toOutS.f k x0.fOuts).bind fun t1182 => some (⟨x0.fKind, x0.fMember, t1176, t1182⟩ : Tx)))
theorem laws_toTx.calls {k : Nat} {x0 : Tx} {p0_0 : Value} {p0_1 : Value} {w : World} (hp0_0 : RdS kRef w p0_0 x0.fIns) (hp0_1 : RdS kOut w p0_1 x0.fOuts) {r : Tx} (H : laws_toTx.f k x0 = some r) :
  Calls Tryz.prog 10 ([.agg #[(.int .i64 x0.fKind), (.int .i64 x0.fMember), p0_0, p0_1]] : List Value).toArray w (fun e w_ => ∃ v, e = .returned v ∧ ∃ u0 : Value, ∃ u1 : Value, v = (.agg #[.int .i64 r.fKind, .int .i64 r.fMember, u0, u1]) ∧ Mem w [] w_ [own kRef 81 u0 r.fIns, own kOut 84 u1 r.fOuts]) := by
 have HM := Mem.start w
 refine calls_run (N := 19) Tryz.func10 rfl rfl rfl rfl ?_
 unfold laws_toTx.f at H
 refine run_seq ?_
 refine run_region rfl ?_
 refine od rfl rfl rfl rfl (does_box (cs := [.int .i64 x0.fKind, .int .i64 x0.fMember, p0_0, p0_1]) rfl rfl rfl HM) ?_
 rintro _ w1168 ⟨b1162, rfl, HM⟩
 refine od rfl rfl rfl rfl (does_alloc (cs := [.int .i64 0, .int .i64 0, .slice none 0 0, .slice none 0 0]) rfl tz46 rfl HM) ?_
 rintro _ w1169 ⟨b1165, rfl, HM⟩
 refine ops_nil (at_then (run_seq ?_))
 refine run_region rfl ?_
 refine od rfl rfl rfl rfl (does_alloc (cs := [.int .i64 0, .int .i64 0, .slice none 0 0, .slice none 0 0]) rfl tz46 rfl HM) ?_
 rintro _ w1173 ⟨b1170, rfl, HM⟩
 refine ops_nil (at_then (run_seq ?_))
 refine run_region rfl ?_
 refine ox rfl rfl rfl rfl (ex_fieldAddr (off' := 0) rfl rfl Tryz.underlying30 rfl tsz2 rfl) ?_
 refine ox rfl rfl rfl rfl (ex_load1 rfl rfl Tryz.underlying2 rfl ((HM.box_at 2 rfl) 0 _ rfl)) ?_
 refine ox rfl rfl rfl rfl (ex_fieldAddr (off' := 0) rfl rfl Tryz.underlying46 rfl tsz2 rfl) ?_
 refine odS rfl rfl rfl (does_store (vs := [.int .i64 x0.fKind]) (cs' := [.int .i64 x0.fKind, .int .i64 0, .slice none 0 0, .slice none 0 0]) rfl rfl rfl rfl tsz2 (Ones.int Ones.nil) rfl rfl HM) ?_
 rintro w1174 HM
 refine ops_nil (at_then (run_seq ?_))
 refine run_region rfl ?_
 refine ox rfl rfl rfl rfl (ex_fieldAddr (off' := 1) rfl rfl Tryz.underlying30 rfl tsz2 rfl) ?_
 refine ox rfl rfl rfl rfl (ex_load1 rfl rfl Tryz.underlying2 rfl ((HM.box_at 2 rfl) 1 _ rfl)) ?_
 refine ox rfl rfl rfl rfl (ex_fieldAddr (off' := 1) rfl rfl Tryz.underlying46 rfl tsz2 rfl) ?_
 refine odS rfl rfl rfl (does_store (vs := [.int .i64 x0.fMember]) (cs' := [.int .i64 x0.fKind, .int .i64 x0.fMember, .slice none 0 0, .slice none 0 0]) rfl rfl rfl rfl tsz2 (Ones.int Ones.nil) rfl rfl HM) ?_
 rintro w1175 HM
 refine ops_nil (at_then (run_seq ?_))
 obtain ⟨t1176, h1177, H⟩ := bind_some H
 refine run_region rfl ?_
 refine ox rfl rfl rfl rfl (ex_fieldAddr (off' := 2) rfl rfl Tryz.underlying30 rfl tsz27 rfl) ?_
 refine ox rfl rfl rfl rfl (ex_load1 rfl rfl Tryz.underlying27 rfl ((HM.box_at 2 rfl) 2 _ rfl)) ?_
 refine od rfl rfl rfl rfl (does_callk rfl callok31 rfl (laws_toRefS.calls (x0 := x0.fIns) (HM.rd hp0_0) h1177)) ?_
 rintro u1178 w1180 ⟨_, rfl, hn⟩
 replace HM : Mem w [] w1180 [own kRef 81 u1178 t1176, box b1170 46 [.int .i64 x0.fKind, .int .i64 x0.fMember, .slice none 0 0, .slice none 0 0], box b1165 46 [.int .i64 0, .int .i64 0, .slice none 0 0, .slice none 0 0], box b1162 30 [.int .i64 x0.fKind, .int .i64 x0.fMember, p0_0, p0_1]] := HM.call hn
 refine ox rfl rfl rfl rfl (ex_fieldAddr (off' := 2) rfl rfl Tryz.underlying46 rfl tsz43 rfl) ?_
 replace HM := HM.front 1 rfl rfl
 refine odS rfl rfl rfl (does_store (vs := [u1178]) (cs' := [.int .i64 x0.fKind, .int .i64 x0.fMember, u1178, .slice none 0 0]) rfl rfl rfl (rd_cells (HM.own_rd 1 rfl)) tsz43 (Ones.rd (HM.own_rd 1 rfl) Ones.nil) rfl rfl HM) ?_
 rintro w1181 HM
 refine ops_nil (at_then (run_seq ?_))
 obtain ⟨t1182, h1183, H⟩ := bind_some H
 refine run_region rfl ?_
 refine ox rfl rfl rfl rfl (ex_fieldAddr (off' := 3) rfl rfl Tryz.underlying30 rfl tsz28 rfl) ?_
 refine ox rfl rfl rfl rfl (ex_load1 rfl rfl Tryz.underlying28 rfl ((HM.box_at 3 rfl) 3 _ rfl)) ?_
 refine od rfl rfl rfl rfl (does_callk rfl callok32 rfl (laws_toOutS.calls (x0 := x0.fOuts) (HM.rd hp0_1) h1183)) ?_
 rintro u1184 w1186 ⟨_, rfl, hn⟩
 replace HM : Mem w [] w1186 [own kOut 84 u1184 t1182, box b1170 46 [.int .i64 x0.fKind, .int .i64 x0.fMember, u1178, .slice none 0 0], own kRef 81 u1178 t1176, box b1165 46 [.int .i64 0, .int .i64 0, .slice none 0 0, .slice none 0 0], box b1162 30 [.int .i64 x0.fKind, .int .i64 x0.fMember, p0_0, p0_1]] := HM.call hn
 refine ox rfl rfl rfl rfl (ex_fieldAddr (off' := 3) rfl rfl Tryz.underlying46 rfl tsz44 rfl) ?_
 replace HM := HM.front 1 rfl rfl
 refine odS rfl rfl rfl (does_store (vs := [u1184]) (cs' := [.int .i64 x0.fKind, .int .i64 x0.fMember, u1178, u1184]) rfl rfl rfl (rd_cells (HM.own_rd 1 rfl)) tsz44 (Ones.rd (HM.own_rd 1 rfl) Ones.nil) rfl rfl HM) ?_
 rintro w1187 HM
 refine ops_nil (at_then (run_seq ?_))
 refine run_region rfl ?_
 refine ox rfl rfl rfl rfl (ex_loadN (cs := [(.int .i64 x0.fKind), (.int .i64 x0.fMember), u1178, u1184]) rfl rfl Tryz.underlying46 rfl tsz46 rfl ((HM.box_at 0 rfl).sub 0 4 rfl)) ?_
 replace HM := HM.front 3 rfl rfl
 refine odS rfl rfl rfl (does_store (vs := [.int .i64 x0.fKind, .int .i64 x0.fMember, u1178, u1184]) (cs' := [.int .i64 x0.fKind, .int .i64 x0.fMember, u1178, u1184]) rfl rfl rfl rfl tsz46 (Ones.int (Ones.int (Ones.rd (HM.own_rd 3 rfl) (Ones.rd (HM.own_rd 2 rfl) Ones.nil)))) rfl rfl HM) ?_
 rintro w1188 HM
 refine ops_nil (at_then ?_)
 refine run_ret ?_
 replace HM := (HM.front 1 rfl rfl).drop
 replace HM := (HM.front 3 rfl rfl).drop
 replace HM := HM.front 1 rfl rfl
 replace HM := HM.front 2 rfl rfl
 replace HM := HM.front 2 rfl rfl
 have hcb0 := HM.box_at 0 rfl
 replace HM := (HM.front 0 rfl rfl).drop
 have hR := Option.some.inj H
 subst hR
 exact at_retN rfl rfl Tryz.underlying46 rfl tsz46 rfl hcb0 ⟨_, rfl, _, _, rfl, HM⟩

def spec_l1At.l0 (x0 : List ByteArray) (x1 : ByteArray) : Nat → Int → Option (Int ⊕ Unit)
 | 0, _ => none
 | k + 1, a1257 => (bif (decide (a1257 < (x0.length : Int))) then (chk (idxOk a1257 x0.length) (bif (sEq (gt x0 a1257) x1) then some (.inl (wrap64 (a1257 + 1))) else spec_l1At.l0 x0 x1 k (wrap64 (a1257 + 1)))) else some (.inr ()))
theorem spec_l1At.l0_z (x0 : List ByteArray) (x1 : ByteArray) (a1257 : Int) : spec_l1At.l0 x0 x1 0 a1257 = none := rfl
theorem spec_l1At.l0_s (x0 : List ByteArray) (x1 : ByteArray) (k : Nat) (a1257 : Int) : spec_l1At.l0 x0 x1 (k + 1) a1257 = (bif (decide (a1257 < (x0.length : Int))) then (chk (idxOk a1257 x0.length) (bif (sEq (gt x0 a1257) x1) then some (.inl (wrap64 (a1257 + 1))) else spec_l1At.l0 x0 x1 k (wrap64 (a1257 + 1)))) else some (.inr ())) := rfl
def spec_l1At.f (k : Nat) (x0 : List ByteArray) (x1 : ByteArray) : Option Int := ((spec_l1At.l0 x0 x1 k 0).bind fun o1251 => thn o1251 (fun r => some r) (fun _ => some 0))
theorem spec_l1At.calls {k : Nat} {x0 : List ByteArray} {x1 : ByteArray} {p0 : Value} {w : World} (hp0 : RdS kStr w p0 x0) {r : Int} (H : spec_l1At.f k x0 x1 = some r) :
  Calls Tryz.prog 26 ([p0, .string x1] : List Value).toArray w (fun e w_ => ∃ v, e = .returned v ∧ v = (.int .i64 r) ∧ Mem w [] w_ []) := by
 have HM := Mem.start w
 refine calls_run (N := 20) Tryz.func26 rfl rfl rfl rfl ?_
 unfold spec_l1At.f at H
 refine run_seq ?_
 refine run_region rfl ?_
 refine ox rfl rfl rfl rfl (ex_assign rfl rfl) ?_
 refine ops_nil (at_then ?_)
 obtain ⟨o1251, ho1252, H⟩ := bind_some H
 refine run_mid (fun ρ_ w_ => Sum.inr () = o1251 ∧ ρ_ = [] ∧ Mem w [] w_ []) ?_ ?_
 ·skip
  refine run_seq ?_
  refine run_region rfl ?_
  refine ox rfl rfl rfl rfl (ex_assign rfl rfl) ?_
  refine ops_nil (at_then ?_)
  refine run_block ?_
  refine run_loop (fun k_ ρ_ w_ => ∃ a1257 : Int, spec_l1At.l0 x0 x1 k_ a1257 = some o1251 ∧ ρ_ = [(0, p0), (1, .string x1), (5, .int .i64 a1257)] ∧ Mem w [] w_ []) k (ρ1 := [(0, p0), (1, .string x1), (5, .int .i64 0)]) ⟨_, ho1252, rfl, HM⟩ (Sub.cons rfl (Sub.cons rfl (Sub.cons rfl Sub.nil))) ?_
  clear HM ho1252
  rintro k1262 _ w1263 ⟨a1257, ho1252, rfl, HM⟩
  obtain _ | k1262 := k1262
  ·exact nomatch ((spec_l1At.l0_z x0 x1 a1257).symm.trans ho1252)
  replace ho1252 := (spec_l1At.l0_s x0 x1 k1262 a1257).symm.trans ho1252
  refine run_seq ?_
  refine run_seq ?_
  refine run_region rfl ?_
  refine ox rfl rfl rfl rfl (ex_move rfl rfl) ?_
  refine ox rfl rfl rfl rfl (ex_move rfl rfl) ?_
  refine ox rfl rfl rfl rfl (ex_len (d := kStr) (xs := x0) rfl rfl Tryz.underlying22 hp0) ?_
  refine ox rfl rfl rfl rfl (ex_lss rfl rfl rfl) ?_
  refine ops_nil (at_then ?_)
  refine run_cond (b := (decide (a1257 < (x0.length : Int)))) rfl (fun hb1264 => ?_) (fun hb1264 => ?_)
  ·replace ho1252 := cond_t hb1264 ho1252
   refine run_skip ?_
   refine at_then ?_
   refine run_seq ?_
   refine run_block ?_
   refine run_seq ?_
   obtain ⟨e1265, ho1252⟩ := chk_some ho1252
   refine run_region rfl ?_
   refine ox rfl rfl rfl rfl (ex_move rfl rfl) ?_
   refine ox rfl rfl rfl rfl (ex_move rfl rfl) ?_
   have hc1266 : CellsAt _ (sb p0) (so p0 + (a1257).toNat * 1) [(.string (gt x0 a1257))] := rd_plain hp0 e1265
   refine ox rfl rfl rfl rfl (ex_indexAddr (d := kStr) rfl rfl rfl Tryz.underlying22 tsz9 hp0 (idx_lo e1265) (idx_hi e1265)) ?_
   refine ox rfl rfl rfl rfl (ex_load1 rfl rfl Tryz.underlying9 rfl ((HM.at_ hc1266) 0 _ rfl)) ?_
   refine ox rfl rfl rfl rfl (ex_move rfl rfl) ?_
   refine ox rfl rfl rfl rfl (ex_seql rfl rfl rfl) ?_
   refine ops_nil (at_then ?_)
   refine run_cond (b := (sEq (gt x0 a1257) x1)) rfl (fun hb1267 => ?_) (fun hb1267 => ?_)
   ·replace ho1252 := cond_t hb1267 ho1252
    refine run_seq ?_
    refine run_region rfl ?_
    refine ox rfl rfl rfl rfl (ex_move rfl rfl) ?_
    refine ox rfl rfl rfl rfl (ex_add rfl rfl rfl) ?_
    refine ox rfl rfl rfl rfl (ex_assign rfl rfl) ?_
    refine ops_nil (at_then ?_)
    refine run_ret ?_
    refine at_block_ret ?_
    refine at_then_ret ?_
    refine at_then_ret ?_
    refine at_block_ret ?_
    refine at_then_ret ?_
    have hR := Option.some.inj ho1252
    subst hR
    have hT := thn_inl H
    have hR := Option.some.inj hT
    subst hR
    exact at_ret1 rfl rfl ⟨_, rfl, rfl, HM⟩
   ·replace ho1252 := cond_f hb1267 ho1252
    refine run_skip ?_
    refine at_block ?_
    refine at_then ?_
    refine run_region rfl ?_
    refine ox rfl rfl rfl rfl (ex_move rfl rfl) ?_
    refine ox rfl rfl rfl rfl (ex_add rfl rfl rfl) ?_
    refine ox rfl rfl rfl rfl (ex_assign rfl rfl) ?_
    refine ops_nil ?_
    exact at_again k1262 (ρ1 := [(0, p0), (1, .string x1), (5, .int .i64 (wrap64 (a1257 + 1)))]) (Nat.lt_succ_self _) ⟨_, ho1252, rfl, HM⟩ (Sub.cons rfl (Sub.cons rfl (Sub.cons rfl Sub.nil)))
  ·replace ho1252 := cond_f hb1264 ho1252
   refine run_exit ?_
   refine at_then_exit ?_
   refine at_then_exit ?_
   refine at_block_exit ?_
   exact at_mid (ρ' := []) ⟨(Option.some.inj ho1252), rfl, HM⟩ Sub.nil
 ·rintro _ w1268 ⟨rfl, rfl, HM⟩
  replace H := (thn_inr H)
  refine run_seq ?_
  refine run_region rfl ?_
  refine ox rfl rfl rfl rfl (ex_assign rfl rfl) ?_
  refine ops_nil (at_then ?_)
  refine run_ret ?_
  have hR := Option.some.inj H
  subst hR
  exact at_ret1 rfl rfl ⟨_, rfl, rfl, HM⟩
end Go.Proofs.YtpfaihnmonfkhaaGreatDoor.Zk
