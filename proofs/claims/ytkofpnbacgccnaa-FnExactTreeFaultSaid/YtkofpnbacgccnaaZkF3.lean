/- What functions of the program compute, each as a plain function, and that they do. Conditions: as each theorem states them. -/
import Derived.Test.YtkofpnbacgccnaaZkF2
namespace Go.Proofs.Ytkofpnbacgccnaa.Zk
open Go Go.RowKit Go.IntWalk Go.Proofs
set_option linter.unusedVariables false
set_option linter.unusedSimpArgs false
set_option maxRecDepth 100000
def spec_RuleFault.f (k : Nat) (x0 : Rule) : Option Int := ((spec_l2Fault.f k x0).bind fun t1315 => some t1315)
theorem spec_RuleFault.calls {k : Nat} {x0 : Rule} {p0_0 : Value} {w : World} (hp0_0 : RdS kInt w p0_0 x0.fKeys) {r : Int} (H : spec_RuleFault.f k x0 = some r) :
    Calls Try.prog 30 ([.agg #[p0_0, (.int .i64 x0.fNeed), (.int .i64 x0.fAfter)]] : List Value).toArray w (fun e w_ => ∃ v, e = .returned v ∧ v = (.int .i64 r) ∧ Mem w [] w_ []) := by
  have HM := Mem.start w
  refine calls_run (N := 4) Try.func30 rfl rfl rfl rfl ?_
  unfold spec_RuleFault.f at H
  refine run_seq ?_
  refine run_region rfl ?_
  refine ops_does rfl (guard_none rfl) rfl rfl (does_box (cs := [p0_0, .int .i64 x0.fNeed, .int .i64 x0.fAfter]) rfl rfl rfl HM) ?_
  rintro _ w1314 ⟨b1311, rfl, HM⟩
  refine ops_ex rfl (guard_none rfl) rfl rfl (ex_assign rfl rfl) ?_
  refine ops_nil ?_
  refine at_then ?_
  refine run_seq ?_
  obtain ⟨t1315, h1316, H⟩ := bind_some H
  refine run_region rfl ?_
  refine ops_does rfl (guard_none rfl) rfl rfl (does_callk rfl callok69 rfl (spec_l2Fault.calls (x0 := x0) (HM.box_at 0 rfl) (HM.rd hp0_0) h1316)) ?_
  rintro _ w1317 ⟨rfl, hn⟩
  replace HM : Mem w [] w1317 [box b1311 39 [p0_0, .int .i64 x0.fNeed, .int .i64 x0.fAfter]] := HM.call hn
  refine ops_ex rfl (guard_none rfl) rfl rfl (ex_assign rfl rfl) ?_
  refine ops_nil ?_
  refine at_then ?_
  refine run_ret ?_
  replace HM := (HM.front 0 rfl rfl).drop
  have hR := Option.some.inj H
  subst hR
  exact at_ret1 rfl rfl ⟨_, rfl, rfl, HM⟩

def impl_within.f (k : Nat) (x0 : Int) (x1 : Int) (x2 : Int) : Option Bool := some ((decide (x1 ≤ x0)) && (decide (x0 ≤ x2)))
theorem impl_within.calls {k : Nat} {x0 : Int} {x1 : Int} {x2 : Int}  {w : World}  {r : Bool} (H : impl_within.f k x0 x1 x2 = some r) :
    Calls Try.prog 58 ([.int .i64 x0, .int .i64 x1, .int .i64 x2] : List Value).toArray w (fun e w_ => ∃ v, e = .returned v ∧ v = (.bool r) ∧ Mem w [] w_ []) := by
  have HM := Mem.start w
  refine calls_run (N := 15) Try.func58 rfl rfl rfl rfl ?_
  unfold impl_within.f at H
  refine run_seq ?_
  refine run_region rfl ?_
  refine ops_ex rfl (guard_none rfl) rfl rfl (ex_assign rfl rfl) ?_
  refine ops_nil ?_
  refine at_then ?_
  refine run_seq ?_
  refine run_meet (fun ρ_ w_ => ρ_ = [(6, .bool ((decide (x1 ≤ x0)) && (decide (x0 ≤ x2))))] ∧ Mem w [] w_ []) ?_ ?_
  · skip
    refine run_region rfl ?_
    refine ops_ex rfl (guard_none rfl) rfl rfl (ex_move rfl rfl) ?_
    refine ops_ex rfl (guard_none rfl) rfl rfl (ex_move rfl rfl) ?_
    refine ops_ex rfl (guard_none rfl) rfl rfl (ex_geq rfl rfl rfl) ?_
    refine ops_ex rfl (guard_none rfl) rfl rfl (ex_move rfl rfl) ?_
    refine bool_cases (decide (x1 ≤ x0)) (fun hg1330 => ?_) (fun hg1330 => ?_)
    · skip
      refine ops_ex rfl (guard_on rfl rfl rfl hg1330) rfl rfl (ex_move rfl rfl) ?_
      refine ops_ex rfl (guard_on rfl rfl rfl hg1330) rfl rfl (ex_move rfl rfl) ?_
      refine ops_ex rfl (guard_on rfl rfl rfl hg1330) rfl rfl (ex_leq rfl rfl rfl) ?_
      refine ops_ex (v := .bool ((decide (x1 ≤ x0)) && (decide (x0 ≤ x2)))) rfl (guard_none rfl) rfl rfl (ex_pand_t rfl rfl hg1330 rfl) ?_
      refine ops_ex rfl (guard_none rfl) rfl rfl (ex_assign rfl rfl) ?_
      refine ops_nil ?_
      exact at_meet [(6, .bool ((decide (x1 ≤ x0)) && (decide (x0 ≤ x2))))] ⟨rfl, HM⟩ (Sub.cons rfl Sub.nil)
    · skip
      refine ops_off rfl (guard_off rfl rfl rfl hg1330) rfl rfl ?_
      refine ops_off rfl (guard_off rfl rfl rfl hg1330) rfl rfl ?_
      refine ops_off rfl (guard_off rfl rfl rfl hg1330) rfl rfl ?_
      have hg1331 : ((decide (x1 ≤ x0)) && (decide (x0 ≤ x2))) = false := by simp only [hg1330, Bool.and_true, Bool.true_and, Bool.and_false, Bool.false_and, Bool.or_true, Bool.true_or, Bool.or_false, Bool.false_or, Bool.not_true, Bool.not_false, Bool.not_not]
      refine ops_ex (v := .bool ((decide (x1 ≤ x0)) && (decide (x0 ≤ x2)))) rfl (guard_none rfl) rfl rfl (ex_pand_f rfl rfl hg1330) ?_
      refine ops_ex rfl (guard_none rfl) rfl rfl (ex_assign rfl rfl) ?_
      refine ops_nil ?_
      exact at_meet [(6, .bool ((decide (x1 ≤ x0)) && (decide (x0 ≤ x2))))] ⟨rfl, HM⟩ (Sub.cons rfl Sub.nil)
  · rintro _ w1332 ⟨rfl, HM⟩
    refine at_then ?_
    refine run_ret ?_
    have hR := Option.some.inj H
    subst hR
    exact at_ret1 rfl rfl ⟨_, rfl, rfl, HM⟩

def impl_isKey.f (k : Nat) (x0 : Int) : Option Bool := ((impl_within.f k x0 1 999).bind fun t1341 => some t1341)
theorem impl_isKey.calls {k : Nat} {x0 : Int}  {w : World}  {r : Bool} (H : impl_isKey.f k x0 = some r) :
    Calls Try.prog 74 ([.int .i64 x0] : List Value).toArray w (fun e w_ => ∃ v, e = .returned v ∧ v = (.bool r) ∧ Mem w [] w_ []) := by
  have HM := Mem.start w
  refine calls_run (N := 5) Try.func74 rfl rfl rfl rfl ?_
  unfold impl_isKey.f at H
  refine run_seq ?_
  refine run_region rfl ?_
  refine ops_ex rfl (guard_none rfl) rfl rfl (ex_assign rfl rfl) ?_
  refine ops_nil ?_
  refine at_then ?_
  refine run_seq ?_
  obtain ⟨t1341, h1342, H⟩ := bind_some H
  refine run_region rfl ?_
  refine ops_ex rfl (guard_none rfl) rfl rfl (ex_move rfl rfl) ?_
  refine ops_does rfl (guard_none rfl) rfl rfl (does_callk rfl callok58 rfl (impl_within.calls (x0 := x0) (x1 := 1) (x2 := 999) h1342)) ?_
  rintro _ w1343 ⟨rfl, hn⟩
  replace HM : Mem w [] w1343 [] := HM.call hn
  refine ops_ex rfl (guard_none rfl) rfl rfl (ex_assign rfl rfl) ?_
  refine ops_nil ?_
  refine at_then ?_
  refine run_ret ?_
  have hR := Option.some.inj H
  subst hR
  exact at_ret1 rfl rfl ⟨_, rfl, rfl, HM⟩

def impl_areKeys_1.f (k : Nat) (x0 : Int) : Option Bool := ((impl_isKey.f k x0).bind fun t1346 => some (!t1346))
theorem impl_areKeys_1.calls {k : Nat} {x0 : Int}  {w : World}  {r : Bool} (H : impl_areKeys_1.f k x0 = some r) :
    Calls Try.prog 107 ([.int .i64 x0] : List Value).toArray w (fun e w_ => ∃ v, e = .returned v ∧ v = (.bool r) ∧ Mem w [] w_ []) := by
  have HM := Mem.start w
  refine calls_run (N := 6) Try.func107 rfl rfl rfl rfl ?_
  unfold impl_areKeys_1.f at H
  refine run_seq ?_
  refine run_region rfl ?_
  refine ops_ex rfl (guard_none rfl) rfl rfl (ex_assign rfl rfl) ?_
  refine ops_nil ?_
  refine at_then ?_
  refine run_seq ?_
  obtain ⟨t1346, h1347, H⟩ := bind_some H
  refine run_region rfl ?_
  refine ops_ex rfl (guard_none rfl) rfl rfl (ex_move rfl rfl) ?_
  refine ops_does rfl (guard_none rfl) rfl rfl (does_callk rfl callok74 rfl (impl_isKey.calls (x0 := x0) h1347)) ?_
  rintro _ w1348 ⟨rfl, hn⟩
  replace HM : Mem w [] w1348 [] := HM.call hn
  refine ops_ex rfl (guard_none rfl) rfl rfl (ex_not rfl rfl) ?_
  refine ops_ex rfl (guard_none rfl) rfl rfl (ex_assign rfl rfl) ?_
  refine ops_nil ?_
  refine at_then ?_
  refine run_ret ?_
  have hR := Option.some.inj H
  subst hR
  exact at_ret1 rfl rfl ⟨_, rfl, rfl, HM⟩

def slices_IndexFunc_int64.l0 (x0 : List Int) : Nat → Int → Option (Int ⊕ Unit)
  | 0, _ => none
  | k + 1, a1394 => (bif (decide (a1394 < (x0.length : Int))) then (chk (idxOk a1394 x0.length) ((impl_areKeys_1.f k (gt x0 a1394)).bind fun t1406 => (bif t1406 then some (.inl a1394) else slices_IndexFunc_int64.l0 x0 k (wrap64 (a1394 + 1))))) else some (.inr ()))
theorem slices_IndexFunc_int64.l0_z (x0 : List Int) (a1394 : Int) : slices_IndexFunc_int64.l0 x0 0 a1394 = none := rfl
theorem slices_IndexFunc_int64.l0_s (x0 : List Int) (k : Nat) (a1394 : Int) : slices_IndexFunc_int64.l0 x0 (k + 1) a1394 = (bif (decide (a1394 < (x0.length : Int))) then (chk (idxOk a1394 x0.length) ((impl_areKeys_1.f k (gt x0 a1394)).bind fun t1406 => (bif t1406 then some (.inl a1394) else slices_IndexFunc_int64.l0 x0 k (wrap64 (a1394 + 1))))) else some (.inr ())) := rfl
def slices_IndexFunc_int64.f (k : Nat) (x0 : List Int) : Option Int := ((slices_IndexFunc_int64.l0 x0 k 0).bind fun o1386 => thn o1386 (fun r => some r) (fun _ => some (-1)))
theorem slices_IndexFunc_int64.calls {k : Nat} {x0 : List Int} {p0 : Value} {w : World} (hp0 : RdS kInt w p0 x0) {r : Int} (H : slices_IndexFunc_int64.f k x0 = some r) :
    Calls Try.prog 120 ([p0, .func (.func 107) #[] #[]] : List Value).toArray w (fun e w_ => ∃ v, e = .returned v ∧ v = (.int .i64 r) ∧ Mem w [] w_ []) := by
  have HM := Mem.start w
  refine calls_run (N := 19) Try.func120 rfl rfl rfl rfl ?_
  unfold slices_IndexFunc_int64.f at H
  refine run_seq ?_
  refine run_region rfl ?_
  refine ops_ex rfl (guard_none rfl) rfl rfl (ex_assign rfl rfl) ?_
  refine ops_nil ?_
  refine at_then ?_
  obtain ⟨o1386, ho1387, H⟩ := bind_some H
  refine run_mid (fun ρ_ w_ => Sum.inr () = o1386 ∧ ρ_ = [] ∧ Mem w [] w_ []) ?_ ?_
  · skip
    refine run_seq ?_
    refine run_region rfl ?_
    refine ops_ex rfl (guard_none rfl) rfl rfl (ex_move rfl rfl) ?_
    refine ops_ex rfl (guard_none rfl) rfl rfl (ex_len (d := kInt) (xs := x0) rfl rfl Try.underlying34 hp0) ?_
    refine ops_ex rfl (guard_none rfl) rfl rfl (ex_move rfl rfl) ?_
    refine ops_nil ?_
    refine at_then ?_
    refine run_block ?_
    refine run_loop (fun k_ ρ_ w_ => ∃ a1394 : Int, slices_IndexFunc_int64.l0 x0 k_ a1394 = some o1386 ∧ ρ_ = [(0, p0), (1, .func (.func 107) #[] #[]), (7, .int .i64 (x0.length : Int)), (8, .int .i64 a1394)] ∧ Mem w [] w_ []) k (ρ1 := [(0, p0), (1, .func (.func 107) #[] #[]), (7, .int .i64 (x0.length : Int)), (8, .int .i64 0)]) ⟨_, ho1387, rfl, HM⟩ (Sub.cons rfl (Sub.cons rfl (Sub.cons rfl (Sub.cons rfl Sub.nil)))) ?_
    clear HM ho1387
    rintro k1401 _ w1402 ⟨a1394, ho1387, rfl, HM⟩
    obtain _ | k1401 := k1401
    · exact nomatch ((slices_IndexFunc_int64.l0_z x0 a1394).symm.trans ho1387)
    replace ho1387 := (slices_IndexFunc_int64.l0_s x0 k1401 a1394).symm.trans ho1387
    refine run_seq ?_
    refine run_region rfl ?_
    refine ops_ex rfl (guard_none rfl) rfl rfl (ex_lss rfl rfl rfl) ?_
    refine ops_nil ?_
    refine at_then ?_
    refine run_seq ?_
    refine run_cond (b := (decide (a1394 < (x0.length : Int)))) rfl (fun hb1403 => ?_) (fun hb1403 => ?_)
    · replace ho1387 := cond_t hb1403 ho1387
      refine run_skip ?_
      refine at_then ?_
      refine run_seq ?_
      refine run_block ?_
      refine run_seq ?_
      refine run_region rfl ?_
      refine ops_ex rfl (guard_none rfl) rfl rfl (ex_move rfl rfl) ?_
      refine ops_ex rfl (guard_none rfl) rfl rfl (ex_assign rfl rfl) ?_
      refine ops_nil ?_
      refine at_then ?_
      refine run_seq ?_
      obtain ⟨e1404, ho1387⟩ := chk_some ho1387
      obtain ⟨t1406, h1407, ho1387⟩ := bind_some ho1387
      refine run_region rfl ?_
      refine ops_ex rfl (guard_none rfl) rfl rfl (ex_move rfl rfl) ?_
      refine ops_ex rfl (guard_none rfl) rfl rfl (ex_move rfl rfl) ?_
      refine ops_ex rfl (guard_none rfl) rfl rfl (ex_move rfl rfl) ?_
      have hc1405 : CellsAt _ (sb p0) (so p0 + (a1394).toNat * 1) [(.int .i64 (gt x0 a1394))] := rd_plain hp0 e1404
      refine ops_ex rfl (guard_none rfl) rfl rfl (ex_indexAddr (d := kInt) rfl rfl rfl Try.underlying34 tsz2 hp0 (idx_lo e1404) (idx_hi e1404)) ?_
      refine ops_ex rfl (guard_none rfl) rfl rfl (ex_load1 rfl rfl Try.underlying2 rfl ((HM.at_ hc1405) 0 _ rfl)) ?_
      refine ops_does rfl (guard_none rfl) rfl rfl (does_callvk rfl callok107 rfl rfl rfl (impl_areKeys_1.calls (x0 := (gt x0 a1394)) h1407)) ?_
      rintro _ w1408 ⟨rfl, hn⟩
      replace HM : Mem w [] w1408 [] := HM.call hn
      refine ops_nil ?_
      refine at_then ?_
      refine run_cond (b := t1406) rfl (fun hb1409 => ?_) (fun hb1409 => ?_)
      · replace ho1387 := cond_t hb1409 ho1387
        refine run_seq ?_
        refine run_region rfl ?_
        refine ops_ex rfl (guard_none rfl) rfl rfl (ex_move rfl rfl) ?_
        refine ops_ex rfl (guard_none rfl) rfl rfl (ex_assign rfl rfl) ?_
        refine ops_nil ?_
        refine at_then ?_
        refine run_ret ?_
        refine at_block_ret ?_
        refine at_then_ret ?_
        refine at_then_ret ?_
        refine at_block_ret ?_
        refine at_then_ret ?_
        have hR := Option.some.inj ho1387
        subst hR
        have hT := thn_inl H
        have hR := Option.some.inj hT
        subst hR
        exact at_ret1 rfl rfl ⟨_, rfl, rfl, HM⟩
      · replace ho1387 := cond_f hb1409 ho1387
        refine run_skip ?_
        refine at_block ?_
        refine at_then ?_
        refine run_region rfl ?_
        refine ops_ex rfl (guard_none rfl) rfl rfl (ex_add rfl rfl rfl) ?_
        refine ops_ex rfl (guard_none rfl) rfl rfl (ex_move rfl rfl) ?_
        refine ops_nil ?_
        exact at_again k1401 (ρ1 := [(0, p0), (1, .func (.func 107) #[] #[]), (7, .int .i64 (x0.length : Int)), (8, .int .i64 (wrap64 (a1394 + 1)))]) (Nat.lt_succ_self _) ⟨_, ho1387, rfl, HM⟩ (Sub.cons rfl (Sub.cons rfl (Sub.cons rfl (Sub.cons rfl Sub.nil))))
    · replace ho1387 := cond_f hb1403 ho1387
      refine run_exit ?_
      refine at_then_exit ?_
      refine at_then_exit ?_
      refine at_block_exit ?_
      exact at_mid (ρ' := []) ⟨(Option.some.inj ho1387), rfl, HM⟩ Sub.nil
  · rintro _ w1410 ⟨rfl, rfl, HM⟩
    replace H := (thn_inr H)
    refine run_seq ?_
    refine run_region rfl ?_
    refine ops_ex rfl (guard_none rfl) rfl rfl (ex_assign rfl rfl) ?_
    refine ops_nil ?_
    refine at_then ?_
    refine run_ret ?_
    have hR := Option.some.inj H
    subst hR
    exact at_ret1 rfl rfl ⟨_, rfl, rfl, HM⟩

def slices_ContainsFunc_int64.f (k : Nat) (x0 : List Int) : Option Bool := ((slices_IndexFunc_int64.f k x0).bind fun t1413 => some (decide (0 ≤ t1413)))
theorem slices_ContainsFunc_int64.calls {k : Nat} {x0 : List Int} {p0 : Value} {w : World} (hp0 : RdS kInt w p0 x0) {r : Bool} (H : slices_ContainsFunc_int64.f k x0 = some r) :
    Calls Try.prog 106 ([p0, .func (.func 107) #[] #[]] : List Value).toArray w (fun e w_ => ∃ v, e = .returned v ∧ v = (.bool r) ∧ Mem w [] w_ []) := by
  have HM := Mem.start w
  refine calls_run (N := 9) Try.func106 rfl rfl rfl rfl ?_
  unfold slices_ContainsFunc_int64.f at H
  refine run_seq ?_
  refine run_region rfl ?_
  refine ops_ex rfl (guard_none rfl) rfl rfl (ex_assign rfl rfl) ?_
  refine ops_nil ?_
  refine at_then ?_
  refine run_seq ?_
  obtain ⟨t1413, h1414, H⟩ := bind_some H
  refine run_region rfl ?_
  refine ops_ex rfl (guard_none rfl) rfl rfl (ex_move rfl rfl) ?_
  refine ops_ex rfl (guard_none rfl) rfl rfl (ex_move rfl rfl) ?_
  refine ops_does rfl (guard_none rfl) rfl rfl (does_callk rfl callok120 rfl (slices_IndexFunc_int64.calls (x0 := x0) (HM.rd hp0) h1414)) ?_
  rintro _ w1415 ⟨rfl, hn⟩
  replace HM : Mem w [] w1415 [] := HM.call hn
  refine ops_ex rfl (guard_none rfl) rfl rfl (ex_geq rfl rfl rfl) ?_
  refine ops_ex rfl (guard_none rfl) rfl rfl (ex_assign rfl rfl) ?_
  refine ops_nil ?_
  refine at_then ?_
  refine run_ret ?_
  have hR := Option.some.inj H
  subst hR
  exact at_ret1 rfl rfl ⟨_, rfl, rfl, HM⟩

def impl_areKeys.f (k : Nat) (x0 : List Int) : Option Bool := ((slices_ContainsFunc_int64.f k x0).bind fun t1418 => some (!t1418))
theorem impl_areKeys.calls {k : Nat} {x0 : List Int} {p0 : Value} {w : World} (hp0 : RdS kInt w p0 x0) {r : Bool} (H : impl_areKeys.f k x0 = some r) :
    Calls Try.prog 70 ([p0] : List Value).toArray w (fun e w_ => ∃ v, e = .returned v ∧ v = (.bool r) ∧ Mem w [] w_ []) := by
  have HM := Mem.start w
  refine calls_run (N := 6) Try.func70 rfl rfl rfl rfl ?_
  unfold impl_areKeys.f at H
  refine run_seq ?_
  refine run_region rfl ?_
  refine ops_ex rfl (guard_none rfl) rfl rfl (ex_assign rfl rfl) ?_
  refine ops_nil ?_
  refine at_then ?_
  refine run_seq ?_
  obtain ⟨t1418, h1419, H⟩ := bind_some H
  refine run_region rfl ?_
  refine ops_ex rfl (guard_none rfl) rfl rfl (ex_move rfl rfl) ?_
  refine ops_does rfl (guard_none rfl) rfl rfl (does_callk rfl callok106 rfl (slices_ContainsFunc_int64.calls (x0 := x0) (HM.rd hp0) h1419)) ?_
  rintro _ w1420 ⟨rfl, hn⟩
  replace HM : Mem w [] w1420 [] := HM.call hn
  refine ops_ex rfl (guard_none rfl) rfl rfl (ex_not rfl rfl) ?_
  refine ops_ex rfl (guard_none rfl) rfl rfl (ex_assign rfl rfl) ?_
  refine ops_nil ?_
  refine at_then ?_
  refine run_ret ?_
  have hR := Option.some.inj H
  subst hR
  exact at_ret1 rfl rfl ⟨_, rfl, rfl, HM⟩

def impl_isHeight.f (k : Nat) (x0 : Int) : Option Bool := ((impl_within.f k x0 0 999).bind fun t1427 => some t1427)
theorem impl_isHeight.calls {k : Nat} {x0 : Int}  {w : World}  {r : Bool} (H : impl_isHeight.f k x0 = some r) :
    Calls Try.prog 71 ([.int .i64 x0] : List Value).toArray w (fun e w_ => ∃ v, e = .returned v ∧ v = (.bool r) ∧ Mem w [] w_ []) := by
  have HM := Mem.start w
  refine calls_run (N := 5) Try.func71 rfl rfl rfl rfl ?_
  unfold impl_isHeight.f at H
  refine run_seq ?_
  refine run_region rfl ?_
  refine ops_ex rfl (guard_none rfl) rfl rfl (ex_assign rfl rfl) ?_
  refine ops_nil ?_
  refine at_then ?_
  refine run_seq ?_
  obtain ⟨t1427, h1428, H⟩ := bind_some H
  refine run_region rfl ?_
  refine ops_ex rfl (guard_none rfl) rfl rfl (ex_move rfl rfl) ?_
  refine ops_does rfl (guard_none rfl) rfl rfl (does_callk rfl callok58 rfl (impl_within.calls (x0 := x0) (x1 := 0) (x2 := 999) h1428)) ?_
  rintro _ w1429 ⟨rfl, hn⟩
  replace HM : Mem w [] w1429 [] := HM.call hn
  refine ops_ex rfl (guard_none rfl) rfl rfl (ex_assign rfl rfl) ?_
  refine ops_nil ?_
  refine at_then ?_
  refine run_ret ?_
  have hR := Option.some.inj H
  subst hR
  exact at_ret1 rfl rfl ⟨_, rfl, rfl, HM⟩

def impl_isRising.l0 (x0 : List Int) : Nat → Int → Option (Bool ⊕ Unit)
  | 0, _ => none
  | k + 1, a1481 => (bif (decide (a1481 < (x0.length : Int))) then (chk (idxOk a1481 x0.length) (chk (idxOk (wrap64 (a1481 - 1)) x0.length) (bif (decide ((gt x0 a1481) ≤ (gt x0 (wrap64 (a1481 - 1))))) then some (.inl false) else impl_isRising.l0 x0 k (wrap64 (a1481 + 1))))) else some (.inr ()))
theorem impl_isRising.l0_z (x0 : List Int) (a1481 : Int) : impl_isRising.l0 x0 0 a1481 = none := rfl
theorem impl_isRising.l0_s (x0 : List Int) (k : Nat) (a1481 : Int) : impl_isRising.l0 x0 (k + 1) a1481 = (bif (decide (a1481 < (x0.length : Int))) then (chk (idxOk a1481 x0.length) (chk (idxOk (wrap64 (a1481 - 1)) x0.length) (bif (decide ((gt x0 a1481) ≤ (gt x0 (wrap64 (a1481 - 1))))) then some (.inl false) else impl_isRising.l0 x0 k (wrap64 (a1481 + 1))))) else some (.inr ())) := rfl
def impl_isRising.f (k : Nat) (x0 : List Int) : Option Bool := ((impl_isRising.l0 x0 k 1).bind fun o1473 => thn o1473 (fun r => some r) (fun _ => some true))
theorem impl_isRising.calls {k : Nat} {x0 : List Int} {p0 : Value} {w : World} (hp0 : RdS kInt w p0 x0) {r : Bool} (H : impl_isRising.f k x0 = some r) :
    Calls Try.prog 72 ([p0] : List Value).toArray w (fun e w_ => ∃ v, e = .returned v ∧ v = (.bool r) ∧ Mem w [] w_ []) := by
  have HM := Mem.start w
  refine calls_run (N := 20) Try.func72 rfl rfl rfl rfl ?_
  unfold impl_isRising.f at H
  refine run_seq ?_
  refine run_region rfl ?_
  refine ops_ex rfl (guard_none rfl) rfl rfl (ex_assign rfl rfl) ?_
  refine ops_nil ?_
  refine at_then ?_
  obtain ⟨o1473, ho1474, H⟩ := bind_some H
  refine run_mid (fun ρ_ w_ => Sum.inr () = o1473 ∧ ρ_ = [] ∧ Mem w [] w_ []) ?_ ?_
  · skip
    refine run_seq ?_
    refine run_region rfl ?_
    refine ops_ex rfl (guard_none rfl) rfl rfl (ex_assign rfl rfl) ?_
    refine ops_nil ?_
    refine at_then ?_
    refine run_block ?_
    refine run_loop (fun k_ ρ_ w_ => ∃ a1481 : Int, impl_isRising.l0 x0 k_ a1481 = some o1473 ∧ ρ_ = [(0, p0), (3, .int .i64 a1481)] ∧ Mem w [] w_ []) k (ρ1 := [(0, p0), (3, .int .i64 1)]) ⟨_, ho1474, rfl, HM⟩ (Sub.cons rfl (Sub.cons rfl Sub.nil)) ?_
    clear HM ho1474
    rintro k1488 _ w1489 ⟨a1481, ho1474, rfl, HM⟩
    obtain _ | k1488 := k1488
    · exact nomatch ((impl_isRising.l0_z x0 a1481).symm.trans ho1474)
    replace ho1474 := (impl_isRising.l0_s x0 k1488 a1481).symm.trans ho1474
    refine run_seq ?_
    refine run_seq ?_
    refine run_region rfl ?_
    refine ops_ex rfl (guard_none rfl) rfl rfl (ex_move rfl rfl) ?_
    refine ops_ex rfl (guard_none rfl) rfl rfl (ex_move rfl rfl) ?_
    refine ops_ex rfl (guard_none rfl) rfl rfl (ex_len (d := kInt) (xs := x0) rfl rfl Try.underlying34 hp0) ?_
    refine ops_ex rfl (guard_none rfl) rfl rfl (ex_lss rfl rfl rfl) ?_
    refine ops_nil ?_
    refine at_then ?_
    refine run_cond (b := (decide (a1481 < (x0.length : Int)))) rfl (fun hb1490 => ?_) (fun hb1490 => ?_)
    · replace ho1474 := cond_t hb1490 ho1474
      refine run_skip ?_
      refine at_then ?_
      refine run_seq ?_
      refine run_block ?_
      refine run_seq ?_
      obtain ⟨e1491, ho1474⟩ := chk_some ho1474
      obtain ⟨e1493, ho1474⟩ := chk_some ho1474
      refine run_draw (fun w_ => Mem w [] w_ []) mixed rfl rfl ?_
      replace HM := HM.grow (fr_drew _)
      have hS := Mem.suf (M := []) HM
      refine drw_take (i := 0) (l' := #[true, false, false, false, false, false, false, false, false, false]) rfl (guard_none rfl) rfl rfl (by kernel_rfl) (fun w_ hS_ => (ex_move rfl rfl)) hS ?_
      refine drw_take (i := 1) (l' := #[true, true, false, false, false, false, false, false, false, false]) rfl (guard_none rfl) rfl rfl (by kernel_rfl) (fun w_ hS_ => (ex_move rfl rfl)) hS ?_
      have hc1492 : CellsAt _ (sb p0) (so p0 + (a1481).toNat * 1) [(.int .i64 (gt x0 a1481))] := rd_plain hp0 e1491
      refine drw_take (i := 2) (l' := #[true, true, true, false, false, false, false, false, false, false]) rfl (guard_none rfl) rfl rfl (by kernel_rfl) (fun w_ hS_ => (ex_indexAddr (d := kInt) rfl rfl rfl Try.underlying34 tsz2 hp0 (idx_lo e1491) (idx_hi e1491))) hS ?_
      refine drw_take (i := 3) (l' := #[true, true, true, true, false, false, false, false, false, false]) rfl (guard_none rfl) rfl rfl (by kernel_rfl) (fun w_ hS_ => (ex_load1 rfl rfl Try.underlying2 rfl ((hS_.at_ hc1492) 0 _ rfl))) hS ?_
      refine drw_take (i := 4) (l' := #[true, true, true, true, true, false, false, false, false, false]) rfl (guard_none rfl) rfl rfl (by kernel_rfl) (fun w_ hS_ => (ex_move rfl rfl)) hS ?_
      refine drw_take (i := 5) (l' := #[true, true, true, true, true, true, false, false, false, false]) rfl (guard_none rfl) rfl rfl (by kernel_rfl) (fun w_ hS_ => (ex_move rfl rfl)) hS ?_
      refine drw_take (i := 6) (l' := #[true, true, true, true, true, true, true, false, false, false]) rfl (guard_none rfl) rfl rfl (by kernel_rfl) (fun w_ hS_ => (ex_sub rfl rfl rfl)) hS ?_
      have hc1494 : CellsAt _ (sb p0) (so p0 + (wrap64 (a1481 - 1)).toNat * 1) [(.int .i64 (gt x0 (wrap64 (a1481 - 1))))] := rd_plain hp0 e1493
      refine drw_take (i := 7) (l' := #[true, true, true, true, true, true, true, true, false, false]) rfl (guard_none rfl) rfl rfl (by kernel_rfl) (fun w_ hS_ => (ex_indexAddr (d := kInt) rfl rfl rfl Try.underlying34 tsz2 hp0 (idx_lo e1493) (idx_hi e1493))) hS ?_
      refine drw_take (i := 8) (l' := #[true, true, true, true, true, true, true, true, true, false]) rfl (guard_none rfl) rfl rfl (by kernel_rfl) (fun w_ hS_ => (ex_load1 rfl rfl Try.underlying2 rfl ((hS_.at_ hc1494) 0 _ rfl))) hS ?_
      refine drw_take (i := 9) (l' := #[true, true, true, true, true, true, true, true, true, true]) rfl (guard_none rfl) rfl rfl (by kernel_rfl) (fun w_ hS_ => (ex_leq rfl rfl rfl)) hS ?_
      refine drw_done (by kernel_rfl) ?_
      refine at_then ?_
      refine run_cond (b := (decide ((gt x0 a1481) ≤ (gt x0 (wrap64 (a1481 - 1)))))) rfl (fun hb1495 => ?_) (fun hb1495 => ?_)
      · replace ho1474 := cond_t hb1495 ho1474
        refine run_seq ?_
        refine run_region rfl ?_
        refine ops_ex rfl (guard_none rfl) rfl rfl (ex_assign rfl rfl) ?_
        refine ops_nil ?_
        refine at_then ?_
        refine run_ret ?_
        refine at_block_ret ?_
        refine at_then_ret ?_
        refine at_then_ret ?_
        refine at_block_ret ?_
        refine at_then_ret ?_
        have hR := Option.some.inj ho1474
        subst hR
        have hT := thn_inl H
        have hR := Option.some.inj hT
        subst hR
        exact at_ret1 rfl rfl ⟨_, rfl, rfl, HM⟩
      · replace ho1474 := cond_f hb1495 ho1474
        refine run_skip ?_
        refine at_block ?_
        refine at_then ?_
        refine run_region rfl ?_
        refine ops_ex rfl (guard_none rfl) rfl rfl (ex_move rfl rfl) ?_
        refine ops_ex rfl (guard_none rfl) rfl rfl (ex_add rfl rfl rfl) ?_
        refine ops_ex rfl (guard_none rfl) rfl rfl (ex_assign rfl rfl) ?_
        refine ops_nil ?_
        exact at_again k1488 (ρ1 := [(0, p0), (3, .int .i64 (wrap64 (a1481 + 1)))]) (Nat.lt_succ_self _) ⟨_, ho1474, rfl, HM⟩ (Sub.cons rfl (Sub.cons rfl Sub.nil))
    · replace ho1474 := cond_f hb1490 ho1474
      refine run_exit ?_
      refine at_then_exit ?_
      refine at_then_exit ?_
      refine at_block_exit ?_
      exact at_mid (ρ' := []) ⟨(Option.some.inj ho1474), rfl, HM⟩ Sub.nil
  · rintro _ w1496 ⟨rfl, rfl, HM⟩
    replace H := (thn_inr H)
    refine run_seq ?_
    refine run_region rfl ?_
    refine ops_ex rfl (guard_none rfl) rfl rfl (ex_assign rfl rfl) ?_
    refine ops_nil ?_
    refine at_then ?_
    refine run_ret ?_
    have hR := Option.some.inj H
    subst hR
    exact at_ret1 rfl rfl ⟨_, rfl, rfl, HM⟩

def impl_RuleFault.f (k : Nat) (x0 : Rule) : Option Int := ((impl_within.f k (x0.fKeys.length : Int) 1 3).bind fun t1504 => (bif !t1504 then some 2 else ((impl_areKeys.f k x0.fKeys).bind fun t1508 => ((bif (!(!t1508)) then impl_within.f k x0.fNeed 1 (x0.fKeys.length : Int) else some default).bind fun t1510 => ((bif (!((!t1508) || (!t1510))) then impl_isHeight.f k x0.fAfter else some default).bind fun t1512 => (bif (((!t1508) || (!t1510)) || (!t1512)) then some 3 else ((impl_isRising.f k x0.fKeys).bind fun t1524 => (bif !t1524 then some 1 else some 0))))))))
theorem impl_RuleFault.calls {k : Nat} {x0 : Rule} {p0_0 : Value} {w : World} (hp0_0 : RdS kInt w p0_0 x0.fKeys) {r : Int} (H : impl_RuleFault.f k x0 = some r) :
    Calls Try.prog 31 ([.agg #[p0_0, (.int .i64 x0.fNeed), (.int .i64 x0.fAfter)]] : List Value).toArray w (fun e w_ => ∃ v, e = .returned v ∧ v = (.int .i64 r) ∧ Mem w [] w_ []) := by
  have HM := Mem.start w
  refine calls_run (N := 34) Try.func31 rfl rfl rfl rfl ?_
  unfold impl_RuleFault.f at H
  refine run_seq ?_
  refine run_region rfl ?_
  refine ops_does rfl (guard_none rfl) rfl rfl (does_box (cs := [p0_0, .int .i64 x0.fNeed, .int .i64 x0.fAfter]) rfl rfl rfl HM) ?_
  rintro _ w1503 ⟨b1500, rfl, HM⟩
  refine ops_ex rfl (guard_none rfl) rfl rfl (ex_assign rfl rfl) ?_
  refine ops_nil ?_
  refine at_then ?_
  refine run_seq ?_
  refine run_region rfl ?_
  refine ops_ex rfl (guard_none rfl) rfl rfl (ex_fieldAddr (off' := 0) rfl rfl Try.underlying39 rfl tsz34 rfl) ?_
  refine ops_ex rfl (guard_none rfl) rfl rfl (ex_load1 rfl rfl Try.underlying34 rfl ((HM.box_at 0 rfl) 0 _ rfl)) ?_
  refine ops_ex rfl (guard_none rfl) rfl rfl (ex_len (d := kInt) (xs := x0.fKeys) rfl rfl Try.underlying34 hp0_0) ?_
  refine ops_ex rfl (guard_none rfl) rfl rfl (ex_assign rfl rfl) ?_
  refine ops_nil ?_
  refine at_then ?_
  refine run_seq ?_
  refine run_block ?_
  refine run_seq ?_
  obtain ⟨t1504, h1505, H⟩ := bind_some H
  refine run_region rfl ?_
  refine ops_ex rfl (guard_none rfl) rfl rfl (ex_move rfl rfl) ?_
  refine ops_does rfl (guard_none rfl) rfl rfl (does_callk rfl callok58 rfl (impl_within.calls (x0 := (x0.fKeys.length : Int)) (x1 := 1) (x2 := 3) h1505)) ?_
  rintro _ w1506 ⟨rfl, hn⟩
  replace HM : Mem w [] w1506 [box b1500 39 [p0_0, .int .i64 x0.fNeed, .int .i64 x0.fAfter]] := HM.call hn
  refine ops_ex rfl (guard_none rfl) rfl rfl (ex_not rfl rfl) ?_
  refine ops_ex rfl (guard_none rfl) rfl rfl (ex_assign rfl rfl) ?_
  refine ops_nil ?_
  refine at_then ?_
  refine run_cond (b := !t1504) rfl (fun hb1507 => ?_) (fun hb1507 => ?_)
  · replace H := cond_t hb1507 H
    refine run_seq ?_
    refine run_region rfl ?_
    refine ops_ex rfl (guard_none rfl) rfl rfl (ex_assign rfl rfl) ?_
    refine ops_nil ?_
    refine at_then ?_
    refine run_ret ?_
    refine at_block_ret ?_
    refine at_then_ret ?_
    replace HM := (HM.front 0 rfl rfl).drop
    have hR := Option.some.inj H
    subst hR
    exact at_ret1 rfl rfl ⟨_, rfl, rfl, HM⟩
  · replace H := cond_f hb1507 H
    refine run_seq ?_
    obtain ⟨t1508, h1509, H⟩ := bind_some H
    obtain ⟨t1510, h1511, H⟩ := bind_some H
    obtain ⟨t1512, h1513, H⟩ := bind_some H
    refine run_meet (fun ρ_ w_ => ρ_ = [(1, .pointer (some ⟨b1500, 0, none⟩)), (11, .bool (((!t1508) || (!t1510)) || (!t1512)))] ∧ Mem w [] w_ [box b1500 39 [p0_0, .int .i64 x0.fNeed, .int .i64 x0.fAfter]]) ?_ ?_
    · skip
      refine run_region rfl ?_
      refine ops_ex rfl (guard_none rfl) rfl rfl (ex_fieldAddr (off' := 0) rfl rfl Try.underlying39 rfl tsz34 rfl) ?_
      refine ops_ex rfl (guard_none rfl) rfl rfl (ex_load1 rfl rfl Try.underlying34 rfl ((HM.box_at 0 rfl) 0 _ rfl)) ?_
      refine ops_does rfl (guard_none rfl) rfl rfl (does_callk rfl callok70 rfl (impl_areKeys.calls (x0 := x0.fKeys) (HM.rd hp0_0) h1509)) ?_
      rintro _ w1514 ⟨rfl, hn⟩
      replace HM : Mem w [] w1514 [box b1500 39 [p0_0, .int .i64 x0.fNeed, .int .i64 x0.fAfter]] := HM.call hn
      refine ops_ex rfl (guard_none rfl) rfl rfl (ex_not rfl rfl) ?_
      refine ops_ex rfl (guard_none rfl) rfl rfl (ex_move rfl rfl) ?_
      refine bool_cases (!t1508) (fun hg1515 => ?_) (fun hg1515 => ?_)
      · skip
        refine ops_off rfl (guard_off rfl rfl rfl hg1515) rfl rfl ?_
        refine ops_off rfl (guard_off rfl rfl rfl hg1515) rfl rfl ?_
        refine ops_off rfl (guard_off rfl rfl rfl hg1515) rfl rfl ?_
        refine ops_off rfl (guard_off rfl rfl rfl hg1515) rfl rfl ?_
        refine ops_off rfl (guard_off rfl rfl rfl hg1515) rfl rfl ?_
        have hg1516 : ((!t1508) || (!t1510)) = true := by simp only [hg1515, Bool.and_true, Bool.true_and, Bool.and_false, Bool.false_and, Bool.or_true, Bool.true_or, Bool.or_false, Bool.false_or, Bool.not_true, Bool.not_false, Bool.not_not]
        refine ops_ex (v := .bool ((!t1508) || (!t1510))) rfl (guard_none rfl) rfl rfl (ex_por_t rfl rfl hg1515) ?_
        refine ops_ex rfl (guard_none rfl) rfl rfl (ex_move rfl rfl) ?_
        refine ops_off rfl (guard_off rfl rfl rfl hg1516) rfl rfl ?_
        refine ops_off rfl (guard_off rfl rfl rfl hg1516) rfl rfl ?_
        refine ops_off rfl (guard_off rfl rfl rfl hg1516) rfl rfl ?_
        refine ops_off rfl (guard_off rfl rfl rfl hg1516) rfl rfl ?_
        have hg1517 : (((!t1508) || (!t1510)) || (!t1512)) = true := by simp only [hg1516, Bool.and_true, Bool.true_and, Bool.and_false, Bool.false_and, Bool.or_true, Bool.true_or, Bool.or_false, Bool.false_or, Bool.not_true, Bool.not_false, Bool.not_not]
        refine ops_ex (v := .bool (((!t1508) || (!t1510)) || (!t1512))) rfl (guard_none rfl) rfl rfl (ex_por_t rfl rfl hg1516) ?_
        refine ops_ex rfl (guard_none rfl) rfl rfl (ex_assign rfl rfl) ?_
        refine ops_nil ?_
        exact at_meet [(1, .pointer (some ⟨b1500, 0, none⟩)), (11, .bool (((!t1508) || (!t1510)) || (!t1512)))] ⟨rfl, HM⟩ (Sub.cons rfl (Sub.cons rfl Sub.nil))
      · skip
        refine ops_ex rfl (guard_on rfl rfl rfl hg1515) rfl rfl (ex_fieldAddr (off' := 1) rfl rfl Try.underlying39 rfl tsz2 rfl) ?_
        refine ops_ex rfl (guard_on rfl rfl rfl hg1515) rfl rfl (ex_load1 rfl rfl Try.underlying2 rfl ((HM.box_at 0 rfl) 1 _ rfl)) ?_
        refine ops_ex rfl (guard_on rfl rfl rfl hg1515) rfl rfl (ex_move rfl rfl) ?_
        refine ops_does rfl (guard_on rfl rfl rfl hg1515) rfl rfl (does_callk rfl callok58 rfl (impl_within.calls (x0 := x0.fNeed) (x1 := 1) (x2 := (x0.fKeys.length : Int)) (cond_t (not_mk hg1515) h1511))) ?_
        rintro _ w1518 ⟨rfl, hn⟩
        replace HM : Mem w [] w1518 [box b1500 39 [p0_0, .int .i64 x0.fNeed, .int .i64 x0.fAfter]] := HM.call hn
        refine ops_ex rfl (guard_on rfl rfl rfl hg1515) rfl rfl (ex_not rfl rfl) ?_
        refine ops_ex (v := .bool ((!t1508) || (!t1510))) rfl (guard_none rfl) rfl rfl (ex_por_f rfl rfl hg1515 rfl) ?_
        refine ops_ex rfl (guard_none rfl) rfl rfl (ex_move rfl rfl) ?_
        refine bool_cases ((!t1508) || (!t1510)) (fun hg1519 => ?_) (fun hg1519 => ?_)
        · skip
          refine ops_off rfl (guard_off rfl rfl rfl hg1519) rfl rfl ?_
          refine ops_off rfl (guard_off rfl rfl rfl hg1519) rfl rfl ?_
          refine ops_off rfl (guard_off rfl rfl rfl hg1519) rfl rfl ?_
          refine ops_off rfl (guard_off rfl rfl rfl hg1519) rfl rfl ?_
          have hg1520 : (((!t1508) || (!t1510)) || (!t1512)) = true := by simp only [hg1519, Bool.and_true, Bool.true_and, Bool.and_false, Bool.false_and, Bool.or_true, Bool.true_or, Bool.or_false, Bool.false_or, Bool.not_true, Bool.not_false, Bool.not_not]
          refine ops_ex (v := .bool (((!t1508) || (!t1510)) || (!t1512))) rfl (guard_none rfl) rfl rfl (ex_por_t rfl rfl hg1519) ?_
          refine ops_ex rfl (guard_none rfl) rfl rfl (ex_assign rfl rfl) ?_
          refine ops_nil ?_
          exact at_meet [(1, .pointer (some ⟨b1500, 0, none⟩)), (11, .bool (((!t1508) || (!t1510)) || (!t1512)))] ⟨rfl, HM⟩ (Sub.cons rfl (Sub.cons rfl Sub.nil))
        · skip
          refine ops_ex rfl (guard_on rfl rfl rfl hg1519) rfl rfl (ex_fieldAddr (off' := 2) rfl rfl Try.underlying39 rfl tsz2 rfl) ?_
          refine ops_ex rfl (guard_on rfl rfl rfl hg1519) rfl rfl (ex_load1 rfl rfl Try.underlying2 rfl ((HM.box_at 0 rfl) 2 _ rfl)) ?_
          refine ops_does rfl (guard_on rfl rfl rfl hg1519) rfl rfl (does_callk rfl callok71 rfl (impl_isHeight.calls (x0 := x0.fAfter) (cond_t (not_mk hg1519) h1513))) ?_
          rintro _ w1521 ⟨rfl, hn⟩
          replace HM : Mem w [] w1521 [box b1500 39 [p0_0, .int .i64 x0.fNeed, .int .i64 x0.fAfter]] := HM.call hn
          refine ops_ex rfl (guard_on rfl rfl rfl hg1519) rfl rfl (ex_not rfl rfl) ?_
          refine ops_ex (v := .bool (((!t1508) || (!t1510)) || (!t1512))) rfl (guard_none rfl) rfl rfl (ex_por_f rfl rfl hg1519 rfl) ?_
          refine ops_ex rfl (guard_none rfl) rfl rfl (ex_assign rfl rfl) ?_
          refine ops_nil ?_
          exact at_meet [(1, .pointer (some ⟨b1500, 0, none⟩)), (11, .bool (((!t1508) || (!t1510)) || (!t1512)))] ⟨rfl, HM⟩ (Sub.cons rfl (Sub.cons rfl Sub.nil))
    · rintro _ w1522 ⟨rfl, HM⟩
      refine at_then ?_
      refine run_cond (b := (((!t1508) || (!t1510)) || (!t1512))) rfl (fun hb1523 => ?_) (fun hb1523 => ?_)
      · replace H := cond_t hb1523 H
        refine run_seq ?_
        refine run_region rfl ?_
        refine ops_ex rfl (guard_none rfl) rfl rfl (ex_assign rfl rfl) ?_
        refine ops_nil ?_
        refine at_then ?_
        refine run_ret ?_
        refine at_block_ret ?_
        refine at_then_ret ?_
        replace HM := (HM.front 0 rfl rfl).drop
        have hR := Option.some.inj H
        subst hR
        exact at_ret1 rfl rfl ⟨_, rfl, rfl, HM⟩
      · replace H := cond_f hb1523 H
        refine run_seq ?_
        obtain ⟨t1524, h1525, H⟩ := bind_some H
        refine run_region rfl ?_
        refine ops_ex rfl (guard_none rfl) rfl rfl (ex_fieldAddr (off' := 0) rfl rfl Try.underlying39 rfl tsz34 rfl) ?_
        refine ops_ex rfl (guard_none rfl) rfl rfl (ex_load1 rfl rfl Try.underlying34 rfl ((HM.box_at 0 rfl) 0 _ rfl)) ?_
        refine ops_does rfl (guard_none rfl) rfl rfl (does_callk rfl callok72 rfl (impl_isRising.calls (x0 := x0.fKeys) (HM.rd hp0_0) h1525)) ?_
        rintro _ w1526 ⟨rfl, hn⟩
        replace HM : Mem w [] w1526 [box b1500 39 [p0_0, .int .i64 x0.fNeed, .int .i64 x0.fAfter]] := HM.call hn
        refine ops_ex rfl (guard_none rfl) rfl rfl (ex_not rfl rfl) ?_
        refine ops_ex rfl (guard_none rfl) rfl rfl (ex_assign rfl rfl) ?_
        refine ops_nil ?_
        refine at_then ?_
        refine run_cond (b := !t1524) rfl (fun hb1527 => ?_) (fun hb1527 => ?_)
        · replace H := cond_t hb1527 H
          refine run_seq ?_
          refine run_region rfl ?_
          refine ops_ex rfl (guard_none rfl) rfl rfl (ex_assign rfl rfl) ?_
          refine ops_nil ?_
          refine at_then ?_
          refine run_ret ?_
          refine at_block_ret ?_
          refine at_then_ret ?_
          replace HM := (HM.front 0 rfl rfl).drop
          have hR := Option.some.inj H
          subst hR
          exact at_ret1 rfl rfl ⟨_, rfl, rfl, HM⟩
        · replace H := cond_f hb1527 H
          refine run_skip ?_
          refine at_block ?_
          refine at_then ?_
          refine run_seq ?_
          refine run_region rfl ?_
          refine ops_ex rfl (guard_none rfl) rfl rfl (ex_assign rfl rfl) ?_
          refine ops_nil ?_
          refine at_then ?_
          refine run_ret ?_
          replace HM := (HM.front 0 rfl rfl).drop
          have hR := Option.some.inj H
          subst hR
          exact at_ret1 rfl rfl ⟨_, rfl, rfl, HM⟩

def laws_FnExactRuleFault.f (k : Nat) (x0 : Rule) : Option Bool := ((laws_szRule.f k x0 1048576).bind fun t1543 => (bif (decide (t1543 < 0)) then some true else ((laws_toRule.f k x0).bind fun t1548 => ((spec_RuleFault.f k t1548).bind fun t1552 => ((laws_toRule.f k x0).bind fun t1556 => ((impl_RuleFault.f k t1556).bind fun t1566 => (bif (t1566 != t1552) then some false else ((laws_toRule.f k x0).bind fun t1571 => ((laws_eqRule.f k t1556 t1571).bind fun t1575 => (bif !t1575 then some false else some true))))))))))
theorem laws_FnExactRuleFault.calls {k : Nat} {x0 : Rule} {p0_0 : Value} {w : World} (hp0_0 : RdS kInt w p0_0 x0.fKeys) {r : Bool} (H : laws_FnExactRuleFault.f k x0 = some r) :
    Calls Try.prog 8 ([.agg #[p0_0, (.int .i64 x0.fNeed), (.int .i64 x0.fAfter)]] : List Value).toArray w (fun e w_ => ∃ v, e = .returned v ∧ v = (.bool r) ∧ Mem w [] w_ []) := by
  have HM := Mem.start w
  refine calls_run (N := 27) Try.func8 rfl rfl rfl rfl ?_
  unfold laws_FnExactRuleFault.f at H
  refine run_seq ?_
  refine run_region rfl ?_
  refine ops_does rfl (guard_none rfl) rfl rfl (does_box (cs := [p0_0, .int .i64 x0.fNeed, .int .i64 x0.fAfter]) rfl rfl rfl HM) ?_
  rintro _ w1542 ⟨b1539, rfl, HM⟩
  refine ops_ex rfl (guard_none rfl) rfl rfl (ex_assign rfl rfl) ?_
  refine ops_nil ?_
  refine at_then ?_
  refine run_seq ?_
  refine run_region rfl ?_
  refine ops_ex rfl (guard_none rfl) rfl rfl (ex_assign rfl rfl) ?_
  refine ops_nil ?_
  refine at_then ?_
  refine run_seq ?_
  obtain ⟨t1543, h1544, H⟩ := bind_some H
  refine run_region rfl ?_
  refine ops_ex rfl (guard_none rfl) rfl rfl (ex_loadN (cs := [p0_0, (.int .i64 x0.fNeed), (.int .i64 x0.fAfter)]) rfl rfl Try.underlying36 rfl tsz36 rfl ((HM.box_at 0 rfl).sub 0 3 rfl)) ?_
  refine ops_ex rfl (guard_none rfl) rfl rfl (ex_move rfl rfl) ?_
  refine ops_does rfl (guard_none rfl) rfl rfl (does_callk rfl callok25 rfl (laws_szRule.calls (x0 := x0) (x1 := 1048576) (HM.rd hp0_0) h1544)) ?_
  rintro _ w1545 ⟨rfl, hn⟩
  replace HM : Mem w [] w1545 [box b1539 36 [p0_0, .int .i64 x0.fNeed, .int .i64 x0.fAfter]] := HM.call hn
  refine ops_ex rfl (guard_none rfl) rfl rfl (ex_assign rfl rfl) ?_
  refine ops_nil ?_
  refine at_then ?_
  refine run_seq ?_
  refine run_seq ?_
  refine run_region rfl ?_
  refine ops_ex rfl (guard_none rfl) rfl rfl (ex_move rfl rfl) ?_
  refine ops_ex rfl (guard_none rfl) rfl rfl (ex_lss rfl rfl rfl) ?_
  refine ops_nil ?_
  refine at_then ?_
  refine run_cond (b := (decide (t1543 < 0))) rfl (fun hb1547 => ?_) (fun hb1547 => ?_)
  · replace H := cond_t hb1547 H
    refine run_seq ?_
    refine run_region rfl ?_
    refine ops_ex rfl (guard_none rfl) rfl rfl (ex_assign rfl rfl) ?_
    refine ops_nil ?_
    refine at_then ?_
    refine run_ret ?_
    refine at_then_ret ?_
    replace HM := (HM.front 0 rfl rfl).drop
    have hR := Option.some.inj H
    subst hR
    exact at_ret1 rfl rfl ⟨_, rfl, rfl, HM⟩
  · replace H := cond_f hb1547 H
    refine run_skip ?_
    refine at_then ?_
    refine run_seq ?_
    obtain ⟨t1548, h1549, H⟩ := bind_some H
    obtain ⟨t1552, h1553, H⟩ := bind_some H
    refine run_region rfl ?_
    refine ops_ex rfl (guard_none rfl) rfl rfl (ex_loadN (cs := [p0_0, (.int .i64 x0.fNeed), (.int .i64 x0.fAfter)]) rfl rfl Try.underlying36 rfl tsz36 rfl ((HM.box_at 0 rfl).sub 0 3 rfl)) ?_
    refine ops_does rfl (guard_none rfl) rfl rfl (does_callk rfl callok27 rfl (laws_toRule.calls (x0 := x0) (HM.rd hp0_0) h1549)) ?_
    rintro _ w1554 ⟨u1550, rfl, hn⟩
    replace HM : Mem w [] w1554 [own kInt 2 u1550 t1548.fKeys, box b1539 36 [p0_0, .int .i64 x0.fNeed, .int .i64 x0.fAfter]] := HM.call hn
    refine ops_does rfl (guard_none rfl) rfl rfl (does_callk rfl callok30 rfl (spec_RuleFault.calls (x0 := t1548) (HM.own_rd 0 rfl) h1553)) ?_
    rintro _ w1555 ⟨rfl, hn⟩
    replace HM : Mem w [] w1555 [own kInt 2 u1550 t1548.fKeys, box b1539 36 [p0_0, .int .i64 x0.fNeed, .int .i64 x0.fAfter]] := HM.call hn
    refine ops_ex rfl (guard_none rfl) rfl rfl (ex_assign rfl rfl) ?_
    refine ops_nil ?_
    refine at_then ?_
    refine run_seq ?_
    obtain ⟨t1556, h1557, H⟩ := bind_some H
    refine run_region rfl ?_
    refine ops_ex rfl (guard_none rfl) rfl rfl (ex_loadN (cs := [p0_0, (.int .i64 x0.fNeed), (.int .i64 x0.fAfter)]) rfl rfl Try.underlying36 rfl tsz36 rfl ((HM.box_at 1 rfl).sub 0 3 rfl)) ?_
    refine ops_does rfl (guard_none rfl) rfl rfl (does_callk rfl callok27 rfl (laws_toRule.calls (x0 := x0) (HM.rd hp0_0) h1557)) ?_
    rintro _ w1563 ⟨u1558, rfl, hn⟩
    replace HM : Mem w [] w1563 [own kInt 2 u1558 t1556.fKeys, own kInt 2 u1550 t1548.fKeys, box b1539 36 [p0_0, .int .i64 x0.fNeed, .int .i64 x0.fAfter]] := HM.call hn
    refine ops_does rfl (guard_none rfl) rfl rfl (does_alloc (cs := [.slice none 0 0, .int .i64 0, .int .i64 0]) rfl tz39 rfl HM) ?_
    rintro _ w1564 ⟨b1560, rfl, HM⟩
    refine ops_doesS rfl (guard_none rfl) rfl (does_store (vs := [u1558, .int .i64 t1556.fNeed, .int .i64 t1556.fAfter]) (cs' := [u1558, .int .i64 t1556.fNeed, .int .i64 t1556.fAfter]) rfl rfl rfl rfl tsz39 (Ones.rd (HM.own_rd 1 rfl) (Ones.int (Ones.int Ones.nil))) rfl rfl HM) ?_
    rintro w1565 HM
    refine ops_nil ?_
    refine at_then ?_
    refine run_seq ?_
    obtain ⟨t1566, h1567, H⟩ := bind_some H
    refine run_region rfl ?_
    refine ops_ex rfl (guard_none rfl) rfl rfl (ex_loadN (cs := [u1558, (.int .i64 t1556.fNeed), (.int .i64 t1556.fAfter)]) rfl rfl Try.underlying39 rfl tsz39 rfl ((HM.box_at 0 rfl).sub 0 3 rfl)) ?_
    refine ops_does rfl (guard_none rfl) rfl rfl (does_callk rfl callok31 rfl (impl_RuleFault.calls (x0 := t1556) (HM.own_rd 1 rfl) h1567)) ?_
    rintro _ w1568 ⟨rfl, hn⟩
    replace HM : Mem w [] w1568 [box b1560 39 [u1558, .int .i64 t1556.fNeed, .int .i64 t1556.fAfter], own kInt 2 u1558 t1556.fKeys, own kInt 2 u1550 t1548.fKeys, box b1539 36 [p0_0, .int .i64 x0.fNeed, .int .i64 x0.fAfter]] := HM.call hn
    refine ops_ex rfl (guard_none rfl) rfl rfl (ex_assign rfl rfl) ?_
    refine ops_nil ?_
    refine at_then ?_
    refine run_seq ?_
    refine run_seq ?_
    refine run_region rfl ?_
    refine ops_ex rfl (guard_none rfl) rfl rfl (ex_move rfl rfl) ?_
    refine ops_ex rfl (guard_none rfl) rfl rfl (ex_move rfl rfl) ?_
    refine ops_ex rfl (guard_none rfl) rfl rfl (ex_neq rfl rfl rfl) ?_
    refine ops_nil ?_
    refine at_then ?_
    refine run_cond (b := (t1566 != t1552)) rfl (fun hb1570 => ?_) (fun hb1570 => ?_)
    · replace H := cond_t hb1570 H
      refine run_seq ?_
      refine run_region rfl ?_
      refine ops_ex rfl (guard_none rfl) rfl rfl (ex_assign rfl rfl) ?_
      refine ops_nil ?_
      refine at_then ?_
      refine run_ret ?_
      refine at_then_ret ?_
      replace HM := (HM.front 0 rfl rfl).drop
      replace HM := (HM.front 0 rfl rfl).drop
      replace HM := (HM.front 0 rfl rfl).drop
      replace HM := (HM.front 0 rfl rfl).drop
      have hR := Option.some.inj H
      subst hR
      exact at_ret1 rfl rfl ⟨_, rfl, rfl, HM⟩
    · replace H := cond_f hb1570 H
      refine run_skip ?_
      refine at_then ?_
      refine run_seq ?_
      refine run_seq ?_
      obtain ⟨t1571, h1572, H⟩ := bind_some H
      obtain ⟨t1575, h1576, H⟩ := bind_some H
      refine run_draw (fun w_ => Mem w [] w_ [box b1560 39 [u1558, .int .i64 t1556.fNeed, .int .i64 t1556.fAfter], own kInt 2 u1558 t1556.fKeys, own kInt 2 u1550 t1548.fKeys, box b1539 36 [p0_0, .int .i64 x0.fNeed, .int .i64 x0.fAfter]]) mixed rfl rfl ?_
      replace HM := HM.grow (fr_drew _)
      have hS := Mem.suf (M := []) HM
      refine drw_take (i := 0) (l' := #[true, false, false, false, false]) rfl (guard_none rfl) rfl rfl (by kernel_rfl) (fun w_ hS_ => (ex_loadN (cs := [u1558, (.int .i64 t1556.fNeed), (.int .i64 t1556.fAfter)]) rfl rfl Try.underlying39 rfl tsz39 rfl ((hS_.box_at 0 rfl).sub 0 3 rfl))) hS ?_
      refine drw_take (i := 1) (l' := #[true, true, false, false, false]) rfl (guard_none rfl) rfl rfl (by kernel_rfl) (fun w_ hS_ => (ex_loadN (cs := [p0_0, (.int .i64 x0.fNeed), (.int .i64 x0.fAfter)]) rfl rfl Try.underlying36 rfl tsz36 rfl ((hS_.box_at 3 rfl).sub 0 3 rfl))) hS ?_
      refine drw_one (i := 2) (l' := #[true, true, true, false, false]) rfl (guard_none rfl) rfl rfl (by kernel_rfl) (does_callk rfl callok27 rfl (laws_toRule.calls (x0 := x0) (HM.rd hp0_0) h1572)) ?_
      rintro _ w1577 ⟨u1573, rfl, hn⟩
      replace HM : Mem w [] w1577 [own kInt 2 u1573 t1571.fKeys, box b1560 39 [u1558, .int .i64 t1556.fNeed, .int .i64 t1556.fAfter], own kInt 2 u1558 t1556.fKeys, own kInt 2 u1550 t1548.fKeys, box b1539 36 [p0_0, .int .i64 x0.fNeed, .int .i64 x0.fAfter]] := HM.call hn
      refine ⟨Mem.suf (M := [own kInt 2 u1573 t1571.fKeys]) HM, ?_⟩
      have hS := Mem.suf (M := [own kInt 2 u1573 t1571.fKeys]) HM
      refine drw_one (i := 3) (l' := #[true, true, true, true, false]) rfl (guard_none rfl) rfl rfl (by kernel_rfl) (does_callk rfl callok29 rfl (laws_eqRule.calls (x0 := t1556) (x1 := t1571) (HM.own_rd 2 rfl) (HM.own_rd 0 rfl) h1576)) ?_
      rintro _ w1578 ⟨rfl, hn⟩
      replace HM : Mem w [] w1578 [own kInt 2 u1573 t1571.fKeys, box b1560 39 [u1558, .int .i64 t1556.fNeed, .int .i64 t1556.fAfter], own kInt 2 u1558 t1556.fKeys, own kInt 2 u1550 t1548.fKeys, box b1539 36 [p0_0, .int .i64 x0.fNeed, .int .i64 x0.fAfter]] := HM.call hn
      refine ⟨Mem.suf (M := [own kInt 2 u1573 t1571.fKeys]) HM, ?_⟩
      have hS := Mem.suf (M := [own kInt 2 u1573 t1571.fKeys]) HM
      refine drw_take (i := 4) (l' := #[true, true, true, true, true]) rfl (guard_none rfl) rfl rfl (by kernel_rfl) (fun w_ hS_ => (ex_not rfl rfl)) hS ?_
      refine drw_done (by kernel_rfl) ?_
      refine at_then ?_
      refine run_cond (b := !t1575) rfl (fun hb1579 => ?_) (fun hb1579 => ?_)
      · replace H := cond_t hb1579 H
        refine run_seq ?_
        refine run_region rfl ?_
        refine ops_ex rfl (guard_none rfl) rfl rfl (ex_assign rfl rfl) ?_
        refine ops_nil ?_
        refine at_then ?_
        refine run_ret ?_
        refine at_then_ret ?_
        replace HM := (HM.front 0 rfl rfl).drop
        replace HM := (HM.front 0 rfl rfl).drop
        replace HM := (HM.front 0 rfl rfl).drop
        replace HM := (HM.front 0 rfl rfl).drop
        replace HM := (HM.front 0 rfl rfl).drop
        have hR := Option.some.inj H
        subst hR
        exact at_ret1 rfl rfl ⟨_, rfl, rfl, HM⟩
      · replace H := cond_f hb1579 H
        refine run_skip ?_
        refine at_then ?_
        refine run_seq ?_
        refine run_region rfl ?_
        refine ops_ex rfl (guard_none rfl) rfl rfl (ex_assign rfl rfl) ?_
        refine ops_nil ?_
        refine at_then ?_
        refine run_ret ?_
        replace HM := (HM.front 0 rfl rfl).drop
        replace HM := (HM.front 0 rfl rfl).drop
        replace HM := (HM.front 0 rfl rfl).drop
        replace HM := (HM.front 0 rfl rfl).drop
        replace HM := (HM.front 0 rfl rfl).drop
        have hR := Option.some.inj H
        subst hR
        exact at_ret1 rfl rfl ⟨_, rfl, rfl, HM⟩

def spec_l3Ref.f (k : Nat) (x0 : Ref) : Option Bool := ((spec_l1In.f k x0.fTx 1 60).bind fun t1608 => ((bif t1608 then spec_l1In.f k x0.fAt 0 3 else some default).bind fun t1610 => some (t1608 && t1610)))
theorem spec_l3Ref.calls {k : Nat} {x0 : Ref}  {w : World}  {r : Bool} (H : spec_l3Ref.f k x0 = some r) :
    Calls Try.prog 108 ([.agg #[(.int .i64 x0.fTx), (.int .i64 x0.fAt)]] : List Value).toArray w (fun e w_ => ∃ v, e = .returned v ∧ v = (.bool r) ∧ Mem w [] w_ []) := by
  have HM := Mem.start w
  refine calls_run (N := 11) Try.func108 rfl rfl rfl rfl ?_
  unfold spec_l3Ref.f at H
  refine run_seq ?_
  refine run_region rfl ?_
  refine ops_does rfl (guard_none rfl) rfl rfl (does_box (cs := [.int .i64 x0.fTx, .int .i64 x0.fAt]) rfl rfl rfl HM) ?_
  rintro _ w1607 ⟨b1604, rfl, HM⟩
  refine ops_ex rfl (guard_none rfl) rfl rfl (ex_assign rfl rfl) ?_
  refine ops_nil ?_
  refine at_then ?_
  refine run_seq ?_
  obtain ⟨t1608, h1609, H⟩ := bind_some H
  obtain ⟨t1610, h1611, H⟩ := bind_some H
  refine run_meet (fun ρ_ w_ => ρ_ = [(2, .bool (t1608 && t1610))] ∧ Mem w [] w_ []) ?_ ?_
  · skip
    refine run_region rfl ?_
    refine ops_ex rfl (guard_none rfl) rfl rfl (ex_fieldAddr (off' := 0) rfl rfl Try.underlying69 rfl tsz2 rfl) ?_
    refine ops_ex rfl (guard_none rfl) rfl rfl (ex_load1 rfl rfl Try.underlying2 rfl ((HM.box_at 0 rfl) 0 _ rfl)) ?_
    refine ops_does rfl (guard_none rfl) rfl rfl (does_callk rfl callok56 rfl (spec_l1In.calls (x0 := x0.fTx) (x1 := 1) (x2 := 60) h1609)) ?_
    rintro _ w1612 ⟨rfl, hn⟩
    replace HM : Mem w [] w1612 [box b1604 69 [.int .i64 x0.fTx, .int .i64 x0.fAt]] := HM.call hn
    refine ops_ex rfl (guard_none rfl) rfl rfl (ex_move rfl rfl) ?_
    refine bool_cases t1608 (fun hg1613 => ?_) (fun hg1613 => ?_)
    · skip
      refine ops_ex rfl (guard_on rfl rfl rfl hg1613) rfl rfl (ex_fieldAddr (off' := 1) rfl rfl Try.underlying69 rfl tsz2 rfl) ?_
      refine ops_ex rfl (guard_on rfl rfl rfl hg1613) rfl rfl (ex_load1 rfl rfl Try.underlying2 rfl ((HM.box_at 0 rfl) 1 _ rfl)) ?_
      refine ops_does rfl (guard_on rfl rfl rfl hg1613) rfl rfl (does_callk rfl callok56 rfl (spec_l1In.calls (x0 := x0.fAt) (x1 := 0) (x2 := 3) (cond_t hg1613 h1611))) ?_
      rintro _ w1614 ⟨rfl, hn⟩
      replace HM : Mem w [] w1614 [box b1604 69 [.int .i64 x0.fTx, .int .i64 x0.fAt]] := HM.call hn
      refine ops_ex (v := .bool (t1608 && t1610)) rfl (guard_none rfl) rfl rfl (ex_pand_t rfl rfl hg1613 rfl) ?_
      refine ops_ex rfl (guard_none rfl) rfl rfl (ex_assign rfl rfl) ?_
      refine ops_nil ?_
      replace HM := (HM.front 0 rfl rfl).drop
      exact at_meet [(2, .bool (t1608 && t1610))] ⟨rfl, HM⟩ (Sub.cons rfl Sub.nil)
    · skip
      refine ops_off rfl (guard_off rfl rfl rfl hg1613) rfl rfl ?_
      refine ops_off rfl (guard_off rfl rfl rfl hg1613) rfl rfl ?_
      refine ops_off rfl (guard_off rfl rfl rfl hg1613) rfl rfl ?_
      have hg1615 : (t1608 && t1610) = false := by simp only [hg1613, Bool.and_true, Bool.true_and, Bool.and_false, Bool.false_and, Bool.or_true, Bool.true_or, Bool.or_false, Bool.false_or, Bool.not_true, Bool.not_false, Bool.not_not]
      refine ops_ex (v := .bool (t1608 && t1610)) rfl (guard_none rfl) rfl rfl (ex_pand_f rfl rfl hg1613) ?_
      refine ops_ex rfl (guard_none rfl) rfl rfl (ex_assign rfl rfl) ?_
      refine ops_nil ?_
      replace HM := (HM.front 0 rfl rfl).drop
      exact at_meet [(2, .bool (t1608 && t1610))] ⟨rfl, HM⟩ (Sub.cons rfl Sub.nil)
  · rintro _ w1616 ⟨rfl, HM⟩
    refine at_then ?_
    refine run_ret ?_
    have hR := Option.some.inj H
    subst hR
    exact at_ret1 rfl rfl ⟨_, rfl, rfl, HM⟩

def spec_l6Fault.l0 (x0 : List Member) : Nat → Int → Option (Int ⊕ Unit)
  | 0, _ => none
  | k + 1, a1855 => (bif (decide (a1855 < (x0.length : Int))) then (chk (idxOk a1855 x0.length) ((spec_l1Key.f k ((gt x0 a1855).fKey)).bind fun t1894 => (chk (!(!(!t1894)) || (idxOk a1855 x0.length)) ((bif (!(!t1894)) then spec_l3Ref.f k ((gt x0 a1855).fRef) else some default).bind fun t1898 => (bif ((!t1894) || (!t1898)) then some (.inl 3) else (chk (!(decide (0 < a1855)) || (idxOk a1855 x0.length)) (chk (!(decide (0 < a1855)) || (idxOk (wrap64 (a1855 - 1)) x0.length)) (bif ((decide (0 < a1855)) && (decide (((gt x0 a1855).fKey) ≤ ((gt x0 (wrap64 (a1855 - 1))).fKey)))) then some (.inl 1) else spec_l6Fault.l0 x0 k (wrap64 (a1855 + 1)))))))))) else some (.inr ()))
theorem spec_l6Fault.l0_z (x0 : List Member) (a1855 : Int) : spec_l6Fault.l0 x0 0 a1855 = none := rfl
theorem spec_l6Fault.l0_s (x0 : List Member) (k : Nat) (a1855 : Int) : spec_l6Fault.l0 x0 (k + 1) a1855 = (bif (decide (a1855 < (x0.length : Int))) then (chk (idxOk a1855 x0.length) ((spec_l1Key.f k ((gt x0 a1855).fKey)).bind fun t1894 => (chk (!(!(!t1894)) || (idxOk a1855 x0.length)) ((bif (!(!t1894)) then spec_l3Ref.f k ((gt x0 a1855).fRef) else some default).bind fun t1898 => (bif ((!t1894) || (!t1898)) then some (.inl 3) else (chk (!(decide (0 < a1855)) || (idxOk a1855 x0.length)) (chk (!(decide (0 < a1855)) || (idxOk (wrap64 (a1855 - 1)) x0.length)) (bif ((decide (0 < a1855)) && (decide (((gt x0 a1855).fKey) ≤ ((gt x0 (wrap64 (a1855 - 1))).fKey)))) then some (.inl 1) else spec_l6Fault.l0 x0 k (wrap64 (a1855 + 1)))))))))) else some (.inr ())) := rfl
def spec_l6Fault.l2 (x0 : List Member) (a2006 : Int) : Nat → Int → Option (Int ⊕ Unit)
  | 0, _ => none
  | k + 1, a2059 => (bif (decide (a2059 < a2006)) then (chk (idxOk a2059 x0.length) (chk (idxOk a2006 x0.length) (bif ((((gt x0 a2059).fRef.fTx) == ((gt x0 a2006).fRef.fTx)) && (((gt x0 a2059).fRef.fAt) == ((gt x0 a2006).fRef.fAt))) then some (.inl 7) else spec_l6Fault.l2 x0 a2006 k (wrap64 (a2059 + 1))))) else some (.inr ()))
theorem spec_l6Fault.l2_z (x0 : List Member) (a2006 : Int) (a2059 : Int) : spec_l6Fault.l2 x0 a2006 0 a2059 = none := rfl
theorem spec_l6Fault.l2_s (x0 : List Member) (a2006 : Int) (k : Nat) (a2059 : Int) : spec_l6Fault.l2 x0 a2006 (k + 1) a2059 = (bif (decide (a2059 < a2006)) then (chk (idxOk a2059 x0.length) (chk (idxOk a2006 x0.length) (bif ((((gt x0 a2059).fRef.fTx) == ((gt x0 a2006).fRef.fTx)) && (((gt x0 a2059).fRef.fAt) == ((gt x0 a2006).fRef.fAt))) then some (.inl 7) else spec_l6Fault.l2 x0 a2006 k (wrap64 (a2059 + 1))))) else some (.inr ())) := rfl
def spec_l6Fault.l1 (x0 : List Member) : Nat → Int → Option (Int ⊕ Unit)
  | 0, _ => none
  | k + 1, a2006 => (bif (decide (a2006 < (x0.length : Int))) then ((spec_l6Fault.l2 x0 a2006 k 0).bind fun o2051 => thn o2051 (fun r => some (.inl r)) (fun _ => spec_l6Fault.l1 x0 k (wrap64 (a2006 + 1)))) else some (.inr ()))
theorem spec_l6Fault.l1_z (x0 : List Member) (a2006 : Int) : spec_l6Fault.l1 x0 0 a2006 = none := rfl
theorem spec_l6Fault.l1_s (x0 : List Member) (k : Nat) (a2006 : Int) : spec_l6Fault.l1 x0 (k + 1) a2006 = (bif (decide (a2006 < (x0.length : Int))) then ((spec_l6Fault.l2 x0 a2006 k 0).bind fun o2051 => thn o2051 (fun r => some (.inl r)) (fun _ => spec_l6Fault.l1 x0 k (wrap64 (a2006 + 1)))) else some (.inr ())) := rfl
def spec_l6Fault.f (k : Nat) (x0 : List Member) : Option Int := (bif (decide (8 < (x0.length : Int))) then some 2 else ((spec_l6Fault.l0 x0 k 0).bind fun o1829 => thn o1829 (fun r => some r) (fun _ => ((spec_l6Fault.l1 x0 k 0).bind fun o1982 => thn o1982 (fun r => some r) (fun _ => some 0)))))
theorem spec_l6Fault.calls {k : Nat} {x0 : List Member} {p0 : Value} {w : World} (hp0 : RdS kMember w p0 x0) {r : Int} (H : spec_l6Fault.f k x0 = some r) :
    Calls Try.prog 73 ([p0] : List Value).toArray w (fun e w_ => ∃ v, e = .returned v ∧ v = (.int .i64 r) ∧ Mem w [] w_ []) := by
  have HM := Mem.start w
  refine calls_run (N := 69) Try.func73 rfl rfl rfl rfl ?_
  unfold spec_l6Fault.f at H
  refine run_seq ?_
  refine run_region rfl ?_
  refine ops_ex rfl (guard_none rfl) rfl rfl (ex_assign rfl rfl) ?_
  refine ops_nil ?_
  refine at_then ?_
  refine run_seq ?_
  refine run_seq ?_
  refine run_region rfl ?_
  refine ops_ex rfl (guard_none rfl) rfl rfl (ex_move rfl rfl) ?_
  refine ops_ex rfl (guard_none rfl) rfl rfl (ex_len (d := kMember) (xs := x0) rfl rfl Try.underlying31 hp0) ?_
  refine ops_ex rfl (guard_none rfl) rfl rfl (ex_gtr rfl rfl rfl) ?_
  refine ops_nil ?_
  refine at_then ?_
  refine run_cond (b := (decide (8 < (x0.length : Int)))) rfl (fun hb1755 => ?_) (fun hb1755 => ?_)
  · replace H := cond_t hb1755 H
    refine run_seq ?_
    refine run_region rfl ?_
    refine ops_ex rfl (guard_none rfl) rfl rfl (ex_assign rfl rfl) ?_
    refine ops_nil ?_
    refine at_then ?_
    refine run_ret ?_
    refine at_then_ret ?_
    have hR := Option.some.inj H
    subst hR
    exact at_ret1 rfl rfl ⟨_, rfl, rfl, HM⟩
  · replace H := cond_f hb1755 H
    refine run_skip ?_
    refine at_then ?_
    obtain ⟨o1829, ho1830, H⟩ := bind_some H
    refine run_mid (fun ρ_ w_ => Sum.inr () = o1829 ∧ ρ_ = [(0, p0)] ∧ Mem w [] w_ []) ?_ ?_
    · skip
      refine run_seq ?_
      refine run_region rfl ?_
      refine ops_ex rfl (guard_none rfl) rfl rfl (ex_assign rfl rfl) ?_
      refine ops_nil ?_
      refine at_then ?_
      refine run_block ?_
      refine run_loop (fun k_ ρ_ w_ => ∃ a1855 : Int, spec_l6Fault.l0 x0 k_ a1855 = some o1829 ∧ ρ_ = [(0, p0), (3, .int .i64 a1855)] ∧ Mem w [] w_ []) k (ρ1 := [(0, p0), (3, .int .i64 0)]) ⟨_, ho1830, rfl, HM⟩ (Sub.cons rfl (Sub.cons rfl Sub.nil)) ?_
      clear HM ho1830
      rintro k1880 _ w1881 ⟨a1855, ho1830, rfl, HM⟩
      obtain _ | k1880 := k1880
      · exact nomatch ((spec_l6Fault.l0_z x0 a1855).symm.trans ho1830)
      replace ho1830 := (spec_l6Fault.l0_s x0 k1880 a1855).symm.trans ho1830
      refine run_seq ?_
      refine run_seq ?_
      refine run_region rfl ?_
      refine ops_ex rfl (guard_none rfl) rfl rfl (ex_move rfl rfl) ?_
      refine ops_ex rfl (guard_none rfl) rfl rfl (ex_move rfl rfl) ?_
      refine ops_ex rfl (guard_none rfl) rfl rfl (ex_len (d := kMember) (xs := x0) rfl rfl Try.underlying31 hp0) ?_
      refine ops_ex rfl (guard_none rfl) rfl rfl (ex_lss rfl rfl rfl) ?_
      refine ops_nil ?_
      refine at_then ?_
      refine run_cond (b := (decide (a1855 < (x0.length : Int)))) rfl (fun hb1882 => ?_) (fun hb1882 => ?_)
      · replace ho1830 := cond_t hb1882 ho1830
        refine run_skip ?_
        refine at_then ?_
        refine run_seq ?_
        refine run_block ?_
        refine run_seq ?_
        refine run_seq ?_
        obtain ⟨e1892, ho1830⟩ := chk_some ho1830
        obtain ⟨t1894, h1895, ho1830⟩ := bind_some ho1830
        obtain ⟨e1896, ho1830⟩ := chk_some ho1830
        obtain ⟨t1898, h1899, ho1830⟩ := bind_some ho1830
        refine run_meet (fun ρ_ w_ => ρ_ = [(0, p0), (3, .int .i64 a1855), (30, .bool ((!t1894) || (!t1898)))] ∧ Mem w [] w_ []) ?_ ?_
        · skip
          refine run_region rfl ?_
          refine ops_ex rfl (guard_none rfl) rfl rfl (ex_move rfl rfl) ?_
          refine ops_ex rfl (guard_none rfl) rfl rfl (ex_move rfl rfl) ?_
          have hc1893 : CellsAt _ (sb p0) (so p0 + (a1855).toNat * 3) [(.int .i64 ((gt x0 a1855).fKey)), (.int .i64 ((gt x0 a1855).fRef.fTx)), (.int .i64 ((gt x0 a1855).fRef.fAt))] := rd_plain hp0 e1892
          refine ops_ex rfl (guard_none rfl) rfl rfl (ex_indexAddr (d := kMember) rfl rfl rfl Try.underlying31 tsz94 hp0 (idx_lo e1892) (idx_hi e1892)) ?_
          refine ops_ex rfl (guard_none rfl) rfl rfl (ex_fieldAddr (off' := so p0 + (a1855).toNat * 3) rfl rfl Try.underlying94 rfl tsz2 rfl) ?_
          refine ops_ex rfl (guard_none rfl) rfl rfl (ex_load1 rfl rfl Try.underlying2 rfl ((HM.at_ hc1893) 0 _ rfl)) ?_
          refine ops_does rfl (guard_none rfl) rfl rfl (does_callk rfl callok105 rfl (spec_l1Key.calls (x0 := (gt x0 a1855).fKey) h1895)) ?_
          rintro _ w1900 ⟨rfl, hn⟩
          replace HM : Mem w [] w1900 [] := HM.call hn
          refine ops_ex rfl (guard_none rfl) rfl rfl (ex_not rfl rfl) ?_
          refine ops_ex rfl (guard_none rfl) rfl rfl (ex_move rfl rfl) ?_
          refine bool_cases (!t1894) (fun hg1901 => ?_) (fun hg1901 => ?_)
          · skip
            refine ops_off rfl (guard_off rfl rfl rfl hg1901) rfl rfl ?_
            refine ops_off rfl (guard_off rfl rfl rfl hg1901) rfl rfl ?_
            refine ops_off rfl (guard_off rfl rfl rfl hg1901) rfl rfl ?_
            refine ops_off rfl (guard_off rfl rfl rfl hg1901) rfl rfl ?_
            refine ops_off rfl (guard_off rfl rfl rfl hg1901) rfl rfl ?_
            refine ops_off rfl (guard_off rfl rfl rfl hg1901) rfl rfl ?_
            refine ops_off rfl (guard_off rfl rfl rfl hg1901) rfl rfl ?_
            have hg1902 : ((!t1894) || (!t1898)) = true := by simp only [hg1901, Bool.and_true, Bool.true_and, Bool.and_false, Bool.false_and, Bool.or_true, Bool.true_or, Bool.or_false, Bool.false_or, Bool.not_true, Bool.not_false, Bool.not_not]
            refine ops_ex (v := .bool ((!t1894) || (!t1898))) rfl (guard_none rfl) rfl rfl (ex_por_t rfl rfl hg1901) ?_
            refine ops_nil ?_
            exact at_meet [(0, p0), (3, .int .i64 a1855), (30, .bool ((!t1894) || (!t1898)))] ⟨rfl, HM⟩ (Sub.cons rfl (Sub.cons rfl (Sub.cons rfl Sub.nil)))
          · skip
            refine ops_ex rfl (guard_on rfl rfl rfl hg1901) rfl rfl (ex_move rfl rfl) ?_
            refine ops_ex rfl (guard_on rfl rfl rfl hg1901) rfl rfl (ex_move rfl rfl) ?_
            have hc1897 : CellsAt _ (sb p0) (so p0 + (a1855).toNat * 3) [(.int .i64 ((gt x0 a1855).fKey)), (.int .i64 ((gt x0 a1855).fRef.fTx)), (.int .i64 ((gt x0 a1855).fRef.fAt))] := rd_plain hp0 (or_t e1896 (not_mk hg1901))
            refine ops_ex rfl (guard_on rfl rfl rfl hg1901) rfl rfl (ex_indexAddr (d := kMember) rfl rfl rfl Try.underlying31 tsz94 hp0 (idx_lo (or_t e1896 (not_mk hg1901))) (idx_hi (or_t e1896 (not_mk hg1901)))) ?_
            refine ops_ex rfl (guard_on rfl rfl rfl hg1901) rfl rfl (ex_fieldAddr (off' := so p0 + (a1855).toNat * 3 + 1) rfl rfl Try.underlying94 rfl tsz69 rfl) ?_
            refine ops_ex rfl (guard_on rfl rfl rfl hg1901) rfl rfl (ex_loadN (cs := [(.int .i64 ((gt x0 a1855).fRef.fTx)), (.int .i64 ((gt x0 a1855).fRef.fAt))]) rfl rfl Try.underlying69 rfl tsz69 rfl ((HM.at_ hc1897).sub 1 2 rfl)) ?_
            refine ops_does rfl (guard_on rfl rfl rfl hg1901) rfl rfl (does_callk rfl callok108 rfl (spec_l3Ref.calls (x0 := (gt x0 a1855).fRef) (cond_t (not_mk hg1901) h1899))) ?_
            rintro _ w1903 ⟨rfl, hn⟩
            replace HM : Mem w [] w1903 [] := HM.call hn
            refine ops_ex rfl (guard_on rfl rfl rfl hg1901) rfl rfl (ex_not rfl rfl) ?_
            refine ops_ex (v := .bool ((!t1894) || (!t1898))) rfl (guard_none rfl) rfl rfl (ex_por_f rfl rfl hg1901 rfl) ?_
            refine ops_nil ?_
            exact at_meet [(0, p0), (3, .int .i64 a1855), (30, .bool ((!t1894) || (!t1898)))] ⟨rfl, HM⟩ (Sub.cons rfl (Sub.cons rfl (Sub.cons rfl Sub.nil)))
        · rintro _ w1904 ⟨rfl, HM⟩
          refine at_then ?_
          refine run_cond (b := ((!t1894) || (!t1898))) rfl (fun hb1905 => ?_) (fun hb1905 => ?_)
          · replace ho1830 := cond_t hb1905 ho1830
            refine run_seq ?_
            refine run_region rfl ?_
            refine ops_ex rfl (guard_none rfl) rfl rfl (ex_assign rfl rfl) ?_
            refine ops_nil ?_
            refine at_then ?_
            refine run_ret ?_
            refine at_then_ret ?_
            refine at_block_ret ?_
            refine at_then_ret ?_
            refine at_then_ret ?_
            refine at_block_ret ?_
            refine at_then_ret ?_
            have hR := Option.some.inj ho1830
            subst hR
            have hT := thn_inl H
            have hR := Option.some.inj hT
            subst hR
            exact at_ret1 rfl rfl ⟨_, rfl, rfl, HM⟩
          · replace ho1830 := cond_f hb1905 ho1830
            refine run_skip ?_
            refine at_then ?_
            refine run_seq ?_
            obtain ⟨e1906, ho1830⟩ := chk_some ho1830
            obtain ⟨e1908, ho1830⟩ := chk_some ho1830
            refine run_meet (fun ρ_ w_ => ρ_ = [(0, p0), (3, .int .i64 a1855), (46, .bool ((decide (0 < a1855)) && (decide (((gt x0 a1855).fKey) ≤ ((gt x0 (wrap64 (a1855 - 1))).fKey)))))] ∧ Mem w [] w_ []) ?_ ?_
            · skip
              refine run_draw (fun w_ => Mem w [] w_ []) mixed rfl rfl ?_
              replace HM := HM.grow (fr_drew _)
              have hS := Mem.suf (M := []) HM
              refine drw_take (i := 0) (l' := #[true, false, false, false, false, false, false, false, false, false, false, false, false, false, false, false]) rfl (guard_none rfl) rfl rfl (by kernel_rfl) (fun w_ hS_ => (ex_move rfl rfl)) hS ?_
              refine drw_take (i := 1) (l' := #[true, true, false, false, false, false, false, false, false, false, false, false, false, false, false, false]) rfl (guard_none rfl) rfl rfl (by kernel_rfl) (fun w_ hS_ => (ex_gtr rfl rfl rfl)) hS ?_
              refine drw_take (i := 2) (l' := #[true, true, true, false, false, false, false, false, false, false, false, false, false, false, false, false]) rfl (guard_none rfl) rfl rfl (by kernel_rfl) (fun w_ hS_ => (ex_move rfl rfl)) hS ?_
              refine bool_cases (decide (0 < a1855)) (fun hg1910 => ?_) (fun hg1910 => ?_)
              · skip
                refine drw_take (i := 3) (l' := #[true, true, true, true, false, false, false, false, false, false, false, false, false, false, false, false]) rfl (guard_on rfl rfl rfl hg1910) rfl rfl (by kernel_rfl) (fun w_ hS_ => (ex_move rfl rfl)) hS ?_
                refine drw_take (i := 4) (l' := #[true, true, true, true, true, false, false, false, false, false, false, false, false, false, false, false]) rfl (guard_on rfl rfl rfl hg1910) rfl rfl (by kernel_rfl) (fun w_ hS_ => (ex_move rfl rfl)) hS ?_
                have hc1907 : CellsAt _ (sb p0) (so p0 + (a1855).toNat * 3) [(.int .i64 ((gt x0 a1855).fKey)), (.int .i64 ((gt x0 a1855).fRef.fTx)), (.int .i64 ((gt x0 a1855).fRef.fAt))] := rd_plain hp0 (or_t e1906 hg1910)
                refine drw_take (i := 5) (l' := #[true, true, true, true, true, true, false, false, false, false, false, false, false, false, false, false]) rfl (guard_on rfl rfl rfl hg1910) rfl rfl (by kernel_rfl) (fun w_ hS_ => (ex_indexAddr (d := kMember) rfl rfl rfl Try.underlying31 tsz94 hp0 (idx_lo (or_t e1906 hg1910)) (idx_hi (or_t e1906 hg1910)))) hS ?_
                refine drw_take (i := 6) (l' := #[true, true, true, true, true, true, true, false, false, false, false, false, false, false, false, false]) rfl (guard_on rfl rfl rfl hg1910) rfl rfl (by kernel_rfl) (fun w_ hS_ => (ex_fieldAddr (off' := so p0 + (a1855).toNat * 3) rfl rfl Try.underlying94 rfl tsz2 rfl)) hS ?_
                refine drw_take (i := 7) (l' := #[true, true, true, true, true, true, true, true, false, false, false, false, false, false, false, false]) rfl (guard_on rfl rfl rfl hg1910) rfl rfl (by kernel_rfl) (fun w_ hS_ => (ex_load1 rfl rfl Try.underlying2 rfl ((hS_.at_ hc1907) 0 _ rfl))) hS ?_
                refine drw_take (i := 8) (l' := #[true, true, true, true, true, true, true, true, true, false, false, false, false, false, false, false]) rfl (guard_on rfl rfl rfl hg1910) rfl rfl (by kernel_rfl) (fun w_ hS_ => (ex_move rfl rfl)) hS ?_
                refine drw_take (i := 9) (l' := #[true, true, true, true, true, true, true, true, true, true, false, false, false, false, false, false]) rfl (guard_on rfl rfl rfl hg1910) rfl rfl (by kernel_rfl) (fun w_ hS_ => (ex_move rfl rfl)) hS ?_
                refine drw_take (i := 10) (l' := #[true, true, true, true, true, true, true, true, true, true, true, false, false, false, false, false]) rfl (guard_on rfl rfl rfl hg1910) rfl rfl (by kernel_rfl) (fun w_ hS_ => (ex_sub rfl rfl rfl)) hS ?_
                have hc1909 : CellsAt _ (sb p0) (so p0 + (wrap64 (a1855 - 1)).toNat * 3) [(.int .i64 ((gt x0 (wrap64 (a1855 - 1))).fKey)), (.int .i64 ((gt x0 (wrap64 (a1855 - 1))).fRef.fTx)), (.int .i64 ((gt x0 (wrap64 (a1855 - 1))).fRef.fAt))] := rd_plain hp0 (or_t e1908 hg1910)
                refine drw_take (i := 11) (l' := #[true, true, true, true, true, true, true, true, true, true, true, true, false, false, false, false]) rfl (guard_on rfl rfl rfl hg1910) rfl rfl (by kernel_rfl) (fun w_ hS_ => (ex_indexAddr (d := kMember) rfl rfl rfl Try.underlying31 tsz94 hp0 (idx_lo (or_t e1908 hg1910)) (idx_hi (or_t e1908 hg1910)))) hS ?_
                refine drw_take (i := 12) (l' := #[true, true, true, true, true, true, true, true, true, true, true, true, true, false, false, false]) rfl (guard_on rfl rfl rfl hg1910) rfl rfl (by kernel_rfl) (fun w_ hS_ => (ex_fieldAddr (off' := so p0 + (wrap64 (a1855 - 1)).toNat * 3) rfl rfl Try.underlying94 rfl tsz2 rfl)) hS ?_
                refine drw_take (i := 13) (l' := #[true, true, true, true, true, true, true, true, true, true, true, true, true, true, false, false]) rfl (guard_on rfl rfl rfl hg1910) rfl rfl (by kernel_rfl) (fun w_ hS_ => (ex_load1 rfl rfl Try.underlying2 rfl ((hS_.at_ hc1909) 0 _ rfl))) hS ?_
                refine drw_take (i := 14) (l' := #[true, true, true, true, true, true, true, true, true, true, true, true, true, true, true, false]) rfl (guard_on rfl rfl rfl hg1910) rfl rfl (by kernel_rfl) (fun w_ hS_ => (ex_leq rfl rfl rfl)) hS ?_
                refine drw_take (i := 15) (v := .bool ((decide (0 < a1855)) && (decide (((gt x0 a1855).fKey) ≤ ((gt x0 (wrap64 (a1855 - 1))).fKey))))) (l' := #[true, true, true, true, true, true, true, true, true, true, true, true, true, true, true, true]) rfl (guard_none rfl) rfl rfl (by kernel_rfl) (fun w_ hS_ => (ex_pand_t rfl rfl hg1910 rfl)) hS ?_
                refine drw_done (by kernel_rfl) ?_
                exact at_meet [(0, p0), (3, .int .i64 a1855), (46, .bool ((decide (0 < a1855)) && (decide (((gt x0 a1855).fKey) ≤ ((gt x0 (wrap64 (a1855 - 1))).fKey)))))] ⟨rfl, HM⟩ (Sub.cons rfl (Sub.cons rfl (Sub.cons rfl Sub.nil)))
              · skip
                refine drw_off (i := 3) (l' := #[true, true, true, true, false, false, false, false, false, false, false, false, false, false, false, false]) rfl (guard_off rfl rfl rfl hg1910) rfl rfl (by kernel_rfl) hS ?_
                refine drw_off (i := 4) (l' := #[true, true, true, true, true, false, false, false, false, false, false, false, false, false, false, false]) rfl (guard_off rfl rfl rfl hg1910) rfl rfl (by kernel_rfl) hS ?_
                refine drw_off (i := 5) (l' := #[true, true, true, true, true, true, false, false, false, false, false, false, false, false, false, false]) rfl (guard_off rfl rfl rfl hg1910) rfl rfl (by kernel_rfl) hS ?_
                refine drw_off (i := 6) (l' := #[true, true, true, true, true, true, true, false, false, false, false, false, false, false, false, false]) rfl (guard_off rfl rfl rfl hg1910) rfl rfl (by kernel_rfl) hS ?_
                refine drw_off (i := 7) (l' := #[true, true, true, true, true, true, true, true, false, false, false, false, false, false, false, false]) rfl (guard_off rfl rfl rfl hg1910) rfl rfl (by kernel_rfl) hS ?_
                refine drw_off (i := 8) (l' := #[true, true, true, true, true, true, true, true, true, false, false, false, false, false, false, false]) rfl (guard_off rfl rfl rfl hg1910) rfl rfl (by kernel_rfl) hS ?_
                refine drw_off (i := 9) (l' := #[true, true, true, true, true, true, true, true, true, true, false, false, false, false, false, false]) rfl (guard_off rfl rfl rfl hg1910) rfl rfl (by kernel_rfl) hS ?_
                refine drw_off (i := 10) (l' := #[true, true, true, true, true, true, true, true, true, true, true, false, false, false, false, false]) rfl (guard_off rfl rfl rfl hg1910) rfl rfl (by kernel_rfl) hS ?_
                refine drw_off (i := 11) (l' := #[true, true, true, true, true, true, true, true, true, true, true, true, false, false, false, false]) rfl (guard_off rfl rfl rfl hg1910) rfl rfl (by kernel_rfl) hS ?_
                refine drw_off (i := 12) (l' := #[true, true, true, true, true, true, true, true, true, true, true, true, true, false, false, false]) rfl (guard_off rfl rfl rfl hg1910) rfl rfl (by kernel_rfl) hS ?_
                refine drw_off (i := 13) (l' := #[true, true, true, true, true, true, true, true, true, true, true, true, true, true, false, false]) rfl (guard_off rfl rfl rfl hg1910) rfl rfl (by kernel_rfl) hS ?_
                refine drw_off (i := 14) (l' := #[true, true, true, true, true, true, true, true, true, true, true, true, true, true, true, false]) rfl (guard_off rfl rfl rfl hg1910) rfl rfl (by kernel_rfl) hS ?_
                have hg1911 : ((decide (0 < a1855)) && (decide (((gt x0 a1855).fKey) ≤ ((gt x0 (wrap64 (a1855 - 1))).fKey)))) = false := by simp only [hg1910, Bool.and_true, Bool.true_and, Bool.and_false, Bool.false_and, Bool.or_true, Bool.true_or, Bool.or_false, Bool.false_or, Bool.not_true, Bool.not_false, Bool.not_not]
                refine drw_take (i := 15) (v := .bool ((decide (0 < a1855)) && (decide (((gt x0 a1855).fKey) ≤ ((gt x0 (wrap64 (a1855 - 1))).fKey))))) (l' := #[true, true, true, true, true, true, true, true, true, true, true, true, true, true, true, true]) rfl (guard_none rfl) rfl rfl (by kernel_rfl) (fun w_ hS_ => (ex_pand_f rfl rfl hg1910)) hS ?_
                refine drw_done (by kernel_rfl) ?_
                exact at_meet [(0, p0), (3, .int .i64 a1855), (46, .bool ((decide (0 < a1855)) && (decide (((gt x0 a1855).fKey) ≤ ((gt x0 (wrap64 (a1855 - 1))).fKey)))))] ⟨rfl, HM⟩ (Sub.cons rfl (Sub.cons rfl (Sub.cons rfl Sub.nil)))
            · rintro _ w1912 ⟨rfl, HM⟩
              refine at_then ?_
              refine run_cond (b := ((decide (0 < a1855)) && (decide (((gt x0 a1855).fKey) ≤ ((gt x0 (wrap64 (a1855 - 1))).fKey))))) rfl (fun hb1913 => ?_) (fun hb1913 => ?_)
              · replace ho1830 := cond_t hb1913 ho1830
                refine run_seq ?_
                refine run_region rfl ?_
                refine ops_ex rfl (guard_none rfl) rfl rfl (ex_assign rfl rfl) ?_
                refine ops_nil ?_
                refine at_then ?_
                refine run_ret ?_
                refine at_block_ret ?_
                refine at_then_ret ?_
                refine at_then_ret ?_
                refine at_block_ret ?_
                refine at_then_ret ?_
                have hR := Option.some.inj ho1830
                subst hR
                have hT := thn_inl H
                have hR := Option.some.inj hT
                subst hR
                exact at_ret1 rfl rfl ⟨_, rfl, rfl, HM⟩
              · replace ho1830 := cond_f hb1913 ho1830
                refine run_skip ?_
                refine at_block ?_
                refine at_then ?_
                refine run_region rfl ?_
                refine ops_ex rfl (guard_none rfl) rfl rfl (ex_move rfl rfl) ?_
                refine ops_ex rfl (guard_none rfl) rfl rfl (ex_add rfl rfl rfl) ?_
                refine ops_ex rfl (guard_none rfl) rfl rfl (ex_assign rfl rfl) ?_
                refine ops_nil ?_
                exact at_again k1880 (ρ1 := [(0, p0), (3, .int .i64 (wrap64 (a1855 + 1)))]) (Nat.lt_succ_self _) ⟨_, ho1830, rfl, HM⟩ (Sub.cons rfl (Sub.cons rfl Sub.nil))
      · replace ho1830 := cond_f hb1882 ho1830
        refine run_exit ?_
        refine at_then_exit ?_
        refine at_then_exit ?_
        refine at_block_exit ?_
        exact at_mid (ρ' := [(0, p0)]) ⟨(Option.some.inj ho1830), rfl, HM⟩ (Sub.cons rfl Sub.nil)
    · rintro _ w1914 ⟨rfl, rfl, HM⟩
      replace H := (thn_inr H)
      obtain ⟨o1982, ho1983, H⟩ := bind_some H
      refine run_mid (fun ρ_ w_ => Sum.inr () = o1982 ∧ ρ_ = [] ∧ Mem w [] w_ []) ?_ ?_
      · skip
        refine run_seq ?_
        refine run_region rfl ?_
        refine ops_ex rfl (guard_none rfl) rfl rfl (ex_assign rfl rfl) ?_
        refine ops_nil ?_
        refine at_then ?_
        refine run_block ?_
        refine run_loop (fun k_ ρ_ w_ => ∃ a2006 : Int, spec_l6Fault.l1 x0 k_ a2006 = some o1982 ∧ ρ_ = [(0, p0), (4, .int .i64 a2006)] ∧ Mem w [] w_ []) k (ρ1 := [(0, p0), (4, .int .i64 0)]) ⟨_, ho1983, rfl, HM⟩ (Sub.cons rfl (Sub.cons rfl Sub.nil)) ?_
        clear HM ho1983
        rintro k2029 _ w2030 ⟨a2006, ho1983, rfl, HM⟩
        obtain _ | k2029 := k2029
        · exact nomatch ((spec_l6Fault.l1_z x0 a2006).symm.trans ho1983)
        replace ho1983 := (spec_l6Fault.l1_s x0 k2029 a2006).symm.trans ho1983
        refine run_seq ?_
        refine run_seq ?_
        refine run_region rfl ?_
        refine ops_ex rfl (guard_none rfl) rfl rfl (ex_move rfl rfl) ?_
        refine ops_ex rfl (guard_none rfl) rfl rfl (ex_move rfl rfl) ?_
        refine ops_ex rfl (guard_none rfl) rfl rfl (ex_len (d := kMember) (xs := x0) rfl rfl Try.underlying31 hp0) ?_
        refine ops_ex rfl (guard_none rfl) rfl rfl (ex_lss rfl rfl rfl) ?_
        refine ops_nil ?_
        refine at_then ?_
        refine run_cond (b := (decide (a2006 < (x0.length : Int)))) rfl (fun hb2031 => ?_) (fun hb2031 => ?_)
        · replace ho1983 := cond_t hb2031 ho1983
          refine run_skip ?_
          refine at_then ?_
          obtain ⟨o2051, ho2052, ho1983⟩ := bind_some ho1983
          refine run_mid (fun ρ_ w_ => Sum.inr () = o2051 ∧ ρ_ = [(0, p0), (4, .int .i64 a2006)] ∧ Mem w [] w_ []) ?_ ?_
          · skip
            refine run_block ?_
            refine run_seq ?_
            refine run_region rfl ?_
            refine ops_ex rfl (guard_none rfl) rfl rfl (ex_assign rfl rfl) ?_
            refine ops_nil ?_
            refine at_then ?_
            refine run_block ?_
            refine run_loop (fun k_ ρ_ w_ => ∃ a2059 : Int, spec_l6Fault.l2 x0 a2006 k_ a2059 = some o2051 ∧ ρ_ = [(0, p0), (4, .int .i64 a2006), (5, .int .i64 a2059)] ∧ Mem w [] w_ []) k2029 (ρ1 := [(0, p0), (4, .int .i64 a2006), (5, .int .i64 0)]) ⟨_, ho2052, rfl, HM⟩ (Sub.cons rfl (Sub.cons rfl (Sub.cons rfl Sub.nil))) ?_
            clear HM ho2052
            rintro k2066 _ w2067 ⟨a2059, ho2052, rfl, HM⟩
            obtain _ | k2066 := k2066
            · exact nomatch ((spec_l6Fault.l2_z x0 a2006 a2059).symm.trans ho2052)
            replace ho2052 := (spec_l6Fault.l2_s x0 a2006 k2066 a2059).symm.trans ho2052
            refine run_seq ?_
            refine run_seq ?_
            refine run_region rfl ?_
            refine ops_ex rfl (guard_none rfl) rfl rfl (ex_move rfl rfl) ?_
            refine ops_ex rfl (guard_none rfl) rfl rfl (ex_move rfl rfl) ?_
            refine ops_ex rfl (guard_none rfl) rfl rfl (ex_lss rfl rfl rfl) ?_
            refine ops_nil ?_
            refine at_then ?_
            refine run_cond (b := (decide (a2059 < a2006))) rfl (fun hb2068 => ?_) (fun hb2068 => ?_)
            · replace ho2052 := cond_t hb2068 ho2052
              refine run_skip ?_
              refine at_then ?_
              refine run_seq ?_
              refine run_block ?_
              refine run_seq ?_
              obtain ⟨e2069, ho2052⟩ := chk_some ho2052
              obtain ⟨e2071, ho2052⟩ := chk_some ho2052
              refine run_draw (fun w_ => Mem w [] w_ []) mixed rfl rfl ?_
              replace HM := HM.grow (fr_drew _)
              have hS := Mem.suf (M := []) HM
              refine drw_take (i := 0) (l' := #[true, false, false, false, false, false, false, false, false, false, false]) rfl (guard_none rfl) rfl rfl (by kernel_rfl) (fun w_ hS_ => (ex_move rfl rfl)) hS ?_
              refine drw_take (i := 1) (l' := #[true, true, false, false, false, false, false, false, false, false, false]) rfl (guard_none rfl) rfl rfl (by kernel_rfl) (fun w_ hS_ => (ex_move rfl rfl)) hS ?_
              have hc2070 : CellsAt _ (sb p0) (so p0 + (a2059).toNat * 3) [(.int .i64 ((gt x0 a2059).fKey)), (.int .i64 ((gt x0 a2059).fRef.fTx)), (.int .i64 ((gt x0 a2059).fRef.fAt))] := rd_plain hp0 e2069
              refine drw_take (i := 2) (l' := #[true, true, true, false, false, false, false, false, false, false, false]) rfl (guard_none rfl) rfl rfl (by kernel_rfl) (fun w_ hS_ => (ex_indexAddr (d := kMember) rfl rfl rfl Try.underlying31 tsz94 hp0 (idx_lo e2069) (idx_hi e2069))) hS ?_
              refine drw_take (i := 3) (l' := #[true, true, true, true, false, false, false, false, false, false, false]) rfl (guard_none rfl) rfl rfl (by kernel_rfl) (fun w_ hS_ => (ex_fieldAddr (off' := so p0 + (a2059).toNat * 3 + 1) rfl rfl Try.underlying94 rfl tsz69 rfl)) hS ?_
              refine drw_take (i := 4) (l' := #[true, true, true, true, true, false, false, false, false, false, false]) rfl (guard_none rfl) rfl rfl (by kernel_rfl) (fun w_ hS_ => (ex_loadN (cs := [(.int .i64 ((gt x0 a2059).fRef.fTx)), (.int .i64 ((gt x0 a2059).fRef.fAt))]) rfl rfl Try.underlying69 rfl tsz69 rfl ((hS_.at_ hc2070).sub 1 2 rfl))) hS ?_
              refine drw_take (i := 5) (l' := #[true, true, true, true, true, true, false, false, false, false, false]) rfl (guard_none rfl) rfl rfl (by kernel_rfl) (fun w_ hS_ => (ex_move rfl rfl)) hS ?_
              refine drw_take (i := 6) (l' := #[true, true, true, true, true, true, true, false, false, false, false]) rfl (guard_none rfl) rfl rfl (by kernel_rfl) (fun w_ hS_ => (ex_move rfl rfl)) hS ?_
              have hc2072 : CellsAt _ (sb p0) (so p0 + (a2006).toNat * 3) [(.int .i64 ((gt x0 a2006).fKey)), (.int .i64 ((gt x0 a2006).fRef.fTx)), (.int .i64 ((gt x0 a2006).fRef.fAt))] := rd_plain hp0 e2071
              refine drw_take (i := 7) (l' := #[true, true, true, true, true, true, true, true, false, false, false]) rfl (guard_none rfl) rfl rfl (by kernel_rfl) (fun w_ hS_ => (ex_indexAddr (d := kMember) rfl rfl rfl Try.underlying31 tsz94 hp0 (idx_lo e2071) (idx_hi e2071))) hS ?_
              refine drw_take (i := 8) (l' := #[true, true, true, true, true, true, true, true, true, false, false]) rfl (guard_none rfl) rfl rfl (by kernel_rfl) (fun w_ hS_ => (ex_fieldAddr (off' := so p0 + (a2006).toNat * 3 + 1) rfl rfl Try.underlying94 rfl tsz69 rfl)) hS ?_
              refine drw_take (i := 9) (l' := #[true, true, true, true, true, true, true, true, true, true, false]) rfl (guard_none rfl) rfl rfl (by kernel_rfl) (fun w_ hS_ => (ex_loadN (cs := [(.int .i64 ((gt x0 a2006).fRef.fTx)), (.int .i64 ((gt x0 a2006).fRef.fAt))]) rfl rfl Try.underlying69 rfl tsz69 rfl ((hS_.at_ hc2072).sub 1 2 rfl))) hS ?_
              refine drw_take (i := 10) (l' := #[true, true, true, true, true, true, true, true, true, true, true]) rfl (guard_none rfl) rfl rfl (by kernel_rfl) (fun w_ hS_ => (ex_aeql rfl rfl rfl (by kernel_rfl) (eqs69 _ _ _ _ _))) hS ?_
              refine drw_done (by kernel_rfl) ?_
              refine at_then ?_
              refine run_cond (b := ((((gt x0 a2059).fRef.fTx) == ((gt x0 a2006).fRef.fTx)) && (((gt x0 a2059).fRef.fAt) == ((gt x0 a2006).fRef.fAt)))) rfl (fun hb2073 => ?_) (fun hb2073 => ?_)
              · replace ho2052 := cond_t hb2073 ho2052
                refine run_seq ?_
                refine run_region rfl ?_
                refine ops_ex rfl (guard_none rfl) rfl rfl (ex_assign rfl rfl) ?_
                refine ops_nil ?_
                refine at_then ?_
                refine run_ret ?_
                refine at_block_ret ?_
                refine at_then_ret ?_
                refine at_then_ret ?_
                refine at_block_ret ?_
                refine at_block_ret ?_
                refine at_then_ret ?_
                refine at_then_ret ?_
                refine at_block_ret ?_
                refine at_then_ret ?_
                have hR := Option.some.inj ho2052
                subst hR
                have hT := thn_inl ho1983
                have hR := Option.some.inj hT
                subst hR
                have hT := thn_inl H
                have hR := Option.some.inj hT
                subst hR
                exact at_ret1 rfl rfl ⟨_, rfl, rfl, HM⟩
              · replace ho2052 := cond_f hb2073 ho2052
                refine run_skip ?_
                refine at_block ?_
                refine at_then ?_
                refine run_region rfl ?_
                refine ops_ex rfl (guard_none rfl) rfl rfl (ex_move rfl rfl) ?_
                refine ops_ex rfl (guard_none rfl) rfl rfl (ex_add rfl rfl rfl) ?_
                refine ops_ex rfl (guard_none rfl) rfl rfl (ex_assign rfl rfl) ?_
                refine ops_nil ?_
                exact at_again k2066 (ρ1 := [(0, p0), (4, .int .i64 a2006), (5, .int .i64 (wrap64 (a2059 + 1)))]) (Nat.lt_succ_self _) ⟨_, ho2052, rfl, HM⟩ (Sub.cons rfl (Sub.cons rfl (Sub.cons rfl Sub.nil)))
            · replace ho2052 := cond_f hb2068 ho2052
              refine run_exit ?_
              refine at_then_exit ?_
              refine at_then_exit ?_
              refine at_block_exit ?_
              refine at_block ?_
              exact at_mid (ρ' := [(0, p0), (4, .int .i64 a2006)]) ⟨(Option.some.inj ho2052), rfl, HM⟩ (Sub.cons rfl (Sub.cons rfl Sub.nil))
          · rintro _ w2074 ⟨rfl, rfl, HM⟩
            replace ho1983 := (thn_inr ho1983)
            refine run_region rfl ?_
            refine ops_ex rfl (guard_none rfl) rfl rfl (ex_move rfl rfl) ?_
            refine ops_ex rfl (guard_none rfl) rfl rfl (ex_add rfl rfl rfl) ?_
            refine ops_ex rfl (guard_none rfl) rfl rfl (ex_assign rfl rfl) ?_
            refine ops_nil ?_
            exact at_again k2029 (ρ1 := [(0, p0), (4, .int .i64 (wrap64 (a2006 + 1)))]) (Nat.lt_succ_self _) ⟨_, ho1983, rfl, HM⟩ (Sub.cons rfl (Sub.cons rfl Sub.nil))
        · replace ho1983 := cond_f hb2031 ho1983
          refine run_exit ?_
          refine at_then_exit ?_
          refine at_then_exit ?_
          refine at_block_exit ?_
          exact at_mid (ρ' := []) ⟨(Option.some.inj ho1983), rfl, HM⟩ Sub.nil
      · rintro _ w2075 ⟨rfl, rfl, HM⟩
        replace H := (thn_inr H)
        refine run_seq ?_
        refine run_region rfl ?_
        refine ops_ex rfl (guard_none rfl) rfl rfl (ex_assign rfl rfl) ?_
        refine ops_nil ?_
        refine at_then ?_
        refine run_ret ?_
        have hR := Option.some.inj H
        subst hR
        exact at_ret1 rfl rfl ⟨_, rfl, rfl, HM⟩
end Go.Proofs.Ytkofpnbacgccnaa.Zk
