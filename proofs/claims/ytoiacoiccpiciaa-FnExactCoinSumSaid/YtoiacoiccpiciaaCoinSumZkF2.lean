/- What functions of the program compute, each as a plain function, and that they do. Conditions: as each theorem states them. -/
import Derived.Test.YtoiacoiccpiciaaCoinSumZkF1
namespace Go.Proofs.Ytoiacoiccpiciaa.Zk
open Go Go.RowKit Go.IntWalk Go.Proofs
set_option linter.unusedVariables false
set_option linter.unusedSimpArgs false
set_option maxRecDepth 100000
set_option maxHeartbeats 4000000
def impl_within.f (k : Nat) (x0 : Int) (x1 : Int) (x2 : Int) : Option Bool := some ((decide (x1 ≤ x0)) && (decide (x0 ≤ x2)))
theorem impl_within.calls {k : Nat} {x0 : Int} {x1 : Int} {x2 : Int}  {w : World}  {r : Bool} (H : impl_within.f k x0 x1 x2 = some r) :
    Calls Try.prog 81 ([.int .i64 x0, .int .i64 x1, .int .i64 x2] : List Value).toArray w (fun e w_ => ∃ v, e = .returned v ∧ v = (.bool r) ∧ Mem w [] w_ []) := by
  have HM := Mem.start w
  refine calls_run (N := 15) Try.func81 rfl rfl rfl rfl ?_
  unfold impl_within.f at H
  refine run_seq ?_
  refine run_region rfl ?_
  refine ops_ex rfl (guard_none rfl) rfl rfl (ex_assign rfl rfl) ?_
  refine ops_nil ?_
  refine at_then ?_
  refine run_seq ?_
  refine run_meet (fun ρ_ w_ => ρ_ = [(6, .bool ((decide (x1 ≤ x0)) && (decide (x0 ≤ x2))))] ∧ Mem w [] w_ []) ?_ ?_
  · skip
    refine run_region rfl ?_
    refine ops_ex rfl (guard_none rfl) rfl rfl (ex_move rfl rfl) ?_
    refine ops_ex rfl (guard_none rfl) rfl rfl (ex_move rfl rfl) ?_
    refine ops_ex rfl (guard_none rfl) rfl rfl (ex_geq rfl rfl rfl) ?_
    refine ops_ex rfl (guard_none rfl) rfl rfl (ex_move rfl rfl) ?_
    refine bool_cases (decide (x1 ≤ x0)) (fun hg1311 => ?_) (fun hg1311 => ?_)
    · skip
      refine ops_ex rfl (guard_on rfl rfl rfl hg1311) rfl rfl (ex_move rfl rfl) ?_
      refine ops_ex rfl (guard_on rfl rfl rfl hg1311) rfl rfl (ex_move rfl rfl) ?_
      refine ops_ex rfl (guard_on rfl rfl rfl hg1311) rfl rfl (ex_leq rfl rfl rfl) ?_
      refine ops_ex (v := .bool ((decide (x1 ≤ x0)) && (decide (x0 ≤ x2)))) rfl (guard_none rfl) rfl rfl (ex_pand_t rfl rfl hg1311 rfl) ?_
      refine ops_ex rfl (guard_none rfl) rfl rfl (ex_assign rfl rfl) ?_
      refine ops_nil ?_
      exact at_meet [(6, .bool ((decide (x1 ≤ x0)) && (decide (x0 ≤ x2))))] ⟨rfl, HM⟩ (Sub.cons rfl Sub.nil)
    · skip
      refine ops_off rfl (guard_off rfl rfl rfl hg1311) rfl rfl ?_
      refine ops_off rfl (guard_off rfl rfl rfl hg1311) rfl rfl ?_
      refine ops_off rfl (guard_off rfl rfl rfl hg1311) rfl rfl ?_
      have hg1312 : ((decide (x1 ≤ x0)) && (decide (x0 ≤ x2))) = false := by simp only [hg1311, Bool.and_true, Bool.true_and, Bool.and_false, Bool.false_and, Bool.or_true, Bool.true_or, Bool.or_false, Bool.false_or, Bool.not_true, Bool.not_false, Bool.not_not]
      refine ops_ex (v := .bool ((decide (x1 ≤ x0)) && (decide (x0 ≤ x2)))) rfl (guard_none rfl) rfl rfl (ex_pand_f rfl rfl hg1311) ?_
      refine ops_ex rfl (guard_none rfl) rfl rfl (ex_assign rfl rfl) ?_
      refine ops_nil ?_
      exact at_meet [(6, .bool ((decide (x1 ≤ x0)) && (decide (x0 ≤ x2))))] ⟨rfl, HM⟩ (Sub.cons rfl Sub.nil)
  · rintro _ w1313 ⟨rfl, HM⟩
    refine at_then ?_
    refine run_ret ?_
    have hR := Option.some.inj H
    subst hR
    exact at_ret1 rfl rfl ⟨_, rfl, rfl, HM⟩

def impl_isId.f (k : Nat) (x0 : Int) : Option Bool := ((impl_within.f k x0 1 60).bind fun t1316 => some t1316)
theorem impl_isId.calls {k : Nat} {x0 : Int}  {w : World}  {r : Bool} (H : impl_isId.f k x0 = some r) :
    Calls Try.prog 131 ([.int .i64 x0] : List Value).toArray w (fun e w_ => ∃ v, e = .returned v ∧ v = (.bool r) ∧ Mem w [] w_ []) := by
  have HM := Mem.start w
  refine calls_run (N := 5) Try.func131 rfl rfl rfl rfl ?_
  unfold impl_isId.f at H
  refine run_seq ?_
  refine run_region rfl ?_
  refine ops_ex rfl (guard_none rfl) rfl rfl (ex_assign rfl rfl) ?_
  refine ops_nil ?_
  refine at_then ?_
  refine run_seq ?_
  obtain ⟨t1316, h1317, H⟩ := bind_some H
  refine run_region rfl ?_
  refine ops_ex rfl (guard_none rfl) rfl rfl (ex_move rfl rfl) ?_
  refine ops_does rfl (guard_none rfl) rfl rfl (does_callk rfl callok81 rfl (impl_within.calls (x0 := x0) (x1 := 1) (x2 := 60) h1317)) ?_
  rintro _ w1318 ⟨rfl, hn⟩
  replace HM : Mem w [] w1318 [] := HM.call hn
  refine ops_ex rfl (guard_none rfl) rfl rfl (ex_assign rfl rfl) ?_
  refine ops_nil ?_
  refine at_then ?_
  refine run_ret ?_
  have hR := Option.some.inj H
  subst hR
  exact at_ret1 rfl rfl ⟨_, rfl, rfl, HM⟩

def impl_isRef.f (k : Nat) (x0 : Ref) : Option Bool := ((impl_isId.f k x0.fTx).bind fun t1327 => ((bif t1327 then impl_within.f k x0.fAt 0 3 else some default).bind fun t1329 => some (t1327 && t1329)))
theorem impl_isRef.calls {k : Nat} {x0 : Ref}  {w : World}  {r : Bool} (H : impl_isRef.f k x0 = some r) :
    Calls Try.prog 79 ([.agg #[(.int .i64 x0.fTx), (.int .i64 x0.fAt)]] : List Value).toArray w (fun e w_ => ∃ v, e = .returned v ∧ v = (.bool r) ∧ Mem w [] w_ []) := by
  have HM := Mem.start w
  refine calls_run (N := 11) Try.func79 rfl rfl rfl rfl ?_
  unfold impl_isRef.f at H
  refine run_seq ?_
  refine run_region rfl ?_
  refine ops_does rfl (guard_none rfl) rfl rfl (does_box (cs := [.int .i64 x0.fTx, .int .i64 x0.fAt]) rfl rfl rfl HM) ?_
  rintro _ w1326 ⟨b1323, rfl, HM⟩
  refine ops_ex rfl (guard_none rfl) rfl rfl (ex_assign rfl rfl) ?_
  refine ops_nil ?_
  refine at_then ?_
  refine run_seq ?_
  obtain ⟨t1327, h1328, H⟩ := bind_some H
  obtain ⟨t1329, h1330, H⟩ := bind_some H
  refine run_meet (fun ρ_ w_ => ρ_ = [(2, .bool (t1327 && t1329))] ∧ Mem w [] w_ []) ?_ ?_
  · skip
    refine run_region rfl ?_
    refine ops_ex rfl (guard_none rfl) rfl rfl (ex_fieldAddr (off' := 0) rfl rfl Try.underlying99 rfl tsz2 rfl) ?_
    refine ops_ex rfl (guard_none rfl) rfl rfl (ex_load1 rfl rfl Try.underlying2 rfl ((HM.box_at 0 rfl) 0 _ rfl)) ?_
    refine ops_does rfl (guard_none rfl) rfl rfl (does_callk rfl callok131 rfl (impl_isId.calls (x0 := x0.fTx) h1328)) ?_
    rintro _ w1331 ⟨rfl, hn⟩
    replace HM : Mem w [] w1331 [box b1323 99 [.int .i64 x0.fTx, .int .i64 x0.fAt]] := HM.call hn
    refine ops_ex rfl (guard_none rfl) rfl rfl (ex_move rfl rfl) ?_
    refine bool_cases t1327 (fun hg1332 => ?_) (fun hg1332 => ?_)
    · skip
      refine ops_ex rfl (guard_on rfl rfl rfl hg1332) rfl rfl (ex_fieldAddr (off' := 1) rfl rfl Try.underlying99 rfl tsz2 rfl) ?_
      refine ops_ex rfl (guard_on rfl rfl rfl hg1332) rfl rfl (ex_load1 rfl rfl Try.underlying2 rfl ((HM.box_at 0 rfl) 1 _ rfl)) ?_
      refine ops_does rfl (guard_on rfl rfl rfl hg1332) rfl rfl (does_callk rfl callok81 rfl (impl_within.calls (x0 := x0.fAt) (x1 := 0) (x2 := 3) (cond_t hg1332 h1330))) ?_
      rintro _ w1333 ⟨rfl, hn⟩
      replace HM : Mem w [] w1333 [box b1323 99 [.int .i64 x0.fTx, .int .i64 x0.fAt]] := HM.call hn
      refine ops_ex (v := .bool (t1327 && t1329)) rfl (guard_none rfl) rfl rfl (ex_pand_t rfl rfl hg1332 rfl) ?_
      refine ops_ex rfl (guard_none rfl) rfl rfl (ex_assign rfl rfl) ?_
      refine ops_nil ?_
      replace HM := (HM.front 0 rfl rfl).drop
      exact at_meet [(2, .bool (t1327 && t1329))] ⟨rfl, HM⟩ (Sub.cons rfl Sub.nil)
    · skip
      refine ops_off rfl (guard_off rfl rfl rfl hg1332) rfl rfl ?_
      refine ops_off rfl (guard_off rfl rfl rfl hg1332) rfl rfl ?_
      refine ops_off rfl (guard_off rfl rfl rfl hg1332) rfl rfl ?_
      have hg1334 : (t1327 && t1329) = false := by simp only [hg1332, Bool.and_true, Bool.true_and, Bool.and_false, Bool.false_and, Bool.or_true, Bool.true_or, Bool.or_false, Bool.false_or, Bool.not_true, Bool.not_false, Bool.not_not]
      refine ops_ex (v := .bool (t1327 && t1329)) rfl (guard_none rfl) rfl rfl (ex_pand_f rfl rfl hg1332) ?_
      refine ops_ex rfl (guard_none rfl) rfl rfl (ex_assign rfl rfl) ?_
      refine ops_nil ?_
      replace HM := (HM.front 0 rfl rfl).drop
      exact at_meet [(2, .bool (t1327 && t1329))] ⟨rfl, HM⟩ (Sub.cons rfl Sub.nil)
  · rintro _ w1335 ⟨rfl, HM⟩
    refine at_then ?_
    refine run_ret ?_
    have hR := Option.some.inj H
    subst hR
    exact at_ret1 rfl rfl ⟨_, rfl, rfl, HM⟩

def impl_isHeight.f (k : Nat) (x0 : Int) : Option Bool := ((impl_within.f k x0 0 999).bind fun t1340 => some t1340)
theorem impl_isHeight.calls {k : Nat} {x0 : Int}  {w : World}  {r : Bool} (H : impl_isHeight.f k x0 = some r) :
    Calls Try.prog 80 ([.int .i64 x0] : List Value).toArray w (fun e w_ => ∃ v, e = .returned v ∧ v = (.bool r) ∧ Mem w [] w_ []) := by
  have HM := Mem.start w
  refine calls_run (N := 5) Try.func80 rfl rfl rfl rfl ?_
  unfold impl_isHeight.f at H
  refine run_seq ?_
  refine run_region rfl ?_
  refine ops_ex rfl (guard_none rfl) rfl rfl (ex_assign rfl rfl) ?_
  refine ops_nil ?_
  refine at_then ?_
  refine run_seq ?_
  obtain ⟨t1340, h1341, H⟩ := bind_some H
  refine run_region rfl ?_
  refine ops_ex rfl (guard_none rfl) rfl rfl (ex_move rfl rfl) ?_
  refine ops_does rfl (guard_none rfl) rfl rfl (does_callk rfl callok81 rfl (impl_within.calls (x0 := x0) (x1 := 0) (x2 := 999) h1341)) ?_
  rintro _ w1342 ⟨rfl, hn⟩
  replace HM : Mem w [] w1342 [] := HM.call hn
  refine ops_ex rfl (guard_none rfl) rfl rfl (ex_assign rfl rfl) ?_
  refine ops_nil ?_
  refine at_then ?_
  refine run_ret ?_
  have hR := Option.some.inj H
  subst hR
  exact at_ret1 rfl rfl ⟨_, rfl, rfl, HM⟩

def impl_isKey.f (k : Nat) (x0 : Int) : Option Bool := ((impl_within.f k x0 1 999).bind fun t1366 => some t1366)
theorem impl_isKey.calls {k : Nat} {x0 : Int}  {w : World}  {r : Bool} (H : impl_isKey.f k x0 = some r) :
    Calls Try.prog 86 ([.int .i64 x0] : List Value).toArray w (fun e w_ => ∃ v, e = .returned v ∧ v = (.bool r) ∧ Mem w [] w_ []) := by
  have HM := Mem.start w
  refine calls_run (N := 5) Try.func86 rfl rfl rfl rfl ?_
  unfold impl_isKey.f at H
  refine run_seq ?_
  refine run_region rfl ?_
  refine ops_ex rfl (guard_none rfl) rfl rfl (ex_assign rfl rfl) ?_
  refine ops_nil ?_
  refine at_then ?_
  refine run_seq ?_
  obtain ⟨t1366, h1367, H⟩ := bind_some H
  refine run_region rfl ?_
  refine ops_ex rfl (guard_none rfl) rfl rfl (ex_move rfl rfl) ?_
  refine ops_does rfl (guard_none rfl) rfl rfl (does_callk rfl callok81 rfl (impl_within.calls (x0 := x0) (x1 := 1) (x2 := 999) h1367)) ?_
  rintro _ w1368 ⟨rfl, hn⟩
  replace HM : Mem w [] w1368 [] := HM.call hn
  refine ops_ex rfl (guard_none rfl) rfl rfl (ex_assign rfl rfl) ?_
  refine ops_nil ?_
  refine at_then ?_
  refine run_ret ?_
  have hR := Option.some.inj H
  subst hR
  exact at_ret1 rfl rfl ⟨_, rfl, rfl, HM⟩

def impl_areKeys_1.f (k : Nat) (x0 : Int) : Option Bool := ((impl_isKey.f k x0).bind fun t1371 => some (!t1371))
theorem impl_areKeys_1.calls {k : Nat} {x0 : Int}  {w : World}  {r : Bool} (H : impl_areKeys_1.f k x0 = some r) :
    Calls Try.prog 163 ([.int .i64 x0] : List Value).toArray w (fun e w_ => ∃ v, e = .returned v ∧ v = (.bool r) ∧ Mem w [] w_ []) := by
  have HM := Mem.start w
  refine calls_run (N := 6) Try.func163 rfl rfl rfl rfl ?_
  unfold impl_areKeys_1.f at H
  refine run_seq ?_
  refine run_region rfl ?_
  refine ops_ex rfl (guard_none rfl) rfl rfl (ex_assign rfl rfl) ?_
  refine ops_nil ?_
  refine at_then ?_
  refine run_seq ?_
  obtain ⟨t1371, h1372, H⟩ := bind_some H
  refine run_region rfl ?_
  refine ops_ex rfl (guard_none rfl) rfl rfl (ex_move rfl rfl) ?_
  refine ops_does rfl (guard_none rfl) rfl rfl (does_callk rfl callok86 rfl (impl_isKey.calls (x0 := x0) h1372)) ?_
  rintro _ w1373 ⟨rfl, hn⟩
  replace HM : Mem w [] w1373 [] := HM.call hn
  refine ops_ex rfl (guard_none rfl) rfl rfl (ex_not rfl rfl) ?_
  refine ops_ex rfl (guard_none rfl) rfl rfl (ex_assign rfl rfl) ?_
  refine ops_nil ?_
  refine at_then ?_
  refine run_ret ?_
  have hR := Option.some.inj H
  subst hR
  exact at_ret1 rfl rfl ⟨_, rfl, rfl, HM⟩

def slices_IndexFunc_int64.l0 (x0 : List Int) : Nat → Int → Option (Int ⊕ Unit)
  | 0, _ => none
  | k + 1, a1419 => (bif (decide (a1419 < (x0.length : Int))) then (chk (idxOk a1419 x0.length) ((impl_areKeys_1.f k (gt x0 a1419)).bind fun t1431 => (bif t1431 then some (.inl a1419) else slices_IndexFunc_int64.l0 x0 k (wrap64 (a1419 + 1))))) else some (.inr ()))
theorem slices_IndexFunc_int64.l0_z (x0 : List Int) (a1419 : Int) : slices_IndexFunc_int64.l0 x0 0 a1419 = none := rfl
theorem slices_IndexFunc_int64.l0_s (x0 : List Int) (k : Nat) (a1419 : Int) : slices_IndexFunc_int64.l0 x0 (k + 1) a1419 = (bif (decide (a1419 < (x0.length : Int))) then (chk (idxOk a1419 x0.length) ((impl_areKeys_1.f k (gt x0 a1419)).bind fun t1431 => (bif t1431 then some (.inl a1419) else slices_IndexFunc_int64.l0 x0 k (wrap64 (a1419 + 1))))) else some (.inr ())) := rfl
def slices_IndexFunc_int64.f (k : Nat) (x0 : List Int) : Option Int := ((slices_IndexFunc_int64.l0 x0 k 0).bind fun o1411 => thn o1411 (fun r => some r) (fun _ => some (-1)))
theorem slices_IndexFunc_int64.calls {k : Nat} {x0 : List Int} {p0 : Value} {w : World} (hp0 : RdS kInt w p0 x0) {r : Int} (H : slices_IndexFunc_int64.f k x0 = some r) :
    Calls Try.prog 170 ([p0, .func (.func 163) #[] #[]] : List Value).toArray w (fun e w_ => ∃ v, e = .returned v ∧ v = (.int .i64 r) ∧ Mem w [] w_ []) := by
  have HM := Mem.start w
  refine calls_run (N := 19) Try.func170 rfl rfl rfl rfl ?_
  unfold slices_IndexFunc_int64.f at H
  refine run_seq ?_
  refine run_region rfl ?_
  refine ops_ex rfl (guard_none rfl) rfl rfl (ex_assign rfl rfl) ?_
  refine ops_nil ?_
  refine at_then ?_
  obtain ⟨o1411, ho1412, H⟩ := bind_some H
  refine run_mid (fun ρ_ w_ => Sum.inr () = o1411 ∧ ρ_ = [] ∧ Mem w [] w_ []) ?_ ?_
  · skip
    refine run_seq ?_
    refine run_region rfl ?_
    refine ops_ex rfl (guard_none rfl) rfl rfl (ex_move rfl rfl) ?_
    refine ops_ex rfl (guard_none rfl) rfl rfl (ex_len (d := kInt) (xs := x0) rfl rfl Try.underlying74 hp0) ?_
    refine ops_ex rfl (guard_none rfl) rfl rfl (ex_move rfl rfl) ?_
    refine ops_nil ?_
    refine at_then ?_
    refine run_block ?_
    refine run_loop (fun k_ ρ_ w_ => ∃ a1419 : Int, slices_IndexFunc_int64.l0 x0 k_ a1419 = some o1411 ∧ ρ_ = [(0, p0), (1, .func (.func 163) #[] #[]), (7, .int .i64 (x0.length : Int)), (8, .int .i64 a1419)] ∧ Mem w [] w_ []) k (ρ1 := [(0, p0), (1, .func (.func 163) #[] #[]), (7, .int .i64 (x0.length : Int)), (8, .int .i64 0)]) ⟨_, ho1412, rfl, HM⟩ (Sub.cons rfl (Sub.cons rfl (Sub.cons rfl (Sub.cons rfl Sub.nil)))) ?_
    clear HM ho1412
    rintro k1426 _ w1427 ⟨a1419, ho1412, rfl, HM⟩
    obtain _ | k1426 := k1426
    · exact nomatch ((slices_IndexFunc_int64.l0_z x0 a1419).symm.trans ho1412)
    replace ho1412 := (slices_IndexFunc_int64.l0_s x0 k1426 a1419).symm.trans ho1412
    refine run_seq ?_
    refine run_region rfl ?_
    refine ops_ex rfl (guard_none rfl) rfl rfl (ex_lss rfl rfl rfl) ?_
    refine ops_nil ?_
    refine at_then ?_
    refine run_seq ?_
    refine run_cond (b := (decide (a1419 < (x0.length : Int)))) rfl (fun hb1428 => ?_) (fun hb1428 => ?_)
    · replace ho1412 := cond_t hb1428 ho1412
      refine run_skip ?_
      refine at_then ?_
      refine run_seq ?_
      refine run_block ?_
      refine run_seq ?_
      refine run_region rfl ?_
      refine ops_ex rfl (guard_none rfl) rfl rfl (ex_move rfl rfl) ?_
      refine ops_ex rfl (guard_none rfl) rfl rfl (ex_assign rfl rfl) ?_
      refine ops_nil ?_
      refine at_then ?_
      refine run_seq ?_
      obtain ⟨e1429, ho1412⟩ := chk_some ho1412
      obtain ⟨t1431, h1432, ho1412⟩ := bind_some ho1412
      refine run_region rfl ?_
      refine ops_ex rfl (guard_none rfl) rfl rfl (ex_move rfl rfl) ?_
      refine ops_ex rfl (guard_none rfl) rfl rfl (ex_move rfl rfl) ?_
      refine ops_ex rfl (guard_none rfl) rfl rfl (ex_move rfl rfl) ?_
      have hc1430 : CellsAt _ (sb p0) (so p0 + (a1419).toNat * 1) [(.int .i64 (gt x0 a1419))] := rd_plain hp0 e1429
      refine ops_ex rfl (guard_none rfl) rfl rfl (ex_indexAddr (d := kInt) rfl rfl rfl Try.underlying74 tsz2 hp0 (idx_lo e1429) (idx_hi e1429)) ?_
      refine ops_ex rfl (guard_none rfl) rfl rfl (ex_load1 rfl rfl Try.underlying2 rfl ((HM.at_ hc1430) 0 _ rfl)) ?_
      refine ops_does rfl (guard_none rfl) rfl rfl (does_callvk rfl callok163 rfl rfl rfl (impl_areKeys_1.calls (x0 := (gt x0 a1419)) h1432)) ?_
      rintro _ w1433 ⟨rfl, hn⟩
      replace HM : Mem w [] w1433 [] := HM.call hn
      refine ops_nil ?_
      refine at_then ?_
      refine run_cond (b := t1431) rfl (fun hb1434 => ?_) (fun hb1434 => ?_)
      · replace ho1412 := cond_t hb1434 ho1412
        refine run_seq ?_
        refine run_region rfl ?_
        refine ops_ex rfl (guard_none rfl) rfl rfl (ex_move rfl rfl) ?_
        refine ops_ex rfl (guard_none rfl) rfl rfl (ex_assign rfl rfl) ?_
        refine ops_nil ?_
        refine at_then ?_
        refine run_ret ?_
        refine at_block_ret ?_
        refine at_then_ret ?_
        refine at_then_ret ?_
        refine at_block_ret ?_
        refine at_then_ret ?_
        have hR := Option.some.inj ho1412
        subst hR
        have hT := thn_inl H
        have hR := Option.some.inj hT
        subst hR
        exact at_ret1 rfl rfl ⟨_, rfl, rfl, HM⟩
      · replace ho1412 := cond_f hb1434 ho1412
        refine run_skip ?_
        refine at_block ?_
        refine at_then ?_
        refine run_region rfl ?_
        refine ops_ex rfl (guard_none rfl) rfl rfl (ex_add rfl rfl rfl) ?_
        refine ops_ex rfl (guard_none rfl) rfl rfl (ex_move rfl rfl) ?_
        refine ops_nil ?_
        exact at_again k1426 (ρ1 := [(0, p0), (1, .func (.func 163) #[] #[]), (7, .int .i64 (x0.length : Int)), (8, .int .i64 (wrap64 (a1419 + 1)))]) (Nat.lt_succ_self _) ⟨_, ho1412, rfl, HM⟩ (Sub.cons rfl (Sub.cons rfl (Sub.cons rfl (Sub.cons rfl Sub.nil))))
    · replace ho1412 := cond_f hb1428 ho1412
      refine run_exit ?_
      refine at_then_exit ?_
      refine at_then_exit ?_
      refine at_block_exit ?_
      exact at_mid (ρ' := []) ⟨(Option.some.inj ho1412), rfl, HM⟩ Sub.nil
  · rintro _ w1435 ⟨rfl, rfl, HM⟩
    replace H := (thn_inr H)
    refine run_seq ?_
    refine run_region rfl ?_
    refine ops_ex rfl (guard_none rfl) rfl rfl (ex_assign rfl rfl) ?_
    refine ops_nil ?_
    refine at_then ?_
    refine run_ret ?_
    have hR := Option.some.inj H
    subst hR
    exact at_ret1 rfl rfl ⟨_, rfl, rfl, HM⟩

def slices_ContainsFunc_int64.f (k : Nat) (x0 : List Int) : Option Bool := ((slices_IndexFunc_int64.f k x0).bind fun t1438 => some (decide (0 ≤ t1438)))
theorem slices_ContainsFunc_int64.calls {k : Nat} {x0 : List Int} {p0 : Value} {w : World} (hp0 : RdS kInt w p0 x0) {r : Bool} (H : slices_ContainsFunc_int64.f k x0 = some r) :
    Calls Try.prog 162 ([p0, .func (.func 163) #[] #[]] : List Value).toArray w (fun e w_ => ∃ v, e = .returned v ∧ v = (.bool r) ∧ Mem w [] w_ []) := by
  have HM := Mem.start w
  refine calls_run (N := 9) Try.func162 rfl rfl rfl rfl ?_
  unfold slices_ContainsFunc_int64.f at H
  refine run_seq ?_
  refine run_region rfl ?_
  refine ops_ex rfl (guard_none rfl) rfl rfl (ex_assign rfl rfl) ?_
  refine ops_nil ?_
  refine at_then ?_
  refine run_seq ?_
  obtain ⟨t1438, h1439, H⟩ := bind_some H
  refine run_region rfl ?_
  refine ops_ex rfl (guard_none rfl) rfl rfl (ex_move rfl rfl) ?_
  refine ops_ex rfl (guard_none rfl) rfl rfl (ex_move rfl rfl) ?_
  refine ops_does rfl (guard_none rfl) rfl rfl (does_callk rfl callok170 rfl (slices_IndexFunc_int64.calls (x0 := x0) (HM.rd hp0) h1439)) ?_
  rintro _ w1440 ⟨rfl, hn⟩
  replace HM : Mem w [] w1440 [] := HM.call hn
  refine ops_ex rfl (guard_none rfl) rfl rfl (ex_geq rfl rfl rfl) ?_
  refine ops_ex rfl (guard_none rfl) rfl rfl (ex_assign rfl rfl) ?_
  refine ops_nil ?_
  refine at_then ?_
  refine run_ret ?_
  have hR := Option.some.inj H
  subst hR
  exact at_ret1 rfl rfl ⟨_, rfl, rfl, HM⟩

def impl_areKeys.f (k : Nat) (x0 : List Int) : Option Bool := ((slices_ContainsFunc_int64.f k x0).bind fun t1443 => some (!t1443))
theorem impl_areKeys.calls {k : Nat} {x0 : List Int} {p0 : Value} {w : World} (hp0 : RdS kInt w p0 x0) {r : Bool} (H : impl_areKeys.f k x0 = some r) :
    Calls Try.prog 132 ([p0] : List Value).toArray w (fun e w_ => ∃ v, e = .returned v ∧ v = (.bool r) ∧ Mem w [] w_ []) := by
  have HM := Mem.start w
  refine calls_run (N := 6) Try.func132 rfl rfl rfl rfl ?_
  unfold impl_areKeys.f at H
  refine run_seq ?_
  refine run_region rfl ?_
  refine ops_ex rfl (guard_none rfl) rfl rfl (ex_assign rfl rfl) ?_
  refine ops_nil ?_
  refine at_then ?_
  refine run_seq ?_
  obtain ⟨t1443, h1444, H⟩ := bind_some H
  refine run_region rfl ?_
  refine ops_ex rfl (guard_none rfl) rfl rfl (ex_move rfl rfl) ?_
  refine ops_does rfl (guard_none rfl) rfl rfl (does_callk rfl callok162 rfl (slices_ContainsFunc_int64.calls (x0 := x0) (HM.rd hp0) h1444)) ?_
  rintro _ w1445 ⟨rfl, hn⟩
  replace HM : Mem w [] w1445 [] := HM.call hn
  refine ops_ex rfl (guard_none rfl) rfl rfl (ex_not rfl rfl) ?_
  refine ops_ex rfl (guard_none rfl) rfl rfl (ex_assign rfl rfl) ?_
  refine ops_nil ?_
  refine at_then ?_
  refine run_ret ?_
  have hR := Option.some.inj H
  subst hR
  exact at_ret1 rfl rfl ⟨_, rfl, rfl, HM⟩

def impl_isRising.l0 (x0 : List Int) : Nat → Int → Option (Bool ⊕ Unit)
  | 0, _ => none
  | k + 1, a1501 => (bif (decide (a1501 < (x0.length : Int))) then (chk (idxOk a1501 x0.length) (chk (idxOk (wrap64 (a1501 - 1)) x0.length) (bif (decide ((gt x0 a1501) ≤ (gt x0 (wrap64 (a1501 - 1))))) then some (.inl false) else impl_isRising.l0 x0 k (wrap64 (a1501 + 1))))) else some (.inr ()))
theorem impl_isRising.l0_z (x0 : List Int) (a1501 : Int) : impl_isRising.l0 x0 0 a1501 = none := rfl
theorem impl_isRising.l0_s (x0 : List Int) (k : Nat) (a1501 : Int) : impl_isRising.l0 x0 (k + 1) a1501 = (bif (decide (a1501 < (x0.length : Int))) then (chk (idxOk a1501 x0.length) (chk (idxOk (wrap64 (a1501 - 1)) x0.length) (bif (decide ((gt x0 a1501) ≤ (gt x0 (wrap64 (a1501 - 1))))) then some (.inl false) else impl_isRising.l0 x0 k (wrap64 (a1501 + 1))))) else some (.inr ())) := rfl
def impl_isRising.f (k : Nat) (x0 : List Int) : Option Bool := ((impl_isRising.l0 x0 k 1).bind fun o1493 => thn o1493 (fun r => some r) (fun _ => some true))
theorem impl_isRising.calls {k : Nat} {x0 : List Int} {p0 : Value} {w : World} (hp0 : RdS kInt w p0 x0) {r : Bool} (H : impl_isRising.f k x0 = some r) :
    Calls Try.prog 133 ([p0] : List Value).toArray w (fun e w_ => ∃ v, e = .returned v ∧ v = (.bool r) ∧ Mem w [] w_ []) := by
  have HM := Mem.start w
  refine calls_run (N := 20) Try.func133 rfl rfl rfl rfl ?_
  unfold impl_isRising.f at H
  refine run_seq ?_
  refine run_region rfl ?_
  refine ops_ex rfl (guard_none rfl) rfl rfl (ex_assign rfl rfl) ?_
  refine ops_nil ?_
  refine at_then ?_
  obtain ⟨o1493, ho1494, H⟩ := bind_some H
  refine run_mid (fun ρ_ w_ => Sum.inr () = o1493 ∧ ρ_ = [] ∧ Mem w [] w_ []) ?_ ?_
  · skip
    refine run_seq ?_
    refine run_region rfl ?_
    refine ops_ex rfl (guard_none rfl) rfl rfl (ex_assign rfl rfl) ?_
    refine ops_nil ?_
    refine at_then ?_
    refine run_block ?_
    refine run_loop (fun k_ ρ_ w_ => ∃ a1501 : Int, impl_isRising.l0 x0 k_ a1501 = some o1493 ∧ ρ_ = [(0, p0), (3, .int .i64 a1501)] ∧ Mem w [] w_ []) k (ρ1 := [(0, p0), (3, .int .i64 1)]) ⟨_, ho1494, rfl, HM⟩ (Sub.cons rfl (Sub.cons rfl Sub.nil)) ?_
    clear HM ho1494
    rintro k1508 _ w1509 ⟨a1501, ho1494, rfl, HM⟩
    obtain _ | k1508 := k1508
    · exact nomatch ((impl_isRising.l0_z x0 a1501).symm.trans ho1494)
    replace ho1494 := (impl_isRising.l0_s x0 k1508 a1501).symm.trans ho1494
    refine run_seq ?_
    refine run_seq ?_
    refine run_region rfl ?_
    refine ops_ex rfl (guard_none rfl) rfl rfl (ex_move rfl rfl) ?_
    refine ops_ex rfl (guard_none rfl) rfl rfl (ex_move rfl rfl) ?_
    refine ops_ex rfl (guard_none rfl) rfl rfl (ex_len (d := kInt) (xs := x0) rfl rfl Try.underlying74 hp0) ?_
    refine ops_ex rfl (guard_none rfl) rfl rfl (ex_lss rfl rfl rfl) ?_
    refine ops_nil ?_
    refine at_then ?_
    refine run_cond (b := (decide (a1501 < (x0.length : Int)))) rfl (fun hb1510 => ?_) (fun hb1510 => ?_)
    · replace ho1494 := cond_t hb1510 ho1494
      refine run_skip ?_
      refine at_then ?_
      refine run_seq ?_
      refine run_block ?_
      refine run_seq ?_
      obtain ⟨e1511, ho1494⟩ := chk_some ho1494
      obtain ⟨e1513, ho1494⟩ := chk_some ho1494
      refine run_drawf (fun w_ => Mem w [] w_ []) [(0, true), (1, true), (2, true), (3, true), (4, true), (5, true), (6, true), (7, true), (8, true), (9, true)] mixed rfl rfl (by kernel_rfl) ?_
      replace HM := HM.grow (fr_drew _)
      have hS := Mem.suf (M := []) HM
      refine drwp_take rfl (guard_none rfl) rfl rfl (fun w_ hS_ => (ex_move rfl rfl)) hS ?_
      refine drwp_take rfl (guard_none rfl) rfl rfl (fun w_ hS_ => (ex_move rfl rfl)) hS ?_
      have hc1512 : CellsAt _ (sb p0) (so p0 + (a1501).toNat * 1) [(.int .i64 (gt x0 a1501))] := rd_plain hp0 e1511
      refine drwp_take rfl (guard_none rfl) rfl rfl (fun w_ hS_ => (ex_indexAddr (d := kInt) rfl rfl rfl Try.underlying74 tsz2 hp0 (idx_lo e1511) (idx_hi e1511))) hS ?_
      refine drwp_take rfl (guard_none rfl) rfl rfl (fun w_ hS_ => (ex_load1 rfl rfl Try.underlying2 rfl ((hS_.at_ hc1512) 0 _ rfl))) hS ?_
      refine drwp_take rfl (guard_none rfl) rfl rfl (fun w_ hS_ => (ex_move rfl rfl)) hS ?_
      refine drwp_take rfl (guard_none rfl) rfl rfl (fun w_ hS_ => (ex_move rfl rfl)) hS ?_
      refine drwp_take rfl (guard_none rfl) rfl rfl (fun w_ hS_ => (ex_sub rfl rfl rfl)) hS ?_
      have hc1514 : CellsAt _ (sb p0) (so p0 + (wrap64 (a1501 - 1)).toNat * 1) [(.int .i64 (gt x0 (wrap64 (a1501 - 1))))] := rd_plain hp0 e1513
      refine drwp_take rfl (guard_none rfl) rfl rfl (fun w_ hS_ => (ex_indexAddr (d := kInt) rfl rfl rfl Try.underlying74 tsz2 hp0 (idx_lo e1513) (idx_hi e1513))) hS ?_
      refine drwp_take rfl (guard_none rfl) rfl rfl (fun w_ hS_ => (ex_load1 rfl rfl Try.underlying2 rfl ((hS_.at_ hc1514) 0 _ rfl))) hS ?_
      refine drwp_take rfl (guard_none rfl) rfl rfl (fun w_ hS_ => (ex_leq rfl rfl rfl)) hS ?_
      refine drwp_done ?_
      refine at_then ?_
      refine run_cond (b := (decide ((gt x0 a1501) ≤ (gt x0 (wrap64 (a1501 - 1)))))) rfl (fun hb1515 => ?_) (fun hb1515 => ?_)
      · replace ho1494 := cond_t hb1515 ho1494
        refine run_seq ?_
        refine run_region rfl ?_
        refine ops_ex rfl (guard_none rfl) rfl rfl (ex_assign rfl rfl) ?_
        refine ops_nil ?_
        refine at_then ?_
        refine run_ret ?_
        refine at_block_ret ?_
        refine at_then_ret ?_
        refine at_then_ret ?_
        refine at_block_ret ?_
        refine at_then_ret ?_
        have hR := Option.some.inj ho1494
        subst hR
        have hT := thn_inl H
        have hR := Option.some.inj hT
        subst hR
        exact at_ret1 rfl rfl ⟨_, rfl, rfl, HM⟩
      · replace ho1494 := cond_f hb1515 ho1494
        refine run_skip ?_
        refine at_block ?_
        refine at_then ?_
        refine run_region rfl ?_
        refine ops_ex rfl (guard_none rfl) rfl rfl (ex_move rfl rfl) ?_
        refine ops_ex rfl (guard_none rfl) rfl rfl (ex_add rfl rfl rfl) ?_
        refine ops_ex rfl (guard_none rfl) rfl rfl (ex_assign rfl rfl) ?_
        refine ops_nil ?_
        exact at_again k1508 (ρ1 := [(0, p0), (3, .int .i64 (wrap64 (a1501 + 1)))]) (Nat.lt_succ_self _) ⟨_, ho1494, rfl, HM⟩ (Sub.cons rfl (Sub.cons rfl Sub.nil))
    · replace ho1494 := cond_f hb1510 ho1494
      refine run_exit ?_
      refine at_then_exit ?_
      refine at_then_exit ?_
      refine at_block_exit ?_
      exact at_mid (ρ' := []) ⟨(Option.some.inj ho1494), rfl, HM⟩ Sub.nil
  · rintro _ w1516 ⟨rfl, rfl, HM⟩
    replace H := (thn_inr H)
    refine run_seq ?_
    refine run_region rfl ?_
    refine ops_ex rfl (guard_none rfl) rfl rfl (ex_assign rfl rfl) ?_
    refine ops_nil ?_
    refine at_then ?_
    refine run_ret ?_
    have hR := Option.some.inj H
    subst hR
    exact at_ret1 rfl rfl ⟨_, rfl, rfl, HM⟩

def impl_RuleFault.f (k : Nat) (x0 : Rule) : Option Int := ((impl_within.f k (x0.fKeys.length : Int) 1 3).bind fun t1524 => (bif !t1524 then some 2 else ((impl_areKeys.f k x0.fKeys).bind fun t1528 => ((bif (!(!t1528)) then impl_within.f k x0.fNeed 1 (x0.fKeys.length : Int) else some default).bind fun t1530 => ((bif (!((!t1528) || (!t1530))) then impl_isHeight.f k x0.fAfter else some default).bind fun t1532 => (bif (((!t1528) || (!t1530)) || (!t1532)) then some 3 else ((impl_isRising.f k x0.fKeys).bind fun t1544 => (bif !t1544 then some 1 else some 0))))))))
theorem impl_RuleFault.calls {k : Nat} {x0 : Rule} {p0_0 : Value} {w : World} (hp0_0 : RdS kInt w p0_0 x0.fKeys) {r : Int} (H : impl_RuleFault.f k x0 = some r) :
    Calls Try.prog 82 ([.agg #[p0_0, (.int .i64 x0.fNeed), (.int .i64 x0.fAfter)]] : List Value).toArray w (fun e w_ => ∃ v, e = .returned v ∧ v = (.int .i64 r) ∧ Mem w [] w_ []) := by
  have HM := Mem.start w
  refine calls_run (N := 34) Try.func82 rfl rfl rfl rfl ?_
  unfold impl_RuleFault.f at H
  refine run_seq ?_
  refine run_region rfl ?_
  refine ops_does rfl (guard_none rfl) rfl rfl (does_box (cs := [p0_0, .int .i64 x0.fNeed, .int .i64 x0.fAfter]) rfl rfl rfl HM) ?_
  rintro _ w1523 ⟨b1520, rfl, HM⟩
  refine ops_ex rfl (guard_none rfl) rfl rfl (ex_assign rfl rfl) ?_
  refine ops_nil ?_
  refine at_then ?_
  refine run_seq ?_
  refine run_region rfl ?_
  refine ops_ex rfl (guard_none rfl) rfl rfl (ex_fieldAddr (off' := 0) rfl rfl Try.underlying100 rfl tsz74 rfl) ?_
  refine ops_ex rfl (guard_none rfl) rfl rfl (ex_load1 rfl rfl Try.underlying74 rfl ((HM.box_at 0 rfl) 0 _ rfl)) ?_
  refine ops_ex rfl (guard_none rfl) rfl rfl (ex_len (d := kInt) (xs := x0.fKeys) rfl rfl Try.underlying74 hp0_0) ?_
  refine ops_ex rfl (guard_none rfl) rfl rfl (ex_assign rfl rfl) ?_
  refine ops_nil ?_
  refine at_then ?_
  refine run_seq ?_
  refine run_block ?_
  refine run_seq ?_
  obtain ⟨t1524, h1525, H⟩ := bind_some H
  refine run_region rfl ?_
  refine ops_ex rfl (guard_none rfl) rfl rfl (ex_move rfl rfl) ?_
  refine ops_does rfl (guard_none rfl) rfl rfl (does_callk rfl callok81 rfl (impl_within.calls (x0 := (x0.fKeys.length : Int)) (x1 := 1) (x2 := 3) h1525)) ?_
  rintro _ w1526 ⟨rfl, hn⟩
  replace HM : Mem w [] w1526 [box b1520 100 [p0_0, .int .i64 x0.fNeed, .int .i64 x0.fAfter]] := HM.call hn
  refine ops_ex rfl (guard_none rfl) rfl rfl (ex_not rfl rfl) ?_
  refine ops_ex rfl (guard_none rfl) rfl rfl (ex_assign rfl rfl) ?_
  refine ops_nil ?_
  refine at_then ?_
  refine run_cond (b := !t1524) rfl (fun hb1527 => ?_) (fun hb1527 => ?_)
  · replace H := cond_t hb1527 H
    refine run_seq ?_
    refine run_region rfl ?_
    refine ops_ex rfl (guard_none rfl) rfl rfl (ex_assign rfl rfl) ?_
    refine ops_nil ?_
    refine at_then ?_
    refine run_ret ?_
    refine at_block_ret ?_
    refine at_then_ret ?_
    replace HM := (HM.front 0 rfl rfl).drop
    have hR := Option.some.inj H
    subst hR
    exact at_ret1 rfl rfl ⟨_, rfl, rfl, HM⟩
  · replace H := cond_f hb1527 H
    refine run_seq ?_
    obtain ⟨t1528, h1529, H⟩ := bind_some H
    obtain ⟨t1530, h1531, H⟩ := bind_some H
    obtain ⟨t1532, h1533, H⟩ := bind_some H
    refine run_meet (fun ρ_ w_ => ρ_ = [(1, .pointer (some ⟨b1520, 0, none⟩)), (11, .bool (((!t1528) || (!t1530)) || (!t1532)))] ∧ Mem w [] w_ [box b1520 100 [p0_0, .int .i64 x0.fNeed, .int .i64 x0.fAfter]]) ?_ ?_
    · skip
      refine run_region rfl ?_
      refine ops_ex rfl (guard_none rfl) rfl rfl (ex_fieldAddr (off' := 0) rfl rfl Try.underlying100 rfl tsz74 rfl) ?_
      refine ops_ex rfl (guard_none rfl) rfl rfl (ex_load1 rfl rfl Try.underlying74 rfl ((HM.box_at 0 rfl) 0 _ rfl)) ?_
      refine ops_does rfl (guard_none rfl) rfl rfl (does_callk rfl callok132 rfl (impl_areKeys.calls (x0 := x0.fKeys) (HM.rd hp0_0) h1529)) ?_
      rintro _ w1534 ⟨rfl, hn⟩
      replace HM : Mem w [] w1534 [box b1520 100 [p0_0, .int .i64 x0.fNeed, .int .i64 x0.fAfter]] := HM.call hn
      refine ops_ex rfl (guard_none rfl) rfl rfl (ex_not rfl rfl) ?_
      refine ops_ex rfl (guard_none rfl) rfl rfl (ex_move rfl rfl) ?_
      refine bool_cases (!t1528) (fun hg1535 => ?_) (fun hg1535 => ?_)
      · skip
        refine ops_off rfl (guard_off rfl rfl rfl hg1535) rfl rfl ?_
        refine ops_off rfl (guard_off rfl rfl rfl hg1535) rfl rfl ?_
        refine ops_off rfl (guard_off rfl rfl rfl hg1535) rfl rfl ?_
        refine ops_off rfl (guard_off rfl rfl rfl hg1535) rfl rfl ?_
        refine ops_off rfl (guard_off rfl rfl rfl hg1535) rfl rfl ?_
        have hg1536 : ((!t1528) || (!t1530)) = true := by simp only [hg1535, Bool.and_true, Bool.true_and, Bool.and_false, Bool.false_and, Bool.or_true, Bool.true_or, Bool.or_false, Bool.false_or, Bool.not_true, Bool.not_false, Bool.not_not]
        refine ops_ex (v := .bool ((!t1528) || (!t1530))) rfl (guard_none rfl) rfl rfl (ex_por_t rfl rfl hg1535) ?_
        refine ops_ex rfl (guard_none rfl) rfl rfl (ex_move rfl rfl) ?_
        refine ops_off rfl (guard_off rfl rfl rfl hg1536) rfl rfl ?_
        refine ops_off rfl (guard_off rfl rfl rfl hg1536) rfl rfl ?_
        refine ops_off rfl (guard_off rfl rfl rfl hg1536) rfl rfl ?_
        refine ops_off rfl (guard_off rfl rfl rfl hg1536) rfl rfl ?_
        have hg1537 : (((!t1528) || (!t1530)) || (!t1532)) = true := by simp only [hg1536, Bool.and_true, Bool.true_and, Bool.and_false, Bool.false_and, Bool.or_true, Bool.true_or, Bool.or_false, Bool.false_or, Bool.not_true, Bool.not_false, Bool.not_not]
        refine ops_ex (v := .bool (((!t1528) || (!t1530)) || (!t1532))) rfl (guard_none rfl) rfl rfl (ex_por_t rfl rfl hg1536) ?_
        refine ops_ex rfl (guard_none rfl) rfl rfl (ex_assign rfl rfl) ?_
        refine ops_nil ?_
        exact at_meet [(1, .pointer (some ⟨b1520, 0, none⟩)), (11, .bool (((!t1528) || (!t1530)) || (!t1532)))] ⟨rfl, HM⟩ (Sub.cons rfl (Sub.cons rfl Sub.nil))
      · skip
        refine ops_ex rfl (guard_on rfl rfl rfl hg1535) rfl rfl (ex_fieldAddr (off' := 1) rfl rfl Try.underlying100 rfl tsz2 rfl) ?_
        refine ops_ex rfl (guard_on rfl rfl rfl hg1535) rfl rfl (ex_load1 rfl rfl Try.underlying2 rfl ((HM.box_at 0 rfl) 1 _ rfl)) ?_
        refine ops_ex rfl (guard_on rfl rfl rfl hg1535) rfl rfl (ex_move rfl rfl) ?_
        refine ops_does rfl (guard_on rfl rfl rfl hg1535) rfl rfl (does_callk rfl callok81 rfl (impl_within.calls (x0 := x0.fNeed) (x1 := 1) (x2 := (x0.fKeys.length : Int)) (cond_t (not_mk hg1535) h1531))) ?_
        rintro _ w1538 ⟨rfl, hn⟩
        replace HM : Mem w [] w1538 [box b1520 100 [p0_0, .int .i64 x0.fNeed, .int .i64 x0.fAfter]] := HM.call hn
        refine ops_ex rfl (guard_on rfl rfl rfl hg1535) rfl rfl (ex_not rfl rfl) ?_
        refine ops_ex (v := .bool ((!t1528) || (!t1530))) rfl (guard_none rfl) rfl rfl (ex_por_f rfl rfl hg1535 rfl) ?_
        refine ops_ex rfl (guard_none rfl) rfl rfl (ex_move rfl rfl) ?_
        refine bool_cases ((!t1528) || (!t1530)) (fun hg1539 => ?_) (fun hg1539 => ?_)
        · skip
          refine ops_off rfl (guard_off rfl rfl rfl hg1539) rfl rfl ?_
          refine ops_off rfl (guard_off rfl rfl rfl hg1539) rfl rfl ?_
          refine ops_off rfl (guard_off rfl rfl rfl hg1539) rfl rfl ?_
          refine ops_off rfl (guard_off rfl rfl rfl hg1539) rfl rfl ?_
          have hg1540 : (((!t1528) || (!t1530)) || (!t1532)) = true := by simp only [hg1539, Bool.and_true, Bool.true_and, Bool.and_false, Bool.false_and, Bool.or_true, Bool.true_or, Bool.or_false, Bool.false_or, Bool.not_true, Bool.not_false, Bool.not_not]
          refine ops_ex (v := .bool (((!t1528) || (!t1530)) || (!t1532))) rfl (guard_none rfl) rfl rfl (ex_por_t rfl rfl hg1539) ?_
          refine ops_ex rfl (guard_none rfl) rfl rfl (ex_assign rfl rfl) ?_
          refine ops_nil ?_
          exact at_meet [(1, .pointer (some ⟨b1520, 0, none⟩)), (11, .bool (((!t1528) || (!t1530)) || (!t1532)))] ⟨rfl, HM⟩ (Sub.cons rfl (Sub.cons rfl Sub.nil))
        · skip
          refine ops_ex rfl (guard_on rfl rfl rfl hg1539) rfl rfl (ex_fieldAddr (off' := 2) rfl rfl Try.underlying100 rfl tsz2 rfl) ?_
          refine ops_ex rfl (guard_on rfl rfl rfl hg1539) rfl rfl (ex_load1 rfl rfl Try.underlying2 rfl ((HM.box_at 0 rfl) 2 _ rfl)) ?_
          refine ops_does rfl (guard_on rfl rfl rfl hg1539) rfl rfl (does_callk rfl callok80 rfl (impl_isHeight.calls (x0 := x0.fAfter) (cond_t (not_mk hg1539) h1533))) ?_
          rintro _ w1541 ⟨rfl, hn⟩
          replace HM : Mem w [] w1541 [box b1520 100 [p0_0, .int .i64 x0.fNeed, .int .i64 x0.fAfter]] := HM.call hn
          refine ops_ex rfl (guard_on rfl rfl rfl hg1539) rfl rfl (ex_not rfl rfl) ?_
          refine ops_ex (v := .bool (((!t1528) || (!t1530)) || (!t1532))) rfl (guard_none rfl) rfl rfl (ex_por_f rfl rfl hg1539 rfl) ?_
          refine ops_ex rfl (guard_none rfl) rfl rfl (ex_assign rfl rfl) ?_
          refine ops_nil ?_
          exact at_meet [(1, .pointer (some ⟨b1520, 0, none⟩)), (11, .bool (((!t1528) || (!t1530)) || (!t1532)))] ⟨rfl, HM⟩ (Sub.cons rfl (Sub.cons rfl Sub.nil))
    · rintro _ w1542 ⟨rfl, HM⟩
      refine at_then ?_
      refine run_cond (b := (((!t1528) || (!t1530)) || (!t1532))) rfl (fun hb1543 => ?_) (fun hb1543 => ?_)
      · replace H := cond_t hb1543 H
        refine run_seq ?_
        refine run_region rfl ?_
        refine ops_ex rfl (guard_none rfl) rfl rfl (ex_assign rfl rfl) ?_
        refine ops_nil ?_
        refine at_then ?_
        refine run_ret ?_
        refine at_block_ret ?_
        refine at_then_ret ?_
        replace HM := (HM.front 0 rfl rfl).drop
        have hR := Option.some.inj H
        subst hR
        exact at_ret1 rfl rfl ⟨_, rfl, rfl, HM⟩
      · replace H := cond_f hb1543 H
        refine run_seq ?_
        obtain ⟨t1544, h1545, H⟩ := bind_some H
        refine run_region rfl ?_
        refine ops_ex rfl (guard_none rfl) rfl rfl (ex_fieldAddr (off' := 0) rfl rfl Try.underlying100 rfl tsz74 rfl) ?_
        refine ops_ex rfl (guard_none rfl) rfl rfl (ex_load1 rfl rfl Try.underlying74 rfl ((HM.box_at 0 rfl) 0 _ rfl)) ?_
        refine ops_does rfl (guard_none rfl) rfl rfl (does_callk rfl callok133 rfl (impl_isRising.calls (x0 := x0.fKeys) (HM.rd hp0_0) h1545)) ?_
        rintro _ w1546 ⟨rfl, hn⟩
        replace HM : Mem w [] w1546 [box b1520 100 [p0_0, .int .i64 x0.fNeed, .int .i64 x0.fAfter]] := HM.call hn
        refine ops_ex rfl (guard_none rfl) rfl rfl (ex_not rfl rfl) ?_
        refine ops_ex rfl (guard_none rfl) rfl rfl (ex_assign rfl rfl) ?_
        refine ops_nil ?_
        refine at_then ?_
        refine run_cond (b := !t1544) rfl (fun hb1547 => ?_) (fun hb1547 => ?_)
        · replace H := cond_t hb1547 H
          refine run_seq ?_
          refine run_region rfl ?_
          refine ops_ex rfl (guard_none rfl) rfl rfl (ex_assign rfl rfl) ?_
          refine ops_nil ?_
          refine at_then ?_
          refine run_ret ?_
          refine at_block_ret ?_
          refine at_then_ret ?_
          replace HM := (HM.front 0 rfl rfl).drop
          have hR := Option.some.inj H
          subst hR
          exact at_ret1 rfl rfl ⟨_, rfl, rfl, HM⟩
        · replace H := cond_f hb1547 H
          refine run_skip ?_
          refine at_block ?_
          refine at_then ?_
          refine run_seq ?_
          refine run_region rfl ?_
          refine ops_ex rfl (guard_none rfl) rfl rfl (ex_assign rfl rfl) ?_
          refine ops_nil ?_
          refine at_then ?_
          refine run_ret ?_
          replace HM := (HM.front 0 rfl rfl).drop
          have hR := Option.some.inj H
          subst hR
          exact at_ret1 rfl rfl ⟨_, rfl, rfl, HM⟩

def cmp_isNaN_int64.f (k : Nat) (x0 : Int) : Option Bool := some (x0 != x0)
theorem cmp_isNaN_int64.calls {k : Nat} {x0 : Int}  {w : World}  {r : Bool} (H : cmp_isNaN_int64.f k x0 = some r) :
    Calls Try.prog 164 ([.int .i64 x0] : List Value).toArray w (fun e w_ => ∃ v, e = .returned v ∧ v = (.bool r) ∧ Mem w [] w_ []) := by
  have HM := Mem.start w
  refine calls_run (N := 6) Try.func164 rfl rfl rfl rfl ?_
  unfold cmp_isNaN_int64.f at H
  refine run_seq ?_
  refine run_region rfl ?_
  refine ops_ex rfl (guard_none rfl) rfl rfl (ex_assign rfl rfl) ?_
  refine ops_nil ?_
  refine at_then ?_
  refine run_seq ?_
  refine run_region rfl ?_
  refine ops_ex rfl (guard_none rfl) rfl rfl (ex_move rfl rfl) ?_
  refine ops_ex rfl (guard_none rfl) rfl rfl (ex_move rfl rfl) ?_
  refine ops_ex rfl (guard_none rfl) rfl rfl (ex_neq rfl rfl rfl) ?_
  refine ops_ex rfl (guard_none rfl) rfl rfl (ex_assign rfl rfl) ?_
  refine ops_nil ?_
  refine at_then ?_
  refine run_ret ?_
  have hR := Option.some.inj H
  subst hR
  exact at_ret1 rfl rfl ⟨_, rfl, rfl, HM⟩

def cmp_Compare_int64.f (k : Nat) (x0 : Int) (x1 : Int) : Option Int := ((cmp_isNaN_int64.f k x0).bind fun t1577 => ((cmp_isNaN_int64.f k x1).bind fun t1580 => (bif t1577 then (bif t1580 then some 0 else some (-1)) else (bif t1580 then some 1 else (bif (decide (x0 < x1)) then some (-1) else (bif (decide (x1 < x0)) then some 1 else some 0))))))
theorem cmp_Compare_int64.calls {k : Nat} {x0 : Int} {x1 : Int}  {w : World}  {r : Int} (H : cmp_Compare_int64.f k x0 x1 = some r) :
    Calls Try.prog 135 ([.int .i64 x0, .int .i64 x1] : List Value).toArray w (fun e w_ => ∃ v, e = .returned v ∧ v = (.int .i64 r) ∧ Mem w [] w_ []) := by
  have HM := Mem.start w
  refine calls_run (N := 20) Try.func135 rfl rfl rfl rfl ?_
  unfold cmp_Compare_int64.f at H
  refine run_seq ?_
  refine run_region rfl ?_
  refine ops_ex rfl (guard_none rfl) rfl rfl (ex_assign rfl rfl) ?_
  refine ops_nil ?_
  refine at_then ?_
  refine run_seq ?_
  obtain ⟨t1577, h1578, H⟩ := bind_some H
  refine run_region rfl ?_
  refine ops_ex rfl (guard_none rfl) rfl rfl (ex_move rfl rfl) ?_
  refine ops_does rfl (guard_none rfl) rfl rfl (does_callk rfl callok164 rfl (cmp_isNaN_int64.calls (x0 := x0) h1578)) ?_
  rintro _ w1579 ⟨rfl, hn⟩
  replace HM : Mem w [] w1579 [] := HM.call hn
  refine ops_ex rfl (guard_none rfl) rfl rfl (ex_assign rfl rfl) ?_
  refine ops_nil ?_
  refine at_then ?_
  refine run_seq ?_
  obtain ⟨t1580, h1581, H⟩ := bind_some H
  refine run_region rfl ?_
  refine ops_ex rfl (guard_none rfl) rfl rfl (ex_move rfl rfl) ?_
  refine ops_does rfl (guard_none rfl) rfl rfl (does_callk rfl callok164 rfl (cmp_isNaN_int64.calls (x0 := x1) h1581)) ?_
  rintro _ w1582 ⟨rfl, hn⟩
  replace HM : Mem w [] w1582 [] := HM.call hn
  refine ops_ex rfl (guard_none rfl) rfl rfl (ex_assign rfl rfl) ?_
  refine ops_nil ?_
  refine at_then ?_
  refine run_seq ?_
  refine run_seq ?_
  refine run_region rfl ?_
  refine ops_ex rfl (guard_none rfl) rfl rfl (ex_move rfl rfl) ?_
  refine ops_nil ?_
  refine at_then ?_
  refine run_cond (b := t1577) rfl (fun hb1585 => ?_) (fun hb1585 => ?_)
  · replace H := cond_t hb1585 H
    refine run_seq ?_
    refine run_seq ?_
    refine run_region rfl ?_
    refine ops_ex rfl (guard_none rfl) rfl rfl (ex_move rfl rfl) ?_
    refine ops_nil ?_
    refine at_then ?_
    refine run_cond (b := t1580) rfl (fun hb1586 => ?_) (fun hb1586 => ?_)
    · replace H := cond_t hb1586 H
      refine run_seq ?_
      refine run_region rfl ?_
      refine ops_ex rfl (guard_none rfl) rfl rfl (ex_assign rfl rfl) ?_
      refine ops_nil ?_
      refine at_then ?_
      refine run_ret ?_
      refine at_then_ret ?_
      refine at_then_ret ?_
      have hR := Option.some.inj H
      subst hR
      exact at_ret1 rfl rfl ⟨_, rfl, rfl, HM⟩
    · replace H := cond_f hb1586 H
      refine run_skip ?_
      refine at_then ?_
      refine run_seq ?_
      refine run_region rfl ?_
      refine ops_ex rfl (guard_none rfl) rfl rfl (ex_assign rfl rfl) ?_
      refine ops_nil ?_
      refine at_then ?_
      refine run_ret ?_
      refine at_then_ret ?_
      have hR := Option.some.inj H
      subst hR
      exact at_ret1 rfl rfl ⟨_, rfl, rfl, HM⟩
  · replace H := cond_f hb1585 H
    refine run_skip ?_
    refine at_then ?_
    refine run_seq ?_
    refine run_seq ?_
    refine run_region rfl ?_
    refine ops_ex rfl (guard_none rfl) rfl rfl (ex_move rfl rfl) ?_
    refine ops_nil ?_
    refine at_then ?_
    refine run_cond (b := t1580) rfl (fun hb1588 => ?_) (fun hb1588 => ?_)
    · replace H := cond_t hb1588 H
      refine run_seq ?_
      refine run_region rfl ?_
      refine ops_ex rfl (guard_none rfl) rfl rfl (ex_assign rfl rfl) ?_
      refine ops_nil ?_
      refine at_then ?_
      refine run_ret ?_
      refine at_then_ret ?_
      have hR := Option.some.inj H
      subst hR
      exact at_ret1 rfl rfl ⟨_, rfl, rfl, HM⟩
    · replace H := cond_f hb1588 H
      refine run_skip ?_
      refine at_then ?_
      refine run_seq ?_
      refine run_seq ?_
      refine run_region rfl ?_
      refine ops_ex rfl (guard_none rfl) rfl rfl (ex_move rfl rfl) ?_
      refine ops_ex rfl (guard_none rfl) rfl rfl (ex_move rfl rfl) ?_
      refine ops_ex rfl (guard_none rfl) rfl rfl (ex_lss rfl rfl rfl) ?_
      refine ops_nil ?_
      refine at_then ?_
      refine run_cond (b := (decide (x0 < x1))) rfl (fun hb1590 => ?_) (fun hb1590 => ?_)
      · replace H := cond_t hb1590 H
        refine run_seq ?_
        refine run_region rfl ?_
        refine ops_ex rfl (guard_none rfl) rfl rfl (ex_assign rfl rfl) ?_
        refine ops_nil ?_
        refine at_then ?_
        refine run_ret ?_
        refine at_then_ret ?_
        have hR := Option.some.inj H
        subst hR
        exact at_ret1 rfl rfl ⟨_, rfl, rfl, HM⟩
      · replace H := cond_f hb1590 H
        refine run_skip ?_
        refine at_then ?_
        refine run_seq ?_
        refine run_seq ?_
        refine run_region rfl ?_
        refine ops_ex rfl (guard_none rfl) rfl rfl (ex_move rfl rfl) ?_
        refine ops_ex rfl (guard_none rfl) rfl rfl (ex_move rfl rfl) ?_
        refine ops_ex rfl (guard_none rfl) rfl rfl (ex_gtr rfl rfl rfl) ?_
        refine ops_nil ?_
        refine at_then ?_
        refine run_cond (b := (decide (x1 < x0))) rfl (fun hb1591 => ?_) (fun hb1591 => ?_)
        · replace H := cond_t hb1591 H
          refine run_seq ?_
          refine run_region rfl ?_
          refine ops_ex rfl (guard_none rfl) rfl rfl (ex_assign rfl rfl) ?_
          refine ops_nil ?_
          refine at_then ?_
          refine run_ret ?_
          refine at_then_ret ?_
          have hR := Option.some.inj H
          subst hR
          exact at_ret1 rfl rfl ⟨_, rfl, rfl, HM⟩
        · replace H := cond_f hb1591 H
          refine run_skip ?_
          refine at_then ?_
          refine run_seq ?_
          refine run_region rfl ?_
          refine ops_ex rfl (guard_none rfl) rfl rfl (ex_assign rfl rfl) ?_
          refine ops_nil ?_
          refine at_then ?_
          refine run_ret ?_
          have hR := Option.some.inj H
          subst hR
          exact at_ret1 rfl rfl ⟨_, rfl, rfl, HM⟩

def cmp_Or_int.l0 (x0 : List Int) : Nat → Int → Option (Int ⊕ Unit)
  | 0, _ => none
  | k + 1, a1633 => (bif (decide (a1633 < (x0.length : Int))) then (chk (idxOk a1633 x0.length) (bif ((gt x0 a1633) != 0) then some (.inl (gt x0 a1633)) else cmp_Or_int.l0 x0 k (wrap64 (a1633 + 1)))) else some (.inr ()))
theorem cmp_Or_int.l0_z (x0 : List Int) (a1633 : Int) : cmp_Or_int.l0 x0 0 a1633 = none := rfl
theorem cmp_Or_int.l0_s (x0 : List Int) (k : Nat) (a1633 : Int) : cmp_Or_int.l0 x0 (k + 1) a1633 = (bif (decide (a1633 < (x0.length : Int))) then (chk (idxOk a1633 x0.length) (bif ((gt x0 a1633) != 0) then some (.inl (gt x0 a1633)) else cmp_Or_int.l0 x0 k (wrap64 (a1633 + 1)))) else some (.inr ())) := rfl
def cmp_Or_int.f (k : Nat) (x0 : List Int) : Option Int := ((cmp_Or_int.l0 x0 k 0).bind fun o1627 => thn o1627 (fun r => some r) (fun _ => some 0))
theorem cmp_Or_int.calls {k : Nat} {x0 : List Int} {p0 : Value} {w : World} (hp0 : RdS kInt w p0 x0) {r : Int} (H : cmp_Or_int.f k x0 = some r) :
    Calls Try.prog 134 ([p0] : List Value).toArray w (fun e w_ => ∃ v, e = .returned v ∧ v = (.int .i64 r) ∧ Mem w [] w_ []) := by
  have HM := Mem.start w
  refine calls_run (N := 18) Try.func134 rfl rfl rfl rfl ?_
  unfold cmp_Or_int.f at H
  refine run_seq ?_
  refine run_region rfl ?_
  refine ops_ex rfl (guard_none rfl) rfl rfl (ex_assign rfl rfl) ?_
  refine ops_nil ?_
  refine at_then ?_
  refine run_seq ?_
  refine run_region rfl ?_
  refine ops_ex rfl (guard_none rfl) rfl rfl (ex_assign rfl rfl) ?_
  refine ops_nil ?_
  refine at_then ?_
  obtain ⟨o1627, ho1628, H⟩ := bind_some H
  refine run_mid (fun ρ_ w_ => Sum.inr () = o1627 ∧ ρ_ = [(3, .int .i64 0)] ∧ Mem w [] w_ []) ?_ ?_
  · skip
    refine run_seq ?_
    refine run_region rfl ?_
    refine ops_ex rfl (guard_none rfl) rfl rfl (ex_move rfl rfl) ?_
    refine ops_ex rfl (guard_none rfl) rfl rfl (ex_len (d := kInt) (xs := x0) rfl rfl Try.underlying185 hp0) ?_
    refine ops_ex rfl (guard_none rfl) rfl rfl (ex_move rfl rfl) ?_
    refine ops_nil ?_
    refine at_then ?_
    refine run_block ?_
    refine run_loop (fun k_ ρ_ w_ => ∃ a1633 : Int, cmp_Or_int.l0 x0 k_ a1633 = some o1627 ∧ ρ_ = [(3, .int .i64 0), (6, p0), (7, .int .i64 (x0.length : Int)), (8, .int .i64 a1633)] ∧ Mem w [] w_ []) k (ρ1 := [(3, .int .i64 0), (6, p0), (7, .int .i64 (x0.length : Int)), (8, .int .i64 0)]) ⟨_, ho1628, rfl, HM⟩ (Sub.cons rfl (Sub.cons rfl (Sub.cons rfl (Sub.cons rfl Sub.nil)))) ?_
    clear HM ho1628
    rintro k1638 _ w1639 ⟨a1633, ho1628, rfl, HM⟩
    obtain _ | k1638 := k1638
    · exact nomatch ((cmp_Or_int.l0_z x0 a1633).symm.trans ho1628)
    replace ho1628 := (cmp_Or_int.l0_s x0 k1638 a1633).symm.trans ho1628
    refine run_seq ?_
    refine run_region rfl ?_
    refine ops_ex rfl (guard_none rfl) rfl rfl (ex_lss rfl rfl rfl) ?_
    refine ops_nil ?_
    refine at_then ?_
    refine run_seq ?_
    refine run_cond (b := (decide (a1633 < (x0.length : Int)))) rfl (fun hb1640 => ?_) (fun hb1640 => ?_)
    · replace ho1628 := cond_t hb1640 ho1628
      refine run_skip ?_
      refine at_then ?_
      refine run_seq ?_
      refine run_block ?_
      refine run_seq ?_
      obtain ⟨e1641, ho1628⟩ := chk_some ho1628
      refine run_region rfl ?_
      have hc1642 : CellsAt _ (sb p0) (so p0 + (a1633).toNat * 1) [(.int .i64 (gt x0 a1633))] := rd_plain hp0 e1641
      refine ops_ex rfl (guard_none rfl) rfl rfl (ex_indexAddr (d := kInt) rfl rfl rfl Try.underlying185 tsz3 hp0 (idx_lo e1641) (idx_hi e1641)) ?_
      refine ops_ex rfl (guard_none rfl) rfl rfl (ex_load1 rfl rfl Try.underlying3 rfl ((HM.at_ hc1642) 0 _ rfl)) ?_
      refine ops_ex rfl (guard_none rfl) rfl rfl (ex_assign rfl rfl) ?_
      refine ops_nil ?_
      refine at_then ?_
      refine run_seq ?_
      refine run_region rfl ?_
      refine ops_ex rfl (guard_none rfl) rfl rfl (ex_move rfl rfl) ?_
      refine ops_ex rfl (guard_none rfl) rfl rfl (ex_move rfl rfl) ?_
      refine ops_ex rfl (guard_none rfl) rfl rfl (ex_neq rfl rfl rfl) ?_
      refine ops_nil ?_
      refine at_then ?_
      refine run_cond (b := ((gt x0 a1633) != 0)) rfl (fun hb1643 => ?_) (fun hb1643 => ?_)
      · replace ho1628 := cond_t hb1643 ho1628
        refine run_seq ?_
        refine run_region rfl ?_
        refine ops_ex rfl (guard_none rfl) rfl rfl (ex_move rfl rfl) ?_
        refine ops_ex rfl (guard_none rfl) rfl rfl (ex_assign rfl rfl) ?_
        refine ops_nil ?_
        refine at_then ?_
        refine run_ret ?_
        refine at_block_ret ?_
        refine at_then_ret ?_
        refine at_then_ret ?_
        refine at_block_ret ?_
        refine at_then_ret ?_
        have hR := Option.some.inj ho1628
        subst hR
        have hT := thn_inl H
        have hR := Option.some.inj hT
        subst hR
        exact at_ret1 rfl rfl ⟨_, rfl, rfl, HM⟩
      · replace ho1628 := cond_f hb1643 ho1628
        refine run_skip ?_
        refine at_block ?_
        refine at_then ?_
        refine run_region rfl ?_
        refine ops_ex rfl (guard_none rfl) rfl rfl (ex_add rfl rfl rfl) ?_
        refine ops_ex rfl (guard_none rfl) rfl rfl (ex_move rfl rfl) ?_
        refine ops_nil ?_
        exact at_again k1638 (ρ1 := [(3, .int .i64 0), (6, p0), (7, .int .i64 (x0.length : Int)), (8, .int .i64 (wrap64 (a1633 + 1)))]) (Nat.lt_succ_self _) ⟨_, ho1628, rfl, HM⟩ (Sub.cons rfl (Sub.cons rfl (Sub.cons rfl (Sub.cons rfl Sub.nil))))
    · replace ho1628 := cond_f hb1640 ho1628
      refine run_exit ?_
      refine at_then_exit ?_
      refine at_then_exit ?_
      refine at_block_exit ?_
      exact at_mid (ρ' := [(3, .int .i64 0)]) ⟨(Option.some.inj ho1628), rfl, HM⟩ (Sub.cons rfl Sub.nil)
  · rintro _ w1644 ⟨rfl, rfl, HM⟩
    replace H := (thn_inr H)
    refine run_seq ?_
    refine run_region rfl ?_
    refine ops_ex rfl (guard_none rfl) rfl rfl (ex_move rfl rfl) ?_
    refine ops_ex rfl (guard_none rfl) rfl rfl (ex_assign rfl rfl) ?_
    refine ops_nil ?_
    refine at_then ?_
    refine run_ret ?_
    have hR := Option.some.inj H
    subst hR
    exact at_ret1 rfl rfl ⟨_, rfl, rfl, HM⟩

def impl_compareRefs.f (k : Nat) (x0 : Ref) (x1 : Ref) : Option Int := ((cmp_Compare_int64.f k x0.fTx x1.fTx).bind fun t1655 => ((cmp_Compare_int64.f k x0.fAt x1.fAt).bind fun t1657 => ((cmp_Or_int.f k ([t1655, t1657] : List Int)).bind fun t1662 => some t1662)))
theorem impl_compareRefs.calls {k : Nat} {x0 : Ref} {x1 : Ref}  {w : World}  {r : Int} (H : impl_compareRefs.f k x0 x1 = some r) :
    Calls Try.prog 83 ([.agg #[(.int .i64 x0.fTx), (.int .i64 x0.fAt)], .agg #[(.int .i64 x1.fTx), (.int .i64 x1.fAt)]] : List Value).toArray w (fun e w_ => ∃ v, e = .returned v ∧ v = (.int .i64 r) ∧ Mem w [] w_ []) := by
  have HM := Mem.start w
  refine calls_run (N := 17) Try.func83 rfl rfl rfl rfl ?_
  unfold impl_compareRefs.f at H
  refine run_seq ?_
  refine run_region rfl ?_
  refine ops_does rfl (guard_none rfl) rfl rfl (does_box (cs := [.int .i64 x0.fTx, .int .i64 x0.fAt]) rfl rfl rfl HM) ?_
  rintro _ w1653 ⟨b1647, rfl, HM⟩
  refine ops_does rfl (guard_none rfl) rfl rfl (does_box (cs := [.int .i64 x1.fTx, .int .i64 x1.fAt]) rfl rfl rfl HM) ?_
  rintro _ w1654 ⟨b1650, rfl, HM⟩
  refine ops_ex rfl (guard_none rfl) rfl rfl (ex_assign rfl rfl) ?_
  refine ops_nil ?_
  refine at_then ?_
  refine run_seq ?_
  obtain ⟨t1655, h1656, H⟩ := bind_some H
  obtain ⟨t1657, h1658, H⟩ := bind_some H
  obtain ⟨t1662, h1663, H⟩ := bind_some H
  refine run_drawf (fun w_ => Mem w [] w_ [box b1650 99 [.int .i64 x1.fTx, .int .i64 x1.fAt], box b1647 99 [.int .i64 x0.fTx, .int .i64 x0.fAt]]) [(0, true), (1, true), (2, true), (3, true), (5, true), (6, true), (7, true), (8, true), (4, false), (9, false), (10, false), (11, false), (12, true)] mixed rfl rfl (by kernel_rfl) ?_
  replace HM := HM.grow (fr_drew _)
  have hS := Mem.suf (M := []) HM
  refine drwp_take rfl (guard_none rfl) rfl rfl (fun w_ hS_ => (ex_fieldAddr (off' := 0) rfl rfl Try.underlying99 rfl tsz2 rfl)) hS ?_
  refine drwp_take rfl (guard_none rfl) rfl rfl (fun w_ hS_ => (ex_load1 rfl rfl Try.underlying2 rfl ((hS_.box_at 1 rfl) 0 _ rfl))) hS ?_
  refine drwp_take rfl (guard_none rfl) rfl rfl (fun w_ hS_ => (ex_fieldAddr (off' := 0) rfl rfl Try.underlying99 rfl tsz2 rfl)) hS ?_
  refine drwp_take rfl (guard_none rfl) rfl rfl (fun w_ hS_ => (ex_load1 rfl rfl Try.underlying2 rfl ((hS_.box_at 0 rfl) 0 _ rfl))) hS ?_
  refine drwp_take rfl (guard_none rfl) rfl rfl (fun w_ hS_ => (ex_fieldAddr (off' := 1) rfl rfl Try.underlying99 rfl tsz2 rfl)) hS ?_
  refine drwp_take rfl (guard_none rfl) rfl rfl (fun w_ hS_ => (ex_load1 rfl rfl Try.underlying2 rfl ((hS_.box_at 1 rfl) 1 _ rfl))) hS ?_
  refine drwp_take rfl (guard_none rfl) rfl rfl (fun w_ hS_ => (ex_fieldAddr (off' := 1) rfl rfl Try.underlying99 rfl tsz2 rfl)) hS ?_
  refine drwp_take rfl (guard_none rfl) rfl rfl (fun w_ hS_ => (ex_load1 rfl rfl Try.underlying2 rfl ((hS_.box_at 0 rfl) 1 _ rfl))) hS ?_
  refine drwp_one rfl (guard_none rfl) rfl rfl (does_callk rfl callok135 rfl (cmp_Compare_int64.calls (x0 := x0.fTx) (x1 := x1.fTx) h1656)) ?_
  rintro _ w1664 ⟨rfl, hn⟩
  replace HM : Mem w [] w1664 [box b1650 99 [.int .i64 x1.fTx, .int .i64 x1.fAt], box b1647 99 [.int .i64 x0.fTx, .int .i64 x0.fAt]] := HM.call hn
  refine ⟨Mem.suf (M := []) HM, ?_⟩
  have hS := Mem.suf (M := []) HM
  refine drwp_one rfl (guard_none rfl) rfl rfl (does_callk rfl callok135 rfl (cmp_Compare_int64.calls (x0 := x0.fAt) (x1 := x1.fAt) h1658)) ?_
  rintro _ w1665 ⟨rfl, hn⟩
  replace HM : Mem w [] w1665 [box b1650 99 [.int .i64 x1.fTx, .int .i64 x1.fAt], box b1647 99 [.int .i64 x0.fTx, .int .i64 x0.fAt]] := HM.call hn
  refine ⟨Mem.suf (M := []) HM, ?_⟩
  have hS := Mem.suf (M := []) HM
  refine drwp_one rfl (guard_none rfl) rfl rfl (does_lit (e := 3) (cs := [.int .i64 t1655, .int .i64 t1657]) (xs := ([t1655, t1657] : List Int)) kInt rfl rfl (fun _ => by kernel_rfl) rfl rfl (fun _ _ h => by have h' : _ = [] := h; subst h'; exact (Elems.cons (d := kInt) (f := []) ⟨rfl, rfl⟩ (Elems.cons (d := kInt) (f := []) ⟨rfl, rfl⟩ .nil))) HM.emp) ?_
  rintro v1659 w1666 HM
  refine ⟨Mem.suf (M := [own kInt 3 v1659 ([t1655, t1657] : List Int)]) HM, ?_⟩
  have hS := Mem.suf (M := [own kInt 3 v1659 ([t1655, t1657] : List Int)]) HM
  refine drwp_one rfl (guard_none rfl) rfl rfl (does_callk rfl callok134 rfl (cmp_Or_int.calls (x0 := ([t1655, t1657] : List Int)) (HM.own_rd 0 rfl) h1663)) ?_
  rintro _ w1667 ⟨rfl, hn⟩
  replace HM : Mem w [] w1667 [own kInt 3 v1659 ([t1655, t1657] : List Int), box b1650 99 [.int .i64 x1.fTx, .int .i64 x1.fAt], box b1647 99 [.int .i64 x0.fTx, .int .i64 x0.fAt]] := HM.call hn
  refine ⟨Mem.suf (M := [own kInt 3 v1659 ([t1655, t1657] : List Int)]) HM, ?_⟩
  have hS := Mem.suf (M := [own kInt 3 v1659 ([t1655, t1657] : List Int)]) HM
  refine drwp_take rfl (guard_none rfl) rfl rfl (fun w_ hS_ => (ex_assign rfl rfl)) hS ?_
  refine drwp_done ?_
  refine at_then ?_
  refine run_ret ?_
  replace HM := (HM.front 0 rfl rfl).drop
  replace HM := (HM.front 0 rfl rfl).drop
  replace HM := (HM.front 0 rfl rfl).drop
  have hR := Option.some.inj H
  subst hR
  exact at_ret1 rfl rfl ⟨_, rfl, rfl, HM⟩

def impl_CoinsFault.l0 (x0 : List Coin) : Nat → Int → Option (Int ⊕ Unit)
  | 0, _ => none
  | k + 1, a1889 => (bif (decide (a1889 < (x0.length : Int))) then (chk (idxOk a1889 x0.length) ((impl_isRef.f k ((gt x0 a1889).fRef)).bind fun t1944 => ((bif (!(!t1944)) then impl_isHeight.f k ((gt x0 a1889).fHeight) else some default).bind fun t1946 => ((bif (!((!t1944) || (!t1946))) then impl_within.f k ((gt x0 a1889).fOut.fValue) 1 1000000 else some default).bind fun t1948 => (bif (((!t1944) || (!t1946)) || (!t1948)) then some (.inl 3) else ((impl_RuleFault.f k ((gt x0 a1889).fOut.fRule)).bind fun t1963 => (bif (t1963 != 0) then some (.inl t1963) else (chk (!(decide (0 < a1889)) || (idxOk (wrap64 (a1889 - 1)) x0.length)) ((bif (decide (0 < a1889)) then impl_compareRefs.f k ((gt x0 (wrap64 (a1889 - 1))).fRef) ((gt x0 a1889).fRef) else some default).bind fun t1971 => (bif ((decide (0 < a1889)) && (decide (0 ≤ t1971))) then some (.inl 1) else impl_CoinsFault.l0 x0 k (wrap64 (a1889 + 1)))))))))))) else some (.inr ()))
theorem impl_CoinsFault.l0_z (x0 : List Coin) (a1889 : Int) : impl_CoinsFault.l0 x0 0 a1889 = none := rfl
theorem impl_CoinsFault.l0_s (x0 : List Coin) (k : Nat) (a1889 : Int) : impl_CoinsFault.l0 x0 (k + 1) a1889 = (bif (decide (a1889 < (x0.length : Int))) then (chk (idxOk a1889 x0.length) ((impl_isRef.f k ((gt x0 a1889).fRef)).bind fun t1944 => ((bif (!(!t1944)) then impl_isHeight.f k ((gt x0 a1889).fHeight) else some default).bind fun t1946 => ((bif (!((!t1944) || (!t1946))) then impl_within.f k ((gt x0 a1889).fOut.fValue) 1 1000000 else some default).bind fun t1948 => (bif (((!t1944) || (!t1946)) || (!t1948)) then some (.inl 3) else ((impl_RuleFault.f k ((gt x0 a1889).fOut.fRule)).bind fun t1963 => (bif (t1963 != 0) then some (.inl t1963) else (chk (!(decide (0 < a1889)) || (idxOk (wrap64 (a1889 - 1)) x0.length)) ((bif (decide (0 < a1889)) then impl_compareRefs.f k ((gt x0 (wrap64 (a1889 - 1))).fRef) ((gt x0 a1889).fRef) else some default).bind fun t1971 => (bif ((decide (0 < a1889)) && (decide (0 ≤ t1971))) then some (.inl 1) else impl_CoinsFault.l0 x0 k (wrap64 (a1889 + 1)))))))))))) else some (.inr ())) := rfl
def impl_CoinsFault.f (k : Nat) (x0 : List Coin) : Option Int := (bif (decide (40 < (x0.length : Int))) then some 2 else ((impl_CoinsFault.l0 x0 k 0).bind fun o1852 => thn o1852 (fun r => some r) (fun _ => some 0)))
theorem impl_CoinsFault.calls {k : Nat} {x0 : List Coin} {p0 : Value} {w : World} (hp0 : RdS kCoin w p0 x0) {r : Int} (H : impl_CoinsFault.f k x0 = some r) :
    Calls Try.prog 26 ([p0] : List Value).toArray w (fun e w_ => ∃ v, e = .returned v ∧ v = (.int .i64 r) ∧ Mem w [] w_ []) := by
  have HM := Mem.start w
  refine calls_run (N := 55) Try.func26 rfl rfl rfl rfl ?_
  unfold impl_CoinsFault.f at H
  refine run_seq ?_
  refine run_region rfl ?_
  refine ops_ex rfl (guard_none rfl) rfl rfl (ex_assign rfl rfl) ?_
  refine ops_nil ?_
  refine at_then ?_
  refine run_seq ?_
  refine run_seq ?_
  refine run_region rfl ?_
  refine ops_ex rfl (guard_none rfl) rfl rfl (ex_move rfl rfl) ?_
  refine ops_ex rfl (guard_none rfl) rfl rfl (ex_len (d := kCoin) (xs := x0) rfl rfl Try.underlying25 hp0) ?_
  refine ops_ex rfl (guard_none rfl) rfl rfl (ex_gtr rfl rfl rfl) ?_
  refine ops_nil ?_
  refine at_then ?_
  refine run_cond (b := (decide (40 < (x0.length : Int)))) rfl (fun hb1745 => ?_) (fun hb1745 => ?_)
  · replace H := cond_t hb1745 H
    refine run_seq ?_
    refine run_region rfl ?_
    refine ops_ex rfl (guard_none rfl) rfl rfl (ex_assign rfl rfl) ?_
    refine ops_nil ?_
    refine at_then ?_
    refine run_ret ?_
    refine at_then_ret ?_
    have hR := Option.some.inj H
    subst hR
    exact at_ret1 rfl rfl ⟨_, rfl, rfl, HM⟩
  · replace H := cond_f hb1745 H
    refine run_skip ?_
    refine at_then ?_
    obtain ⟨o1852, ho1853, H⟩ := bind_some H
    refine run_mid (fun ρ_ w_ => Sum.inr () = o1852 ∧ ρ_ = [] ∧ Mem w [] w_ []) ?_ ?_
    · skip
      refine run_seq ?_
      refine run_region rfl ?_
      refine ops_ex rfl (guard_none rfl) rfl rfl (ex_move rfl rfl) ?_
      refine ops_ex rfl (guard_none rfl) rfl rfl (ex_len (d := kCoin) (xs := x0) rfl rfl Try.underlying25 hp0) ?_
      refine ops_ex rfl (guard_none rfl) rfl rfl (ex_move rfl rfl) ?_
      refine ops_nil ?_
      refine at_then ?_
      refine run_block ?_
      refine run_loop (fun k_ ρ_ w_ => ∃ a1889 : Int, impl_CoinsFault.l0 x0 k_ a1889 = some o1852 ∧ ρ_ = [(0, p0), (9, p0), (10, .int .i64 (x0.length : Int)), (11, .int .i64 a1889)] ∧ Mem w [] w_ []) k (ρ1 := [(0, p0), (9, p0), (10, .int .i64 (x0.length : Int)), (11, .int .i64 0)]) ⟨_, ho1853, rfl, HM⟩ (Sub.cons rfl (Sub.cons rfl (Sub.cons rfl (Sub.cons rfl Sub.nil)))) ?_
      clear HM ho1853
      rintro k1925 _ w1926 ⟨a1889, ho1853, rfl, HM⟩
      obtain _ | k1925 := k1925
      · exact nomatch ((impl_CoinsFault.l0_z x0 a1889).symm.trans ho1853)
      replace ho1853 := (impl_CoinsFault.l0_s x0 k1925 a1889).symm.trans ho1853
      refine run_seq ?_
      refine run_region rfl ?_
      refine ops_ex rfl (guard_none rfl) rfl rfl (ex_lss rfl rfl rfl) ?_
      refine ops_nil ?_
      refine at_then ?_
      refine run_seq ?_
      refine run_cond (b := (decide (a1889 < (x0.length : Int)))) rfl (fun hb1927 => ?_) (fun hb1927 => ?_)
      · replace ho1853 := cond_t hb1927 ho1853
        refine run_skip ?_
        refine at_then ?_
        refine run_seq ?_
        refine run_block ?_
        refine run_seq ?_
        obtain ⟨e1928, ho1853⟩ := chk_some ho1853
        refine run_region rfl ?_
        refine ops_ex rfl (guard_none rfl) rfl rfl (ex_move rfl rfl) ?_
        obtain ⟨kv1930, hc1929, hk1931⟩ : ∃ u, CellsAt _ (sb p0) (so p0 + (a1889).toNat * 8) [(.int .i64 ((gt x0 a1889).fRef.fTx)), (.int .i64 ((gt x0 a1889).fRef.fAt)), (.int .i64 ((gt x0 a1889).fOut.fValue)), u, (.int .i64 ((gt x0 a1889).fOut.fRule.fNeed)), (.int .i64 ((gt x0 a1889).fOut.fRule.fAfter)), (.int .i64 ((gt x0 a1889).fHeight)), (.bool ((gt x0 a1889).fMined))] ∧ RdS kInt _ u ((gt x0 a1889).fOut.fRule.fKeys) := rd_with1 hp0 e1928
        refine ops_ex rfl (guard_none rfl) rfl rfl (ex_indexAddr (d := kCoin) rfl rfl rfl Try.underlying25 tsz104 hp0 (idx_lo e1928) (idx_hi e1928)) ?_
        refine ops_ex rfl (guard_none rfl) rfl rfl (ex_loadN (cs := [(.int .i64 ((gt x0 a1889).fRef.fTx)), (.int .i64 ((gt x0 a1889).fRef.fAt)), (.int .i64 ((gt x0 a1889).fOut.fValue)), kv1930, (.int .i64 ((gt x0 a1889).fOut.fRule.fNeed)), (.int .i64 ((gt x0 a1889).fOut.fRule.fAfter)), (.int .i64 ((gt x0 a1889).fHeight)), (.bool ((gt x0 a1889).fMined))]) rfl rfl Try.underlying104 rfl tsz104 rfl ((HM.at_ hc1929).sub 0 8 rfl)) ?_
        refine ops_does rfl (guard_none rfl) rfl rfl (does_alloc (cs := [.int .i64 0, .int .i64 0, .int .i64 0, .slice none 0 0, .int .i64 0, .int .i64 0, .int .i64 0, .bool false]) rfl tz104 rfl HM) ?_
        rintro _ w1935 ⟨b1932, rfl, HM⟩
        refine ops_ex rfl (guard_none rfl) rfl rfl (ex_assign rfl rfl) ?_
        refine ops_doesS rfl (guard_none rfl) rfl (does_store (vs := [.int .i64 ((gt x0 a1889).fRef.fTx), .int .i64 ((gt x0 a1889).fRef.fAt), .int .i64 ((gt x0 a1889).fOut.fValue), kv1930, .int .i64 ((gt x0 a1889).fOut.fRule.fNeed), .int .i64 ((gt x0 a1889).fOut.fRule.fAfter), .int .i64 ((gt x0 a1889).fHeight), .bool ((gt x0 a1889).fMined)]) (cs' := [.int .i64 ((gt x0 a1889).fRef.fTx), .int .i64 ((gt x0 a1889).fRef.fAt), .int .i64 ((gt x0 a1889).fOut.fValue), kv1930, .int .i64 ((gt x0 a1889).fOut.fRule.fNeed), .int .i64 ((gt x0 a1889).fOut.fRule.fAfter), .int .i64 ((gt x0 a1889).fHeight), .bool ((gt x0 a1889).fMined)]) rfl rfl rfl rfl tsz104 (Ones.int (Ones.int (Ones.int (Ones.rd hk1931 (Ones.int (Ones.int (Ones.int (Ones.bool Ones.nil)))))))) rfl rfl HM) ?_
        rintro w1936 HM
        refine ops_nil ?_
        refine at_then ?_
        refine run_seq ?_
        refine run_seq ?_
        obtain ⟨t1944, h1945, ho1853⟩ := bind_some ho1853
        obtain ⟨t1946, h1947, ho1853⟩ := bind_some ho1853
        obtain ⟨t1948, h1949, ho1853⟩ := bind_some ho1853
        refine run_meet (fun ρ_ w_ => ρ_ = [(0, p0), (9, p0), (10, .int .i64 (x0.length : Int)), (11, .int .i64 a1889), (4, .pointer (some ⟨b1932, 0, none⟩)), (3, .int .i64 a1889), (32, .bool (((!t1944) || (!t1946)) || (!t1948)))] ∧ Mem w [] w_ [box b1932 104 [.int .i64 ((gt x0 a1889).fRef.fTx), .int .i64 ((gt x0 a1889).fRef.fAt), .int .i64 ((gt x0 a1889).fOut.fValue), kv1930, .int .i64 ((gt x0 a1889).fOut.fRule.fNeed), .int .i64 ((gt x0 a1889).fOut.fRule.fAfter), .int .i64 ((gt x0 a1889).fHeight), .bool ((gt x0 a1889).fMined)]]) ?_ ?_
        · skip
          refine run_region rfl ?_
          refine ops_ex rfl (guard_none rfl) rfl rfl (ex_fieldAddr (off' := 0) rfl rfl Try.underlying104 rfl tsz99 rfl) ?_
          refine ops_ex rfl (guard_none rfl) rfl rfl (ex_loadN (cs := [(.int .i64 ((gt x0 a1889).fRef.fTx)), (.int .i64 ((gt x0 a1889).fRef.fAt))]) rfl rfl Try.underlying99 rfl tsz99 rfl ((HM.box_at 0 rfl).sub 0 2 rfl)) ?_
          refine ops_does rfl (guard_none rfl) rfl rfl (does_callk rfl callok79 rfl (impl_isRef.calls (x0 := (gt x0 a1889).fRef) h1945)) ?_
          rintro _ w1950 ⟨rfl, hn⟩
          replace HM : Mem w [] w1950 [box b1932 104 [.int .i64 ((gt x0 a1889).fRef.fTx), .int .i64 ((gt x0 a1889).fRef.fAt), .int .i64 ((gt x0 a1889).fOut.fValue), kv1930, .int .i64 ((gt x0 a1889).fOut.fRule.fNeed), .int .i64 ((gt x0 a1889).fOut.fRule.fAfter), .int .i64 ((gt x0 a1889).fHeight), .bool ((gt x0 a1889).fMined)]] := HM.call hn
          refine ops_ex rfl (guard_none rfl) rfl rfl (ex_not rfl rfl) ?_
          refine ops_ex rfl (guard_none rfl) rfl rfl (ex_move rfl rfl) ?_
          refine bool_cases (!t1944) (fun hg1951 => ?_) (fun hg1951 => ?_)
          · skip
            refine ops_off rfl (guard_off rfl rfl rfl hg1951) rfl rfl ?_
            refine ops_off rfl (guard_off rfl rfl rfl hg1951) rfl rfl ?_
            refine ops_off rfl (guard_off rfl rfl rfl hg1951) rfl rfl ?_
            refine ops_off rfl (guard_off rfl rfl rfl hg1951) rfl rfl ?_
            have hg1952 : ((!t1944) || (!t1946)) = true := by simp only [hg1951, Bool.and_true, Bool.true_and, Bool.and_false, Bool.false_and, Bool.or_true, Bool.true_or, Bool.or_false, Bool.false_or, Bool.not_true, Bool.not_false, Bool.not_not]
            refine ops_ex (v := .bool ((!t1944) || (!t1946))) rfl (guard_none rfl) rfl rfl (ex_por_t rfl rfl hg1951) ?_
            refine ops_ex rfl (guard_none rfl) rfl rfl (ex_move rfl rfl) ?_
            refine ops_off rfl (guard_off rfl rfl rfl hg1952) rfl rfl ?_
            refine ops_off rfl (guard_off rfl rfl rfl hg1952) rfl rfl ?_
            refine ops_off rfl (guard_off rfl rfl rfl hg1952) rfl rfl ?_
            refine ops_off rfl (guard_off rfl rfl rfl hg1952) rfl rfl ?_
            refine ops_off rfl (guard_off rfl rfl rfl hg1952) rfl rfl ?_
            have hg1953 : (((!t1944) || (!t1946)) || (!t1948)) = true := by simp only [hg1952, Bool.and_true, Bool.true_and, Bool.and_false, Bool.false_and, Bool.or_true, Bool.true_or, Bool.or_false, Bool.false_or, Bool.not_true, Bool.not_false, Bool.not_not]
            refine ops_ex (v := .bool (((!t1944) || (!t1946)) || (!t1948))) rfl (guard_none rfl) rfl rfl (ex_por_t rfl rfl hg1952) ?_
            refine ops_nil ?_
            exact at_meet [(0, p0), (9, p0), (10, .int .i64 (x0.length : Int)), (11, .int .i64 a1889), (4, .pointer (some ⟨b1932, 0, none⟩)), (3, .int .i64 a1889), (32, .bool (((!t1944) || (!t1946)) || (!t1948)))] ⟨rfl, HM⟩ (Sub.cons rfl (Sub.cons rfl (Sub.cons rfl (Sub.cons rfl (Sub.cons rfl (Sub.cons rfl (Sub.cons rfl Sub.nil)))))))
          · skip
            refine ops_ex rfl (guard_on rfl rfl rfl hg1951) rfl rfl (ex_fieldAddr (off' := 6) rfl rfl Try.underlying104 rfl tsz2 rfl) ?_
            refine ops_ex rfl (guard_on rfl rfl rfl hg1951) rfl rfl (ex_load1 rfl rfl Try.underlying2 rfl ((HM.box_at 0 rfl) 6 _ rfl)) ?_
            refine ops_does rfl (guard_on rfl rfl rfl hg1951) rfl rfl (does_callk rfl callok80 rfl (impl_isHeight.calls (x0 := (gt x0 a1889).fHeight) (cond_t (not_mk hg1951) h1947))) ?_
            rintro _ w1954 ⟨rfl, hn⟩
            replace HM : Mem w [] w1954 [box b1932 104 [.int .i64 ((gt x0 a1889).fRef.fTx), .int .i64 ((gt x0 a1889).fRef.fAt), .int .i64 ((gt x0 a1889).fOut.fValue), kv1930, .int .i64 ((gt x0 a1889).fOut.fRule.fNeed), .int .i64 ((gt x0 a1889).fOut.fRule.fAfter), .int .i64 ((gt x0 a1889).fHeight), .bool ((gt x0 a1889).fMined)]] := HM.call hn
            refine ops_ex rfl (guard_on rfl rfl rfl hg1951) rfl rfl (ex_not rfl rfl) ?_
            refine ops_ex (v := .bool ((!t1944) || (!t1946))) rfl (guard_none rfl) rfl rfl (ex_por_f rfl rfl hg1951 rfl) ?_
            refine ops_ex rfl (guard_none rfl) rfl rfl (ex_move rfl rfl) ?_
            refine bool_cases ((!t1944) || (!t1946)) (fun hg1955 => ?_) (fun hg1955 => ?_)
            · skip
              refine ops_off rfl (guard_off rfl rfl rfl hg1955) rfl rfl ?_
              refine ops_off rfl (guard_off rfl rfl rfl hg1955) rfl rfl ?_
              refine ops_off rfl (guard_off rfl rfl rfl hg1955) rfl rfl ?_
              refine ops_off rfl (guard_off rfl rfl rfl hg1955) rfl rfl ?_
              refine ops_off rfl (guard_off rfl rfl rfl hg1955) rfl rfl ?_
              have hg1956 : (((!t1944) || (!t1946)) || (!t1948)) = true := by simp only [hg1955, Bool.and_true, Bool.true_and, Bool.and_false, Bool.false_and, Bool.or_true, Bool.true_or, Bool.or_false, Bool.false_or, Bool.not_true, Bool.not_false, Bool.not_not]
              refine ops_ex (v := .bool (((!t1944) || (!t1946)) || (!t1948))) rfl (guard_none rfl) rfl rfl (ex_por_t rfl rfl hg1955) ?_
              refine ops_nil ?_
              exact at_meet [(0, p0), (9, p0), (10, .int .i64 (x0.length : Int)), (11, .int .i64 a1889), (4, .pointer (some ⟨b1932, 0, none⟩)), (3, .int .i64 a1889), (32, .bool (((!t1944) || (!t1946)) || (!t1948)))] ⟨rfl, HM⟩ (Sub.cons rfl (Sub.cons rfl (Sub.cons rfl (Sub.cons rfl (Sub.cons rfl (Sub.cons rfl (Sub.cons rfl Sub.nil)))))))
            · skip
              refine ops_ex rfl (guard_on rfl rfl rfl hg1955) rfl rfl (ex_fieldAddr (off' := 2) rfl rfl Try.underlying104 rfl tsz102 rfl) ?_
              refine ops_ex rfl (guard_on rfl rfl rfl hg1955) rfl rfl (ex_fieldAddr (off' := 2) rfl rfl Try.underlying102 rfl tsz2 rfl) ?_
              refine ops_ex rfl (guard_on rfl rfl rfl hg1955) rfl rfl (ex_load1 rfl rfl Try.underlying2 rfl ((HM.box_at 0 rfl) 2 _ rfl)) ?_
              refine ops_does rfl (guard_on rfl rfl rfl hg1955) rfl rfl (does_callk rfl callok81 rfl (impl_within.calls (x0 := (gt x0 a1889).fOut.fValue) (x1 := 1) (x2 := 1000000) (cond_t (not_mk hg1955) h1949))) ?_
              rintro _ w1957 ⟨rfl, hn⟩
              replace HM : Mem w [] w1957 [box b1932 104 [.int .i64 ((gt x0 a1889).fRef.fTx), .int .i64 ((gt x0 a1889).fRef.fAt), .int .i64 ((gt x0 a1889).fOut.fValue), kv1930, .int .i64 ((gt x0 a1889).fOut.fRule.fNeed), .int .i64 ((gt x0 a1889).fOut.fRule.fAfter), .int .i64 ((gt x0 a1889).fHeight), .bool ((gt x0 a1889).fMined)]] := HM.call hn
              refine ops_ex rfl (guard_on rfl rfl rfl hg1955) rfl rfl (ex_not rfl rfl) ?_
              refine ops_ex (v := .bool (((!t1944) || (!t1946)) || (!t1948))) rfl (guard_none rfl) rfl rfl (ex_por_f rfl rfl hg1955 rfl) ?_
              refine ops_nil ?_
              exact at_meet [(0, p0), (9, p0), (10, .int .i64 (x0.length : Int)), (11, .int .i64 a1889), (4, .pointer (some ⟨b1932, 0, none⟩)), (3, .int .i64 a1889), (32, .bool (((!t1944) || (!t1946)) || (!t1948)))] ⟨rfl, HM⟩ (Sub.cons rfl (Sub.cons rfl (Sub.cons rfl (Sub.cons rfl (Sub.cons rfl (Sub.cons rfl (Sub.cons rfl Sub.nil)))))))
        · rintro _ w1958 ⟨rfl, HM⟩
          refine at_then ?_
          refine run_cond (b := (((!t1944) || (!t1946)) || (!t1948))) rfl (fun hb1959 => ?_) (fun hb1959 => ?_)
          · replace ho1853 := cond_t hb1959 ho1853
            refine run_seq ?_
            refine run_region rfl ?_
            refine ops_ex rfl (guard_none rfl) rfl rfl (ex_assign rfl rfl) ?_
            refine ops_nil ?_
            refine at_then ?_
            refine run_ret ?_
            refine at_then_ret ?_
            refine at_block_ret ?_
            refine at_then_ret ?_
            refine at_then_ret ?_
            refine at_block_ret ?_
            refine at_then_ret ?_
            replace HM := (HM.front 0 rfl rfl).drop
            have hR := Option.some.inj ho1853
            subst hR
            have hT := thn_inl H
            have hR := Option.some.inj hT
            subst hR
            exact at_ret1 rfl rfl ⟨_, rfl, rfl, HM⟩
          · replace ho1853 := cond_f hb1959 ho1853
            refine run_skip ?_
            refine at_then ?_
            refine run_seq ?_
            refine run_seq ?_
            obtain ⟨t1963, h1964, ho1853⟩ := bind_some ho1853
            refine run_region rfl ?_
            refine ops_ex rfl (guard_none rfl) rfl rfl (ex_fieldAddr (off' := 2) rfl rfl Try.underlying104 rfl tsz102 rfl) ?_
            refine ops_ex rfl (guard_none rfl) rfl rfl (ex_fieldAddr (off' := 3) rfl rfl Try.underlying102 rfl tsz100 rfl) ?_
            refine ops_ex rfl (guard_none rfl) rfl rfl (ex_loadN (cs := [kv1930, (.int .i64 ((gt x0 a1889).fOut.fRule.fNeed)), (.int .i64 ((gt x0 a1889).fOut.fRule.fAfter))]) rfl rfl Try.underlying100 rfl tsz100 rfl ((HM.box_at 0 rfl).sub 3 3 rfl)) ?_
            refine ops_does rfl (guard_none rfl) rfl rfl (does_callk rfl callok82 rfl (impl_RuleFault.calls (x0 := (gt x0 a1889).fOut.fRule) (HM.rd hk1931) h1964)) ?_
            rintro _ w1965 ⟨rfl, hn⟩
            replace HM : Mem w [] w1965 [box b1932 104 [.int .i64 ((gt x0 a1889).fRef.fTx), .int .i64 ((gt x0 a1889).fRef.fAt), .int .i64 ((gt x0 a1889).fOut.fValue), kv1930, .int .i64 ((gt x0 a1889).fOut.fRule.fNeed), .int .i64 ((gt x0 a1889).fOut.fRule.fAfter), .int .i64 ((gt x0 a1889).fHeight), .bool ((gt x0 a1889).fMined)]] := HM.call hn
            refine ops_ex rfl (guard_none rfl) rfl rfl (ex_assign rfl rfl) ?_
            refine ops_nil ?_
            refine at_then ?_
            refine run_seq ?_
            refine run_region rfl ?_
            refine ops_ex rfl (guard_none rfl) rfl rfl (ex_move rfl rfl) ?_
            refine ops_ex rfl (guard_none rfl) rfl rfl (ex_neq rfl rfl rfl) ?_
            refine ops_nil ?_
            refine at_then ?_
            refine run_cond (b := (t1963 != 0)) rfl (fun hb1966 => ?_) (fun hb1966 => ?_)
            · replace ho1853 := cond_t hb1966 ho1853
              refine run_seq ?_
              refine run_region rfl ?_
              refine ops_ex rfl (guard_none rfl) rfl rfl (ex_move rfl rfl) ?_
              refine ops_ex rfl (guard_none rfl) rfl rfl (ex_assign rfl rfl) ?_
              refine ops_nil ?_
              refine at_then ?_
              refine run_ret ?_
              refine at_then_ret ?_
              refine at_block_ret ?_
              refine at_then_ret ?_
              refine at_then_ret ?_
              refine at_block_ret ?_
              refine at_then_ret ?_
              replace HM := (HM.front 0 rfl rfl).drop
              have hR := Option.some.inj ho1853
              subst hR
              have hT := thn_inl H
              have hR := Option.some.inj hT
              subst hR
              exact at_ret1 rfl rfl ⟨_, rfl, rfl, HM⟩
            · replace ho1853 := cond_f hb1966 ho1853
              refine run_skip ?_
              refine at_then ?_
              refine run_seq ?_
              obtain ⟨e1967, ho1853⟩ := chk_some ho1853
              obtain ⟨t1971, h1972, ho1853⟩ := bind_some ho1853
              refine run_meet (fun ρ_ w_ => ρ_ = [(0, p0), (9, p0), (10, .int .i64 (x0.length : Int)), (11, .int .i64 a1889), (53, .bool ((decide (0 < a1889)) && (decide (0 ≤ t1971))))] ∧ Mem w [] w_ []) ?_ ?_
              · skip
                refine run_drawf (fun w_ => Mem w [] w_ [box b1932 104 [.int .i64 ((gt x0 a1889).fRef.fTx), .int .i64 ((gt x0 a1889).fRef.fAt), .int .i64 ((gt x0 a1889).fOut.fValue), kv1930, .int .i64 ((gt x0 a1889).fOut.fRule.fNeed), .int .i64 ((gt x0 a1889).fOut.fRule.fAfter), .int .i64 ((gt x0 a1889).fHeight), .bool ((gt x0 a1889).fMined)]]) [(0, true), (1, true), (2, true), (3, true), (4, true), (5, true), (6, true), (7, true), (8, true), (9, true), (10, true), (11, false), (12, true), (13, true)] mixed rfl rfl (by kernel_rfl) ?_
                replace HM := HM.grow (fr_drew _)
                have hS := Mem.suf (M := []) HM
                refine drwp_take rfl (guard_none rfl) rfl rfl (fun w_ hS_ => (ex_move rfl rfl)) hS ?_
                refine drwp_take rfl (guard_none rfl) rfl rfl (fun w_ hS_ => (ex_gtr rfl rfl rfl)) hS ?_
                refine drwp_take rfl (guard_none rfl) rfl rfl (fun w_ hS_ => (ex_move rfl rfl)) hS ?_
                refine bool_cases (decide (0 < a1889)) (fun hg1973 => ?_) (fun hg1973 => ?_)
                · skip
                  refine drwp_take rfl (guard_on rfl rfl rfl hg1973) rfl rfl (fun w_ hS_ => (ex_move rfl rfl)) hS ?_
                  refine drwp_take rfl (guard_on rfl rfl rfl hg1973) rfl rfl (fun w_ hS_ => (ex_move rfl rfl)) hS ?_
                  refine drwp_take rfl (guard_on rfl rfl rfl hg1973) rfl rfl (fun w_ hS_ => (ex_sub rfl rfl rfl)) hS ?_
                  obtain ⟨kv1969, hc1968, hk1970⟩ : ∃ u, CellsAt _ (sb p0) (so p0 + (wrap64 (a1889 - 1)).toNat * 8) [(.int .i64 ((gt x0 (wrap64 (a1889 - 1))).fRef.fTx)), (.int .i64 ((gt x0 (wrap64 (a1889 - 1))).fRef.fAt)), (.int .i64 ((gt x0 (wrap64 (a1889 - 1))).fOut.fValue)), u, (.int .i64 ((gt x0 (wrap64 (a1889 - 1))).fOut.fRule.fNeed)), (.int .i64 ((gt x0 (wrap64 (a1889 - 1))).fOut.fRule.fAfter)), (.int .i64 ((gt x0 (wrap64 (a1889 - 1))).fHeight)), (.bool ((gt x0 (wrap64 (a1889 - 1))).fMined))] ∧ RdS kInt _ u ((gt x0 (wrap64 (a1889 - 1))).fOut.fRule.fKeys) := rd_with1 hp0 (or_t e1967 hg1973)
                  refine drwp_take rfl (guard_on rfl rfl rfl hg1973) rfl rfl (fun w_ hS_ => (ex_indexAddr (d := kCoin) rfl rfl rfl Try.underlying25 tsz104 hp0 (idx_lo (or_t e1967 hg1973)) (idx_hi (or_t e1967 hg1973)))) hS ?_
                  refine drwp_take rfl (guard_on rfl rfl rfl hg1973) rfl rfl (fun w_ hS_ => (ex_fieldAddr (off' := so p0 + (wrap64 (a1889 - 1)).toNat * 8) rfl rfl Try.underlying104 rfl tsz99 rfl)) hS ?_
                  refine drwp_take rfl (guard_on rfl rfl rfl hg1973) rfl rfl (fun w_ hS_ => (ex_loadN (cs := [(.int .i64 ((gt x0 (wrap64 (a1889 - 1))).fRef.fTx)), (.int .i64 ((gt x0 (wrap64 (a1889 - 1))).fRef.fAt))]) rfl rfl Try.underlying99 rfl tsz99 rfl ((hS_.at_ hc1968).sub 0 2 rfl))) hS ?_
                  refine drwp_take rfl (guard_on rfl rfl rfl hg1973) rfl rfl (fun w_ hS_ => (ex_fieldAddr (off' := 0) rfl rfl Try.underlying104 rfl tsz99 rfl)) hS ?_
                  refine drwp_take rfl (guard_on rfl rfl rfl hg1973) rfl rfl (fun w_ hS_ => (ex_loadN (cs := [(.int .i64 ((gt x0 a1889).fRef.fTx)), (.int .i64 ((gt x0 a1889).fRef.fAt))]) rfl rfl Try.underlying99 rfl tsz99 rfl ((hS_.box_at 0 rfl).sub 0 2 rfl))) hS ?_
                  refine drwp_one rfl (guard_on rfl rfl rfl hg1973) rfl rfl (does_callk rfl callok83 rfl (impl_compareRefs.calls (x0 := (gt x0 (wrap64 (a1889 - 1))).fRef) (x1 := (gt x0 a1889).fRef) (cond_t hg1973 h1972))) ?_
                  rintro _ w1974 ⟨rfl, hn⟩
                  replace HM : Mem w [] w1974 [box b1932 104 [.int .i64 ((gt x0 a1889).fRef.fTx), .int .i64 ((gt x0 a1889).fRef.fAt), .int .i64 ((gt x0 a1889).fOut.fValue), kv1930, .int .i64 ((gt x0 a1889).fOut.fRule.fNeed), .int .i64 ((gt x0 a1889).fOut.fRule.fAfter), .int .i64 ((gt x0 a1889).fHeight), .bool ((gt x0 a1889).fMined)]] := HM.call hn
                  refine ⟨Mem.suf (M := []) HM, ?_⟩
                  have hS := Mem.suf (M := []) HM
                  refine drwp_take rfl (guard_on rfl rfl rfl hg1973) rfl rfl (fun w_ hS_ => (ex_geq rfl rfl rfl)) hS ?_
                  refine drwp_take (v := .bool ((decide (0 < a1889)) && (decide (0 ≤ t1971)))) rfl (guard_none rfl) rfl rfl (fun w_ hS_ => (ex_pand_t rfl rfl hg1973 rfl)) hS ?_
                  refine drwp_done ?_
                  replace HM := (HM.front 0 rfl rfl).drop
                  exact at_meet [(0, p0), (9, p0), (10, .int .i64 (x0.length : Int)), (11, .int .i64 a1889), (53, .bool ((decide (0 < a1889)) && (decide (0 ≤ t1971))))] ⟨rfl, HM⟩ (Sub.cons rfl (Sub.cons rfl (Sub.cons rfl (Sub.cons rfl (Sub.cons rfl Sub.nil)))))
                · skip
                  refine drwp_off rfl (guard_off rfl rfl rfl hg1973) rfl rfl hS ?_
                  refine drwp_off rfl (guard_off rfl rfl rfl hg1973) rfl rfl hS ?_
                  refine drwp_off rfl (guard_off rfl rfl rfl hg1973) rfl rfl hS ?_
                  refine drwp_off rfl (guard_off rfl rfl rfl hg1973) rfl rfl hS ?_
                  refine drwp_off rfl (guard_off rfl rfl rfl hg1973) rfl rfl hS ?_
                  refine drwp_off rfl (guard_off rfl rfl rfl hg1973) rfl rfl hS ?_
                  refine drwp_off rfl (guard_off rfl rfl rfl hg1973) rfl rfl hS ?_
                  refine drwp_off rfl (guard_off rfl rfl rfl hg1973) rfl rfl hS ?_
                  refine drwp_off1 rfl (guard_off rfl rfl rfl hg1973) rfl rfl ⟨hS, ?_⟩
                  refine drwp_off rfl (guard_off rfl rfl rfl hg1973) rfl rfl hS ?_
                  have hg1975 : ((decide (0 < a1889)) && (decide (0 ≤ t1971))) = false := by simp only [hg1973, Bool.and_true, Bool.true_and, Bool.and_false, Bool.false_and, Bool.or_true, Bool.true_or, Bool.or_false, Bool.false_or, Bool.not_true, Bool.not_false, Bool.not_not]
                  refine drwp_take (v := .bool ((decide (0 < a1889)) && (decide (0 ≤ t1971)))) rfl (guard_none rfl) rfl rfl (fun w_ hS_ => (ex_pand_f rfl rfl hg1973)) hS ?_
                  refine drwp_done ?_
                  replace HM := (HM.front 0 rfl rfl).drop
                  exact at_meet [(0, p0), (9, p0), (10, .int .i64 (x0.length : Int)), (11, .int .i64 a1889), (53, .bool ((decide (0 < a1889)) && (decide (0 ≤ t1971))))] ⟨rfl, HM⟩ (Sub.cons rfl (Sub.cons rfl (Sub.cons rfl (Sub.cons rfl (Sub.cons rfl Sub.nil)))))
              · rintro _ w1976 ⟨rfl, HM⟩
                refine at_then ?_
                refine run_cond (b := ((decide (0 < a1889)) && (decide (0 ≤ t1971)))) rfl (fun hb1977 => ?_) (fun hb1977 => ?_)
                · replace ho1853 := cond_t hb1977 ho1853
                  refine run_seq ?_
                  refine run_region rfl ?_
                  refine ops_ex rfl (guard_none rfl) rfl rfl (ex_assign rfl rfl) ?_
                  refine ops_nil ?_
                  refine at_then ?_
                  refine run_ret ?_
                  refine at_block_ret ?_
                  refine at_then_ret ?_
                  refine at_then_ret ?_
                  refine at_block_ret ?_
                  refine at_then_ret ?_
                  have hR := Option.some.inj ho1853
                  subst hR
                  have hT := thn_inl H
                  have hR := Option.some.inj hT
                  subst hR
                  exact at_ret1 rfl rfl ⟨_, rfl, rfl, HM⟩
                · replace ho1853 := cond_f hb1977 ho1853
                  refine run_skip ?_
                  refine at_block ?_
                  refine at_then ?_
                  refine run_region rfl ?_
                  refine ops_ex rfl (guard_none rfl) rfl rfl (ex_add rfl rfl rfl) ?_
                  refine ops_ex rfl (guard_none rfl) rfl rfl (ex_move rfl rfl) ?_
                  refine ops_nil ?_
                  exact at_again k1925 (ρ1 := [(0, p0), (9, p0), (10, .int .i64 (x0.length : Int)), (11, .int .i64 (wrap64 (a1889 + 1)))]) (Nat.lt_succ_self _) ⟨_, ho1853, rfl, HM⟩ (Sub.cons rfl (Sub.cons rfl (Sub.cons rfl (Sub.cons rfl Sub.nil))))
      · replace ho1853 := cond_f hb1927 ho1853
        refine run_exit ?_
        refine at_then_exit ?_
        refine at_then_exit ?_
        refine at_block_exit ?_
        exact at_mid (ρ' := []) ⟨(Option.some.inj ho1853), rfl, HM⟩ Sub.nil
    · rintro _ w1978 ⟨rfl, rfl, HM⟩
      replace H := (thn_inr H)
      refine run_seq ?_
      refine run_region rfl ?_
      refine ops_ex rfl (guard_none rfl) rfl rfl (ex_assign rfl rfl) ?_
      refine ops_nil ?_
      refine at_then ?_
      refine run_ret ?_
      have hR := Option.some.inj H
      subst hR
      exact at_ret1 rfl rfl ⟨_, rfl, rfl, HM⟩
end Go.Proofs.Ytoiacoiccpiciaa.Zk
