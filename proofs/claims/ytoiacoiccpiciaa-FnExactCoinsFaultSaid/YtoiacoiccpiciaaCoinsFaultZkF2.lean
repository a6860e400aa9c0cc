/- What functions of the program compute, each as a plain function, and that they do. Conditions: as each theorem states them. -/
import Derived.Test.YtoiacoiccpiciaaCoinsFaultZkF1
namespace Go.Proofs.Ytoiacoiccpiciaa.Zk
open Go Go.RowKit Go.IntWalk Go.Proofs
set_option linter.unusedVariables false
set_option linter.unusedSimpArgs false
set_option maxRecDepth 100000
set_option maxHeartbeats 4000000
def impl_isHeight.f (k : Nat) (x0 : Int) : Option Bool := ((impl_within.f k x0 0 999).bind fun t1258 => some t1258)
theorem impl_isHeight.calls {k : Nat} {x0 : Int}  {w : World}  {r : Bool} (H : impl_isHeight.f k x0 = some r) :
    Calls Try.prog 80 ([.int .i64 x0] : List Value).toArray w (fun e w_ => ∃ v, e = .returned v ∧ v = (.bool r) ∧ Mem w [] w_ []) := by
  have HM := Mem.start w
  refine calls_run (N := 5) Try.func80 rfl rfl rfl rfl ?_
  unfold impl_isHeight.f at H
  refine run_seq ?_
  refine run_region rfl ?_
  refine ops_ex rfl (guard_none rfl) rfl rfl (ex_assign rfl rfl) ?_
  refine ops_nil ?_
  refine at_then ?_
  refine run_seq ?_
  obtain ⟨t1258, h1259, H⟩ := bind_some H
  refine run_region rfl ?_
  refine ops_ex rfl (guard_none rfl) rfl rfl (ex_move rfl rfl) ?_
  refine ops_does rfl (guard_none rfl) rfl rfl (does_callk rfl callok81 rfl (impl_within.calls (x0 := x0) (x1 := 0) (x2 := 999) h1259)) ?_
  rintro _ w1260 ⟨rfl, hn⟩
  replace HM : Mem w [] w1260 [] := HM.call hn
  refine ops_ex rfl (guard_none rfl) rfl rfl (ex_assign rfl rfl) ?_
  refine ops_nil ?_
  refine at_then ?_
  refine run_ret ?_
  have hR := Option.some.inj H
  subst hR
  exact at_ret1 rfl rfl ⟨_, rfl, rfl, HM⟩

def impl_isKey.f (k : Nat) (x0 : Int) : Option Bool := ((impl_within.f k x0 1 999).bind fun t1284 => some t1284)
theorem impl_isKey.calls {k : Nat} {x0 : Int}  {w : World}  {r : Bool} (H : impl_isKey.f k x0 = some r) :
    Calls Try.prog 86 ([.int .i64 x0] : List Value).toArray w (fun e w_ => ∃ v, e = .returned v ∧ v = (.bool r) ∧ Mem w [] w_ []) := by
  have HM := Mem.start w
  refine calls_run (N := 5) Try.func86 rfl rfl rfl rfl ?_
  unfold impl_isKey.f at H
  refine run_seq ?_
  refine run_region rfl ?_
  refine ops_ex rfl (guard_none rfl) rfl rfl (ex_assign rfl rfl) ?_
  refine ops_nil ?_
  refine at_then ?_
  refine run_seq ?_
  obtain ⟨t1284, h1285, H⟩ := bind_some H
  refine run_region rfl ?_
  refine ops_ex rfl (guard_none rfl) rfl rfl (ex_move rfl rfl) ?_
  refine ops_does rfl (guard_none rfl) rfl rfl (does_callk rfl callok81 rfl (impl_within.calls (x0 := x0) (x1 := 1) (x2 := 999) h1285)) ?_
  rintro _ w1286 ⟨rfl, hn⟩
  replace HM : Mem w [] w1286 [] := HM.call hn
  refine ops_ex rfl (guard_none rfl) rfl rfl (ex_assign rfl rfl) ?_
  refine ops_nil ?_
  refine at_then ?_
  refine run_ret ?_
  have hR := Option.some.inj H
  subst hR
  exact at_ret1 rfl rfl ⟨_, rfl, rfl, HM⟩

def impl_areKeys_1.f (k : Nat) (x0 : Int) : Option Bool := ((impl_isKey.f k x0).bind fun t1289 => some (!t1289))
theorem impl_areKeys_1.calls {k : Nat} {x0 : Int}  {w : World}  {r : Bool} (H : impl_areKeys_1.f k x0 = some r) :
    Calls Try.prog 163 ([.int .i64 x0] : List Value).toArray w (fun e w_ => ∃ v, e = .returned v ∧ v = (.bool r) ∧ Mem w [] w_ []) := by
  have HM := Mem.start w
  refine calls_run (N := 6) Try.func163 rfl rfl rfl rfl ?_
  unfold impl_areKeys_1.f at H
  refine run_seq ?_
  refine run_region rfl ?_
  refine ops_ex rfl (guard_none rfl) rfl rfl (ex_assign rfl rfl) ?_
  refine ops_nil ?_
  refine at_then ?_
  refine run_seq ?_
  obtain ⟨t1289, h1290, H⟩ := bind_some H
  refine run_region rfl ?_
  refine ops_ex rfl (guard_none rfl) rfl rfl (ex_move rfl rfl) ?_
  refine ops_does rfl (guard_none rfl) rfl rfl (does_callk rfl callok86 rfl (impl_isKey.calls (x0 := x0) h1290)) ?_
  rintro _ w1291 ⟨rfl, hn⟩
  replace HM : Mem w [] w1291 [] := HM.call hn
  refine ops_ex rfl (guard_none rfl) rfl rfl (ex_not rfl rfl) ?_
  refine ops_ex rfl (guard_none rfl) rfl rfl (ex_assign rfl rfl) ?_
  refine ops_nil ?_
  refine at_then ?_
  refine run_ret ?_
  have hR := Option.some.inj H
  subst hR
  exact at_ret1 rfl rfl ⟨_, rfl, rfl, HM⟩

def slices_IndexFunc_int64.l0 (x0 : List Int) : Nat → Int → Option (Int ⊕ Unit)
  | 0, _ => none
  | k + 1, a1337 => (bif (decide (a1337 < (x0.length : Int))) then (chk (idxOk a1337 x0.length) ((impl_areKeys_1.f k (gt x0 a1337)).bind fun t1349 => (bif t1349 then some (.inl a1337) else slices_IndexFunc_int64.l0 x0 k (wrap64 (a1337 + 1))))) else some (.inr ()))
theorem slices_IndexFunc_int64.l0_z (x0 : List Int) (a1337 : Int) : slices_IndexFunc_int64.l0 x0 0 a1337 = none := rfl
theorem slices_IndexFunc_int64.l0_s (x0 : List Int) (k : Nat) (a1337 : Int) : slices_IndexFunc_int64.l0 x0 (k + 1) a1337 = (bif (decide (a1337 < (x0.length : Int))) then (chk (idxOk a1337 x0.length) ((impl_areKeys_1.f k (gt x0 a1337)).bind fun t1349 => (bif t1349 then some (.inl a1337) else slices_IndexFunc_int64.l0 x0 k (wrap64 (a1337 + 1))))) else some (.inr ())) := rfl
def slices_IndexFunc_int64.f (k : Nat) (x0 : List Int) : Option Int := ((slices_IndexFunc_int64.l0 x0 k 0).bind fun o1329 => thn o1329 (fun r => some r) (fun _ => some (-1)))
theorem slices_IndexFunc_int64.calls {k : Nat} {x0 : List Int} {p0 : Value} {w : World} (hp0 : RdS kInt w p0 x0) {r : Int} (H : slices_IndexFunc_int64.f k x0 = some r) :
    Calls Try.prog 170 ([p0, .func (.func 163) #[] #[]] : List Value).toArray w (fun e w_ => ∃ v, e = .returned v ∧ v = (.int .i64 r) ∧ Mem w [] w_ []) := by
  have HM := Mem.start w
  refine calls_run (N := 19) Try.func170 rfl rfl rfl rfl ?_
  unfold slices_IndexFunc_int64.f at H
  refine run_seq ?_
  refine run_region rfl ?_
  refine ops_ex rfl (guard_none rfl) rfl rfl (ex_assign rfl rfl) ?_
  refine ops_nil ?_
  refine at_then ?_
  obtain ⟨o1329, ho1330, H⟩ := bind_some H
  refine run_mid (fun ρ_ w_ => Sum.inr () = o1329 ∧ ρ_ = [] ∧ Mem w [] w_ []) ?_ ?_
  · skip
    refine run_seq ?_
    refine run_region rfl ?_
    refine ops_ex rfl (guard_none rfl) rfl rfl (ex_move rfl rfl) ?_
    refine ops_ex rfl (guard_none rfl) rfl rfl (ex_len (d := kInt) (xs := x0) rfl rfl Try.underlying74 hp0) ?_
    refine ops_ex rfl (guard_none rfl) rfl rfl (ex_move rfl rfl) ?_
    refine ops_nil ?_
    refine at_then ?_
    refine run_block ?_
    refine run_loop (fun k_ ρ_ w_ => ∃ a1337 : Int, slices_IndexFunc_int64.l0 x0 k_ a1337 = some o1329 ∧ ρ_ = [(0, p0), (1, .func (.func 163) #[] #[]), (7, .int .i64 (x0.length : Int)), (8, .int .i64 a1337)] ∧ Mem w [] w_ []) k (ρ1 := [(0, p0), (1, .func (.func 163) #[] #[]), (7, .int .i64 (x0.length : Int)), (8, .int .i64 0)]) ⟨_, ho1330, rfl, HM⟩ (Sub.cons rfl (Sub.cons rfl (Sub.cons rfl (Sub.cons rfl Sub.nil)))) ?_
    clear HM ho1330
    rintro k1344 _ w1345 ⟨a1337, ho1330, rfl, HM⟩
    obtain _ | k1344 := k1344
    · exact nomatch ((slices_IndexFunc_int64.l0_z x0 a1337).symm.trans ho1330)
    replace ho1330 := (slices_IndexFunc_int64.l0_s x0 k1344 a1337).symm.trans ho1330
    refine run_seq ?_
    refine run_region rfl ?_
    refine ops_ex rfl (guard_none rfl) rfl rfl (ex_lss rfl rfl rfl) ?_
    refine ops_nil ?_
    refine at_then ?_
    refine run_seq ?_
    refine run_cond (b := (decide (a1337 < (x0.length : Int)))) rfl (fun hb1346 => ?_) (fun hb1346 => ?_)
    · replace ho1330 := cond_t hb1346 ho1330
      refine run_skip ?_
      refine at_then ?_
      refine run_seq ?_
      refine run_block ?_
      refine run_seq ?_
      refine run_region rfl ?_
      refine ops_ex rfl (guard_none rfl) rfl rfl (ex_move rfl rfl) ?_
      refine ops_ex rfl (guard_none rfl) rfl rfl (ex_assign rfl rfl) ?_
      refine ops_nil ?_
      refine at_then ?_
      refine run_seq ?_
      obtain ⟨e1347, ho1330⟩ := chk_some ho1330
      obtain ⟨t1349, h1350, ho1330⟩ := bind_some ho1330
      refine run_region rfl ?_
      refine ops_ex rfl (guard_none rfl) rfl rfl (ex_move rfl rfl) ?_
      refine ops_ex rfl (guard_none rfl) rfl rfl (ex_move rfl rfl) ?_
      refine ops_ex rfl (guard_none rfl) rfl rfl (ex_move rfl rfl) ?_
      have hc1348 : CellsAt _ (sb p0) (so p0 + (a1337).toNat * 1) [(.int .i64 (gt x0 a1337))] := rd_plain hp0 e1347
      refine ops_ex rfl (guard_none rfl) rfl rfl (ex_indexAddr (d := kInt) rfl rfl rfl Try.underlying74 tsz2 hp0 (idx_lo e1347) (idx_hi e1347)) ?_
      refine ops_ex rfl (guard_none rfl) rfl rfl (ex_load1 rfl rfl Try.underlying2 rfl ((HM.at_ hc1348) 0 _ rfl)) ?_
      refine ops_does rfl (guard_none rfl) rfl rfl (does_callvk rfl callok163 rfl rfl rfl (impl_areKeys_1.calls (x0 := (gt x0 a1337)) h1350)) ?_
      rintro _ w1351 ⟨rfl, hn⟩
      replace HM : Mem w [] w1351 [] := HM.call hn
      refine ops_nil ?_
      refine at_then ?_
      refine run_cond (b := t1349) rfl (fun hb1352 => ?_) (fun hb1352 => ?_)
      · replace ho1330 := cond_t hb1352 ho1330
        refine run_seq ?_
        refine run_region rfl ?_
        refine ops_ex rfl (guard_none rfl) rfl rfl (ex_move rfl rfl) ?_
        refine ops_ex rfl (guard_none rfl) rfl rfl (ex_assign rfl rfl) ?_
        refine ops_nil ?_
        refine at_then ?_
        refine run_ret ?_
        refine at_block_ret ?_
        refine at_then_ret ?_
        refine at_then_ret ?_
        refine at_block_ret ?_
        refine at_then_ret ?_
        have hR := Option.some.inj ho1330
        subst hR
        have hT := thn_inl H
        have hR := Option.some.inj hT
        subst hR
        exact at_ret1 rfl rfl ⟨_, rfl, rfl, HM⟩
      · replace ho1330 := cond_f hb1352 ho1330
        refine run_skip ?_
        refine at_block ?_
        refine at_then ?_
        refine run_region rfl ?_
        refine ops_ex rfl (guard_none rfl) rfl rfl (ex_add rfl rfl rfl) ?_
        refine ops_ex rfl (guard_none rfl) rfl rfl (ex_move rfl rfl) ?_
        refine ops_nil ?_
        exact at_again k1344 (ρ1 := [(0, p0), (1, .func (.func 163) #[] #[]), (7, .int .i64 (x0.length : Int)), (8, .int .i64 (wrap64 (a1337 + 1)))]) (Nat.lt_succ_self _) ⟨_, ho1330, rfl, HM⟩ (Sub.cons rfl (Sub.cons rfl (Sub.cons rfl (Sub.cons rfl Sub.nil))))
    · replace ho1330 := cond_f hb1346 ho1330
      refine run_exit ?_
      refine at_then_exit ?_
      refine at_then_exit ?_
      refine at_block_exit ?_
      exact at_mid (ρ' := []) ⟨(Option.some.inj ho1330), rfl, HM⟩ Sub.nil
  · rintro _ w1353 ⟨rfl, rfl, HM⟩
    replace H := (thn_inr H)
    refine run_seq ?_
    refine run_region rfl ?_
    refine ops_ex rfl (guard_none rfl) rfl rfl (ex_assign rfl rfl) ?_
    refine ops_nil ?_
    refine at_then ?_
    refine run_ret ?_
    have hR := Option.some.inj H
    subst hR
    exact at_ret1 rfl rfl ⟨_, rfl, rfl, HM⟩

def slices_ContainsFunc_int64.f (k : Nat) (x0 : List Int) : Option Bool := ((slices_IndexFunc_int64.f k x0).bind fun t1356 => some (decide (0 ≤ t1356)))
theorem slices_ContainsFunc_int64.calls {k : Nat} {x0 : List Int} {p0 : Value} {w : World} (hp0 : RdS kInt w p0 x0) {r : Bool} (H : slices_ContainsFunc_int64.f k x0 = some r) :
    Calls Try.prog 162 ([p0, .func (.func 163) #[] #[]] : List Value).toArray w (fun e w_ => ∃ v, e = .returned v ∧ v = (.bool r) ∧ Mem w [] w_ []) := by
  have HM := Mem.start w
  refine calls_run (N := 9) Try.func162 rfl rfl rfl rfl ?_
  unfold slices_ContainsFunc_int64.f at H
  refine run_seq ?_
  refine run_region rfl ?_
  refine ops_ex rfl (guard_none rfl) rfl rfl (ex_assign rfl rfl) ?_
  refine ops_nil ?_
  refine at_then ?_
  refine run_seq ?_
  obtain ⟨t1356, h1357, H⟩ := bind_some H
  refine run_region rfl ?_
  refine ops_ex rfl (guard_none rfl) rfl rfl (ex_move rfl rfl) ?_
  refine ops_ex rfl (guard_none rfl) rfl rfl (ex_move rfl rfl) ?_
  refine ops_does rfl (guard_none rfl) rfl rfl (does_callk rfl callok170 rfl (slices_IndexFunc_int64.calls (x0 := x0) (HM.rd hp0) h1357)) ?_
  rintro _ w1358 ⟨rfl, hn⟩
  replace HM : Mem w [] w1358 [] := HM.call hn
  refine ops_ex rfl (guard_none rfl) rfl rfl (ex_geq rfl rfl rfl) ?_
  refine ops_ex rfl (guard_none rfl) rfl rfl (ex_assign rfl rfl) ?_
  refine ops_nil ?_
  refine at_then ?_
  refine run_ret ?_
  have hR := Option.some.inj H
  subst hR
  exact at_ret1 rfl rfl ⟨_, rfl, rfl, HM⟩

def impl_areKeys.f (k : Nat) (x0 : List Int) : Option Bool := ((slices_ContainsFunc_int64.f k x0).bind fun t1361 => some (!t1361))
theorem impl_areKeys.calls {k : Nat} {x0 : List Int} {p0 : Value} {w : World} (hp0 : RdS kInt w p0 x0) {r : Bool} (H : impl_areKeys.f k x0 = some r) :
    Calls Try.prog 132 ([p0] : List Value).toArray w (fun e w_ => ∃ v, e = .returned v ∧ v = (.bool r) ∧ Mem w [] w_ []) := by
  have HM := Mem.start w
  refine calls_run (N := 6) Try.func132 rfl rfl rfl rfl ?_
  unfold impl_areKeys.f at H
  refine run_seq ?_
  refine run_region rfl ?_
  refine ops_ex rfl (guard_none rfl) rfl rfl (ex_assign rfl rfl) ?_
  refine ops_nil ?_
  refine at_then ?_
  refine run_seq ?_
  obtain ⟨t1361, h1362, H⟩ := bind_some H
  refine run_region rfl ?_
  refine ops_ex rfl (guard_none rfl) rfl rfl (ex_move rfl rfl) ?_
  refine ops_does rfl (guard_none rfl) rfl rfl (does_callk rfl callok162 rfl (slices_ContainsFunc_int64.calls (x0 := x0) (HM.rd hp0) h1362)) ?_
  rintro _ w1363 ⟨rfl, hn⟩
  replace HM : Mem w [] w1363 [] := HM.call hn
  refine ops_ex rfl (guard_none rfl) rfl rfl (ex_not rfl rfl) ?_
  refine ops_ex rfl (guard_none rfl) rfl rfl (ex_assign rfl rfl) ?_
  refine ops_nil ?_
  refine at_then ?_
  refine run_ret ?_
  have hR := Option.some.inj H
  subst hR
  exact at_ret1 rfl rfl ⟨_, rfl, rfl, HM⟩

def impl_isRising.l0 (x0 : List Int) : Nat → Int → Option (Bool ⊕ Unit)
  | 0, _ => none
  | k + 1, a1419 => (bif (decide (a1419 < (x0.length : Int))) then (chk (idxOk a1419 x0.length) (chk (idxOk (wrap64 (a1419 - 1)) x0.length) (bif (decide ((gt x0 a1419) ≤ (gt x0 (wrap64 (a1419 - 1))))) then some (.inl false) else impl_isRising.l0 x0 k (wrap64 (a1419 + 1))))) else some (.inr ()))
theorem impl_isRising.l0_z (x0 : List Int) (a1419 : Int) : impl_isRising.l0 x0 0 a1419 = none := rfl
theorem impl_isRising.l0_s (x0 : List Int) (k : Nat) (a1419 : Int) : impl_isRising.l0 x0 (k + 1) a1419 = (bif (decide (a1419 < (x0.length : Int))) then (chk (idxOk a1419 x0.length) (chk (idxOk (wrap64 (a1419 - 1)) x0.length) (bif (decide ((gt x0 a1419) ≤ (gt x0 (wrap64 (a1419 - 1))))) then some (.inl false) else impl_isRising.l0 x0 k (wrap64 (a1419 + 1))))) else some (.inr ())) := rfl
def impl_isRising.f (k : Nat) (x0 : List Int) : Option Bool := ((impl_isRising.l0 x0 k 1).bind fun o1411 => thn o1411 (fun r => some r) (fun _ => some true))
theorem impl_isRising.calls {k : Nat} {x0 : List Int} {p0 : Value} {w : World} (hp0 : RdS kInt w p0 x0) {r : Bool} (H : impl_isRising.f k x0 = some r) :
    Calls Try.prog 133 ([p0] : List Value).toArray w (fun e w_ => ∃ v, e = .returned v ∧ v = (.bool r) ∧ Mem w [] w_ []) := by
  have HM := Mem.start w
  refine calls_run (N := 20) Try.func133 rfl rfl rfl rfl ?_
  unfold impl_isRising.f at H
  refine run_seq ?_
  refine run_region rfl ?_
  refine ops_ex rfl (guard_none rfl) rfl rfl (ex_assign rfl rfl) ?_
  refine ops_nil ?_
  refine at_then ?_
  obtain ⟨o1411, ho1412, H⟩ := bind_some H
  refine run_mid (fun ρ_ w_ => Sum.inr () = o1411 ∧ ρ_ = [] ∧ Mem w [] w_ []) ?_ ?_
  · skip
    refine run_seq ?_
    refine run_region rfl ?_
    refine ops_ex rfl (guard_none rfl) rfl rfl (ex_assign rfl rfl) ?_
    refine ops_nil ?_
    refine at_then ?_
    refine run_block ?_
    refine run_loop (fun k_ ρ_ w_ => ∃ a1419 : Int, impl_isRising.l0 x0 k_ a1419 = some o1411 ∧ ρ_ = [(0, p0), (3, .int .i64 a1419)] ∧ Mem w [] w_ []) k (ρ1 := [(0, p0), (3, .int .i64 1)]) ⟨_, ho1412, rfl, HM⟩ (Sub.cons rfl (Sub.cons rfl Sub.nil)) ?_
    clear HM ho1412
    rintro k1426 _ w1427 ⟨a1419, ho1412, rfl, HM⟩
    obtain _ | k1426 := k1426
    · exact nomatch ((impl_isRising.l0_z x0 a1419).symm.trans ho1412)
    replace ho1412 := (impl_isRising.l0_s x0 k1426 a1419).symm.trans ho1412
    refine run_seq ?_
    refine run_seq ?_
    refine run_region rfl ?_
    refine ops_ex rfl (guard_none rfl) rfl rfl (ex_move rfl rfl) ?_
    refine ops_ex rfl (guard_none rfl) rfl rfl (ex_move rfl rfl) ?_
    refine ops_ex rfl (guard_none rfl) rfl rfl (ex_len (d := kInt) (xs := x0) rfl rfl Try.underlying74 hp0) ?_
    refine ops_ex rfl (guard_none rfl) rfl rfl (ex_lss rfl rfl rfl) ?_
    refine ops_nil ?_
    refine at_then ?_
    refine run_cond (b := (decide (a1419 < (x0.length : Int)))) rfl (fun hb1428 => ?_) (fun hb1428 => ?_)
    · replace ho1412 := cond_t hb1428 ho1412
      refine run_skip ?_
      refine at_then ?_
      refine run_seq ?_
      refine run_block ?_
      refine run_seq ?_
      obtain ⟨e1429, ho1412⟩ := chk_some ho1412
      obtain ⟨e1431, ho1412⟩ := chk_some ho1412
      refine run_drawf (fun w_ => Mem w [] w_ []) [(0, true), (1, true), (2, true), (3, true), (4, true), (5, true), (6, true), (7, true), (8, true), (9, true)] mixed rfl rfl (by kernel_rfl) ?_
      replace HM := HM.grow (fr_drew _)
      have hS := Mem.suf (M := []) HM
      refine drwp_take rfl (guard_none rfl) rfl rfl (fun w_ hS_ => (ex_move rfl rfl)) hS ?_
      refine drwp_take rfl (guard_none rfl) rfl rfl (fun w_ hS_ => (ex_move rfl rfl)) hS ?_
      have hc1430 : CellsAt _ (sb p0) (so p0 + (a1419).toNat * 1) [(.int .i64 (gt x0 a1419))] := rd_plain hp0 e1429
      refine drwp_take rfl (guard_none rfl) rfl rfl (fun w_ hS_ => (ex_indexAddr (d := kInt) rfl rfl rfl Try.underlying74 tsz2 hp0 (idx_lo e1429) (idx_hi e1429))) hS ?_
      refine drwp_take rfl (guard_none rfl) rfl rfl (fun w_ hS_ => (ex_load1 rfl rfl Try.underlying2 rfl ((hS_.at_ hc1430) 0 _ rfl))) hS ?_
      refine drwp_take rfl (guard_none rfl) rfl rfl (fun w_ hS_ => (ex_move rfl rfl)) hS ?_
      refine drwp_take rfl (guard_none rfl) rfl rfl (fun w_ hS_ => (ex_move rfl rfl)) hS ?_
      refine drwp_take rfl (guard_none rfl) rfl rfl (fun w_ hS_ => (ex_sub rfl rfl rfl)) hS ?_
      have hc1432 : CellsAt _ (sb p0) (so p0 + (wrap64 (a1419 - 1)).toNat * 1) [(.int .i64 (gt x0 (wrap64 (a1419 - 1))))] := rd_plain hp0 e1431
      refine drwp_take rfl (guard_none rfl) rfl rfl (fun w_ hS_ => (ex_indexAddr (d := kInt) rfl rfl rfl Try.underlying74 tsz2 hp0 (idx_lo e1431) (idx_hi e1431))) hS ?_
      refine drwp_take rfl (guard_none rfl) rfl rfl (fun w_ hS_ => (ex_load1 rfl rfl Try.underlying2 rfl ((hS_.at_ hc1432) 0 _ rfl))) hS ?_
      refine drwp_take rfl (guard_none rfl) rfl rfl (fun w_ hS_ => (ex_leq rfl rfl rfl)) hS ?_
      refine drwp_done ?_
      refine at_then ?_
      refine run_cond (b := (decide ((gt x0 a1419) ≤ (gt x0 (wrap64 (a1419 - 1)))))) rfl (fun hb1433 => ?_) (fun hb1433 => ?_)
      · replace ho1412 := cond_t hb1433 ho1412
        refine run_seq ?_
        refine run_region rfl ?_
        refine ops_ex rfl (guard_none rfl) rfl rfl (ex_assign rfl rfl) ?_
        refine ops_nil ?_
        refine at_then ?_
        refine run_ret ?_
        refine at_block_ret ?_
        refine at_then_ret ?_
        refine at_then_ret ?_
        refine at_block_ret ?_
        refine at_then_ret ?_
        have hR := Option.some.inj ho1412
        subst hR
        have hT := thn_inl H
        have hR := Option.some.inj hT
        subst hR
        exact at_ret1 rfl rfl ⟨_, rfl, rfl, HM⟩
      · replace ho1412 := cond_f hb1433 ho1412
        refine run_skip ?_
        refine at_block ?_
        refine at_then ?_
        refine run_region rfl ?_
        refine ops_ex rfl (guard_none rfl) rfl rfl (ex_move rfl rfl) ?_
        refine ops_ex rfl (guard_none rfl) rfl rfl (ex_add rfl rfl rfl) ?_
        refine ops_ex rfl (guard_none rfl) rfl rfl (ex_assign rfl rfl) ?_
        refine ops_nil ?_
        exact at_again k1426 (ρ1 := [(0, p0), (3, .int .i64 (wrap64 (a1419 + 1)))]) (Nat.lt_succ_self _) ⟨_, ho1412, rfl, HM⟩ (Sub.cons rfl (Sub.cons rfl Sub.nil))
    · replace ho1412 := cond_f hb1428 ho1412
      refine run_exit ?_
      refine at_then_exit ?_
      refine at_then_exit ?_
      refine at_block_exit ?_
      exact at_mid (ρ' := []) ⟨(Option.some.inj ho1412), rfl, HM⟩ Sub.nil
  · rintro _ w1434 ⟨rfl, rfl, HM⟩
    replace H := (thn_inr H)
    refine run_seq ?_
    refine run_region rfl ?_
    refine ops_ex rfl (guard_none rfl) rfl rfl (ex_assign rfl rfl) ?_
    refine ops_nil ?_
    refine at_then ?_
    refine run_ret ?_
    have hR := Option.some.inj H
    subst hR
    exact at_ret1 rfl rfl ⟨_, rfl, rfl, HM⟩

def impl_RuleFault.f (k : Nat) (x0 : Rule) : Option Int := ((impl_within.f k (x0.fKeys.length : Int) 1 3).bind fun t1442 => (bif !t1442 then some 2 else ((impl_areKeys.f k x0.fKeys).bind fun t1446 => ((bif (!(!t1446)) then impl_within.f k x0.fNeed 1 (x0.fKeys.length : Int) else some default).bind fun t1448 => ((bif (!((!t1446) || (!t1448))) then impl_isHeight.f k x0.fAfter else some default).bind fun t1450 => (bif (((!t1446) || (!t1448)) || (!t1450)) then some 3 else ((impl_isRising.f k x0.fKeys).bind fun t1462 => (bif !t1462 then some 1 else some 0))))))))
theorem impl_RuleFault.calls {k : Nat} {x0 : Rule} {p0_0 : Value} {w : World} (hp0_0 : RdS kInt w p0_0 x0.fKeys) {r : Int} (H : impl_RuleFault.f k x0 = some r) :
    Calls Try.prog 82 ([.agg #[p0_0, (.int .i64 x0.fNeed), (.int .i64 x0.fAfter)]] : List Value).toArray w (fun e w_ => ∃ v, e = .returned v ∧ v = (.int .i64 r) ∧ Mem w [] w_ []) := by
  have HM := Mem.start w
  refine calls_run (N := 34) Try.func82 rfl rfl rfl rfl ?_
  unfold impl_RuleFault.f at H
  refine run_seq ?_
  refine run_region rfl ?_
  refine ops_does rfl (guard_none rfl) rfl rfl (does_box (cs := [p0_0, .int .i64 x0.fNeed, .int .i64 x0.fAfter]) rfl rfl rfl HM) ?_
  rintro _ w1441 ⟨b1438, rfl, HM⟩
  refine ops_ex rfl (guard_none rfl) rfl rfl (ex_assign rfl rfl) ?_
  refine ops_nil ?_
  refine at_then ?_
  refine run_seq ?_
  refine run_region rfl ?_
  refine ops_ex rfl (guard_none rfl) rfl rfl (ex_fieldAddr (off' := 0) rfl rfl Try.underlying100 rfl tsz74 rfl) ?_
  refine ops_ex rfl (guard_none rfl) rfl rfl (ex_load1 rfl rfl Try.underlying74 rfl ((HM.box_at 0 rfl) 0 _ rfl)) ?_
  refine ops_ex rfl (guard_none rfl) rfl rfl (ex_len (d := kInt) (xs := x0.fKeys) rfl rfl Try.underlying74 hp0_0) ?_
  refine ops_ex rfl (guard_none rfl) rfl rfl (ex_assign rfl rfl) ?_
  refine ops_nil ?_
  refine at_then ?_
  refine run_seq ?_
  refine run_block ?_
  refine run_seq ?_
  obtain ⟨t1442, h1443, H⟩ := bind_some H
  refine run_region rfl ?_
  refine ops_ex rfl (guard_none rfl) rfl rfl (ex_move rfl rfl) ?_
  refine ops_does rfl (guard_none rfl) rfl rfl (does_callk rfl callok81 rfl (impl_within.calls (x0 := (x0.fKeys.length : Int)) (x1 := 1) (x2 := 3) h1443)) ?_
  rintro _ w1444 ⟨rfl, hn⟩
  replace HM : Mem w [] w1444 [box b1438 100 [p0_0, .int .i64 x0.fNeed, .int .i64 x0.fAfter]] := HM.call hn
  refine ops_ex rfl (guard_none rfl) rfl rfl (ex_not rfl rfl) ?_
  refine ops_ex rfl (guard_none rfl) rfl rfl (ex_assign rfl rfl) ?_
  refine ops_nil ?_
  refine at_then ?_
  refine run_cond (b := !t1442) rfl (fun hb1445 => ?_) (fun hb1445 => ?_)
  · replace H := cond_t hb1445 H
    refine run_seq ?_
    refine run_region rfl ?_
    refine ops_ex rfl (guard_none rfl) rfl rfl (ex_assign rfl rfl) ?_
    refine ops_nil ?_
    refine at_then ?_
    refine run_ret ?_
    refine at_block_ret ?_
    refine at_then_ret ?_
    replace HM := (HM.front 0 rfl rfl).drop
    have hR := Option.some.inj H
    subst hR
    exact at_ret1 rfl rfl ⟨_, rfl, rfl, HM⟩
  · replace H := cond_f hb1445 H
    refine run_seq ?_
    obtain ⟨t1446, h1447, H⟩ := bind_some H
    obtain ⟨t1448, h1449, H⟩ := bind_some H
    obtain ⟨t1450, h1451, H⟩ := bind_some H
    refine run_meet (fun ρ_ w_ => ρ_ = [(1, .pointer (some ⟨b1438, 0, none⟩)), (11, .bool (((!t1446) || (!t1448)) || (!t1450)))] ∧ Mem w [] w_ [box b1438 100 [p0_0, .int .i64 x0.fNeed, .int .i64 x0.fAfter]]) ?_ ?_
    · skip
      refine run_region rfl ?_
      refine ops_ex rfl (guard_none rfl) rfl rfl (ex_fieldAddr (off' := 0) rfl rfl Try.underlying100 rfl tsz74 rfl) ?_
      refine ops_ex rfl (guard_none rfl) rfl rfl (ex_load1 rfl rfl Try.underlying74 rfl ((HM.box_at 0 rfl) 0 _ rfl)) ?_
      refine ops_does rfl (guard_none rfl) rfl rfl (does_callk rfl callok132 rfl (impl_areKeys.calls (x0 := x0.fKeys) (HM.rd hp0_0) h1447)) ?_
      rintro _ w1452 ⟨rfl, hn⟩
      replace HM : Mem w [] w1452 [box b1438 100 [p0_0, .int .i64 x0.fNeed, .int .i64 x0.fAfter]] := HM.call hn
      refine ops_ex rfl (guard_none rfl) rfl rfl (ex_not rfl rfl) ?_
      refine ops_ex rfl (guard_none rfl) rfl rfl (ex_move rfl rfl) ?_
      refine bool_cases (!t1446) (fun hg1453 => ?_) (fun hg1453 => ?_)
      · skip
        refine ops_off rfl (guard_off rfl rfl rfl hg1453) rfl rfl ?_
        refine ops_off rfl (guard_off rfl rfl rfl hg1453) rfl rfl ?_
        refine ops_off rfl (guard_off rfl rfl rfl hg1453) rfl rfl ?_
        refine ops_off rfl (guard_off rfl rfl rfl hg1453) rfl rfl ?_
        refine ops_off rfl (guard_off rfl rfl rfl hg1453) rfl rfl ?_
        have hg1454 : ((!t1446) || (!t1448)) = true := by simp only [hg1453, Bool.and_true, Bool.true_and, Bool.and_false, Bool.false_and, Bool.or_true, Bool.true_or, Bool.or_false, Bool.false_or, Bool.not_true, Bool.not_false, Bool.not_not]
        refine ops_ex (v := .bool ((!t1446) || (!t1448))) rfl (guard_none rfl) rfl rfl (ex_por_t rfl rfl hg1453) ?_
        refine ops_ex rfl (guard_none rfl) rfl rfl (ex_move rfl rfl) ?_
        refine ops_off rfl (guard_off rfl rfl rfl hg1454) rfl rfl ?_
        refine ops_off rfl (guard_off rfl rfl rfl hg1454) rfl rfl ?_
        refine ops_off rfl (guard_off rfl rfl rfl hg1454) rfl rfl ?_
        refine ops_off rfl (guard_off rfl rfl rfl hg1454) rfl rfl ?_
        have hg1455 : (((!t1446) || (!t1448)) || (!t1450)) = true := by simp only [hg1454, Bool.and_true, Bool.true_and, Bool.and_false, Bool.false_and, Bool.or_true, Bool.true_or, Bool.or_false, Bool.false_or, Bool.not_true, Bool.not_false, Bool.not_not]
        refine ops_ex (v := .bool (((!t1446) || (!t1448)) || (!t1450))) rfl (guard_none rfl) rfl rfl (ex_por_t rfl rfl hg1454) ?_
        refine ops_ex rfl (guard_none rfl) rfl rfl (ex_assign rfl rfl) ?_
        refine ops_nil ?_
        exact at_meet [(1, .pointer (some ⟨b1438, 0, none⟩)), (11, .bool (((!t1446) || (!t1448)) || (!t1450)))] ⟨rfl, HM⟩ (Sub.cons rfl (Sub.cons rfl Sub.nil))
      · skip
        refine ops_ex rfl (guard_on rfl rfl rfl hg1453) rfl rfl (ex_fieldAddr (off' := 1) rfl rfl Try.underlying100 rfl tsz2 rfl) ?_
        refine ops_ex rfl (guard_on rfl rfl rfl hg1453) rfl rfl (ex_load1 rfl rfl Try.underlying2 rfl ((HM.box_at 0 rfl) 1 _ rfl)) ?_
        refine ops_ex rfl (guard_on rfl rfl rfl hg1453) rfl rfl (ex_move rfl rfl) ?_
        refine ops_does rfl (guard_on rfl rfl rfl hg1453) rfl rfl (does_callk rfl callok81 rfl (impl_within.calls (x0 := x0.fNeed) (x1 := 1) (x2 := (x0.fKeys.length : Int)) (cond_t (not_mk hg1453) h1449))) ?_
        rintro _ w1456 ⟨rfl, hn⟩
        replace HM : Mem w [] w1456 [box b1438 100 [p0_0, .int .i64 x0.fNeed, .int .i64 x0.fAfter]] := HM.call hn
        refine ops_ex rfl (guard_on rfl rfl rfl hg1453) rfl rfl (ex_not rfl rfl) ?_
        refine ops_ex (v := .bool ((!t1446) || (!t1448))) rfl (guard_none rfl) rfl rfl (ex_por_f rfl rfl hg1453 rfl) ?_
        refine ops_ex rfl (guard_none rfl) rfl rfl (ex_move rfl rfl) ?_
        refine bool_cases ((!t1446) || (!t1448)) (fun hg1457 => ?_) (fun hg1457 => ?_)
        · skip
          refine ops_off rfl (guard_off rfl rfl rfl hg1457) rfl rfl ?_
          refine ops_off rfl (guard_off rfl rfl rfl hg1457) rfl rfl ?_
          refine ops_off rfl (guard_off rfl rfl rfl hg1457) rfl rfl ?_
          refine ops_off rfl (guard_off rfl rfl rfl hg1457) rfl rfl ?_
          have hg1458 : (((!t1446) || (!t1448)) || (!t1450)) = true := by simp only [hg1457, Bool.and_true, Bool.true_and, Bool.and_false, Bool.false_and, Bool.or_true, Bool.true_or, Bool.or_false, Bool.false_or, Bool.not_true, Bool.not_false, Bool.not_not]
          refine ops_ex (v := .bool (((!t1446) || (!t1448)) || (!t1450))) rfl (guard_none rfl) rfl rfl (ex_por_t rfl rfl hg1457) ?_
          refine ops_ex rfl (guard_none rfl) rfl rfl (ex_assign rfl rfl) ?_
          refine ops_nil ?_
          exact at_meet [(1, .pointer (some ⟨b1438, 0, none⟩)), (11, .bool (((!t1446) || (!t1448)) || (!t1450)))] ⟨rfl, HM⟩ (Sub.cons rfl (Sub.cons rfl Sub.nil))
        · skip
          refine ops_ex rfl (guard_on rfl rfl rfl hg1457) rfl rfl (ex_fieldAddr (off' := 2) rfl rfl Try.underlying100 rfl tsz2 rfl) ?_
          refine ops_ex rfl (guard_on rfl rfl rfl hg1457) rfl rfl (ex_load1 rfl rfl Try.underlying2 rfl ((HM.box_at 0 rfl) 2 _ rfl)) ?_
          refine ops_does rfl (guard_on rfl rfl rfl hg1457) rfl rfl (does_callk rfl callok80 rfl (impl_isHeight.calls (x0 := x0.fAfter) (cond_t (not_mk hg1457) h1451))) ?_
          rintro _ w1459 ⟨rfl, hn⟩
          replace HM : Mem w [] w1459 [box b1438 100 [p0_0, .int .i64 x0.fNeed, .int .i64 x0.fAfter]] := HM.call hn
          refine ops_ex rfl (guard_on rfl rfl rfl hg1457) rfl rfl (ex_not rfl rfl) ?_
          refine ops_ex (v := .bool (((!t1446) || (!t1448)) || (!t1450))) rfl (guard_none rfl) rfl rfl (ex_por_f rfl rfl hg1457 rfl) ?_
          refine ops_ex rfl (guard_none rfl) rfl rfl (ex_assign rfl rfl) ?_
          refine ops_nil ?_
          exact at_meet [(1, .pointer (some ⟨b1438, 0, none⟩)), (11, .bool (((!t1446) || (!t1448)) || (!t1450)))] ⟨rfl, HM⟩ (Sub.cons rfl (Sub.cons rfl Sub.nil))
    · rintro _ w1460 ⟨rfl, HM⟩
      refine at_then ?_
      refine run_cond (b := (((!t1446) || (!t1448)) || (!t1450))) rfl (fun hb1461 => ?_) (fun hb1461 => ?_)
      · replace H := cond_t hb1461 H
        refine run_seq ?_
        refine run_region rfl ?_
        refine ops_ex rfl (guard_none rfl) rfl rfl (ex_assign rfl rfl) ?_
        refine ops_nil ?_
        refine at_then ?_
        refine run_ret ?_
        refine at_block_ret ?_
        refine at_then_ret ?_
        replace HM := (HM.front 0 rfl rfl).drop
        have hR := Option.some.inj H
        subst hR
        exact at_ret1 rfl rfl ⟨_, rfl, rfl, HM⟩
      · replace H := cond_f hb1461 H
        refine run_seq ?_
        obtain ⟨t1462, h1463, H⟩ := bind_some H
        refine run_region rfl ?_
        refine ops_ex rfl (guard_none rfl) rfl rfl (ex_fieldAddr (off' := 0) rfl rfl Try.underlying100 rfl tsz74 rfl) ?_
        refine ops_ex rfl (guard_none rfl) rfl rfl (ex_load1 rfl rfl Try.underlying74 rfl ((HM.box_at 0 rfl) 0 _ rfl)) ?_
        refine ops_does rfl (guard_none rfl) rfl rfl (does_callk rfl callok133 rfl (impl_isRising.calls (x0 := x0.fKeys) (HM.rd hp0_0) h1463)) ?_
        rintro _ w1464 ⟨rfl, hn⟩
        replace HM : Mem w [] w1464 [box b1438 100 [p0_0, .int .i64 x0.fNeed, .int .i64 x0.fAfter]] := HM.call hn
        refine ops_ex rfl (guard_none rfl) rfl rfl (ex_not rfl rfl) ?_
        refine ops_ex rfl (guard_none rfl) rfl rfl (ex_assign rfl rfl) ?_
        refine ops_nil ?_
        refine at_then ?_
        refine run_cond (b := !t1462) rfl (fun hb1465 => ?_) (fun hb1465 => ?_)
        · replace H := cond_t hb1465 H
          refine run_seq ?_
          refine run_region rfl ?_
          refine ops_ex rfl (guard_none rfl) rfl rfl (ex_assign rfl rfl) ?_
          refine ops_nil ?_
          refine at_then ?_
          refine run_ret ?_
          refine at_block_ret ?_
          refine at_then_ret ?_
          replace HM := (HM.front 0 rfl rfl).drop
          have hR := Option.some.inj H
          subst hR
          exact at_ret1 rfl rfl ⟨_, rfl, rfl, HM⟩
        · replace H := cond_f hb1465 H
          refine run_skip ?_
          refine at_block ?_
          refine at_then ?_
          refine run_seq ?_
          refine run_region rfl ?_
          refine ops_ex rfl (guard_none rfl) rfl rfl (ex_assign rfl rfl) ?_
          refine ops_nil ?_
          refine at_then ?_
          refine run_ret ?_
          replace HM := (HM.front 0 rfl rfl).drop
          have hR := Option.some.inj H
          subst hR
          exact at_ret1 rfl rfl ⟨_, rfl, rfl, HM⟩

def cmp_isNaN_int64.f (k : Nat) (x0 : Int) : Option Bool := some (x0 != x0)
theorem cmp_isNaN_int64.calls {k : Nat} {x0 : Int}  {w : World}  {r : Bool} (H : cmp_isNaN_int64.f k x0 = some r) :
    Calls Try.prog 164 ([.int .i64 x0] : List Value).toArray w (fun e w_ => ∃ v, e = .returned v ∧ v = (.bool r) ∧ Mem w [] w_ []) := by
  have HM := Mem.start w
  refine calls_run (N := 6) Try.func164 rfl rfl rfl rfl ?_
  unfold cmp_isNaN_int64.f at H
  refine run_seq ?_
  refine run_region rfl ?_
  refine ops_ex rfl (guard_none rfl) rfl rfl (ex_assign rfl rfl) ?_
  refine ops_nil ?_
  refine at_then ?_
  refine run_seq ?_
  refine run_region rfl ?_
  refine ops_ex rfl (guard_none rfl) rfl rfl (ex_move rfl rfl) ?_
  refine ops_ex rfl (guard_none rfl) rfl rfl (ex_move rfl rfl) ?_
  refine ops_ex rfl (guard_none rfl) rfl rfl (ex_neq rfl rfl rfl) ?_
  refine ops_ex rfl (guard_none rfl) rfl rfl (ex_assign rfl rfl) ?_
  refine ops_nil ?_
  refine at_then ?_
  refine run_ret ?_
  have hR := Option.some.inj H
  subst hR
  exact at_ret1 rfl rfl ⟨_, rfl, rfl, HM⟩

def cmp_Compare_int64.f (k : Nat) (x0 : Int) (x1 : Int) : Option Int := ((cmp_isNaN_int64.f k x0).bind fun t1495 => ((cmp_isNaN_int64.f k x1).bind fun t1498 => (bif t1495 then (bif t1498 then some 0 else some (-1)) else (bif t1498 then some 1 else (bif (decide (x0 < x1)) then some (-1) else (bif (decide (x1 < x0)) then some 1 else some 0))))))
theorem cmp_Compare_int64.calls {k : Nat} {x0 : Int} {x1 : Int}  {w : World}  {r : Int} (H : cmp_Compare_int64.f k x0 x1 = some r) :
    Calls Try.prog 135 ([.int .i64 x0, .int .i64 x1] : List Value).toArray w (fun e w_ => ∃ v, e = .returned v ∧ v = (.int .i64 r) ∧ Mem w [] w_ []) := by
  have HM := Mem.start w
  refine calls_run (N := 20) Try.func135 rfl rfl rfl rfl ?_
  unfold cmp_Compare_int64.f at H
  refine run_seq ?_
  refine run_region rfl ?_
  refine ops_ex rfl (guard_none rfl) rfl rfl (ex_assign rfl rfl) ?_
  refine ops_nil ?_
  refine at_then ?_
  refine run_seq ?_
  obtain ⟨t1495, h1496, H⟩ := bind_some H
  refine run_region rfl ?_
  refine ops_ex rfl (guard_none rfl) rfl rfl (ex_move rfl rfl) ?_
  refine ops_does rfl (guard_none rfl) rfl rfl (does_callk rfl callok164 rfl (cmp_isNaN_int64.calls (x0 := x0) h1496)) ?_
  rintro _ w1497 ⟨rfl, hn⟩
  replace HM : Mem w [] w1497 [] := HM.call hn
  refine ops_ex rfl (guard_none rfl) rfl rfl (ex_assign rfl rfl) ?_
  refine ops_nil ?_
  refine at_then ?_
  refine run_seq ?_
  obtain ⟨t1498, h1499, H⟩ := bind_some H
  refine run_region rfl ?_
  refine ops_ex rfl (guard_none rfl) rfl rfl (ex_move rfl rfl) ?_
  refine ops_does rfl (guard_none rfl) rfl rfl (does_callk rfl callok164 rfl (cmp_isNaN_int64.calls (x0 := x1) h1499)) ?_
  rintro _ w1500 ⟨rfl, hn⟩
  replace HM : Mem w [] w1500 [] := HM.call hn
  refine ops_ex rfl (guard_none rfl) rfl rfl (ex_assign rfl rfl) ?_
  refine ops_nil ?_
  refine at_then ?_
  refine run_seq ?_
  refine run_seq ?_
  refine run_region rfl ?_
  refine ops_ex rfl (guard_none rfl) rfl rfl (ex_move rfl rfl) ?_
  refine ops_nil ?_
  refine at_then ?_
  refine run_cond (b := t1495) rfl (fun hb1503 => ?_) (fun hb1503 => ?_)
  · replace H := cond_t hb1503 H
    refine run_seq ?_
    refine run_seq ?_
    refine run_region rfl ?_
    refine ops_ex rfl (guard_none rfl) rfl rfl (ex_move rfl rfl) ?_
    refine ops_nil ?_
    refine at_then ?_
    refine run_cond (b := t1498) rfl (fun hb1504 => ?_) (fun hb1504 => ?_)
    · replace H := cond_t hb1504 H
      refine run_seq ?_
      refine run_region rfl ?_
      refine ops_ex rfl (guard_none rfl) rfl rfl (ex_assign rfl rfl) ?_
      refine ops_nil ?_
      refine at_then ?_
      refine run_ret ?_
      refine at_then_ret ?_
      refine at_then_ret ?_
      have hR := Option.some.inj H
      subst hR
      exact at_ret1 rfl rfl ⟨_, rfl, rfl, HM⟩
    · replace H := cond_f hb1504 H
      refine run_skip ?_
      refine at_then ?_
      refine run_seq ?_
      refine run_region rfl ?_
      refine ops_ex rfl (guard_none rfl) rfl rfl (ex_assign rfl rfl) ?_
      refine ops_nil ?_
      refine at_then ?_
      refine run_ret ?_
      refine at_then_ret ?_
      have hR := Option.some.inj H
      subst hR
      exact at_ret1 rfl rfl ⟨_, rfl, rfl, HM⟩
  · replace H := cond_f hb1503 H
    refine run_skip ?_
    refine at_then ?_
    refine run_seq ?_
    refine run_seq ?_
    refine run_region rfl ?_
    refine ops_ex rfl (guard_none rfl) rfl rfl (ex_move rfl rfl) ?_
    refine ops_nil ?_
    refine at_then ?_
    refine run_cond (b := t1498) rfl (fun hb1506 => ?_) (fun hb1506 => ?_)
    · replace H := cond_t hb1506 H
      refine run_seq ?_
      refine run_region rfl ?_
      refine ops_ex rfl (guard_none rfl) rfl rfl (ex_assign rfl rfl) ?_
      refine ops_nil ?_
      refine at_then ?_
      refine run_ret ?_
      refine at_then_ret ?_
      have hR := Option.some.inj H
      subst hR
      exact at_ret1 rfl rfl ⟨_, rfl, rfl, HM⟩
    · replace H := cond_f hb1506 H
      refine run_skip ?_
      refine at_then ?_
      refine run_seq ?_
      refine run_seq ?_
      refine run_region rfl ?_
      refine ops_ex rfl (guard_none rfl) rfl rfl (ex_move rfl rfl) ?_
      refine ops_ex rfl (guard_none rfl) rfl rfl (ex_move rfl rfl) ?_
      refine ops_ex rfl (guard_none rfl) rfl rfl (ex_lss rfl rfl rfl) ?_
      refine ops_nil ?_
      refine at_then ?_
      refine run_cond (b := (decide (x0 < x1))) rfl (fun hb1508 => ?_) (fun hb1508 => ?_)
      · replace H := cond_t hb1508 H
        refine run_seq ?_
        refine run_region rfl ?_
        refine ops_ex rfl (guard_none rfl) rfl rfl (ex_assign rfl rfl) ?_
        refine ops_nil ?_
        refine at_then ?_
        refine run_ret ?_
        refine at_then_ret ?_
        have hR := Option.some.inj H
        subst hR
        exact at_ret1 rfl rfl ⟨_, rfl, rfl, HM⟩
      · replace H := cond_f hb1508 H
        refine run_skip ?_
        refine at_then ?_
        refine run_seq ?_
        refine run_seq ?_
        refine run_region rfl ?_
        refine ops_ex rfl (guard_none rfl) rfl rfl (ex_move rfl rfl) ?_
        refine ops_ex rfl (guard_none rfl) rfl rfl (ex_move rfl rfl) ?_
        refine ops_ex rfl (guard_none rfl) rfl rfl (ex_gtr rfl rfl rfl) ?_
        refine ops_nil ?_
        refine at_then ?_
        refine run_cond (b := (decide (x1 < x0))) rfl (fun hb1509 => ?_) (fun hb1509 => ?_)
        · replace H := cond_t hb1509 H
          refine run_seq ?_
          refine run_region rfl ?_
          refine ops_ex rfl (guard_none rfl) rfl rfl (ex_assign rfl rfl) ?_
          refine ops_nil ?_
          refine at_then ?_
          refine run_ret ?_
          refine at_then_ret ?_
          have hR := Option.some.inj H
          subst hR
          exact at_ret1 rfl rfl ⟨_, rfl, rfl, HM⟩
        · replace H := cond_f hb1509 H
          refine run_skip ?_
          refine at_then ?_
          refine run_seq ?_
          refine run_region rfl ?_
          refine ops_ex rfl (guard_none rfl) rfl rfl (ex_assign rfl rfl) ?_
          refine ops_nil ?_
          refine at_then ?_
          refine run_ret ?_
          have hR := Option.some.inj H
          subst hR
          exact at_ret1 rfl rfl ⟨_, rfl, rfl, HM⟩

def cmp_Or_int.l0 (x0 : List Int) : Nat → Int → Option (Int ⊕ Unit)
  | 0, _ => none
  | k + 1, a1551 => (bif (decide (a1551 < (x0.length : Int))) then (chk (idxOk a1551 x0.length) (bif ((gt x0 a1551) != 0) then some (.inl (gt x0 a1551)) else cmp_Or_int.l0 x0 k (wrap64 (a1551 + 1)))) else some (.inr ()))
theorem cmp_Or_int.l0_z (x0 : List Int) (a1551 : Int) : cmp_Or_int.l0 x0 0 a1551 = none := rfl
theorem cmp_Or_int.l0_s (x0 : List Int) (k : Nat) (a1551 : Int) : cmp_Or_int.l0 x0 (k + 1) a1551 = (bif (decide (a1551 < (x0.length : Int))) then (chk (idxOk a1551 x0.length) (bif ((gt x0 a1551) != 0) then some (.inl (gt x0 a1551)) else cmp_Or_int.l0 x0 k (wrap64 (a1551 + 1)))) else some (.inr ())) := rfl
def cmp_Or_int.f (k : Nat) (x0 : List Int) : Option Int := ((cmp_Or_int.l0 x0 k 0).bind fun o1545 => thn o1545 (fun r => some r) (fun _ => some 0))
theorem cmp_Or_int.calls {k : Nat} {x0 : List Int} {p0 : Value} {w : World} (hp0 : RdS kInt w p0 x0) {r : Int} (H : cmp_Or_int.f k x0 = some r) :
    Calls Try.prog 134 ([p0] : List Value).toArray w (fun e w_ => ∃ v, e = .returned v ∧ v = (.int .i64 r) ∧ Mem w [] w_ []) := by
  have HM := Mem.start w
  refine calls_run (N := 18) Try.func134 rfl rfl rfl rfl ?_
  unfold cmp_Or_int.f at H
  refine run_seq ?_
  refine run_region rfl ?_
  refine ops_ex rfl (guard_none rfl) rfl rfl (ex_assign rfl rfl) ?_
  refine ops_nil ?_
  refine at_then ?_
  refine run_seq ?_
  refine run_region rfl ?_
  refine ops_ex rfl (guard_none rfl) rfl rfl (ex_assign rfl rfl) ?_
  refine ops_nil ?_
  refine at_then ?_
  obtain ⟨o1545, ho1546, H⟩ := bind_some H
  refine run_mid (fun ρ_ w_ => Sum.inr () = o1545 ∧ ρ_ = [(3, .int .i64 0)] ∧ Mem w [] w_ []) ?_ ?_
  · skip
    refine run_seq ?_
    refine run_region rfl ?_
    refine ops_ex rfl (guard_none rfl) rfl rfl (ex_move rfl rfl) ?_
    refine ops_ex rfl (guard_none rfl) rfl rfl (ex_len (d := kInt) (xs := x0) rfl rfl Try.underlying185 hp0) ?_
    refine ops_ex rfl (guard_none rfl) rfl rfl (ex_move rfl rfl) ?_
    refine ops_nil ?_
    refine at_then ?_
    refine run_block ?_
    refine run_loop (fun k_ ρ_ w_ => ∃ a1551 : Int, cmp_Or_int.l0 x0 k_ a1551 = some o1545 ∧ ρ_ = [(3, .int .i64 0), (6, p0), (7, .int .i64 (x0.length : Int)), (8, .int .i64 a1551)] ∧ Mem w [] w_ []) k (ρ1 := [(3, .int .i64 0), (6, p0), (7, .int .i64 (x0.length : Int)), (8, .int .i64 0)]) ⟨_, ho1546, rfl, HM⟩ (Sub.cons rfl (Sub.cons rfl (Sub.cons rfl (Sub.cons rfl Sub.nil)))) ?_
    clear HM ho1546
    rintro k1556 _ w1557 ⟨a1551, ho1546, rfl, HM⟩
    obtain _ | k1556 := k1556
    · exact nomatch ((cmp_Or_int.l0_z x0 a1551).symm.trans ho1546)
    replace ho1546 := (cmp_Or_int.l0_s x0 k1556 a1551).symm.trans ho1546
    refine run_seq ?_
    refine run_region rfl ?_
    refine ops_ex rfl (guard_none rfl) rfl rfl (ex_lss rfl rfl rfl) ?_
    refine ops_nil ?_
    refine at_then ?_
    refine run_seq ?_
    refine run_cond (b := (decide (a1551 < (x0.length : Int)))) rfl (fun hb1558 => ?_) (fun hb1558 => ?_)
    · replace ho1546 := cond_t hb1558 ho1546
      refine run_skip ?_
      refine at_then ?_
      refine run_seq ?_
      refine run_block ?_
      refine run_seq ?_
      obtain ⟨e1559, ho1546⟩ := chk_some ho1546
      refine run_region rfl ?_
      have hc1560 : CellsAt _ (sb p0) (so p0 + (a1551).toNat * 1) [(.int .i64 (gt x0 a1551))] := rd_plain hp0 e1559
      refine ops_ex rfl (guard_none rfl) rfl rfl (ex_indexAddr (d := kInt) rfl rfl rfl Try.underlying185 tsz3 hp0 (idx_lo e1559) (idx_hi e1559)) ?_
      refine ops_ex rfl (guard_none rfl) rfl rfl (ex_load1 rfl rfl Try.underlying3 rfl ((HM.at_ hc1560) 0 _ rfl)) ?_
      refine ops_ex rfl (guard_none rfl) rfl rfl (ex_assign rfl rfl) ?_
      refine ops_nil ?_
      refine at_then ?_
      refine run_seq ?_
      refine run_region rfl ?_
      refine ops_ex rfl (guard_none rfl) rfl rfl (ex_move rfl rfl) ?_
      refine ops_ex rfl (guard_none rfl) rfl rfl (ex_move rfl rfl) ?_
      refine ops_ex rfl (guard_none rfl) rfl rfl (ex_neq rfl rfl rfl) ?_
      refine ops_nil ?_
      refine at_then ?_
      refine run_cond (b := ((gt x0 a1551) != 0)) rfl (fun hb1561 => ?_) (fun hb1561 => ?_)
      · replace ho1546 := cond_t hb1561 ho1546
        refine run_seq ?_
        refine run_region rfl ?_
        refine ops_ex rfl (guard_none rfl) rfl rfl (ex_move rfl rfl) ?_
        refine ops_ex rfl (guard_none rfl) rfl rfl (ex_assign rfl rfl) ?_
        refine ops_nil ?_
        refine at_then ?_
        refine run_ret ?_
        refine at_block_ret ?_
        refine at_then_ret ?_
        refine at_then_ret ?_
        refine at_block_ret ?_
        refine at_then_ret ?_
        have hR := Option.some.inj ho1546
        subst hR
        have hT := thn_inl H
        have hR := Option.some.inj hT
        subst hR
        exact at_ret1 rfl rfl ⟨_, rfl, rfl, HM⟩
      · replace ho1546 := cond_f hb1561 ho1546
        refine run_skip ?_
        refine at_block ?_
        refine at_then ?_
        refine run_region rfl ?_
        refine ops_ex rfl (guard_none rfl) rfl rfl (ex_add rfl rfl rfl) ?_
        refine ops_ex rfl (guard_none rfl) rfl rfl (ex_move rfl rfl) ?_
        refine ops_nil ?_
        exact at_again k1556 (ρ1 := [(3, .int .i64 0), (6, p0), (7, .int .i64 (x0.length : Int)), (8, .int .i64 (wrap64 (a1551 + 1)))]) (Nat.lt_succ_self _) ⟨_, ho1546, rfl, HM⟩ (Sub.cons rfl (Sub.cons rfl (Sub.cons rfl (Sub.cons rfl Sub.nil))))
    · replace ho1546 := cond_f hb1558 ho1546
      refine run_exit ?_
      refine at_then_exit ?_
      refine at_then_exit ?_
      refine at_block_exit ?_
      exact at_mid (ρ' := [(3, .int .i64 0)]) ⟨(Option.some.inj ho1546), rfl, HM⟩ (Sub.cons rfl Sub.nil)
  · rintro _ w1562 ⟨rfl, rfl, HM⟩
    replace H := (thn_inr H)
    refine run_seq ?_
    refine run_region rfl ?_
    refine ops_ex rfl (guard_none rfl) rfl rfl (ex_move rfl rfl) ?_
    refine ops_ex rfl (guard_none rfl) rfl rfl (ex_assign rfl rfl) ?_
    refine ops_nil ?_
    refine at_then ?_
    refine run_ret ?_
    have hR := Option.some.inj H
    subst hR
    exact at_ret1 rfl rfl ⟨_, rfl, rfl, HM⟩

def impl_compareRefs.f (k : Nat) (x0 : Ref) (x1 : Ref) : Option Int := ((cmp_Compare_int64.f k x0.fTx x1.fTx).bind fun t1573 => ((cmp_Compare_int64.f k x0.fAt x1.fAt).bind fun t1575 => ((cmp_Or_int.f k ([t1573, t1575] : List Int)).bind fun t1580 => some t1580)))
theorem impl_compareRefs.calls {k : Nat} {x0 : Ref} {x1 : Ref}  {w : World}  {r : Int} (H : impl_compareRefs.f k x0 x1 = some r) :
    Calls Try.prog 83 ([.agg #[(.int .i64 x0.fTx), (.int .i64 x0.fAt)], .agg #[(.int .i64 x1.fTx), (.int .i64 x1.fAt)]] : List Value).toArray w (fun e w_ => ∃ v, e = .returned v ∧ v = (.int .i64 r) ∧ Mem w [] w_ []) := by
  have HM := Mem.start w
  refine calls_run (N := 17) Try.func83 rfl rfl rfl rfl ?_
  unfold impl_compareRefs.f at H
  refine run_seq ?_
  refine run_region rfl ?_
  refine ops_does rfl (guard_none rfl) rfl rfl (does_box (cs := [.int .i64 x0.fTx, .int .i64 x0.fAt]) rfl rfl rfl HM) ?_
  rintro _ w1571 ⟨b1565, rfl, HM⟩
  refine ops_does rfl (guard_none rfl) rfl rfl (does_box (cs := [.int .i64 x1.fTx, .int .i64 x1.fAt]) rfl rfl rfl HM) ?_
  rintro _ w1572 ⟨b1568, rfl, HM⟩
  refine ops_ex rfl (guard_none rfl) rfl rfl (ex_assign rfl rfl) ?_
  refine ops_nil ?_
  refine at_then ?_
  refine run_seq ?_
  obtain ⟨t1573, h1574, H⟩ := bind_some H
  obtain ⟨t1575, h1576, H⟩ := bind_some H
  obtain ⟨t1580, h1581, H⟩ := bind_some H
  refine run_drawf (fun w_ => Mem w [] w_ [box b1568 99 [.int .i64 x1.fTx, .int .i64 x1.fAt], box b1565 99 [.int .i64 x0.fTx, .int .i64 x0.fAt]]) [(0, true), (1, true), (2, true), (3, true), (5, true), (6, true), (7, true), (8, true), (4, false), (9, false), (10, false), (11, false), (12, true)] mixed rfl rfl (by kernel_rfl) ?_
  replace HM := HM.grow (fr_drew _)
  have hS := Mem.suf (M := []) HM
  refine drwp_take rfl (guard_none rfl) rfl rfl (fun w_ hS_ => (ex_fieldAddr (off' := 0) rfl rfl Try.underlying99 rfl tsz2 rfl)) hS ?_
  refine drwp_take rfl (guard_none rfl) rfl rfl (fun w_ hS_ => (ex_load1 rfl rfl Try.underlying2 rfl ((hS_.box_at 1 rfl) 0 _ rfl))) hS ?_
  refine drwp_take rfl (guard_none rfl) rfl rfl (fun w_ hS_ => (ex_fieldAddr (off' := 0) rfl rfl Try.underlying99 rfl tsz2 rfl)) hS ?_
  refine drwp_take rfl (guard_none rfl) rfl rfl (fun w_ hS_ => (ex_load1 rfl rfl Try.underlying2 rfl ((hS_.box_at 0 rfl) 0 _ rfl))) hS ?_
  refine drwp_take rfl (guard_none rfl) rfl rfl (fun w_ hS_ => (ex_fieldAddr (off' := 1) rfl rfl Try.underlying99 rfl tsz2 rfl)) hS ?_
  refine drwp_take rfl (guard_none rfl) rfl rfl (fun w_ hS_ => (ex_load1 rfl rfl Try.underlying2 rfl ((hS_.box_at 1 rfl) 1 _ rfl))) hS ?_
  refine drwp_take rfl (guard_none rfl) rfl rfl (fun w_ hS_ => (ex_fieldAddr (off' := 1) rfl rfl Try.underlying99 rfl tsz2 rfl)) hS ?_
  refine drwp_take rfl (guard_none rfl) rfl rfl (fun w_ hS_ => (ex_load1 rfl rfl Try.underlying2 rfl ((hS_.box_at 0 rfl) 1 _ rfl))) hS ?_
  refine drwp_one rfl (guard_none rfl) rfl rfl (does_callk rfl callok135 rfl (cmp_Compare_int64.calls (x0 := x0.fTx) (x1 := x1.fTx) h1574)) ?_
  rintro _ w1582 ⟨rfl, hn⟩
  replace HM : Mem w [] w1582 [box b1568 99 [.int .i64 x1.fTx, .int .i64 x1.fAt], box b1565 99 [.int .i64 x0.fTx, .int .i64 x0.fAt]] := HM.call hn
  refine ⟨Mem.suf (M := []) HM, ?_⟩
  have hS := Mem.suf (M := []) HM
  refine drwp_one rfl (guard_none rfl) rfl rfl (does_callk rfl callok135 rfl (cmp_Compare_int64.calls (x0 := x0.fAt) (x1 := x1.fAt) h1576)) ?_
  rintro _ w1583 ⟨rfl, hn⟩
  replace HM : Mem w [] w1583 [box b1568 99 [.int .i64 x1.fTx, .int .i64 x1.fAt], box b1565 99 [.int .i64 x0.fTx, .int .i64 x0.fAt]] := HM.call hn
  refine ⟨Mem.suf (M := []) HM, ?_⟩
  have hS := Mem.suf (M := []) HM
  refine drwp_one rfl (guard_none rfl) rfl rfl (does_lit (e := 3) (cs := [.int .i64 t1573, .int .i64 t1575]) (xs := ([t1573, t1575] : List Int)) kInt rfl rfl (fun _ => by kernel_rfl) rfl rfl (fun _ _ h => by have h' : _ = [] := h; subst h'; exact (Elems.cons (d := kInt) (f := []) ⟨rfl, rfl⟩ (Elems.cons (d := kInt) (f := []) ⟨rfl, rfl⟩ .nil))) HM.emp) ?_
  rintro v1577 w1584 HM
  refine ⟨Mem.suf (M := [own kInt 3 v1577 ([t1573, t1575] : List Int)]) HM, ?_⟩
  have hS := Mem.suf (M := [own kInt 3 v1577 ([t1573, t1575] : List Int)]) HM
  refine drwp_one rfl (guard_none rfl) rfl rfl (does_callk rfl callok134 rfl (cmp_Or_int.calls (x0 := ([t1573, t1575] : List Int)) (HM.own_rd 0 rfl) h1581)) ?_
  rintro _ w1585 ⟨rfl, hn⟩
  replace HM : Mem w [] w1585 [own kInt 3 v1577 ([t1573, t1575] : List Int), box b1568 99 [.int .i64 x1.fTx, .int .i64 x1.fAt], box b1565 99 [.int .i64 x0.fTx, .int .i64 x0.fAt]] := HM.call hn
  refine ⟨Mem.suf (M := [own kInt 3 v1577 ([t1573, t1575] : List Int)]) HM, ?_⟩
  have hS := Mem.suf (M := [own kInt 3 v1577 ([t1573, t1575] : List Int)]) HM
  refine drwp_take rfl (guard_none rfl) rfl rfl (fun w_ hS_ => (ex_assign rfl rfl)) hS ?_
  refine drwp_done ?_
  refine at_then ?_
  refine run_ret ?_
  replace HM := (HM.front 0 rfl rfl).drop
  replace HM := (HM.front 0 rfl rfl).drop
  replace HM := (HM.front 0 rfl rfl).drop
  have hR := Option.some.inj H
  subst hR
  exact at_ret1 rfl rfl ⟨_, rfl, rfl, HM⟩

def impl_CoinsFault.l0 (x0 : List Coin) : Nat → Int → Option (Int ⊕ Unit)
  | 0, _ => none
  | k + 1, a1807 => (bif (decide (a1807 < (x0.length : Int))) then (chk (idxOk a1807 x0.length) ((impl_isRef.f k ((gt x0 a1807).fRef)).bind fun t1862 => ((bif (!(!t1862)) then impl_isHeight.f k ((gt x0 a1807).fHeight) else some default).bind fun t1864 => ((bif (!((!t1862) || (!t1864))) then impl_within.f k ((gt x0 a1807).fOut.fValue) 1 1000000 else some default).bind fun t1866 => (bif (((!t1862) || (!t1864)) || (!t1866)) then some (.inl 3) else ((impl_RuleFault.f k ((gt x0 a1807).fOut.fRule)).bind fun t1881 => (bif (t1881 != 0) then some (.inl t1881) else (chk (!(decide (0 < a1807)) || (idxOk (wrap64 (a1807 - 1)) x0.length)) ((bif (decide (0 < a1807)) then impl_compareRefs.f k ((gt x0 (wrap64 (a1807 - 1))).fRef) ((gt x0 a1807).fRef) else some default).bind fun t1889 => (bif ((decide (0 < a1807)) && (decide (0 ≤ t1889))) then some (.inl 1) else impl_CoinsFault.l0 x0 k (wrap64 (a1807 + 1)))))))))))) else some (.inr ()))
theorem impl_CoinsFault.l0_z (x0 : List Coin) (a1807 : Int) : impl_CoinsFault.l0 x0 0 a1807 = none := rfl
theorem impl_CoinsFault.l0_s (x0 : List Coin) (k : Nat) (a1807 : Int) : impl_CoinsFault.l0 x0 (k + 1) a1807 = (bif (decide (a1807 < (x0.length : Int))) then (chk (idxOk a1807 x0.length) ((impl_isRef.f k ((gt x0 a1807).fRef)).bind fun t1862 => ((bif (!(!t1862)) then impl_isHeight.f k ((gt x0 a1807).fHeight) else some default).bind fun t1864 => ((bif (!((!t1862) || (!t1864))) then impl_within.f k ((gt x0 a1807).fOut.fValue) 1 1000000 else some default).bind fun t1866 => (bif (((!t1862) || (!t1864)) || (!t1866)) then some (.inl 3) else ((impl_RuleFault.f k ((gt x0 a1807).fOut.fRule)).bind fun t1881 => (bif (t1881 != 0) then some (.inl t1881) else (chk (!(decide (0 < a1807)) || (idxOk (wrap64 (a1807 - 1)) x0.length)) ((bif (decide (0 < a1807)) then impl_compareRefs.f k ((gt x0 (wrap64 (a1807 - 1))).fRef) ((gt x0 a1807).fRef) else some default).bind fun t1889 => (bif ((decide (0 < a1807)) && (decide (0 ≤ t1889))) then some (.inl 1) else impl_CoinsFault.l0 x0 k (wrap64 (a1807 + 1)))))))))))) else some (.inr ())) := rfl
def impl_CoinsFault.f (k : Nat) (x0 : List Coin) : Option Int := (bif (decide (40 < (x0.length : Int))) then some 2 else ((impl_CoinsFault.l0 x0 k 0).bind fun o1770 => thn o1770 (fun r => some r) (fun _ => some 0)))
theorem impl_CoinsFault.calls {k : Nat} {x0 : List Coin} {p0 : Value} {w : World} (hp0 : RdS kCoin w p0 x0) {r : Int} (H : impl_CoinsFault.f k x0 = some r) :
    Calls Try.prog 26 ([p0] : List Value).toArray w (fun e w_ => ∃ v, e = .returned v ∧ v = (.int .i64 r) ∧ Mem w [] w_ []) := by
  have HM := Mem.start w
  refine calls_run (N := 55) Try.func26 rfl rfl rfl rfl ?_
  unfold impl_CoinsFault.f at H
  refine run_seq ?_
  refine run_region rfl ?_
  refine ops_ex rfl (guard_none rfl) rfl rfl (ex_assign rfl rfl) ?_
  refine ops_nil ?_
  refine at_then ?_
  refine run_seq ?_
  refine run_seq ?_
  refine run_region rfl ?_
  refine ops_ex rfl (guard_none rfl) rfl rfl (ex_move rfl rfl) ?_
  refine ops_ex rfl (guard_none rfl) rfl rfl (ex_len (d := kCoin) (xs := x0) rfl rfl Try.underlying25 hp0) ?_
  refine ops_ex rfl (guard_none rfl) rfl rfl (ex_gtr rfl rfl rfl) ?_
  refine ops_nil ?_
  refine at_then ?_
  refine run_cond (b := (decide (40 < (x0.length : Int)))) rfl (fun hb1663 => ?_) (fun hb1663 => ?_)
  · replace H := cond_t hb1663 H
    refine run_seq ?_
    refine run_region rfl ?_
    refine ops_ex rfl (guard_none rfl) rfl rfl (ex_assign rfl rfl) ?_
    refine ops_nil ?_
    refine at_then ?_
    refine run_ret ?_
    refine at_then_ret ?_
    have hR := Option.some.inj H
    subst hR
    exact at_ret1 rfl rfl ⟨_, rfl, rfl, HM⟩
  · replace H := cond_f hb1663 H
    refine run_skip ?_
    refine at_then ?_
    obtain ⟨o1770, ho1771, H⟩ := bind_some H
    refine run_mid (fun ρ_ w_ => Sum.inr () = o1770 ∧ ρ_ = [] ∧ Mem w [] w_ []) ?_ ?_
    · skip
      refine run_seq ?_
      refine run_region rfl ?_
      refine ops_ex rfl (guard_none rfl) rfl rfl (ex_move rfl rfl) ?_
      refine ops_ex rfl (guard_none rfl) rfl rfl (ex_len (d := kCoin) (xs := x0) rfl rfl Try.underlying25 hp0) ?_
      refine ops_ex rfl (guard_none rfl) rfl rfl (ex_move rfl rfl) ?_
      refine ops_nil ?_
      refine at_then ?_
      refine run_block ?_
      refine run_loop (fun k_ ρ_ w_ => ∃ a1807 : Int, impl_CoinsFault.l0 x0 k_ a1807 = some o1770 ∧ ρ_ = [(0, p0), (9, p0), (10, .int .i64 (x0.length : Int)), (11, .int .i64 a1807)] ∧ Mem w [] w_ []) k (ρ1 := [(0, p0), (9, p0), (10, .int .i64 (x0.length : Int)), (11, .int .i64 0)]) ⟨_, ho1771, rfl, HM⟩ (Sub.cons rfl (Sub.cons rfl (Sub.cons rfl (Sub.cons rfl Sub.nil)))) ?_
      clear HM ho1771
      rintro k1843 _ w1844 ⟨a1807, ho1771, rfl, HM⟩
      obtain _ | k1843 := k1843
      · exact nomatch ((impl_CoinsFault.l0_z x0 a1807).symm.trans ho1771)
      replace ho1771 := (impl_CoinsFault.l0_s x0 k1843 a1807).symm.trans ho1771
      refine run_seq ?_
      refine run_region rfl ?_
      refine ops_ex rfl (guard_none rfl) rfl rfl (ex_lss rfl rfl rfl) ?_
      refine ops_nil ?_
      refine at_then ?_
      refine run_seq ?_
      refine run_cond (b := (decide (a1807 < (x0.length : Int)))) rfl (fun hb1845 => ?_) (fun hb1845 => ?_)
      · replace ho1771 := cond_t hb1845 ho1771
        refine run_skip ?_
        refine at_then ?_
        refine run_seq ?_
        refine run_block ?_
        refine run_seq ?_
        obtain ⟨e1846, ho1771⟩ := chk_some ho1771
        refine run_region rfl ?_
        refine ops_ex rfl (guard_none rfl) rfl rfl (ex_move rfl rfl) ?_
        obtain ⟨kv1848, hc1847, hk1849⟩ : ∃ u, CellsAt _ (sb p0) (so p0 + (a1807).toNat * 8) [(.int .i64 ((gt x0 a1807).fRef.fTx)), (.int .i64 ((gt x0 a1807).fRef.fAt)), (.int .i64 ((gt x0 a1807).fOut.fValue)), u, (.int .i64 ((gt x0 a1807).fOut.fRule.fNeed)), (.int .i64 ((gt x0 a1807).fOut.fRule.fAfter)), (.int .i64 ((gt x0 a1807).fHeight)), (.bool ((gt x0 a1807).fMined))] ∧ RdS kInt _ u ((gt x0 a1807).fOut.fRule.fKeys) := rd_with1 hp0 e1846
        refine ops_ex rfl (guard_none rfl) rfl rfl (ex_indexAddr (d := kCoin) rfl rfl rfl Try.underlying25 tsz104 hp0 (idx_lo e1846) (idx_hi e1846)) ?_
        refine ops_ex rfl (guard_none rfl) rfl rfl (ex_loadN (cs := [(.int .i64 ((gt x0 a1807).fRef.fTx)), (.int .i64 ((gt x0 a1807).fRef.fAt)), (.int .i64 ((gt x0 a1807).fOut.fValue)), kv1848, (.int .i64 ((gt x0 a1807).fOut.fRule.fNeed)), (.int .i64 ((gt x0 a1807).fOut.fRule.fAfter)), (.int .i64 ((gt x0 a1807).fHeight)), (.bool ((gt x0 a1807).fMined))]) rfl rfl Try.underlying104 rfl tsz104 rfl ((HM.at_ hc1847).sub 0 8 rfl)) ?_
        refine ops_does rfl (guard_none rfl) rfl rfl (does_alloc (cs := [.int .i64 0, .int .i64 0, .int .i64 0, .slice none 0 0, .int .i64 0, .int .i64 0, .int .i64 0, .bool false]) rfl tz104 rfl HM) ?_
        rintro _ w1853 ⟨b1850, rfl, HM⟩
        refine ops_ex rfl (guard_none rfl) rfl rfl (ex_assign rfl rfl) ?_
        refine ops_doesS rfl (guard_none rfl) rfl (does_store (vs := [.int .i64 ((gt x0 a1807).fRef.fTx), .int .i64 ((gt x0 a1807).fRef.fAt), .int .i64 ((gt x0 a1807).fOut.fValue), kv1848, .int .i64 ((gt x0 a1807).fOut.fRule.fNeed), .int .i64 ((gt x0 a1807).fOut.fRule.fAfter), .int .i64 ((gt x0 a1807).fHeight), .bool ((gt x0 a1807).fMined)]) (cs' := [.int .i64 ((gt x0 a1807).fRef.fTx), .int .i64 ((gt x0 a1807).fRef.fAt), .int .i64 ((gt x0 a1807).fOut.fValue), kv1848, .int .i64 ((gt x0 a1807).fOut.fRule.fNeed), .int .i64 ((gt x0 a1807).fOut.fRule.fAfter), .int .i64 ((gt x0 a1807).fHeight), .bool ((gt x0 a1807).fMined)]) rfl rfl rfl rfl tsz104 (Ones.int (Ones.int (Ones.int (Ones.rd hk1849 (Ones.int (Ones.int (Ones.int (Ones.bool Ones.nil)))))))) rfl rfl HM) ?_
        rintro w1854 HM
        refine ops_nil ?_
        refine at_then ?_
        refine run_seq ?_
        refine run_seq ?_
        obtain ⟨t1862, h1863, ho1771⟩ := bind_some ho1771
        obtain ⟨t1864, h1865, ho1771⟩ := bind_some ho1771
        obtain ⟨t1866, h1867, ho1771⟩ := bind_some ho1771
        refine run_meet (fun ρ_ w_ => ρ_ = [(0, p0), (9, p0), (10, .int .i64 (x0.length : Int)), (11, .int .i64 a1807), (4, .pointer (some ⟨b1850, 0, none⟩)), (3, .int .i64 a1807), (32, .bool (((!t1862) || (!t1864)) || (!t1866)))] ∧ Mem w [] w_ [box b1850 104 [.int .i64 ((gt x0 a1807).fRef.fTx), .int .i64 ((gt x0 a1807).fRef.fAt), .int .i64 ((gt x0 a1807).fOut.fValue), kv1848, .int .i64 ((gt x0 a1807).fOut.fRule.fNeed), .int .i64 ((gt x0 a1807).fOut.fRule.fAfter), .int .i64 ((gt x0 a1807).fHeight), .bool ((gt x0 a1807).fMined)]]) ?_ ?_
        · skip
          refine run_region rfl ?_
          refine ops_ex rfl (guard_none rfl) rfl rfl (ex_fieldAddr (off' := 0) rfl rfl Try.underlying104 rfl tsz99 rfl) ?_
          refine ops_ex rfl (guard_none rfl) rfl rfl (ex_loadN (cs := [(.int .i64 ((gt x0 a1807).fRef.fTx)), (.int .i64 ((gt x0 a1807).fRef.fAt))]) rfl rfl Try.underlying99 rfl tsz99 rfl ((HM.box_at 0 rfl).sub 0 2 rfl)) ?_
          refine ops_does rfl (guard_none rfl) rfl rfl (does_callk rfl callok79 rfl (impl_isRef.calls (x0 := (gt x0 a1807).fRef) h1863)) ?_
          rintro _ w1868 ⟨rfl, hn⟩
          replace HM : Mem w [] w1868 [box b1850 104 [.int .i64 ((gt x0 a1807).fRef.fTx), .int .i64 ((gt x0 a1807).fRef.fAt), .int .i64 ((gt x0 a1807).fOut.fValue), kv1848, .int .i64 ((gt x0 a1807).fOut.fRule.fNeed), .int .i64 ((gt x0 a1807).fOut.fRule.fAfter), .int .i64 ((gt x0 a1807).fHeight), .bool ((gt x0 a1807).fMined)]] := HM.call hn
          refine ops_ex rfl (guard_none rfl) rfl rfl (ex_not rfl rfl) ?_
          refine ops_ex rfl (guard_none rfl) rfl rfl (ex_move rfl rfl) ?_
          refine bool_cases (!t1862) (fun hg1869 => ?_) (fun hg1869 => ?_)
          · skip
            refine ops_off rfl (guard_off rfl rfl rfl hg1869) rfl rfl ?_
            refine ops_off rfl (guard_off rfl rfl rfl hg1869) rfl rfl ?_
            refine ops_off rfl (guard_off rfl rfl rfl hg1869) rfl rfl ?_
            refine ops_off rfl (guard_off rfl rfl rfl hg1869) rfl rfl ?_
            have hg1870 : ((!t1862) || (!t1864)) = true := by simp only [hg1869, Bool.and_true, Bool.true_and, Bool.and_false, Bool.false_and, Bool.or_true, Bool.true_or, Bool.or_false, Bool.false_or, Bool.not_true, Bool.not_false, Bool.not_not]
            refine ops_ex (v := .bool ((!t1862) || (!t1864))) rfl (guard_none rfl) rfl rfl (ex_por_t rfl rfl hg1869) ?_
            refine ops_ex rfl (guard_none rfl) rfl rfl (ex_move rfl rfl) ?_
            refine ops_off rfl (guard_off rfl rfl rfl hg1870) rfl rfl ?_
            refine ops_off rfl (guard_off rfl rfl rfl hg1870) rfl rfl ?_
            refine ops_off rfl (guard_off rfl rfl rfl hg1870) rfl rfl ?_
            refine ops_off rfl (guard_off rfl rfl rfl hg1870) rfl rfl ?_
            refine ops_off rfl (guard_off rfl rfl rfl hg1870) rfl rfl ?_
            have hg1871 : (((!t1862) || (!t1864)) || (!t1866)) = true := by simp only [hg1870, Bool.and_true, Bool.true_and, Bool.and_false, Bool.false_and, Bool.or_true, Bool.true_or, Bool.or_false, Bool.false_or, Bool.not_true, Bool.not_false, Bool.not_not]
            refine ops_ex (v := .bool (((!t1862) || (!t1864)) || (!t1866))) rfl (guard_none rfl) rfl rfl (ex_por_t rfl rfl hg1870) ?_
            refine ops_nil ?_
            exact at_meet [(0, p0), (9, p0), (10, .int .i64 (x0.length : Int)), (11, .int .i64 a1807), (4, .pointer (some ⟨b1850, 0, none⟩)), (3, .int .i64 a1807), (32, .bool (((!t1862) || (!t1864)) || (!t1866)))] ⟨rfl, HM⟩ (Sub.cons rfl (Sub.cons rfl (Sub.cons rfl (Sub.cons rfl (Sub.cons rfl (Sub.cons rfl (Sub.cons rfl Sub.nil)))))))
          · skip
            refine ops_ex rfl (guard_on rfl rfl rfl hg1869) rfl rfl (ex_fieldAddr (off' := 6) rfl rfl Try.underlying104 rfl tsz2 rfl) ?_
            refine ops_ex rfl (guard_on rfl rfl rfl hg1869) rfl rfl (ex_load1 rfl rfl Try.underlying2 rfl ((HM.box_at 0 rfl) 6 _ rfl)) ?_
            refine ops_does rfl (guard_on rfl rfl rfl hg1869) rfl rfl (does_callk rfl callok80 rfl (impl_isHeight.calls (x0 := (gt x0 a1807).fHeight) (cond_t (not_mk hg1869) h1865))) ?_
            rintro _ w1872 ⟨rfl, hn⟩
            replace HM : Mem w [] w1872 [box b1850 104 [.int .i64 ((gt x0 a1807).fRef.fTx), .int .i64 ((gt x0 a1807).fRef.fAt), .int .i64 ((gt x0 a1807).fOut.fValue), kv1848, .int .i64 ((gt x0 a1807).fOut.fRule.fNeed), .int .i64 ((gt x0 a1807).fOut.fRule.fAfter), .int .i64 ((gt x0 a1807).fHeight), .bool ((gt x0 a1807).fMined)]] := HM.call hn
            refine ops_ex rfl (guard_on rfl rfl rfl hg1869) rfl rfl (ex_not rfl rfl) ?_
            refine ops_ex (v := .bool ((!t1862) || (!t1864))) rfl (guard_none rfl) rfl rfl (ex_por_f rfl rfl hg1869 rfl) ?_
            refine ops_ex rfl (guard_none rfl) rfl rfl (ex_move rfl rfl) ?_
            refine bool_cases ((!t1862) || (!t1864)) (fun hg1873 => ?_) (fun hg1873 => ?_)
            · skip
              refine ops_off rfl (guard_off rfl rfl rfl hg1873) rfl rfl ?_
              refine ops_off rfl (guard_off rfl rfl rfl hg1873) rfl rfl ?_
              refine ops_off rfl (guard_off rfl rfl rfl hg1873) rfl rfl ?_
              refine ops_off rfl (guard_off rfl rfl rfl hg1873) rfl rfl ?_
              refine ops_off rfl (guard_off rfl rfl rfl hg1873) rfl rfl ?_
              have hg1874 : (((!t1862) || (!t1864)) || (!t1866)) = true := by simp only [hg1873, Bool.and_true, Bool.true_and, Bool.and_false, Bool.false_and, Bool.or_true, Bool.true_or, Bool.or_false, Bool.false_or, Bool.not_true, Bool.not_false, Bool.not_not]
              refine ops_ex (v := .bool (((!t1862) || (!t1864)) || (!t1866))) rfl (guard_none rfl) rfl rfl (ex_por_t rfl rfl hg1873) ?_
              refine ops_nil ?_
              exact at_meet [(0, p0), (9, p0), (10, .int .i64 (x0.length : Int)), (11, .int .i64 a1807), (4, .pointer (some ⟨b1850, 0, none⟩)), (3, .int .i64 a1807), (32, .bool (((!t1862) || (!t1864)) || (!t1866)))] ⟨rfl, HM⟩ (Sub.cons rfl (Sub.cons rfl (Sub.cons rfl (Sub.cons rfl (Sub.cons rfl (Sub.cons rfl (Sub.cons rfl Sub.nil)))))))
            · skip
              refine ops_ex rfl (guard_on rfl rfl rfl hg1873) rfl rfl (ex_fieldAddr (off' := 2) rfl rfl Try.underlying104 rfl tsz102 rfl) ?_
              refine ops_ex rfl (guard_on rfl rfl rfl hg1873) rfl rfl (ex_fieldAddr (off' := 2) rfl rfl Try.underlying102 rfl tsz2 rfl) ?_
              refine ops_ex rfl (guard_on rfl rfl rfl hg1873) rfl rfl (ex_load1 rfl rfl Try.underlying2 rfl ((HM.box_at 0 rfl) 2 _ rfl)) ?_
              refine ops_does rfl (guard_on rfl rfl rfl hg1873) rfl rfl (does_callk rfl callok81 rfl (impl_within.calls (x0 := (gt x0 a1807).fOut.fValue) (x1 := 1) (x2 := 1000000) (cond_t (not_mk hg1873) h1867))) ?_
              rintro _ w1875 ⟨rfl, hn⟩
              replace HM : Mem w [] w1875 [box b1850 104 [.int .i64 ((gt x0 a1807).fRef.fTx), .int .i64 ((gt x0 a1807).fRef.fAt), .int .i64 ((gt x0 a1807).fOut.fValue), kv1848, .int .i64 ((gt x0 a1807).fOut.fRule.fNeed), .int .i64 ((gt x0 a1807).fOut.fRule.fAfter), .int .i64 ((gt x0 a1807).fHeight), .bool ((gt x0 a1807).fMined)]] := HM.call hn
              refine ops_ex rfl (guard_on rfl rfl rfl hg1873) rfl rfl (ex_not rfl rfl) ?_
              refine ops_ex (v := .bool (((!t1862) || (!t1864)) || (!t1866))) rfl (guard_none rfl) rfl rfl (ex_por_f rfl rfl hg1873 rfl) ?_
              refine ops_nil ?_
              exact at_meet [(0, p0), (9, p0), (10, .int .i64 (x0.length : Int)), (11, .int .i64 a1807), (4, .pointer (some ⟨b1850, 0, none⟩)), (3, .int .i64 a1807), (32, .bool (((!t1862) || (!t1864)) || (!t1866)))] ⟨rfl, HM⟩ (Sub.cons rfl (Sub.cons rfl (Sub.cons rfl (Sub.cons rfl (Sub.cons rfl (Sub.cons rfl (Sub.cons rfl Sub.nil)))))))
        · rintro _ w1876 ⟨rfl, HM⟩
          refine at_then ?_
          refine run_cond (b := (((!t1862) || (!t1864)) || (!t1866))) rfl (fun hb1877 => ?_) (fun hb1877 => ?_)
          · replace ho1771 := cond_t hb1877 ho1771
            refine run_seq ?_
            refine run_region rfl ?_
            refine ops_ex rfl (guard_none rfl) rfl rfl (ex_assign rfl rfl) ?_
            refine ops_nil ?_
            refine at_then ?_
            refine run_ret ?_
            refine at_then_ret ?_
            refine at_block_ret ?_
            refine at_then_ret ?_
            refine at_then_ret ?_
            refine at_block_ret ?_
            refine at_then_ret ?_
            replace HM := (HM.front 0 rfl rfl).drop
            have hR := Option.some.inj ho1771
            subst hR
            have hT := thn_inl H
            have hR := Option.some.inj hT
            subst hR
            exact at_ret1 rfl rfl ⟨_, rfl, rfl, HM⟩
          · replace ho1771 := cond_f hb1877 ho1771
            refine run_skip ?_
            refine at_then ?_
            refine run_seq ?_
            refine run_seq ?_
            obtain ⟨t1881, h1882, ho1771⟩ := bind_some ho1771
            refine run_region rfl ?_
            refine ops_ex rfl (guard_none rfl) rfl rfl (ex_fieldAddr (off' := 2) rfl rfl Try.underlying104 rfl tsz102 rfl) ?_
            refine ops_ex rfl (guard_none rfl) rfl rfl (ex_fieldAddr (off' := 3) rfl rfl Try.underlying102 rfl tsz100 rfl) ?_
            refine ops_ex rfl (guard_none rfl) rfl rfl (ex_loadN (cs := [kv1848, (.int .i64 ((gt x0 a1807).fOut.fRule.fNeed)), (.int .i64 ((gt x0 a1807).fOut.fRule.fAfter))]) rfl rfl Try.underlying100 rfl tsz100 rfl ((HM.box_at 0 rfl).sub 3 3 rfl)) ?_
            refine ops_does rfl (guard_none rfl) rfl rfl (does_callk rfl callok82 rfl (impl_RuleFault.calls (x0 := (gt x0 a1807).fOut.fRule) (HM.rd hk1849) h1882)) ?_
            rintro _ w1883 ⟨rfl, hn⟩
            replace HM : Mem w [] w1883 [box b1850 104 [.int .i64 ((gt x0 a1807).fRef.fTx), .int .i64 ((gt x0 a1807).fRef.fAt), .int .i64 ((gt x0 a1807).fOut.fValue), kv1848, .int .i64 ((gt x0 a1807).fOut.fRule.fNeed), .int .i64 ((gt x0 a1807).fOut.fRule.fAfter), .int .i64 ((gt x0 a1807).fHeight), .bool ((gt x0 a1807).fMined)]] := HM.call hn
            refine ops_ex rfl (guard_none rfl) rfl rfl (ex_assign rfl rfl) ?_
            refine ops_nil ?_
            refine at_then ?_
            refine run_seq ?_
            refine run_region rfl ?_
            refine ops_ex rfl (guard_none rfl) rfl rfl (ex_move rfl rfl) ?_
            refine ops_ex rfl (guard_none rfl) rfl rfl (ex_neq rfl rfl rfl) ?_
            refine ops_nil ?_
            refine at_then ?_
            refine run_cond (b := (t1881 != 0)) rfl (fun hb1884 => ?_) (fun hb1884 => ?_)
            · replace ho1771 := cond_t hb1884 ho1771
              refine run_seq ?_
              refine run_region rfl ?_
              refine ops_ex rfl (guard_none rfl) rfl rfl (ex_move rfl rfl) ?_
              refine ops_ex rfl (guard_none rfl) rfl rfl (ex_assign rfl rfl) ?_
              refine ops_nil ?_
              refine at_then ?_
              refine run_ret ?_
              refine at_then_ret ?_
              refine at_block_ret ?_
              refine at_then_ret ?_
              refine at_then_ret ?_
              refine at_block_ret ?_
              refine at_then_ret ?_
              replace HM := (HM.front 0 rfl rfl).drop
              have hR := Option.some.inj ho1771
              subst hR
              have hT := thn_inl H
              have hR := Option.some.inj hT
              subst hR
              exact at_ret1 rfl rfl ⟨_, rfl, rfl, HM⟩
            · replace ho1771 := cond_f hb1884 ho1771
              refine run_skip ?_
              refine at_then ?_
              refine run_seq ?_
              obtain ⟨e1885, ho1771⟩ := chk_some ho1771
              obtain ⟨t1889, h1890, ho1771⟩ := bind_some ho1771
              refine run_meet (fun ρ_ w_ => ρ_ = [(0, p0), (9, p0), (10, .int .i64 (x0.length : Int)), (11, .int .i64 a1807), (53, .bool ((decide (0 < a1807)) && (decide (0 ≤ t1889))))] ∧ Mem w [] w_ []) ?_ ?_
              · skip
                refine run_drawf (fun w_ => Mem w [] w_ [box b1850 104 [.int .i64 ((gt x0 a1807).fRef.fTx), .int .i64 ((gt x0 a1807).fRef.fAt), .int .i64 ((gt x0 a1807).fOut.fValue), kv1848, .int .i64 ((gt x0 a1807).fOut.fRule.fNeed), .int .i64 ((gt x0 a1807).fOut.fRule.fAfter), .int .i64 ((gt x0 a1807).fHeight), .bool ((gt x0 a1807).fMined)]]) [(0, true), (1, true), (2, true), (3, true), (4, true), (5, true), (6, true), (7, true), (8, true), (9, true), (10, true), (11, false), (12, true), (13, true)] mixed rfl rfl (by kernel_rfl) ?_
                replace HM := HM.grow (fr_drew _)
                have hS := Mem.suf (M := []) HM
                refine drwp_take rfl (guard_none rfl) rfl rfl (fun w_ hS_ => (ex_move rfl rfl)) hS ?_
                refine drwp_take rfl (guard_none rfl) rfl rfl (fun w_ hS_ => (ex_gtr rfl rfl rfl)) hS ?_
                refine drwp_take rfl (guard_none rfl) rfl rfl (fun w_ hS_ => (ex_move rfl rfl)) hS ?_
                refine bool_cases (decide (0 < a1807)) (fun hg1891 => ?_) (fun hg1891 => ?_)
                · skip
                  refine drwp_take rfl (guard_on rfl rfl rfl hg1891) rfl rfl (fun w_ hS_ => (ex_move rfl rfl)) hS ?_
                  refine drwp_take rfl (guard_on rfl rfl rfl hg1891) rfl rfl (fun w_ hS_ => (ex_move rfl rfl)) hS ?_
                  refine drwp_take rfl (guard_on rfl rfl rfl hg1891) rfl rfl (fun w_ hS_ => (ex_sub rfl rfl rfl)) hS ?_
                  obtain ⟨kv1887, hc1886, hk1888⟩ : ∃ u, CellsAt _ (sb p0) (so p0 + (wrap64 (a1807 - 1)).toNat * 8) [(.int .i64 ((gt x0 (wrap64 (a1807 - 1))).fRef.fTx)), (.int .i64 ((gt x0 (wrap64 (a1807 - 1))).fRef.fAt)), (.int .i64 ((gt x0 (wrap64 (a1807 - 1))).fOut.fValue)), u, (.int .i64 ((gt x0 (wrap64 (a1807 - 1))).fOut.fRule.fNeed)), (.int .i64 ((gt x0 (wrap64 (a1807 - 1))).fOut.fRule.fAfter)), (.int .i64 ((gt x0 (wrap64 (a1807 - 1))).fHeight)), (.bool ((gt x0 (wrap64 (a1807 - 1))).fMined))] ∧ RdS kInt _ u ((gt x0 (wrap64 (a1807 - 1))).fOut.fRule.fKeys) := rd_with1 hp0 (or_t e1885 hg1891)
                  refine drwp_take rfl (guard_on rfl rfl rfl hg1891) rfl rfl (fun w_ hS_ => (ex_indexAddr (d := kCoin) rfl rfl rfl Try.underlying25 tsz104 hp0 (idx_lo (or_t e1885 hg1891)) (idx_hi (or_t e1885 hg1891)))) hS ?_
                  refine drwp_take rfl (guard_on rfl rfl rfl hg1891) rfl rfl (fun w_ hS_ => (ex_fieldAddr (off' := so p0 + (wrap64 (a1807 - 1)).toNat * 8) rfl rfl Try.underlying104 rfl tsz99 rfl)) hS ?_
                  refine drwp_take rfl (guard_on rfl rfl rfl hg1891) rfl rfl (fun w_ hS_ => (ex_loadN (cs := [(.int .i64 ((gt x0 (wrap64 (a1807 - 1))).fRef.fTx)), (.int .i64 ((gt x0 (wrap64 (a1807 - 1))).fRef.fAt))]) rfl rfl Try.underlying99 rfl tsz99 rfl ((hS_.at_ hc1886).sub 0 2 rfl))) hS ?_
                  refine drwp_take rfl (guard_on rfl rfl rfl hg1891) rfl rfl (fun w_ hS_ => (ex_fieldAddr (off' := 0) rfl rfl Try.underlying104 rfl tsz99 rfl)) hS ?_
                  refine drwp_take rfl (guard_on rfl rfl rfl hg1891) rfl rfl (fun w_ hS_ => (ex_loadN (cs := [(.int .i64 ((gt x0 a1807).fRef.fTx)), (.int .i64 ((gt x0 a1807).fRef.fAt))]) rfl rfl Try.underlying99 rfl tsz99 rfl ((hS_.box_at 0 rfl).sub 0 2 rfl))) hS ?_
                  refine drwp_one rfl (guard_on rfl rfl rfl hg1891) rfl rfl (does_callk rfl callok83 rfl (impl_compareRefs.calls (x0 := (gt x0 (wrap64 (a1807 - 1))).fRef) (x1 := (gt x0 a1807).fRef) (cond_t hg1891 h1890))) ?_
                  rintro _ w1892 ⟨rfl, hn⟩
                  replace HM : Mem w [] w1892 [box b1850 104 [.int .i64 ((gt x0 a1807).fRef.fTx), .int .i64 ((gt x0 a1807).fRef.fAt), .int .i64 ((gt x0 a1807).fOut.fValue), kv1848, .int .i64 ((gt x0 a1807).fOut.fRule.fNeed), .int .i64 ((gt x0 a1807).fOut.fRule.fAfter), .int .i64 ((gt x0 a1807).fHeight), .bool ((gt x0 a1807).fMined)]] := HM.call hn
                  refine ⟨Mem.suf (M := []) HM, ?_⟩
                  have hS := Mem.suf (M := []) HM
                  refine drwp_take rfl (guard_on rfl rfl rfl hg1891) rfl rfl (fun w_ hS_ => (ex_geq rfl rfl rfl)) hS ?_
                  refine drwp_take (v := .bool ((decide (0 < a1807)) && (decide (0 ≤ t1889)))) rfl (guard_none rfl) rfl rfl (fun w_ hS_ => (ex_pand_t rfl rfl hg1891 rfl)) hS ?_
                  refine drwp_done ?_
                  replace HM := (HM.front 0 rfl rfl).drop
                  exact at_meet [(0, p0), (9, p0), (10, .int .i64 (x0.length : Int)), (11, .int .i64 a1807), (53, .bool ((decide (0 < a1807)) && (decide (0 ≤ t1889))))] ⟨rfl, HM⟩ (Sub.cons rfl (Sub.cons rfl (Sub.cons rfl (Sub.cons rfl (Sub.cons rfl Sub.nil)))))
                · skip
                  refine drwp_off rfl (guard_off rfl rfl rfl hg1891) rfl rfl hS ?_
                  refine drwp_off rfl (guard_off rfl rfl rfl hg1891) rfl rfl hS ?_
                  refine drwp_off rfl (guard_off rfl rfl rfl hg1891) rfl rfl hS ?_
                  refine drwp_off rfl (guard_off rfl rfl rfl hg1891) rfl rfl hS ?_
                  refine drwp_off rfl (guard_off rfl rfl rfl hg1891) rfl rfl hS ?_
                  refine drwp_off rfl (guard_off rfl rfl rfl hg1891) rfl rfl hS ?_
                  refine drwp_off rfl (guard_off rfl rfl rfl hg1891) rfl rfl hS ?_
                  refine drwp_off rfl (guard_off rfl rfl rfl hg1891) rfl rfl hS ?_
                  refine drwp_off1 rfl (guard_off rfl rfl rfl hg1891) rfl rfl ⟨hS, ?_⟩
                  refine drwp_off rfl (guard_off rfl rfl rfl hg1891) rfl rfl hS ?_
                  have hg1893 : ((decide (0 < a1807)) && (decide (0 ≤ t1889))) = false := by simp only [hg1891, Bool.and_true, Bool.true_and, Bool.and_false, Bool.false_and, Bool.or_true, Bool.true_or, Bool.or_false, Bool.false_or, Bool.not_true, Bool.not_false, Bool.not_not]
                  refine drwp_take (v := .bool ((decide (0 < a1807)) && (decide (0 ≤ t1889)))) rfl (guard_none rfl) rfl rfl (fun w_ hS_ => (ex_pand_f rfl rfl hg1891)) hS ?_
                  refine drwp_done ?_
                  replace HM := (HM.front 0 rfl rfl).drop
                  exact at_meet [(0, p0), (9, p0), (10, .int .i64 (x0.length : Int)), (11, .int .i64 a1807), (53, .bool ((decide (0 < a1807)) && (decide (0 ≤ t1889))))] ⟨rfl, HM⟩ (Sub.cons rfl (Sub.cons rfl (Sub.cons rfl (Sub.cons rfl (Sub.cons rfl Sub.nil)))))
              · rintro _ w1894 ⟨rfl, HM⟩
                refine at_then ?_
                refine run_cond (b := ((decide (0 < a1807)) && (decide (0 ≤ t1889)))) rfl (fun hb1895 => ?_) (fun hb1895 => ?_)
                · replace ho1771 := cond_t hb1895 ho1771
                  refine run_seq ?_
                  refine run_region rfl ?_
                  refine ops_ex rfl (guard_none rfl) rfl rfl (ex_assign rfl rfl) ?_
                  refine ops_nil ?_
                  refine at_then ?_
                  refine run_ret ?_
                  refine at_block_ret ?_
                  refine at_then_ret ?_
                  refine at_then_ret ?_
                  refine at_block_ret ?_
                  refine at_then_ret ?_
                  have hR := Option.some.inj ho1771
                  subst hR
                  have hT := thn_inl H
                  have hR := Option.some.inj hT
                  subst hR
                  exact at_ret1 rfl rfl ⟨_, rfl, rfl, HM⟩
                · replace ho1771 := cond_f hb1895 ho1771
                  refine run_skip ?_
                  refine at_block ?_
                  refine at_then ?_
                  refine run_region rfl ?_
                  refine ops_ex rfl (guard_none rfl) rfl rfl (ex_add rfl rfl rfl) ?_
                  refine ops_ex rfl (guard_none rfl) rfl rfl (ex_move rfl rfl) ?_
                  refine ops_nil ?_
                  exact at_again k1843 (ρ1 := [(0, p0), (9, p0), (10, .int .i64 (x0.length : Int)), (11, .int .i64 (wrap64 (a1807 + 1)))]) (Nat.lt_succ_self _) ⟨_, ho1771, rfl, HM⟩ (Sub.cons rfl (Sub.cons rfl (Sub.cons rfl (Sub.cons rfl Sub.nil))))
      · replace ho1771 := cond_f hb1845 ho1771
        refine run_exit ?_
        refine at_then_exit ?_
        refine at_then_exit ?_
        refine at_block_exit ?_
        exact at_mid (ρ' := []) ⟨(Option.some.inj ho1771), rfl, HM⟩ Sub.nil
    · rintro _ w1896 ⟨rfl, rfl, HM⟩
      replace H := (thn_inr H)
      refine run_seq ?_
      refine run_region rfl ?_
      refine ops_ex rfl (guard_none rfl) rfl rfl (ex_assign rfl rfl) ?_
      refine ops_nil ?_
      refine at_then ?_
      refine run_ret ?_
      have hR := Option.some.inj H
      subst hR
      exact at_ret1 rfl rfl ⟨_, rfl, rfl, HM⟩
end Go.Proofs.Ytoiacoiccpiciaa.Zk
