/- What functions of the program compute, each as a plain function, and that they do. Conditions: as each theorem states them. -/
import Derived.Test.YtbbcabpnkdilgaaPutCoinsZkF2
namespace Go.Proofs.Ytbbcabpnkdilgaa.Zk
open Go Go.RowKit Go.IntWalk Go.Proofs
set_option linter.unusedVariables false
set_option linter.unusedSimpArgs false
set_option maxRecDepth 100000
set_option maxHeartbeats 4000000
def impl_within.f (k : Nat) (x0 : Int) (x1 : Int) (x2 : Int) : Option Bool := some ((decide (x1 ≤ x0)) && (decide (x0 ≤ x2)))
theorem impl_within.calls {k : Nat} {x0 : Int} {x1 : Int} {x2 : Int}  {w : World}  {r : Bool} (H : impl_within.f k x0 x1 x2 = some r) :
    Calls Try.prog 89 ([.int .i64 x0, .int .i64 x1, .int .i64 x2] : List Value).toArray w (fun e w_ => ∃ v, e = .returned v ∧ v = (.bool r) ∧ Mem w [] w_ []) := by
  have HM := Mem.start w
  refine calls_run (N := 15) Try.func89 rfl rfl rfl rfl ?_
  unfold impl_within.f at H
  refine run_seq ?_
  refine run_region rfl ?_
  refine ops_ex rfl (guard_none rfl) rfl rfl (ex_assign rfl rfl) ?_
  refine ops_nil ?_
  refine at_then ?_
  refine run_seq ?_
  refine run_meet (fun ρ_ w_ => ρ_ = [(6, .bool ((decide (x1 ≤ x0)) && (decide (x0 ≤ x2))))] ∧ Mem w [] w_ []) ?_ ?_
  · skip
    refine run_region rfl ?_
    refine ops_ex rfl (guard_none rfl) rfl rfl (ex_move rfl rfl) ?_
    refine ops_ex rfl (guard_none rfl) rfl rfl (ex_move rfl rfl) ?_
    refine ops_ex rfl (guard_none rfl) rfl rfl (ex_geq rfl rfl rfl) ?_
    refine ops_ex rfl (guard_none rfl) rfl rfl (ex_move rfl rfl) ?_
    refine bool_cases (decide (x1 ≤ x0)) (fun hg2371 => ?_) (fun hg2371 => ?_)
    · skip
      refine ops_ex rfl (guard_on rfl rfl rfl hg2371) rfl rfl (ex_move rfl rfl) ?_
      refine ops_ex rfl (guard_on rfl rfl rfl hg2371) rfl rfl (ex_move rfl rfl) ?_
      refine ops_ex rfl (guard_on rfl rfl rfl hg2371) rfl rfl (ex_leq rfl rfl rfl) ?_
      refine ops_ex (v := .bool ((decide (x1 ≤ x0)) && (decide (x0 ≤ x2)))) rfl (guard_none rfl) rfl rfl (ex_pand_t rfl rfl hg2371 rfl) ?_
      refine ops_ex rfl (guard_none rfl) rfl rfl (ex_assign rfl rfl) ?_
      refine ops_nil ?_
      exact at_meet [(6, .bool ((decide (x1 ≤ x0)) && (decide (x0 ≤ x2))))] ⟨rfl, HM⟩ (Sub.cons rfl Sub.nil)
    · skip
      refine ops_off rfl (guard_off rfl rfl rfl hg2371) rfl rfl ?_
      refine ops_off rfl (guard_off rfl rfl rfl hg2371) rfl rfl ?_
      refine ops_off rfl (guard_off rfl rfl rfl hg2371) rfl rfl ?_
      have hg2372 : ((decide (x1 ≤ x0)) && (decide (x0 ≤ x2))) = false := by simp only [hg2371, Bool.and_true, Bool.true_and, Bool.and_false, Bool.false_and, Bool.or_true, Bool.true_or, Bool.or_false, Bool.false_or, Bool.not_true, Bool.not_false, Bool.not_not]
      refine ops_ex (v := .bool ((decide (x1 ≤ x0)) && (decide (x0 ≤ x2)))) rfl (guard_none rfl) rfl rfl (ex_pand_f rfl rfl hg2371) ?_
      refine ops_ex rfl (guard_none rfl) rfl rfl (ex_assign rfl rfl) ?_
      refine ops_nil ?_
      exact at_meet [(6, .bool ((decide (x1 ≤ x0)) && (decide (x0 ≤ x2))))] ⟨rfl, HM⟩ (Sub.cons rfl Sub.nil)
  · rintro _ w2373 ⟨rfl, HM⟩
    refine at_then ?_
    refine run_ret ?_
    have hR := Option.some.inj H
    subst hR
    exact at_ret1 rfl rfl ⟨_, rfl, rfl, HM⟩

def impl_isId.f (k : Nat) (x0 : Int) : Option Bool := ((impl_within.f k x0 1 60).bind fun t2376 => some t2376)
theorem impl_isId.calls {k : Nat} {x0 : Int}  {w : World}  {r : Bool} (H : impl_isId.f k x0 = some r) :
    Calls Try.prog 109 ([.int .i64 x0] : List Value).toArray w (fun e w_ => ∃ v, e = .returned v ∧ v = (.bool r) ∧ Mem w [] w_ []) := by
  have HM := Mem.start w
  refine calls_run (N := 5) Try.func109 rfl rfl rfl rfl ?_
  unfold impl_isId.f at H
  refine run_seq ?_
  refine run_region rfl ?_
  refine ops_ex rfl (guard_none rfl) rfl rfl (ex_assign rfl rfl) ?_
  refine ops_nil ?_
  refine at_then ?_
  refine run_seq ?_
  obtain ⟨t2376, h2377, H⟩ := bind_some H
  refine run_region rfl ?_
  refine ops_ex rfl (guard_none rfl) rfl rfl (ex_move rfl rfl) ?_
  refine ops_does rfl (guard_none rfl) rfl rfl (does_callk rfl callok89 rfl (impl_within.calls (x0 := x0) (x1 := 1) (x2 := 60) h2377)) ?_
  rintro _ w2378 ⟨rfl, hn⟩
  replace HM : Mem w [] w2378 [] := HM.call hn
  refine ops_ex rfl (guard_none rfl) rfl rfl (ex_assign rfl rfl) ?_
  refine ops_nil ?_
  refine at_then ?_
  refine run_ret ?_
  have hR := Option.some.inj H
  subst hR
  exact at_ret1 rfl rfl ⟨_, rfl, rfl, HM⟩

def impl_isRef.f (k : Nat) (x0 : Ref) : Option Bool := ((impl_isId.f k x0.fTx).bind fun t2387 => ((bif t2387 then impl_within.f k x0.fAt 0 3 else some default).bind fun t2389 => some (t2387 && t2389)))
theorem impl_isRef.calls {k : Nat} {x0 : Ref}  {w : World}  {r : Bool} (H : impl_isRef.f k x0 = some r) :
    Calls Try.prog 63 ([.agg #[(.int .i64 x0.fTx), (.int .i64 x0.fAt)]] : List Value).toArray w (fun e w_ => ∃ v, e = .returned v ∧ v = (.bool r) ∧ Mem w [] w_ []) := by
  have HM := Mem.start w
  refine calls_run (N := 11) Try.func63 rfl rfl rfl rfl ?_
  unfold impl_isRef.f at H
  refine run_seq ?_
  refine run_region rfl ?_
  refine ops_does rfl (guard_none rfl) rfl rfl (does_box (cs := [.int .i64 x0.fTx, .int .i64 x0.fAt]) rfl rfl rfl HM) ?_
  rintro _ w2386 ⟨b2383, rfl, HM⟩
  refine ops_ex rfl (guard_none rfl) rfl rfl (ex_assign rfl rfl) ?_
  refine ops_nil ?_
  refine at_then ?_
  refine run_seq ?_
  obtain ⟨t2387, h2388, H⟩ := bind_some H
  obtain ⟨t2389, h2390, H⟩ := bind_some H
  refine run_meet (fun ρ_ w_ => ρ_ = [(2, .bool (t2387 && t2389))] ∧ Mem w [] w_ []) ?_ ?_
  · skip
    refine run_region rfl ?_
    refine ops_ex rfl (guard_none rfl) rfl rfl (ex_fieldAddr (off' := 0) rfl rfl Try.underlying36 rfl tsz2 rfl) ?_
    refine ops_ex rfl (guard_none rfl) rfl rfl (ex_load1 rfl rfl Try.underlying2 rfl ((HM.box_at 0 rfl) 0 _ rfl)) ?_
    refine ops_does rfl (guard_none rfl) rfl rfl (does_callk rfl callok109 rfl (impl_isId.calls (x0 := x0.fTx) h2388)) ?_
    rintro _ w2391 ⟨rfl, hn⟩
    replace HM : Mem w [] w2391 [box b2383 36 [.int .i64 x0.fTx, .int .i64 x0.fAt]] := HM.call hn
    refine ops_ex rfl (guard_none rfl) rfl rfl (ex_move rfl rfl) ?_
    refine bool_cases t2387 (fun hg2392 => ?_) (fun hg2392 => ?_)
    · skip
      refine ops_ex rfl (guard_on rfl rfl rfl hg2392) rfl rfl (ex_fieldAddr (off' := 1) rfl rfl Try.underlying36 rfl tsz2 rfl) ?_
      refine ops_ex rfl (guard_on rfl rfl rfl hg2392) rfl rfl (ex_load1 rfl rfl Try.underlying2 rfl ((HM.box_at 0 rfl) 1 _ rfl)) ?_
      refine ops_does rfl (guard_on rfl rfl rfl hg2392) rfl rfl (does_callk rfl callok89 rfl (impl_within.calls (x0 := x0.fAt) (x1 := 0) (x2 := 3) (cond_t hg2392 h2390))) ?_
      rintro _ w2393 ⟨rfl, hn⟩
      replace HM : Mem w [] w2393 [box b2383 36 [.int .i64 x0.fTx, .int .i64 x0.fAt]] := HM.call hn
      refine ops_ex (v := .bool (t2387 && t2389)) rfl (guard_none rfl) rfl rfl (ex_pand_t rfl rfl hg2392 rfl) ?_
      refine ops_ex rfl (guard_none rfl) rfl rfl (ex_assign rfl rfl) ?_
      refine ops_nil ?_
      replace HM := (HM.front 0 rfl rfl).drop
      exact at_meet [(2, .bool (t2387 && t2389))] ⟨rfl, HM⟩ (Sub.cons rfl Sub.nil)
    · skip
      refine ops_off rfl (guard_off rfl rfl rfl hg2392) rfl rfl ?_
      refine ops_off rfl (guard_off rfl rfl rfl hg2392) rfl rfl ?_
      refine ops_off rfl (guard_off rfl rfl rfl hg2392) rfl rfl ?_
      have hg2394 : (t2387 && t2389) = false := by simp only [hg2392, Bool.and_true, Bool.true_and, Bool.and_false, Bool.false_and, Bool.or_true, Bool.true_or, Bool.or_false, Bool.false_or, Bool.not_true, Bool.not_false, Bool.not_not]
      refine ops_ex (v := .bool (t2387 && t2389)) rfl (guard_none rfl) rfl rfl (ex_pand_f rfl rfl hg2392) ?_
      refine ops_ex rfl (guard_none rfl) rfl rfl (ex_assign rfl rfl) ?_
      refine ops_nil ?_
      replace HM := (HM.front 0 rfl rfl).drop
      exact at_meet [(2, .bool (t2387 && t2389))] ⟨rfl, HM⟩ (Sub.cons rfl Sub.nil)
  · rintro _ w2395 ⟨rfl, HM⟩
    refine at_then ?_
    refine run_ret ?_
    have hR := Option.some.inj H
    subst hR
    exact at_ret1 rfl rfl ⟨_, rfl, rfl, HM⟩

def impl_isHeight.f (k : Nat) (x0 : Int) : Option Bool := ((impl_within.f k x0 0 999).bind fun t2400 => some t2400)
theorem impl_isHeight.calls {k : Nat} {x0 : Int}  {w : World}  {r : Bool} (H : impl_isHeight.f k x0 = some r) :
    Calls Try.prog 88 ([.int .i64 x0] : List Value).toArray w (fun e w_ => ∃ v, e = .returned v ∧ v = (.bool r) ∧ Mem w [] w_ []) := by
  have HM := Mem.start w
  refine calls_run (N := 5) Try.func88 rfl rfl rfl rfl ?_
  unfold impl_isHeight.f at H
  refine run_seq ?_
  refine run_region rfl ?_
  refine ops_ex rfl (guard_none rfl) rfl rfl (ex_assign rfl rfl) ?_
  refine ops_nil ?_
  refine at_then ?_
  refine run_seq ?_
  obtain ⟨t2400, h2401, H⟩ := bind_some H
  refine run_region rfl ?_
  refine ops_ex rfl (guard_none rfl) rfl rfl (ex_move rfl rfl) ?_
  refine ops_does rfl (guard_none rfl) rfl rfl (does_callk rfl callok89 rfl (impl_within.calls (x0 := x0) (x1 := 0) (x2 := 999) h2401)) ?_
  rintro _ w2402 ⟨rfl, hn⟩
  replace HM : Mem w [] w2402 [] := HM.call hn
  refine ops_ex rfl (guard_none rfl) rfl rfl (ex_assign rfl rfl) ?_
  refine ops_nil ?_
  refine at_then ?_
  refine run_ret ?_
  have hR := Option.some.inj H
  subst hR
  exact at_ret1 rfl rfl ⟨_, rfl, rfl, HM⟩

def impl_isKey.f (k : Nat) (x0 : Int) : Option Bool := ((impl_within.f k x0 1 999).bind fun t2426 => some t2426)
theorem impl_isKey.calls {k : Nat} {x0 : Int}  {w : World}  {r : Bool} (H : impl_isKey.f k x0 = some r) :
    Calls Try.prog 62 ([.int .i64 x0] : List Value).toArray w (fun e w_ => ∃ v, e = .returned v ∧ v = (.bool r) ∧ Mem w [] w_ []) := by
  have HM := Mem.start w
  refine calls_run (N := 5) Try.func62 rfl rfl rfl rfl ?_
  unfold impl_isKey.f at H
  refine run_seq ?_
  refine run_region rfl ?_
  refine ops_ex rfl (guard_none rfl) rfl rfl (ex_assign rfl rfl) ?_
  refine ops_nil ?_
  refine at_then ?_
  refine run_seq ?_
  obtain ⟨t2426, h2427, H⟩ := bind_some H
  refine run_region rfl ?_
  refine ops_ex rfl (guard_none rfl) rfl rfl (ex_move rfl rfl) ?_
  refine ops_does rfl (guard_none rfl) rfl rfl (does_callk rfl callok89 rfl (impl_within.calls (x0 := x0) (x1 := 1) (x2 := 999) h2427)) ?_
  rintro _ w2428 ⟨rfl, hn⟩
  replace HM : Mem w [] w2428 [] := HM.call hn
  refine ops_ex rfl (guard_none rfl) rfl rfl (ex_assign rfl rfl) ?_
  refine ops_nil ?_
  refine at_then ?_
  refine run_ret ?_
  have hR := Option.some.inj H
  subst hR
  exact at_ret1 rfl rfl ⟨_, rfl, rfl, HM⟩

def impl_areKeys_1.f (k : Nat) (x0 : Int) : Option Bool := ((impl_isKey.f k x0).bind fun t2431 => some (!t2431))
theorem impl_areKeys_1.calls {k : Nat} {x0 : Int}  {w : World}  {r : Bool} (H : impl_areKeys_1.f k x0 = some r) :
    Calls Try.prog 158 ([.int .i64 x0] : List Value).toArray w (fun e w_ => ∃ v, e = .returned v ∧ v = (.bool r) ∧ Mem w [] w_ []) := by
  have HM := Mem.start w
  refine calls_run (N := 6) Try.func158 rfl rfl rfl rfl ?_
  unfold impl_areKeys_1.f at H
  refine run_seq ?_
  refine run_region rfl ?_
  refine ops_ex rfl (guard_none rfl) rfl rfl (ex_assign rfl rfl) ?_
  refine ops_nil ?_
  refine at_then ?_
  refine run_seq ?_
  obtain ⟨t2431, h2432, H⟩ := bind_some H
  refine run_region rfl ?_
  refine ops_ex rfl (guard_none rfl) rfl rfl (ex_move rfl rfl) ?_
  refine ops_does rfl (guard_none rfl) rfl rfl (does_callk rfl callok62 rfl (impl_isKey.calls (x0 := x0) h2432)) ?_
  rintro _ w2433 ⟨rfl, hn⟩
  replace HM : Mem w [] w2433 [] := HM.call hn
  refine ops_ex rfl (guard_none rfl) rfl rfl (ex_not rfl rfl) ?_
  refine ops_ex rfl (guard_none rfl) rfl rfl (ex_assign rfl rfl) ?_
  refine ops_nil ?_
  refine at_then ?_
  refine run_ret ?_
  have hR := Option.some.inj H
  subst hR
  exact at_ret1 rfl rfl ⟨_, rfl, rfl, HM⟩

def slices_IndexFunc_int64.l0 (x0 : List Int) : Nat → Int → Option (Int ⊕ Unit)
  | 0, _ => none
  | k + 1, a2479 => (bif (decide (a2479 < (x0.length : Int))) then (chk (idxOk a2479 x0.length) ((impl_areKeys_1.f k (gt x0 a2479)).bind fun t2491 => (bif t2491 then some (.inl a2479) else slices_IndexFunc_int64.l0 x0 k (wrap64 (a2479 + 1))))) else some (.inr ()))
theorem slices_IndexFunc_int64.l0_z (x0 : List Int) (a2479 : Int) : slices_IndexFunc_int64.l0 x0 0 a2479 = none := rfl
theorem slices_IndexFunc_int64.l0_s (x0 : List Int) (k : Nat) (a2479 : Int) : slices_IndexFunc_int64.l0 x0 (k + 1) a2479 = (bif (decide (a2479 < (x0.length : Int))) then (chk (idxOk a2479 x0.length) ((impl_areKeys_1.f k (gt x0 a2479)).bind fun t2491 => (bif t2491 then some (.inl a2479) else slices_IndexFunc_int64.l0 x0 k (wrap64 (a2479 + 1))))) else some (.inr ())) := rfl
def slices_IndexFunc_int64.f (k : Nat) (x0 : List Int) : Option Int := ((slices_IndexFunc_int64.l0 x0 k 0).bind fun o2471 => thn o2471 (fun r => some r) (fun _ => some (-1)))
theorem slices_IndexFunc_int64.calls {k : Nat} {x0 : List Int} {p0 : Value} {w : World} (hp0 : RdS kInt w p0 x0) {r : Int} (H : slices_IndexFunc_int64.f k x0 = some r) :
    Calls Try.prog 168 ([p0, .func (.func 158) #[] #[]] : List Value).toArray w (fun e w_ => ∃ v, e = .returned v ∧ v = (.int .i64 r) ∧ Mem w [] w_ []) := by
  have HM := Mem.start w
  refine calls_run (N := 19) Try.func168 rfl rfl rfl rfl ?_
  unfold slices_IndexFunc_int64.f at H
  refine run_seq ?_
  refine run_region rfl ?_
  refine ops_ex rfl (guard_none rfl) rfl rfl (ex_assign rfl rfl) ?_
  refine ops_nil ?_
  refine at_then ?_
  obtain ⟨o2471, ho2472, H⟩ := bind_some H
  refine run_mid (fun ρ_ w_ => Sum.inr () = o2471 ∧ ρ_ = [] ∧ Mem w [] w_ []) ?_ ?_
  · skip
    refine run_seq ?_
    refine run_region rfl ?_
    refine ops_ex rfl (guard_none rfl) rfl rfl (ex_move rfl rfl) ?_
    refine ops_ex rfl (guard_none rfl) rfl rfl (ex_len (d := kInt) (xs := x0) rfl rfl Try.underlying39 hp0) ?_
    refine ops_ex rfl (guard_none rfl) rfl rfl (ex_move rfl rfl) ?_
    refine ops_nil ?_
    refine at_then ?_
    refine run_block ?_
    refine run_loop (fun k_ ρ_ w_ => ∃ a2479 : Int, slices_IndexFunc_int64.l0 x0 k_ a2479 = some o2471 ∧ ρ_ = [(0, p0), (1, .func (.func 158) #[] #[]), (7, .int .i64 (x0.length : Int)), (8, .int .i64 a2479)] ∧ Mem w [] w_ []) k (ρ1 := [(0, p0), (1, .func (.func 158) #[] #[]), (7, .int .i64 (x0.length : Int)), (8, .int .i64 0)]) ⟨_, ho2472, rfl, HM⟩ (Sub.cons rfl (Sub.cons rfl (Sub.cons rfl (Sub.cons rfl Sub.nil)))) ?_
    clear HM ho2472
    rintro k2486 _ w2487 ⟨a2479, ho2472, rfl, HM⟩
    obtain _ | k2486 := k2486
    · exact nomatch ((slices_IndexFunc_int64.l0_z x0 a2479).symm.trans ho2472)
    replace ho2472 := (slices_IndexFunc_int64.l0_s x0 k2486 a2479).symm.trans ho2472
    refine run_seq ?_
    refine run_region rfl ?_
    refine ops_ex rfl (guard_none rfl) rfl rfl (ex_lss rfl rfl rfl) ?_
    refine ops_nil ?_
    refine at_then ?_
    refine run_seq ?_
    refine run_cond (b := (decide (a2479 < (x0.length : Int)))) rfl (fun hb2488 => ?_) (fun hb2488 => ?_)
    · replace ho2472 := cond_t hb2488 ho2472
      refine run_skip ?_
      refine at_then ?_
      refine run_seq ?_
      refine run_block ?_
      refine run_seq ?_
      refine run_region rfl ?_
      refine ops_ex rfl (guard_none rfl) rfl rfl (ex_move rfl rfl) ?_
      refine ops_ex rfl (guard_none rfl) rfl rfl (ex_assign rfl rfl) ?_
      refine ops_nil ?_
      refine at_then ?_
      refine run_seq ?_
      obtain ⟨e2489, ho2472⟩ := chk_some ho2472
      obtain ⟨t2491, h2492, ho2472⟩ := bind_some ho2472
      refine run_region rfl ?_
      refine ops_ex rfl (guard_none rfl) rfl rfl (ex_move rfl rfl) ?_
      refine ops_ex rfl (guard_none rfl) rfl rfl (ex_move rfl rfl) ?_
      refine ops_ex rfl (guard_none rfl) rfl rfl (ex_move rfl rfl) ?_
      have hc2490 : CellsAt _ (sb p0) (so p0 + (a2479).toNat * 1) [(.int .i64 (gt x0 a2479))] := rd_plain hp0 e2489
      refine ops_ex rfl (guard_none rfl) rfl rfl (ex_indexAddr (d := kInt) rfl rfl rfl Try.underlying39 tsz2 hp0 (idx_lo e2489) (idx_hi e2489)) ?_
      refine ops_ex rfl (guard_none rfl) rfl rfl (ex_load1 rfl rfl Try.underlying2 rfl ((HM.at_ hc2490) 0 _ rfl)) ?_
      refine ops_does rfl (guard_none rfl) rfl rfl (does_callvk rfl callok158 rfl rfl rfl (impl_areKeys_1.calls (x0 := (gt x0 a2479)) h2492)) ?_
      rintro _ w2493 ⟨rfl, hn⟩
      replace HM : Mem w [] w2493 [] := HM.call hn
      refine ops_nil ?_
      refine at_then ?_
      refine run_cond (b := t2491) rfl (fun hb2494 => ?_) (fun hb2494 => ?_)
      · replace ho2472 := cond_t hb2494 ho2472
        refine run_seq ?_
        refine run_region rfl ?_
        refine ops_ex rfl (guard_none rfl) rfl rfl (ex_move rfl rfl) ?_
        refine ops_ex rfl (guard_none rfl) rfl rfl (ex_assign rfl rfl) ?_
        refine ops_nil ?_
        refine at_then ?_
        refine run_ret ?_
        refine at_block_ret ?_
        refine at_then_ret ?_
        refine at_then_ret ?_
        refine at_block_ret ?_
        refine at_then_ret ?_
        have hR := Option.some.inj ho2472
        subst hR
        have hT := thn_inl H
        have hR := Option.some.inj hT
        subst hR
        exact at_ret1 rfl rfl ⟨_, rfl, rfl, HM⟩
      · replace ho2472 := cond_f hb2494 ho2472
        refine run_skip ?_
        refine at_block ?_
        refine at_then ?_
        refine run_region rfl ?_
        refine ops_ex rfl (guard_none rfl) rfl rfl (ex_add rfl rfl rfl) ?_
        refine ops_ex rfl (guard_none rfl) rfl rfl (ex_move rfl rfl) ?_
        refine ops_nil ?_
        exact at_again k2486 (ρ1 := [(0, p0), (1, .func (.func 158) #[] #[]), (7, .int .i64 (x0.length : Int)), (8, .int .i64 (wrap64 (a2479 + 1)))]) (Nat.lt_succ_self _) ⟨_, ho2472, rfl, HM⟩ (Sub.cons rfl (Sub.cons rfl (Sub.cons rfl (Sub.cons rfl Sub.nil))))
    · replace ho2472 := cond_f hb2488 ho2472
      refine run_exit ?_
      refine at_then_exit ?_
      refine at_then_exit ?_
      refine at_block_exit ?_
      exact at_mid (ρ' := []) ⟨(Option.some.inj ho2472), rfl, HM⟩ Sub.nil
  · rintro _ w2495 ⟨rfl, rfl, HM⟩
    replace H := (thn_inr H)
    refine run_seq ?_
    refine run_region rfl ?_
    refine ops_ex rfl (guard_none rfl) rfl rfl (ex_assign rfl rfl) ?_
    refine ops_nil ?_
    refine at_then ?_
    refine run_ret ?_
    have hR := Option.some.inj H
    subst hR
    exact at_ret1 rfl rfl ⟨_, rfl, rfl, HM⟩

def slices_ContainsFunc_int64.f (k : Nat) (x0 : List Int) : Option Bool := ((slices_IndexFunc_int64.f k x0).bind fun t2498 => some (decide (0 ≤ t2498)))
theorem slices_ContainsFunc_int64.calls {k : Nat} {x0 : List Int} {p0 : Value} {w : World} (hp0 : RdS kInt w p0 x0) {r : Bool} (H : slices_ContainsFunc_int64.f k x0 = some r) :
    Calls Try.prog 157 ([p0, .func (.func 158) #[] #[]] : List Value).toArray w (fun e w_ => ∃ v, e = .returned v ∧ v = (.bool r) ∧ Mem w [] w_ []) := by
  have HM := Mem.start w
  refine calls_run (N := 9) Try.func157 rfl rfl rfl rfl ?_
  unfold slices_ContainsFunc_int64.f at H
  refine run_seq ?_
  refine run_region rfl ?_
  refine ops_ex rfl (guard_none rfl) rfl rfl (ex_assign rfl rfl) ?_
  refine ops_nil ?_
  refine at_then ?_
  refine run_seq ?_
  obtain ⟨t2498, h2499, H⟩ := bind_some H
  refine run_region rfl ?_
  refine ops_ex rfl (guard_none rfl) rfl rfl (ex_move rfl rfl) ?_
  refine ops_ex rfl (guard_none rfl) rfl rfl (ex_move rfl rfl) ?_
  refine ops_does rfl (guard_none rfl) rfl rfl (does_callk rfl callok168 rfl (slices_IndexFunc_int64.calls (x0 := x0) (HM.rd hp0) h2499)) ?_
  rintro _ w2500 ⟨rfl, hn⟩
  replace HM : Mem w [] w2500 [] := HM.call hn
  refine ops_ex rfl (guard_none rfl) rfl rfl (ex_geq rfl rfl rfl) ?_
  refine ops_ex rfl (guard_none rfl) rfl rfl (ex_assign rfl rfl) ?_
  refine ops_nil ?_
  refine at_then ?_
  refine run_ret ?_
  have hR := Option.some.inj H
  subst hR
  exact at_ret1 rfl rfl ⟨_, rfl, rfl, HM⟩

def impl_areKeys.f (k : Nat) (x0 : List Int) : Option Bool := ((slices_ContainsFunc_int64.f k x0).bind fun t2503 => some (!t2503))
theorem impl_areKeys.calls {k : Nat} {x0 : List Int} {p0 : Value} {w : World} (hp0 : RdS kInt w p0 x0) {r : Bool} (H : impl_areKeys.f k x0 = some r) :
    Calls Try.prog 140 ([p0] : List Value).toArray w (fun e w_ => ∃ v, e = .returned v ∧ v = (.bool r) ∧ Mem w [] w_ []) := by
  have HM := Mem.start w
  refine calls_run (N := 6) Try.func140 rfl rfl rfl rfl ?_
  unfold impl_areKeys.f at H
  refine run_seq ?_
  refine run_region rfl ?_
  refine ops_ex rfl (guard_none rfl) rfl rfl (ex_assign rfl rfl) ?_
  refine ops_nil ?_
  refine at_then ?_
  refine run_seq ?_
  obtain ⟨t2503, h2504, H⟩ := bind_some H
  refine run_region rfl ?_
  refine ops_ex rfl (guard_none rfl) rfl rfl (ex_move rfl rfl) ?_
  refine ops_does rfl (guard_none rfl) rfl rfl (does_callk rfl callok157 rfl (slices_ContainsFunc_int64.calls (x0 := x0) (HM.rd hp0) h2504)) ?_
  rintro _ w2505 ⟨rfl, hn⟩
  replace HM : Mem w [] w2505 [] := HM.call hn
  refine ops_ex rfl (guard_none rfl) rfl rfl (ex_not rfl rfl) ?_
  refine ops_ex rfl (guard_none rfl) rfl rfl (ex_assign rfl rfl) ?_
  refine ops_nil ?_
  refine at_then ?_
  refine run_ret ?_
  have hR := Option.some.inj H
  subst hR
  exact at_ret1 rfl rfl ⟨_, rfl, rfl, HM⟩

def impl_isRising.l0 (x0 : List Int) : Nat → Int → Option (Bool ⊕ Unit)
  | 0, _ => none
  | k + 1, a2561 => (bif (decide (a2561 < (x0.length : Int))) then (chk (idxOk a2561 x0.length) (chk (idxOk (wrap64 (a2561 - 1)) x0.length) (bif (decide ((gt x0 a2561) ≤ (gt x0 (wrap64 (a2561 - 1))))) then some (.inl false) else impl_isRising.l0 x0 k (wrap64 (a2561 + 1))))) else some (.inr ()))
theorem impl_isRising.l0_z (x0 : List Int) (a2561 : Int) : impl_isRising.l0 x0 0 a2561 = none := rfl
theorem impl_isRising.l0_s (x0 : List Int) (k : Nat) (a2561 : Int) : impl_isRising.l0 x0 (k + 1) a2561 = (bif (decide (a2561 < (x0.length : Int))) then (chk (idxOk a2561 x0.length) (chk (idxOk (wrap64 (a2561 - 1)) x0.length) (bif (decide ((gt x0 a2561) ≤ (gt x0 (wrap64 (a2561 - 1))))) then some (.inl false) else impl_isRising.l0 x0 k (wrap64 (a2561 + 1))))) else some (.inr ())) := rfl
def impl_isRising.f (k : Nat) (x0 : List Int) : Option Bool := ((impl_isRising.l0 x0 k 1).bind fun o2553 => thn o2553 (fun r => some r) (fun _ => some true))
theorem impl_isRising.calls {k : Nat} {x0 : List Int} {p0 : Value} {w : World} (hp0 : RdS kInt w p0 x0) {r : Bool} (H : impl_isRising.f k x0 = some r) :
    Calls Try.prog 141 ([p0] : List Value).toArray w (fun e w_ => ∃ v, e = .returned v ∧ v = (.bool r) ∧ Mem w [] w_ []) := by
  have HM := Mem.start w
  refine calls_run (N := 20) Try.func141 rfl rfl rfl rfl ?_
  unfold impl_isRising.f at H
  refine run_seq ?_
  refine run_region rfl ?_
  refine ops_ex rfl (guard_none rfl) rfl rfl (ex_assign rfl rfl) ?_
  refine ops_nil ?_
  refine at_then ?_
  obtain ⟨o2553, ho2554, H⟩ := bind_some H
  refine run_mid (fun ρ_ w_ => Sum.inr () = o2553 ∧ ρ_ = [] ∧ Mem w [] w_ []) ?_ ?_
  · skip
    refine run_seq ?_
    refine run_region rfl ?_
    refine ops_ex rfl (guard_none rfl) rfl rfl (ex_assign rfl rfl) ?_
    refine ops_nil ?_
    refine at_then ?_
    refine run_block ?_
    refine run_loop (fun k_ ρ_ w_ => ∃ a2561 : Int, impl_isRising.l0 x0 k_ a2561 = some o2553 ∧ ρ_ = [(0, p0), (3, .int .i64 a2561)] ∧ Mem w [] w_ []) k (ρ1 := [(0, p0), (3, .int .i64 1)]) ⟨_, ho2554, rfl, HM⟩ (Sub.cons rfl (Sub.cons rfl Sub.nil)) ?_
    clear HM ho2554
    rintro k2568 _ w2569 ⟨a2561, ho2554, rfl, HM⟩
    obtain _ | k2568 := k2568
    · exact nomatch ((impl_isRising.l0_z x0 a2561).symm.trans ho2554)
    replace ho2554 := (impl_isRising.l0_s x0 k2568 a2561).symm.trans ho2554
    refine run_seq ?_
    refine run_seq ?_
    refine run_region rfl ?_
    refine ops_ex rfl (guard_none rfl) rfl rfl (ex_move rfl rfl) ?_
    refine ops_ex rfl (guard_none rfl) rfl rfl (ex_move rfl rfl) ?_
    refine ops_ex rfl (guard_none rfl) rfl rfl (ex_len (d := kInt) (xs := x0) rfl rfl Try.underlying39 hp0) ?_
    refine ops_ex rfl (guard_none rfl) rfl rfl (ex_lss rfl rfl rfl) ?_
    refine ops_nil ?_
    refine at_then ?_
    refine run_cond (b := (decide (a2561 < (x0.length : Int)))) rfl (fun hb2570 => ?_) (fun hb2570 => ?_)
    · replace ho2554 := cond_t hb2570 ho2554
      refine run_skip ?_
      refine at_then ?_
      refine run_seq ?_
      refine run_block ?_
      refine run_seq ?_
      obtain ⟨e2571, ho2554⟩ := chk_some ho2554
      obtain ⟨e2573, ho2554⟩ := chk_some ho2554
      refine run_drawf (fun w_ => Mem w [] w_ []) [(0, true), (1, true), (2, true), (3, true), (4, true), (5, true), (6, true), (7, true), (8, true), (9, true)] mixed rfl rfl (by kernel_rfl) ?_
      replace HM := HM.grow (fr_drew _)
      have hS := Mem.suf (M := []) HM
      refine drwp_take rfl (guard_none rfl) rfl rfl (fun w_ hS_ => (ex_move rfl rfl)) hS ?_
      refine drwp_take rfl (guard_none rfl) rfl rfl (fun w_ hS_ => (ex_move rfl rfl)) hS ?_
      have hc2572 : CellsAt _ (sb p0) (so p0 + (a2561).toNat * 1) [(.int .i64 (gt x0 a2561))] := rd_plain hp0 e2571
      refine drwp_take rfl (guard_none rfl) rfl rfl (fun w_ hS_ => (ex_indexAddr (d := kInt) rfl rfl rfl Try.underlying39 tsz2 hp0 (idx_lo e2571) (idx_hi e2571))) hS ?_
      refine drwp_take rfl (guard_none rfl) rfl rfl (fun w_ hS_ => (ex_load1 rfl rfl Try.underlying2 rfl ((hS_.at_ hc2572) 0 _ rfl))) hS ?_
      refine drwp_take rfl (guard_none rfl) rfl rfl (fun w_ hS_ => (ex_move rfl rfl)) hS ?_
      refine drwp_take rfl (guard_none rfl) rfl rfl (fun w_ hS_ => (ex_move rfl rfl)) hS ?_
      refine drwp_take rfl (guard_none rfl) rfl rfl (fun w_ hS_ => (ex_sub rfl rfl rfl)) hS ?_
      have hc2574 : CellsAt _ (sb p0) (so p0 + (wrap64 (a2561 - 1)).toNat * 1) [(.int .i64 (gt x0 (wrap64 (a2561 - 1))))] := rd_plain hp0 e2573
      refine drwp_take rfl (guard_none rfl) rfl rfl (fun w_ hS_ => (ex_indexAddr (d := kInt) rfl rfl rfl Try.underlying39 tsz2 hp0 (idx_lo e2573) (idx_hi e2573))) hS ?_
      refine drwp_take rfl (guard_none rfl) rfl rfl (fun w_ hS_ => (ex_load1 rfl rfl Try.underlying2 rfl ((hS_.at_ hc2574) 0 _ rfl))) hS ?_
      refine drwp_take rfl (guard_none rfl) rfl rfl (fun w_ hS_ => (ex_leq rfl rfl rfl)) hS ?_
      refine drwp_done ?_
      refine at_then ?_
      refine run_cond (b := (decide ((gt x0 a2561) ≤ (gt x0 (wrap64 (a2561 - 1)))))) rfl (fun hb2575 => ?_) (fun hb2575 => ?_)
      · replace ho2554 := cond_t hb2575 ho2554
        refine run_seq ?_
        refine run_region rfl ?_
        refine ops_ex rfl (guard_none rfl) rfl rfl (ex_assign rfl rfl) ?_
        refine ops_nil ?_
        refine at_then ?_
        refine run_ret ?_
        refine at_block_ret ?_
        refine at_then_ret ?_
        refine at_then_ret ?_
        refine at_block_ret ?_
        refine at_then_ret ?_
        have hR := Option.some.inj ho2554
        subst hR
        have hT := thn_inl H
        have hR := Option.some.inj hT
        subst hR
        exact at_ret1 rfl rfl ⟨_, rfl, rfl, HM⟩
      · replace ho2554 := cond_f hb2575 ho2554
        refine run_skip ?_
        refine at_block ?_
        refine at_then ?_
        refine run_region rfl ?_
        refine ops_ex rfl (guard_none rfl) rfl rfl (ex_move rfl rfl) ?_
        refine ops_ex rfl (guard_none rfl) rfl rfl (ex_add rfl rfl rfl) ?_
        refine ops_ex rfl (guard_none rfl) rfl rfl (ex_assign rfl rfl) ?_
        refine ops_nil ?_
        exact at_again k2568 (ρ1 := [(0, p0), (3, .int .i64 (wrap64 (a2561 + 1)))]) (Nat.lt_succ_self _) ⟨_, ho2554, rfl, HM⟩ (Sub.cons rfl (Sub.cons rfl Sub.nil))
    · replace ho2554 := cond_f hb2570 ho2554
      refine run_exit ?_
      refine at_then_exit ?_
      refine at_then_exit ?_
      refine at_block_exit ?_
      exact at_mid (ρ' := []) ⟨(Option.some.inj ho2554), rfl, HM⟩ Sub.nil
  · rintro _ w2576 ⟨rfl, rfl, HM⟩
    replace H := (thn_inr H)
    refine run_seq ?_
    refine run_region rfl ?_
    refine ops_ex rfl (guard_none rfl) rfl rfl (ex_assign rfl rfl) ?_
    refine ops_nil ?_
    refine at_then ?_
    refine run_ret ?_
    have hR := Option.some.inj H
    subst hR
    exact at_ret1 rfl rfl ⟨_, rfl, rfl, HM⟩

def impl_RuleFault.f (k : Nat) (x0 : Rule) : Option Int := ((impl_within.f k (x0.fKeys.length : Int) 1 3).bind fun t2584 => (bif !t2584 then some 2 else ((impl_areKeys.f k x0.fKeys).bind fun t2588 => ((bif (!(!t2588)) then impl_within.f k x0.fNeed 1 (x0.fKeys.length : Int) else some default).bind fun t2590 => ((bif (!((!t2588) || (!t2590))) then impl_isHeight.f k x0.fAfter else some default).bind fun t2592 => (bif (((!t2588) || (!t2590)) || (!t2592)) then some 3 else ((impl_isRising.f k x0.fKeys).bind fun t2604 => (bif !t2604 then some 1 else some 0))))))))
theorem impl_RuleFault.calls {k : Nat} {x0 : Rule} {p0_0 : Value} {w : World} (hp0_0 : RdS kInt w p0_0 x0.fKeys) {r : Int} (H : impl_RuleFault.f k x0 = some r) :
    Calls Try.prog 90 ([.agg #[p0_0, (.int .i64 x0.fNeed), (.int .i64 x0.fAfter)]] : List Value).toArray w (fun e w_ => ∃ v, e = .returned v ∧ v = (.int .i64 r) ∧ Mem w [] w_ []) := by
  have HM := Mem.start w
  refine calls_run (N := 34) Try.func90 rfl rfl rfl rfl ?_
  unfold impl_RuleFault.f at H
  refine run_seq ?_
  refine run_region rfl ?_
  refine ops_does rfl (guard_none rfl) rfl rfl (does_box (cs := [p0_0, .int .i64 x0.fNeed, .int .i64 x0.fAfter]) rfl rfl rfl HM) ?_
  rintro _ w2583 ⟨b2580, rfl, HM⟩
  refine ops_ex rfl (guard_none rfl) rfl rfl (ex_assign rfl rfl) ?_
  refine ops_nil ?_
  refine at_then ?_
  refine run_seq ?_
  refine run_region rfl ?_
  refine ops_ex rfl (guard_none rfl) rfl rfl (ex_fieldAddr (off' := 0) rfl rfl Try.underlying67 rfl tsz39 rfl) ?_
  refine ops_ex rfl (guard_none rfl) rfl rfl (ex_load1 rfl rfl Try.underlying39 rfl ((HM.box_at 0 rfl) 0 _ rfl)) ?_
  refine ops_ex rfl (guard_none rfl) rfl rfl (ex_len (d := kInt) (xs := x0.fKeys) rfl rfl Try.underlying39 hp0_0) ?_
  refine ops_ex rfl (guard_none rfl) rfl rfl (ex_assign rfl rfl) ?_
  refine ops_nil ?_
  refine at_then ?_
  refine run_seq ?_
  refine run_block ?_
  refine run_seq ?_
  obtain ⟨t2584, h2585, H⟩ := bind_some H
  refine run_region rfl ?_
  refine ops_ex rfl (guard_none rfl) rfl rfl (ex_move rfl rfl) ?_
  refine ops_does rfl (guard_none rfl) rfl rfl (does_callk rfl callok89 rfl (impl_within.calls (x0 := (x0.fKeys.length : Int)) (x1 := 1) (x2 := 3) h2585)) ?_
  rintro _ w2586 ⟨rfl, hn⟩
  replace HM : Mem w [] w2586 [box b2580 67 [p0_0, .int .i64 x0.fNeed, .int .i64 x0.fAfter]] := HM.call hn
  refine ops_ex rfl (guard_none rfl) rfl rfl (ex_not rfl rfl) ?_
  refine ops_ex rfl (guard_none rfl) rfl rfl (ex_assign rfl rfl) ?_
  refine ops_nil ?_
  refine at_then ?_
  refine run_cond (b := !t2584) rfl (fun hb2587 => ?_) (fun hb2587 => ?_)
  · replace H := cond_t hb2587 H
    refine run_seq ?_
    refine run_region rfl ?_
    refine ops_ex rfl (guard_none rfl) rfl rfl (ex_assign rfl rfl) ?_
    refine ops_nil ?_
    refine at_then ?_
    refine run_ret ?_
    refine at_block_ret ?_
    refine at_then_ret ?_
    replace HM := (HM.front 0 rfl rfl).drop
    have hR := Option.some.inj H
    subst hR
    exact at_ret1 rfl rfl ⟨_, rfl, rfl, HM⟩
  · replace H := cond_f hb2587 H
    refine run_seq ?_
    obtain ⟨t2588, h2589, H⟩ := bind_some H
    obtain ⟨t2590, h2591, H⟩ := bind_some H
    obtain ⟨t2592, h2593, H⟩ := bind_some H
    refine run_meet (fun ρ_ w_ => ρ_ = [(1, .pointer (some ⟨b2580, 0, none⟩)), (11, .bool (((!t2588) || (!t2590)) || (!t2592)))] ∧ Mem w [] w_ [box b2580 67 [p0_0, .int .i64 x0.fNeed, .int .i64 x0.fAfter]]) ?_ ?_
    · skip
      refine run_region rfl ?_
      refine ops_ex rfl (guard_none rfl) rfl rfl (ex_fieldAddr (off' := 0) rfl rfl Try.underlying67 rfl tsz39 rfl) ?_
      refine ops_ex rfl (guard_none rfl) rfl rfl (ex_load1 rfl rfl Try.underlying39 rfl ((HM.box_at 0 rfl) 0 _ rfl)) ?_
      refine ops_does rfl (guard_none rfl) rfl rfl (does_callk rfl callok140 rfl (impl_areKeys.calls (x0 := x0.fKeys) (HM.rd hp0_0) h2589)) ?_
      rintro _ w2594 ⟨rfl, hn⟩
      replace HM : Mem w [] w2594 [box b2580 67 [p0_0, .int .i64 x0.fNeed, .int .i64 x0.fAfter]] := HM.call hn
      refine ops_ex rfl (guard_none rfl) rfl rfl (ex_not rfl rfl) ?_
      refine ops_ex rfl (guard_none rfl) rfl rfl (ex_move rfl rfl) ?_
      refine bool_cases (!t2588) (fun hg2595 => ?_) (fun hg2595 => ?_)
      · skip
        refine ops_off rfl (guard_off rfl rfl rfl hg2595) rfl rfl ?_
        refine ops_off rfl (guard_off rfl rfl rfl hg2595) rfl rfl ?_
        refine ops_off rfl (guard_off rfl rfl rfl hg2595) rfl rfl ?_
        refine ops_off rfl (guard_off rfl rfl rfl hg2595) rfl rfl ?_
        refine ops_off rfl (guard_off rfl rfl rfl hg2595) rfl rfl ?_
        have hg2596 : ((!t2588) || (!t2590)) = true := by simp only [hg2595, Bool.and_true, Bool.true_and, Bool.and_false, Bool.false_and, Bool.or_true, Bool.true_or, Bool.or_false, Bool.false_or, Bool.not_true, Bool.not_false, Bool.not_not]
        refine ops_ex (v := .bool ((!t2588) || (!t2590))) rfl (guard_none rfl) rfl rfl (ex_por_t rfl rfl hg2595) ?_
        refine ops_ex rfl (guard_none rfl) rfl rfl (ex_move rfl rfl) ?_
        refine ops_off rfl (guard_off rfl rfl rfl hg2596) rfl rfl ?_
        refine ops_off rfl (guard_off rfl rfl rfl hg2596) rfl rfl ?_
        refine ops_off rfl (guard_off rfl rfl rfl hg2596) rfl rfl ?_
        refine ops_off rfl (guard_off rfl rfl rfl hg2596) rfl rfl ?_
        have hg2597 : (((!t2588) || (!t2590)) || (!t2592)) = true := by simp only [hg2596, Bool.and_true, Bool.true_and, Bool.and_false, Bool.false_and, Bool.or_true, Bool.true_or, Bool.or_false, Bool.false_or, Bool.not_true, Bool.not_false, Bool.not_not]
        refine ops_ex (v := .bool (((!t2588) || (!t2590)) || (!t2592))) rfl (guard_none rfl) rfl rfl (ex_por_t rfl rfl hg2596) ?_
        refine ops_ex rfl (guard_none rfl) rfl rfl (ex_assign rfl rfl) ?_
        refine ops_nil ?_
        exact at_meet [(1, .pointer (some ⟨b2580, 0, none⟩)), (11, .bool (((!t2588) || (!t2590)) || (!t2592)))] ⟨rfl, HM⟩ (Sub.cons rfl (Sub.cons rfl Sub.nil))
      · skip
        refine ops_ex rfl (guard_on rfl rfl rfl hg2595) rfl rfl (ex_fieldAddr (off' := 1) rfl rfl Try.underlying67 rfl tsz2 rfl) ?_
        refine ops_ex rfl (guard_on rfl rfl rfl hg2595) rfl rfl (ex_load1 rfl rfl Try.underlying2 rfl ((HM.box_at 0 rfl) 1 _ rfl)) ?_
        refine ops_ex rfl (guard_on rfl rfl rfl hg2595) rfl rfl (ex_move rfl rfl) ?_
        refine ops_does rfl (guard_on rfl rfl rfl hg2595) rfl rfl (does_callk rfl callok89 rfl (impl_within.calls (x0 := x0.fNeed) (x1 := 1) (x2 := (x0.fKeys.length : Int)) (cond_t (not_mk hg2595) h2591))) ?_
        rintro _ w2598 ⟨rfl, hn⟩
        replace HM : Mem w [] w2598 [box b2580 67 [p0_0, .int .i64 x0.fNeed, .int .i64 x0.fAfter]] := HM.call hn
        refine ops_ex rfl (guard_on rfl rfl rfl hg2595) rfl rfl (ex_not rfl rfl) ?_
        refine ops_ex (v := .bool ((!t2588) || (!t2590))) rfl (guard_none rfl) rfl rfl (ex_por_f rfl rfl hg2595 rfl) ?_
        refine ops_ex rfl (guard_none rfl) rfl rfl (ex_move rfl rfl) ?_
        refine bool_cases ((!t2588) || (!t2590)) (fun hg2599 => ?_) (fun hg2599 => ?_)
        · skip
          refine ops_off rfl (guard_off rfl rfl rfl hg2599) rfl rfl ?_
          refine ops_off rfl (guard_off rfl rfl rfl hg2599) rfl rfl ?_
          refine ops_off rfl (guard_off rfl rfl rfl hg2599) rfl rfl ?_
          refine ops_off rfl (guard_off rfl rfl rfl hg2599) rfl rfl ?_
          have hg2600 : (((!t2588) || (!t2590)) || (!t2592)) = true := by simp only [hg2599, Bool.and_true, Bool.true_and, Bool.and_false, Bool.false_and, Bool.or_true, Bool.true_or, Bool.or_false, Bool.false_or, Bool.not_true, Bool.not_false, Bool.not_not]
          refine ops_ex (v := .bool (((!t2588) || (!t2590)) || (!t2592))) rfl (guard_none rfl) rfl rfl (ex_por_t rfl rfl hg2599) ?_
          refine ops_ex rfl (guard_none rfl) rfl rfl (ex_assign rfl rfl) ?_
          refine ops_nil ?_
          exact at_meet [(1, .pointer (some ⟨b2580, 0, none⟩)), (11, .bool (((!t2588) || (!t2590)) || (!t2592)))] ⟨rfl, HM⟩ (Sub.cons rfl (Sub.cons rfl Sub.nil))
        · skip
          refine ops_ex rfl (guard_on rfl rfl rfl hg2599) rfl rfl (ex_fieldAddr (off' := 2) rfl rfl Try.underlying67 rfl tsz2 rfl) ?_
          refine ops_ex rfl (guard_on rfl rfl rfl hg2599) rfl rfl (ex_load1 rfl rfl Try.underlying2 rfl ((HM.box_at 0 rfl) 2 _ rfl)) ?_
          refine ops_does rfl (guard_on rfl rfl rfl hg2599) rfl rfl (does_callk rfl callok88 rfl (impl_isHeight.calls (x0 := x0.fAfter) (cond_t (not_mk hg2599) h2593))) ?_
          rintro _ w2601 ⟨rfl, hn⟩
          replace HM : Mem w [] w2601 [box b2580 67 [p0_0, .int .i64 x0.fNeed, .int .i64 x0.fAfter]] := HM.call hn
          refine ops_ex rfl (guard_on rfl rfl rfl hg2599) rfl rfl (ex_not rfl rfl) ?_
          refine ops_ex (v := .bool (((!t2588) || (!t2590)) || (!t2592))) rfl (guard_none rfl) rfl rfl (ex_por_f rfl rfl hg2599 rfl) ?_
          refine ops_ex rfl (guard_none rfl) rfl rfl (ex_assign rfl rfl) ?_
          refine ops_nil ?_
          exact at_meet [(1, .pointer (some ⟨b2580, 0, none⟩)), (11, .bool (((!t2588) || (!t2590)) || (!t2592)))] ⟨rfl, HM⟩ (Sub.cons rfl (Sub.cons rfl Sub.nil))
    · rintro _ w2602 ⟨rfl, HM⟩
      refine at_then ?_
      refine run_cond (b := (((!t2588) || (!t2590)) || (!t2592))) rfl (fun hb2603 => ?_) (fun hb2603 => ?_)
      · replace H := cond_t hb2603 H
        refine run_seq ?_
        refine run_region rfl ?_
        refine ops_ex rfl (guard_none rfl) rfl rfl (ex_assign rfl rfl) ?_
        refine ops_nil ?_
        refine at_then ?_
        refine run_ret ?_
        refine at_block_ret ?_
        refine at_then_ret ?_
        replace HM := (HM.front 0 rfl rfl).drop
        have hR := Option.some.inj H
        subst hR
        exact at_ret1 rfl rfl ⟨_, rfl, rfl, HM⟩
      · replace H := cond_f hb2603 H
        refine run_seq ?_
        obtain ⟨t2604, h2605, H⟩ := bind_some H
        refine run_region rfl ?_
        refine ops_ex rfl (guard_none rfl) rfl rfl (ex_fieldAddr (off' := 0) rfl rfl Try.underlying67 rfl tsz39 rfl) ?_
        refine ops_ex rfl (guard_none rfl) rfl rfl (ex_load1 rfl rfl Try.underlying39 rfl ((HM.box_at 0 rfl) 0 _ rfl)) ?_
        refine ops_does rfl (guard_none rfl) rfl rfl (does_callk rfl callok141 rfl (impl_isRising.calls (x0 := x0.fKeys) (HM.rd hp0_0) h2605)) ?_
        rintro _ w2606 ⟨rfl, hn⟩
        replace HM : Mem w [] w2606 [box b2580 67 [p0_0, .int .i64 x0.fNeed, .int .i64 x0.fAfter]] := HM.call hn
        refine ops_ex rfl (guard_none rfl) rfl rfl (ex_not rfl rfl) ?_
        refine ops_ex rfl (guard_none rfl) rfl rfl (ex_assign rfl rfl) ?_
        refine ops_nil ?_
        refine at_then ?_
        refine run_cond (b := !t2604) rfl (fun hb2607 => ?_) (fun hb2607 => ?_)
        · replace H := cond_t hb2607 H
          refine run_seq ?_
          refine run_region rfl ?_
          refine ops_ex rfl (guard_none rfl) rfl rfl (ex_assign rfl rfl) ?_
          refine ops_nil ?_
          refine at_then ?_
          refine run_ret ?_
          refine at_block_ret ?_
          refine at_then_ret ?_
          replace HM := (HM.front 0 rfl rfl).drop
          have hR := Option.some.inj H
          subst hR
          exact at_ret1 rfl rfl ⟨_, rfl, rfl, HM⟩
        · replace H := cond_f hb2607 H
          refine run_skip ?_
          refine at_block ?_
          refine at_then ?_
          refine run_seq ?_
          refine run_region rfl ?_
          refine ops_ex rfl (guard_none rfl) rfl rfl (ex_assign rfl rfl) ?_
          refine ops_nil ?_
          refine at_then ?_
          refine run_ret ?_
          replace HM := (HM.front 0 rfl rfl).drop
          have hR := Option.some.inj H
          subst hR
          exact at_ret1 rfl rfl ⟨_, rfl, rfl, HM⟩

def cmp_isNaN_int64.f (k : Nat) (x0 : Int) : Option Bool := some (x0 != x0)
theorem cmp_isNaN_int64.calls {k : Nat} {x0 : Int}  {w : World}  {r : Bool} (H : cmp_isNaN_int64.f k x0 = some r) :
    Calls Try.prog 151 ([.int .i64 x0] : List Value).toArray w (fun e w_ => ∃ v, e = .returned v ∧ v = (.bool r) ∧ Mem w [] w_ []) := by
  have HM := Mem.start w
  refine calls_run (N := 6) Try.func151 rfl rfl rfl rfl ?_
  unfold cmp_isNaN_int64.f at H
  refine run_seq ?_
  refine run_region rfl ?_
  refine ops_ex rfl (guard_none rfl) rfl rfl (ex_assign rfl rfl) ?_
  refine ops_nil ?_
  refine at_then ?_
  refine run_seq ?_
  refine run_region rfl ?_
  refine ops_ex rfl (guard_none rfl) rfl rfl (ex_move rfl rfl) ?_
  refine ops_ex rfl (guard_none rfl) rfl rfl (ex_move rfl rfl) ?_
  refine ops_ex rfl (guard_none rfl) rfl rfl (ex_neq rfl rfl rfl) ?_
  refine ops_ex rfl (guard_none rfl) rfl rfl (ex_assign rfl rfl) ?_
  refine ops_nil ?_
  refine at_then ?_
  refine run_ret ?_
  have hR := Option.some.inj H
  subst hR
  exact at_ret1 rfl rfl ⟨_, rfl, rfl, HM⟩

def cmp_Compare_int64.f (k : Nat) (x0 : Int) (x1 : Int) : Option Int := ((cmp_isNaN_int64.f k x0).bind fun t2637 => ((cmp_isNaN_int64.f k x1).bind fun t2640 => (bif t2637 then (bif t2640 then some 0 else some (-1)) else (bif t2640 then some 1 else (bif (decide (x0 < x1)) then some (-1) else (bif (decide (x1 < x0)) then some 1 else some 0))))))
theorem cmp_Compare_int64.calls {k : Nat} {x0 : Int} {x1 : Int}  {w : World}  {r : Int} (H : cmp_Compare_int64.f k x0 x1 = some r) :
    Calls Try.prog 123 ([.int .i64 x0, .int .i64 x1] : List Value).toArray w (fun e w_ => ∃ v, e = .returned v ∧ v = (.int .i64 r) ∧ Mem w [] w_ []) := by
  have HM := Mem.start w
  refine calls_run (N := 20) Try.func123 rfl rfl rfl rfl ?_
  unfold cmp_Compare_int64.f at H
  refine run_seq ?_
  refine run_region rfl ?_
  refine ops_ex rfl (guard_none rfl) rfl rfl (ex_assign rfl rfl) ?_
  refine ops_nil ?_
  refine at_then ?_
  refine run_seq ?_
  obtain ⟨t2637, h2638, H⟩ := bind_some H
  refine run_region rfl ?_
  refine ops_ex rfl (guard_none rfl) rfl rfl (ex_move rfl rfl) ?_
  refine ops_does rfl (guard_none rfl) rfl rfl (does_callk rfl callok151 rfl (cmp_isNaN_int64.calls (x0 := x0) h2638)) ?_
  rintro _ w2639 ⟨rfl, hn⟩
  replace HM : Mem w [] w2639 [] := HM.call hn
  refine ops_ex rfl (guard_none rfl) rfl rfl (ex_assign rfl rfl) ?_
  refine ops_nil ?_
  refine at_then ?_
  refine run_seq ?_
  obtain ⟨t2640, h2641, H⟩ := bind_some H
  refine run_region rfl ?_
  refine ops_ex rfl (guard_none rfl) rfl rfl (ex_move rfl rfl) ?_
  refine ops_does rfl (guard_none rfl) rfl rfl (does_callk rfl callok151 rfl (cmp_isNaN_int64.calls (x0 := x1) h2641)) ?_
  rintro _ w2642 ⟨rfl, hn⟩
  replace HM : Mem w [] w2642 [] := HM.call hn
  refine ops_ex rfl (guard_none rfl) rfl rfl (ex_assign rfl rfl) ?_
  refine ops_nil ?_
  refine at_then ?_
  refine run_seq ?_
  refine run_seq ?_
  refine run_region rfl ?_
  refine ops_ex rfl (guard_none rfl) rfl rfl (ex_move rfl rfl) ?_
  refine ops_nil ?_
  refine at_then ?_
  refine run_cond (b := t2637) rfl (fun hb2645 => ?_) (fun hb2645 => ?_)
  · replace H := cond_t hb2645 H
    refine run_seq ?_
    refine run_seq ?_
    refine run_region rfl ?_
    refine ops_ex rfl (guard_none rfl) rfl rfl (ex_move rfl rfl) ?_
    refine ops_nil ?_
    refine at_then ?_
    refine run_cond (b := t2640) rfl (fun hb2646 => ?_) (fun hb2646 => ?_)
    · replace H := cond_t hb2646 H
      refine run_seq ?_
      refine run_region rfl ?_
      refine ops_ex rfl (guard_none rfl) rfl rfl (ex_assign rfl rfl) ?_
      refine ops_nil ?_
      refine at_then ?_
      refine run_ret ?_
      refine at_then_ret ?_
      refine at_then_ret ?_
      have hR := Option.some.inj H
      subst hR
      exact at_ret1 rfl rfl ⟨_, rfl, rfl, HM⟩
    · replace H := cond_f hb2646 H
      refine run_skip ?_
      refine at_then ?_
      refine run_seq ?_
      refine run_region rfl ?_
      refine ops_ex rfl (guard_none rfl) rfl rfl (ex_assign rfl rfl) ?_
      refine ops_nil ?_
      refine at_then ?_
      refine run_ret ?_
      refine at_then_ret ?_
      have hR := Option.some.inj H
      subst hR
      exact at_ret1 rfl rfl ⟨_, rfl, rfl, HM⟩
  · replace H := cond_f hb2645 H
    refine run_skip ?_
    refine at_then ?_
    refine run_seq ?_
    refine run_seq ?_
    refine run_region rfl ?_
    refine ops_ex rfl (guard_none rfl) rfl rfl (ex_move rfl rfl) ?_
    refine ops_nil ?_
    refine at_then ?_
    refine run_cond (b := t2640) rfl (fun hb2648 => ?_) (fun hb2648 => ?_)
    · replace H := cond_t hb2648 H
      refine run_seq ?_
      refine run_region rfl ?_
      refine ops_ex rfl (guard_none rfl) rfl rfl (ex_assign rfl rfl) ?_
      refine ops_nil ?_
      refine at_then ?_
      refine run_ret ?_
      refine at_then_ret ?_
      have hR := Option.some.inj H
      subst hR
      exact at_ret1 rfl rfl ⟨_, rfl, rfl, HM⟩
    · replace H := cond_f hb2648 H
      refine run_skip ?_
      refine at_then ?_
      refine run_seq ?_
      refine run_seq ?_
      refine run_region rfl ?_
      refine ops_ex rfl (guard_none rfl) rfl rfl (ex_move rfl rfl) ?_
      refine ops_ex rfl (guard_none rfl) rfl rfl (ex_move rfl rfl) ?_
      refine ops_ex rfl (guard_none rfl) rfl rfl (ex_lss rfl rfl rfl) ?_
      refine ops_nil ?_
      refine at_then ?_
      refine run_cond (b := (decide (x0 < x1))) rfl (fun hb2650 => ?_) (fun hb2650 => ?_)
      · replace H := cond_t hb2650 H
        refine run_seq ?_
        refine run_region rfl ?_
        refine ops_ex rfl (guard_none rfl) rfl rfl (ex_assign rfl rfl) ?_
        refine ops_nil ?_
        refine at_then ?_
        refine run_ret ?_
        refine at_then_ret ?_
        have hR := Option.some.inj H
        subst hR
        exact at_ret1 rfl rfl ⟨_, rfl, rfl, HM⟩
      · replace H := cond_f hb2650 H
        refine run_skip ?_
        refine at_then ?_
        refine run_seq ?_
        refine run_seq ?_
        refine run_region rfl ?_
        refine ops_ex rfl (guard_none rfl) rfl rfl (ex_move rfl rfl) ?_
        refine ops_ex rfl (guard_none rfl) rfl rfl (ex_move rfl rfl) ?_
        refine ops_ex rfl (guard_none rfl) rfl rfl (ex_gtr rfl rfl rfl) ?_
        refine ops_nil ?_
        refine at_then ?_
        refine run_cond (b := (decide (x1 < x0))) rfl (fun hb2651 => ?_) (fun hb2651 => ?_)
        · replace H := cond_t hb2651 H
          refine run_seq ?_
          refine run_region rfl ?_
          refine ops_ex rfl (guard_none rfl) rfl rfl (ex_assign rfl rfl) ?_
          refine ops_nil ?_
          refine at_then ?_
          refine run_ret ?_
          refine at_then_ret ?_
          have hR := Option.some.inj H
          subst hR
          exact at_ret1 rfl rfl ⟨_, rfl, rfl, HM⟩
        · replace H := cond_f hb2651 H
          refine run_skip ?_
          refine at_then ?_
          refine run_seq ?_
          refine run_region rfl ?_
          refine ops_ex rfl (guard_none rfl) rfl rfl (ex_assign rfl rfl) ?_
          refine ops_nil ?_
          refine at_then ?_
          refine run_ret ?_
          have hR := Option.some.inj H
          subst hR
          exact at_ret1 rfl rfl ⟨_, rfl, rfl, HM⟩

def cmp_Or_int.l0 (x0 : List Int) : Nat → Int → Option (Int ⊕ Unit)
  | 0, _ => none
  | k + 1, a2693 => (bif (decide (a2693 < (x0.length : Int))) then (chk (idxOk a2693 x0.length) (bif ((gt x0 a2693) != 0) then some (.inl (gt x0 a2693)) else cmp_Or_int.l0 x0 k (wrap64 (a2693 + 1)))) else some (.inr ()))
theorem cmp_Or_int.l0_z (x0 : List Int) (a2693 : Int) : cmp_Or_int.l0 x0 0 a2693 = none := rfl
theorem cmp_Or_int.l0_s (x0 : List Int) (k : Nat) (a2693 : Int) : cmp_Or_int.l0 x0 (k + 1) a2693 = (bif (decide (a2693 < (x0.length : Int))) then (chk (idxOk a2693 x0.length) (bif ((gt x0 a2693) != 0) then some (.inl (gt x0 a2693)) else cmp_Or_int.l0 x0 k (wrap64 (a2693 + 1)))) else some (.inr ())) := rfl
def cmp_Or_int.f (k : Nat) (x0 : List Int) : Option Int := ((cmp_Or_int.l0 x0 k 0).bind fun o2687 => thn o2687 (fun r => some r) (fun _ => some 0))
theorem cmp_Or_int.calls {k : Nat} {x0 : List Int} {p0 : Value} {w : World} (hp0 : RdS kInt w p0 x0) {r : Int} (H : cmp_Or_int.f k x0 = some r) :
    Calls Try.prog 142 ([p0] : List Value).toArray w (fun e w_ => ∃ v, e = .returned v ∧ v = (.int .i64 r) ∧ Mem w [] w_ []) := by
  have HM := Mem.start w
  refine calls_run (N := 18) Try.func142 rfl rfl rfl rfl ?_
  unfold cmp_Or_int.f at H
  refine run_seq ?_
  refine run_region rfl ?_
  refine ops_ex rfl (guard_none rfl) rfl rfl (ex_assign rfl rfl) ?_
  refine ops_nil ?_
  refine at_then ?_
  refine run_seq ?_
  refine run_region rfl ?_
  refine ops_ex rfl (guard_none rfl) rfl rfl (ex_assign rfl rfl) ?_
  refine ops_nil ?_
  refine at_then ?_
  obtain ⟨o2687, ho2688, H⟩ := bind_some H
  refine run_mid (fun ρ_ w_ => Sum.inr () = o2687 ∧ ρ_ = [(3, .int .i64 0)] ∧ Mem w [] w_ []) ?_ ?_
  · skip
    refine run_seq ?_
    refine run_region rfl ?_
    refine ops_ex rfl (guard_none rfl) rfl rfl (ex_move rfl rfl) ?_
    refine ops_ex rfl (guard_none rfl) rfl rfl (ex_len (d := kInt) (xs := x0) rfl rfl Try.underlying188 hp0) ?_
    refine ops_ex rfl (guard_none rfl) rfl rfl (ex_move rfl rfl) ?_
    refine ops_nil ?_
    refine at_then ?_
    refine run_block ?_
    refine run_loop (fun k_ ρ_ w_ => ∃ a2693 : Int, cmp_Or_int.l0 x0 k_ a2693 = some o2687 ∧ ρ_ = [(3, .int .i64 0), (6, p0), (7, .int .i64 (x0.length : Int)), (8, .int .i64 a2693)] ∧ Mem w [] w_ []) k (ρ1 := [(3, .int .i64 0), (6, p0), (7, .int .i64 (x0.length : Int)), (8, .int .i64 0)]) ⟨_, ho2688, rfl, HM⟩ (Sub.cons rfl (Sub.cons rfl (Sub.cons rfl (Sub.cons rfl Sub.nil)))) ?_
    clear HM ho2688
    rintro k2698 _ w2699 ⟨a2693, ho2688, rfl, HM⟩
    obtain _ | k2698 := k2698
    · exact nomatch ((cmp_Or_int.l0_z x0 a2693).symm.trans ho2688)
    replace ho2688 := (cmp_Or_int.l0_s x0 k2698 a2693).symm.trans ho2688
    refine run_seq ?_
    refine run_region rfl ?_
    refine ops_ex rfl (guard_none rfl) rfl rfl (ex_lss rfl rfl rfl) ?_
    refine ops_nil ?_
    refine at_then ?_
    refine run_seq ?_
    refine run_cond (b := (decide (a2693 < (x0.length : Int)))) rfl (fun hb2700 => ?_) (fun hb2700 => ?_)
    · replace ho2688 := cond_t hb2700 ho2688
      refine run_skip ?_
      refine at_then ?_
      refine run_seq ?_
      refine run_block ?_
      refine run_seq ?_
      obtain ⟨e2701, ho2688⟩ := chk_some ho2688
      refine run_region rfl ?_
      have hc2702 : CellsAt _ (sb p0) (so p0 + (a2693).toNat * 1) [(.int .i64 (gt x0 a2693))] := rd_plain hp0 e2701
      refine ops_ex rfl (guard_none rfl) rfl rfl (ex_indexAddr (d := kInt) rfl rfl rfl Try.underlying188 tsz3 hp0 (idx_lo e2701) (idx_hi e2701)) ?_
      refine ops_ex rfl (guard_none rfl) rfl rfl (ex_load1 rfl rfl Try.underlying3 rfl ((HM.at_ hc2702) 0 _ rfl)) ?_
      refine ops_ex rfl (guard_none rfl) rfl rfl (ex_assign rfl rfl) ?_
      refine ops_nil ?_
      refine at_then ?_
      refine run_seq ?_
      refine run_region rfl ?_
      refine ops_ex rfl (guard_none rfl) rfl rfl (ex_move rfl rfl) ?_
      refine ops_ex rfl (guard_none rfl) rfl rfl (ex_move rfl rfl) ?_
      refine ops_ex rfl (guard_none rfl) rfl rfl (ex_neq rfl rfl rfl) ?_
      refine ops_nil ?_
      refine at_then ?_
      refine run_cond (b := ((gt x0 a2693) != 0)) rfl (fun hb2703 => ?_) (fun hb2703 => ?_)
      · replace ho2688 := cond_t hb2703 ho2688
        refine run_seq ?_
        refine run_region rfl ?_
        refine ops_ex rfl (guard_none rfl) rfl rfl (ex_move rfl rfl) ?_
        refine ops_ex rfl (guard_none rfl) rfl rfl (ex_assign rfl rfl) ?_
        refine ops_nil ?_
        refine at_then ?_
        refine run_ret ?_
        refine at_block_ret ?_
        refine at_then_ret ?_
        refine at_then_ret ?_
        refine at_block_ret ?_
        refine at_then_ret ?_
        have hR := Option.some.inj ho2688
        subst hR
        have hT := thn_inl H
        have hR := Option.some.inj hT
        subst hR
        exact at_ret1 rfl rfl ⟨_, rfl, rfl, HM⟩
      · replace ho2688 := cond_f hb2703 ho2688
        refine run_skip ?_
        refine at_block ?_
        refine at_then ?_
        refine run_region rfl ?_
        refine ops_ex rfl (guard_none rfl) rfl rfl (ex_add rfl rfl rfl) ?_
        refine ops_ex rfl (guard_none rfl) rfl rfl (ex_move rfl rfl) ?_
        refine ops_nil ?_
        exact at_again k2698 (ρ1 := [(3, .int .i64 0), (6, p0), (7, .int .i64 (x0.length : Int)), (8, .int .i64 (wrap64 (a2693 + 1)))]) (Nat.lt_succ_self _) ⟨_, ho2688, rfl, HM⟩ (Sub.cons rfl (Sub.cons rfl (Sub.cons rfl (Sub.cons rfl Sub.nil))))
    · replace ho2688 := cond_f hb2700 ho2688
      refine run_exit ?_
      refine at_then_exit ?_
      refine at_then_exit ?_
      refine at_block_exit ?_
      exact at_mid (ρ' := [(3, .int .i64 0)]) ⟨(Option.some.inj ho2688), rfl, HM⟩ (Sub.cons rfl Sub.nil)
  · rintro _ w2704 ⟨rfl, rfl, HM⟩
    replace H := (thn_inr H)
    refine run_seq ?_
    refine run_region rfl ?_
    refine ops_ex rfl (guard_none rfl) rfl rfl (ex_move rfl rfl) ?_
    refine ops_ex rfl (guard_none rfl) rfl rfl (ex_assign rfl rfl) ?_
    refine ops_nil ?_
    refine at_then ?_
    refine run_ret ?_
    have hR := Option.some.inj H
    subst hR
    exact at_ret1 rfl rfl ⟨_, rfl, rfl, HM⟩

def impl_compareRefs.f (k : Nat) (x0 : Ref) (x1 : Ref) : Option Int := ((cmp_Compare_int64.f k x0.fTx x1.fTx).bind fun t2715 => ((cmp_Compare_int64.f k x0.fAt x1.fAt).bind fun t2717 => ((cmp_Or_int.f k ([t2715, t2717] : List Int)).bind fun t2722 => some t2722)))
theorem impl_compareRefs.calls {k : Nat} {x0 : Ref} {x1 : Ref}  {w : World}  {r : Int} (H : impl_compareRefs.f k x0 x1 = some r) :
    Calls Try.prog 91 ([.agg #[(.int .i64 x0.fTx), (.int .i64 x0.fAt)], .agg #[(.int .i64 x1.fTx), (.int .i64 x1.fAt)]] : List Value).toArray w (fun e w_ => ∃ v, e = .returned v ∧ v = (.int .i64 r) ∧ Mem w [] w_ []) := by
  have HM := Mem.start w
  refine calls_run (N := 17) Try.func91 rfl rfl rfl rfl ?_
  unfold impl_compareRefs.f at H
  refine run_seq ?_
  refine run_region rfl ?_
  refine ops_does rfl (guard_none rfl) rfl rfl (does_box (cs := [.int .i64 x0.fTx, .int .i64 x0.fAt]) rfl rfl rfl HM) ?_
  rintro _ w2713 ⟨b2707, rfl, HM⟩
  refine ops_does rfl (guard_none rfl) rfl rfl (does_box (cs := [.int .i64 x1.fTx, .int .i64 x1.fAt]) rfl rfl rfl HM) ?_
  rintro _ w2714 ⟨b2710, rfl, HM⟩
  refine ops_ex rfl (guard_none rfl) rfl rfl (ex_assign rfl rfl) ?_
  refine ops_nil ?_
  refine at_then ?_
  refine run_seq ?_
  obtain ⟨t2715, h2716, H⟩ := bind_some H
  obtain ⟨t2717, h2718, H⟩ := bind_some H
  obtain ⟨t2722, h2723, H⟩ := bind_some H
  refine run_drawf (fun w_ => Mem w [] w_ [box b2710 36 [.int .i64 x1.fTx, .int .i64 x1.fAt], box b2707 36 [.int .i64 x0.fTx, .int .i64 x0.fAt]]) [(0, true), (1, true), (2, true), (3, true), (5, true), (6, true), (7, true), (8, true), (4, false), (9, false), (10, false), (11, false), (12, true)] mixed rfl rfl (by kernel_rfl) ?_
  replace HM := HM.grow (fr_drew _)
  have hS := Mem.suf (M := []) HM
  refine drwp_take rfl (guard_none rfl) rfl rfl (fun w_ hS_ => (ex_fieldAddr (off' := 0) rfl rfl Try.underlying36 rfl tsz2 rfl)) hS ?_
  refine drwp_take rfl (guard_none rfl) rfl rfl (fun w_ hS_ => (ex_load1 rfl rfl Try.underlying2 rfl ((hS_.box_at 1 rfl) 0 _ rfl))) hS ?_
  refine drwp_take rfl (guard_none rfl) rfl rfl (fun w_ hS_ => (ex_fieldAddr (off' := 0) rfl rfl Try.underlying36 rfl tsz2 rfl)) hS ?_
  refine drwp_take rfl (guard_none rfl) rfl rfl (fun w_ hS_ => (ex_load1 rfl rfl Try.underlying2 rfl ((hS_.box_at 0 rfl) 0 _ rfl))) hS ?_
  refine drwp_take rfl (guard_none rfl) rfl rfl (fun w_ hS_ => (ex_fieldAddr (off' := 1) rfl rfl Try.underlying36 rfl tsz2 rfl)) hS ?_
  refine drwp_take rfl (guard_none rfl) rfl rfl (fun w_ hS_ => (ex_load1 rfl rfl Try.underlying2 rfl ((hS_.box_at 1 rfl) 1 _ rfl))) hS ?_
  refine drwp_take rfl (guard_none rfl) rfl rfl (fun w_ hS_ => (ex_fieldAddr (off' := 1) rfl rfl Try.underlying36 rfl tsz2 rfl)) hS ?_
  refine drwp_take rfl (guard_none rfl) rfl rfl (fun w_ hS_ => (ex_load1 rfl rfl Try.underlying2 rfl ((hS_.box_at 0 rfl) 1 _ rfl))) hS ?_
  refine drwp_one rfl (guard_none rfl) rfl rfl (does_callk rfl callok123 rfl (cmp_Compare_int64.calls (x0 := x0.fTx) (x1 := x1.fTx) h2716)) ?_
  rintro _ w2724 ⟨rfl, hn⟩
  replace HM : Mem w [] w2724 [box b2710 36 [.int .i64 x1.fTx, .int .i64 x1.fAt], box b2707 36 [.int .i64 x0.fTx, .int .i64 x0.fAt]] := HM.call hn
  refine ⟨Mem.suf (M := []) HM, ?_⟩
  have hS := Mem.suf (M := []) HM
  refine drwp_one rfl (guard_none rfl) rfl rfl (does_callk rfl callok123 rfl (cmp_Compare_int64.calls (x0 := x0.fAt) (x1 := x1.fAt) h2718)) ?_
  rintro _ w2725 ⟨rfl, hn⟩
  replace HM : Mem w [] w2725 [box b2710 36 [.int .i64 x1.fTx, .int .i64 x1.fAt], box b2707 36 [.int .i64 x0.fTx, .int .i64 x0.fAt]] := HM.call hn
  refine ⟨Mem.suf (M := []) HM, ?_⟩
  have hS := Mem.suf (M := []) HM
  refine drwp_one rfl (guard_none rfl) rfl rfl (does_lit (e := 3) (cs := [.int .i64 t2715, .int .i64 t2717]) (xs := ([t2715, t2717] : List Int)) kInt rfl rfl (fun _ => by kernel_rfl) rfl rfl (fun _ _ h => by have h' : _ = [] := h; subst h'; exact (Elems.cons (d := kInt) (x := t2715) (f := []) ⟨rfl, rfl⟩ (Elems.cons (d := kInt) (x := t2717) (f := []) ⟨rfl, rfl⟩ .nil))) HM.emp) ?_
  rintro v2719 w2726 HM
  refine ⟨Mem.suf (M := [own kInt 3 v2719 ([t2715, t2717] : List Int)]) HM, ?_⟩
  have hS := Mem.suf (M := [own kInt 3 v2719 ([t2715, t2717] : List Int)]) HM
  refine drwp_one rfl (guard_none rfl) rfl rfl (does_callk rfl callok142 rfl (cmp_Or_int.calls (x0 := ([t2715, t2717] : List Int)) (HM.own_rd 0 rfl) h2723)) ?_
  rintro _ w2727 ⟨rfl, hn⟩
  replace HM : Mem w [] w2727 [own kInt 3 v2719 ([t2715, t2717] : List Int), box b2710 36 [.int .i64 x1.fTx, .int .i64 x1.fAt], box b2707 36 [.int .i64 x0.fTx, .int .i64 x0.fAt]] := HM.call hn
  refine ⟨Mem.suf (M := [own kInt 3 v2719 ([t2715, t2717] : List Int)]) HM, ?_⟩
  have hS := Mem.suf (M := [own kInt 3 v2719 ([t2715, t2717] : List Int)]) HM
  refine drwp_take rfl (guard_none rfl) rfl rfl (fun w_ hS_ => (ex_assign rfl rfl)) hS ?_
  refine drwp_done ?_
  refine at_then ?_
  refine run_ret ?_
  replace HM := (HM.front 0 rfl rfl).drop
  replace HM := (HM.front 0 rfl rfl).drop
  replace HM := (HM.front 0 rfl rfl).drop
  have hR := Option.some.inj H
  subst hR
  exact at_ret1 rfl rfl ⟨_, rfl, rfl, HM⟩

def impl_CoinsFault.l0 (x0 : List Coin) : Nat → Int → Option (Int ⊕ Unit)
  | 0, _ => none
  | k + 1, a2949 => (bif (decide (a2949 < (x0.length : Int))) then (chk (idxOk a2949 x0.length) ((impl_isRef.f k ((gt x0 a2949).fRef)).bind fun t3004 => ((bif (!(!t3004)) then impl_isHeight.f k ((gt x0 a2949).fHeight) else some default).bind fun t3006 => ((bif (!((!t3004) || (!t3006))) then impl_within.f k ((gt x0 a2949).fOut.fValue) 1 1000000 else some default).bind fun t3008 => (bif (((!t3004) || (!t3006)) || (!t3008)) then some (.inl 3) else ((impl_RuleFault.f k ((gt x0 a2949).fOut.fRule)).bind fun t3023 => (bif (t3023 != 0) then some (.inl t3023) else (chk (!(decide (0 < a2949)) || (idxOk (wrap64 (a2949 - 1)) x0.length)) ((bif (decide (0 < a2949)) then impl_compareRefs.f k ((gt x0 (wrap64 (a2949 - 1))).fRef) ((gt x0 a2949).fRef) else some default).bind fun t3031 => (bif ((decide (0 < a2949)) && (decide (0 ≤ t3031))) then some (.inl 1) else impl_CoinsFault.l0 x0 k (wrap64 (a2949 + 1)))))))))))) else some (.inr ()))
theorem impl_CoinsFault.l0_z (x0 : List Coin) (a2949 : Int) : impl_CoinsFault.l0 x0 0 a2949 = none := rfl
theorem impl_CoinsFault.l0_s (x0 : List Coin) (k : Nat) (a2949 : Int) : impl_CoinsFault.l0 x0 (k + 1) a2949 = (bif (decide (a2949 < (x0.length : Int))) then (chk (idxOk a2949 x0.length) ((impl_isRef.f k ((gt x0 a2949).fRef)).bind fun t3004 => ((bif (!(!t3004)) then impl_isHeight.f k ((gt x0 a2949).fHeight) else some default).bind fun t3006 => ((bif (!((!t3004) || (!t3006))) then impl_within.f k ((gt x0 a2949).fOut.fValue) 1 1000000 else some default).bind fun t3008 => (bif (((!t3004) || (!t3006)) || (!t3008)) then some (.inl 3) else ((impl_RuleFault.f k ((gt x0 a2949).fOut.fRule)).bind fun t3023 => (bif (t3023 != 0) then some (.inl t3023) else (chk (!(decide (0 < a2949)) || (idxOk (wrap64 (a2949 - 1)) x0.length)) ((bif (decide (0 < a2949)) then impl_compareRefs.f k ((gt x0 (wrap64 (a2949 - 1))).fRef) ((gt x0 a2949).fRef) else some default).bind fun t3031 => (bif ((decide (0 < a2949)) && (decide (0 ≤ t3031))) then some (.inl 1) else impl_CoinsFault.l0 x0 k (wrap64 (a2949 + 1)))))))))))) else some (.inr ())) := rfl
def impl_CoinsFault.f (k : Nat) (x0 : List Coin) : Option Int := (bif (decide (40 < (x0.length : Int))) then some 2 else ((impl_CoinsFault.l0 x0 k 0).bind fun o2912 => thn o2912 (fun r => some r) (fun _ => some 0)))
theorem impl_CoinsFault.calls {k : Nat} {x0 : List Coin} {p0 : Value} {w : World} (hp0 : RdS kCoin w p0 x0) {r : Int} (H : impl_CoinsFault.f k x0 = some r) :
    Calls Try.prog 32 ([p0] : List Value).toArray w (fun e w_ => ∃ v, e = .returned v ∧ v = (.int .i64 r) ∧ Mem w [] w_ []) := by
  have HM := Mem.start w
  refine calls_run (N := 55) Try.func32 rfl rfl rfl rfl ?_
  unfold impl_CoinsFault.f at H
  refine run_seq ?_
  refine run_region rfl ?_
  refine ops_ex rfl (guard_none rfl) rfl rfl (ex_assign rfl rfl) ?_
  refine ops_nil ?_
  refine at_then ?_
  refine run_seq ?_
  refine run_seq ?_
  refine run_region rfl ?_
  refine ops_ex rfl (guard_none rfl) rfl rfl (ex_move rfl rfl) ?_
  refine ops_ex rfl (guard_none rfl) rfl rfl (ex_len (d := kCoin) (xs := x0) rfl rfl Try.underlying60 hp0) ?_
  refine ops_ex rfl (guard_none rfl) rfl rfl (ex_gtr rfl rfl rfl) ?_
  refine ops_nil ?_
  refine at_then ?_
  refine run_cond (b := (decide (40 < (x0.length : Int)))) rfl (fun hb2805 => ?_) (fun hb2805 => ?_)
  · replace H := cond_t hb2805 H
    refine run_seq ?_
    refine run_region rfl ?_
    refine ops_ex rfl (guard_none rfl) rfl rfl (ex_assign rfl rfl) ?_
    refine ops_nil ?_
    refine at_then ?_
    refine run_ret ?_
    refine at_then_ret ?_
    have hR := Option.some.inj H
    subst hR
    exact at_ret1 rfl rfl ⟨_, rfl, rfl, HM⟩
  · replace H := cond_f hb2805 H
    refine run_skip ?_
    refine at_then ?_
    obtain ⟨o2912, ho2913, H⟩ := bind_some H
    refine run_mid (fun ρ_ w_ => Sum.inr () = o2912 ∧ ρ_ = [] ∧ Mem w [] w_ []) ?_ ?_
    · skip
      refine run_seq ?_
      refine run_region rfl ?_
      refine ops_ex rfl (guard_none rfl) rfl rfl (ex_move rfl rfl) ?_
      refine ops_ex rfl (guard_none rfl) rfl rfl (ex_len (d := kCoin) (xs := x0) rfl rfl Try.underlying60 hp0) ?_
      refine ops_ex rfl (guard_none rfl) rfl rfl (ex_move rfl rfl) ?_
      refine ops_nil ?_
      refine at_then ?_
      refine run_block ?_
      refine run_loop (fun k_ ρ_ w_ => ∃ a2949 : Int, impl_CoinsFault.l0 x0 k_ a2949 = some o2912 ∧ ρ_ = [(0, p0), (9, p0), (10, .int .i64 (x0.length : Int)), (11, .int .i64 a2949)] ∧ Mem w [] w_ []) k (ρ1 := [(0, p0), (9, p0), (10, .int .i64 (x0.length : Int)), (11, .int .i64 0)]) ⟨_, ho2913, rfl, HM⟩ (Sub.cons rfl (Sub.cons rfl (Sub.cons rfl (Sub.cons rfl Sub.nil)))) ?_
      clear HM ho2913
      rintro k2985 _ w2986 ⟨a2949, ho2913, rfl, HM⟩
      obtain _ | k2985 := k2985
      · exact nomatch ((impl_CoinsFault.l0_z x0 a2949).symm.trans ho2913)
      replace ho2913 := (impl_CoinsFault.l0_s x0 k2985 a2949).symm.trans ho2913
      refine run_seq ?_
      refine run_region rfl ?_
      refine ops_ex rfl (guard_none rfl) rfl rfl (ex_lss rfl rfl rfl) ?_
      refine ops_nil ?_
      refine at_then ?_
      refine run_seq ?_
      refine run_cond (b := (decide (a2949 < (x0.length : Int)))) rfl (fun hb2987 => ?_) (fun hb2987 => ?_)
      · replace ho2913 := cond_t hb2987 ho2913
        refine run_skip ?_
        refine at_then ?_
        refine run_seq ?_
        refine run_block ?_
        refine run_seq ?_
        obtain ⟨e2988, ho2913⟩ := chk_some ho2913
        refine run_region rfl ?_
        refine ops_ex rfl (guard_none rfl) rfl rfl (ex_move rfl rfl) ?_
        obtain ⟨kv2990, hc2989, hk2991⟩ : ∃ u, CellsAt _ (sb p0) (so p0 + (a2949).toNat * 8) [(.int .i64 ((gt x0 a2949).fRef.fTx)), (.int .i64 ((gt x0 a2949).fRef.fAt)), (.int .i64 ((gt x0 a2949).fOut.fValue)), u, (.int .i64 ((gt x0 a2949).fOut.fRule.fNeed)), (.int .i64 ((gt x0 a2949).fOut.fRule.fAfter)), (.int .i64 ((gt x0 a2949).fHeight)), (.bool ((gt x0 a2949).fMined))] ∧ RdS kInt _ u ((gt x0 a2949).fOut.fRule.fKeys) := rd_with1 hp0 e2988
        refine ops_ex rfl (guard_none rfl) rfl rfl (ex_indexAddr (d := kCoin) rfl rfl rfl Try.underlying60 tsz72 hp0 (idx_lo e2988) (idx_hi e2988)) ?_
        refine ops_ex rfl (guard_none rfl) rfl rfl (ex_loadN (cs := [(.int .i64 ((gt x0 a2949).fRef.fTx)), (.int .i64 ((gt x0 a2949).fRef.fAt)), (.int .i64 ((gt x0 a2949).fOut.fValue)), kv2990, (.int .i64 ((gt x0 a2949).fOut.fRule.fNeed)), (.int .i64 ((gt x0 a2949).fOut.fRule.fAfter)), (.int .i64 ((gt x0 a2949).fHeight)), (.bool ((gt x0 a2949).fMined))]) rfl rfl Try.underlying72 rfl tsz72 rfl ((HM.at_ hc2989).sub 0 8 rfl)) ?_
        refine ops_does rfl (guard_none rfl) rfl rfl (does_alloc (cs := [.int .i64 0, .int .i64 0, .int .i64 0, .slice none 0 0, .int .i64 0, .int .i64 0, .int .i64 0, .bool false]) rfl tz72 rfl HM) ?_
        rintro _ w2995 ⟨b2992, rfl, HM⟩
        refine ops_ex rfl (guard_none rfl) rfl rfl (ex_assign rfl rfl) ?_
        refine ops_doesS rfl (guard_none rfl) rfl (does_store (vs := [.int .i64 ((gt x0 a2949).fRef.fTx), .int .i64 ((gt x0 a2949).fRef.fAt), .int .i64 ((gt x0 a2949).fOut.fValue), kv2990, .int .i64 ((gt x0 a2949).fOut.fRule.fNeed), .int .i64 ((gt x0 a2949).fOut.fRule.fAfter), .int .i64 ((gt x0 a2949).fHeight), .bool ((gt x0 a2949).fMined)]) (cs' := [.int .i64 ((gt x0 a2949).fRef.fTx), .int .i64 ((gt x0 a2949).fRef.fAt), .int .i64 ((gt x0 a2949).fOut.fValue), kv2990, .int .i64 ((gt x0 a2949).fOut.fRule.fNeed), .int .i64 ((gt x0 a2949).fOut.fRule.fAfter), .int .i64 ((gt x0 a2949).fHeight), .bool ((gt x0 a2949).fMined)]) rfl rfl rfl rfl tsz72 (Ones.int (Ones.int (Ones.int (Ones.rd hk2991 (Ones.int (Ones.int (Ones.int (Ones.bool Ones.nil)))))))) rfl rfl HM) ?_
        rintro w2996 HM
        refine ops_nil ?_
        refine at_then ?_
        refine run_seq ?_
        refine run_seq ?_
        obtain ⟨t3004, h3005, ho2913⟩ := bind_some ho2913
        obtain ⟨t3006, h3007, ho2913⟩ := bind_some ho2913
        obtain ⟨t3008, h3009, ho2913⟩ := bind_some ho2913
        refine run_meet (fun ρ_ w_ => ρ_ = [(0, p0), (9, p0), (10, .int .i64 (x0.length : Int)), (11, .int .i64 a2949), (4, .pointer (some ⟨b2992, 0, none⟩)), (3, .int .i64 a2949), (32, .bool (((!t3004) || (!t3006)) || (!t3008)))] ∧ Mem w [] w_ [box b2992 72 [.int .i64 ((gt x0 a2949).fRef.fTx), .int .i64 ((gt x0 a2949).fRef.fAt), .int .i64 ((gt x0 a2949).fOut.fValue), kv2990, .int .i64 ((gt x0 a2949).fOut.fRule.fNeed), .int .i64 ((gt x0 a2949).fOut.fRule.fAfter), .int .i64 ((gt x0 a2949).fHeight), .bool ((gt x0 a2949).fMined)]]) ?_ ?_
        · skip
          refine run_region rfl ?_
          refine ops_ex rfl (guard_none rfl) rfl rfl (ex_fieldAddr (off' := 0) rfl rfl Try.underlying72 rfl tsz36 rfl) ?_
          refine ops_ex rfl (guard_none rfl) rfl rfl (ex_loadN (cs := [(.int .i64 ((gt x0 a2949).fRef.fTx)), (.int .i64 ((gt x0 a2949).fRef.fAt))]) rfl rfl Try.underlying36 rfl tsz36 rfl ((HM.box_at 0 rfl).sub 0 2 rfl)) ?_
          refine ops_does rfl (guard_none rfl) rfl rfl (does_callk rfl callok63 rfl (impl_isRef.calls (x0 := (gt x0 a2949).fRef) h3005)) ?_
          rintro _ w3010 ⟨rfl, hn⟩
          replace HM : Mem w [] w3010 [box b2992 72 [.int .i64 ((gt x0 a2949).fRef.fTx), .int .i64 ((gt x0 a2949).fRef.fAt), .int .i64 ((gt x0 a2949).fOut.fValue), kv2990, .int .i64 ((gt x0 a2949).fOut.fRule.fNeed), .int .i64 ((gt x0 a2949).fOut.fRule.fAfter), .int .i64 ((gt x0 a2949).fHeight), .bool ((gt x0 a2949).fMined)]] := HM.call hn
          refine ops_ex rfl (guard_none rfl) rfl rfl (ex_not rfl rfl) ?_
          refine ops_ex rfl (guard_none rfl) rfl rfl (ex_move rfl rfl) ?_
          refine bool_cases (!t3004) (fun hg3011 => ?_) (fun hg3011 => ?_)
          · skip
            refine ops_off rfl (guard_off rfl rfl rfl hg3011) rfl rfl ?_
            refine ops_off rfl (guard_off rfl rfl rfl hg3011) rfl rfl ?_
            refine ops_off rfl (guard_off rfl rfl rfl hg3011) rfl rfl ?_
            refine ops_off rfl (guard_off rfl rfl rfl hg3011) rfl rfl ?_
            have hg3012 : ((!t3004) || (!t3006)) = true := by simp only [hg3011, Bool.and_true, Bool.true_and, Bool.and_false, Bool.false_and, Bool.or_true, Bool.true_or, Bool.or_false, Bool.false_or, Bool.not_true, Bool.not_false, Bool.not_not]
            refine ops_ex (v := .bool ((!t3004) || (!t3006))) rfl (guard_none rfl) rfl rfl (ex_por_t rfl rfl hg3011) ?_
            refine ops_ex rfl (guard_none rfl) rfl rfl (ex_move rfl rfl) ?_
            refine ops_off rfl (guard_off rfl rfl rfl hg3012) rfl rfl ?_
            refine ops_off rfl (guard_off rfl rfl rfl hg3012) rfl rfl ?_
            refine ops_off rfl (guard_off rfl rfl rfl hg3012) rfl rfl ?_
            refine ops_off rfl (guard_off rfl rfl rfl hg3012) rfl rfl ?_
            refine ops_off rfl (guard_off rfl rfl rfl hg3012) rfl rfl ?_
            have hg3013 : (((!t3004) || (!t3006)) || (!t3008)) = true := by simp only [hg3012, Bool.and_true, Bool.true_and, Bool.and_false, Bool.false_and, Bool.or_true, Bool.true_or, Bool.or_false, Bool.false_or, Bool.not_true, Bool.not_false, Bool.not_not]
            refine ops_ex (v := .bool (((!t3004) || (!t3006)) || (!t3008))) rfl (guard_none rfl) rfl rfl (ex_por_t rfl rfl hg3012) ?_
            refine ops_nil ?_
            exact at_meet [(0, p0), (9, p0), (10, .int .i64 (x0.length : Int)), (11, .int .i64 a2949), (4, .pointer (some ⟨b2992, 0, none⟩)), (3, .int .i64 a2949), (32, .bool (((!t3004) || (!t3006)) || (!t3008)))] ⟨rfl, HM⟩ (Sub.cons rfl (Sub.cons rfl (Sub.cons rfl (Sub.cons rfl (Sub.cons rfl (Sub.cons rfl (Sub.cons rfl Sub.nil)))))))
          · skip
            refine ops_ex rfl (guard_on rfl rfl rfl hg3011) rfl rfl (ex_fieldAddr (off' := 6) rfl rfl Try.underlying72 rfl tsz2 rfl) ?_
            refine ops_ex rfl (guard_on rfl rfl rfl hg3011) rfl rfl (ex_load1 rfl rfl Try.underlying2 rfl ((HM.box_at 0 rfl) 6 _ rfl)) ?_
            refine ops_does rfl (guard_on rfl rfl rfl hg3011) rfl rfl (does_callk rfl callok88 rfl (impl_isHeight.calls (x0 := (gt x0 a2949).fHeight) (cond_t (not_mk hg3011) h3007))) ?_
            rintro _ w3014 ⟨rfl, hn⟩
            replace HM : Mem w [] w3014 [box b2992 72 [.int .i64 ((gt x0 a2949).fRef.fTx), .int .i64 ((gt x0 a2949).fRef.fAt), .int .i64 ((gt x0 a2949).fOut.fValue), kv2990, .int .i64 ((gt x0 a2949).fOut.fRule.fNeed), .int .i64 ((gt x0 a2949).fOut.fRule.fAfter), .int .i64 ((gt x0 a2949).fHeight), .bool ((gt x0 a2949).fMined)]] := HM.call hn
            refine ops_ex rfl (guard_on rfl rfl rfl hg3011) rfl rfl (ex_not rfl rfl) ?_
            refine ops_ex (v := .bool ((!t3004) || (!t3006))) rfl (guard_none rfl) rfl rfl (ex_por_f rfl rfl hg3011 rfl) ?_
            refine ops_ex rfl (guard_none rfl) rfl rfl (ex_move rfl rfl) ?_
            refine bool_cases ((!t3004) || (!t3006)) (fun hg3015 => ?_) (fun hg3015 => ?_)
            · skip
              refine ops_off rfl (guard_off rfl rfl rfl hg3015) rfl rfl ?_
              refine ops_off rfl (guard_off rfl rfl rfl hg3015) rfl rfl ?_
              refine ops_off rfl (guard_off rfl rfl rfl hg3015) rfl rfl ?_
              refine ops_off rfl (guard_off rfl rfl rfl hg3015) rfl rfl ?_
              refine ops_off rfl (guard_off rfl rfl rfl hg3015) rfl rfl ?_
              have hg3016 : (((!t3004) || (!t3006)) || (!t3008)) = true := by simp only [hg3015, Bool.and_true, Bool.true_and, Bool.and_false, Bool.false_and, Bool.or_true, Bool.true_or, Bool.or_false, Bool.false_or, Bool.not_true, Bool.not_false, Bool.not_not]
              refine ops_ex (v := .bool (((!t3004) || (!t3006)) || (!t3008))) rfl (guard_none rfl) rfl rfl (ex_por_t rfl rfl hg3015) ?_
              refine ops_nil ?_
              exact at_meet [(0, p0), (9, p0), (10, .int .i64 (x0.length : Int)), (11, .int .i64 a2949), (4, .pointer (some ⟨b2992, 0, none⟩)), (3, .int .i64 a2949), (32, .bool (((!t3004) || (!t3006)) || (!t3008)))] ⟨rfl, HM⟩ (Sub.cons rfl (Sub.cons rfl (Sub.cons rfl (Sub.cons rfl (Sub.cons rfl (Sub.cons rfl (Sub.cons rfl Sub.nil)))))))
            · skip
              refine ops_ex rfl (guard_on rfl rfl rfl hg3015) rfl rfl (ex_fieldAddr (off' := 2) rfl rfl Try.underlying72 rfl tsz69 rfl) ?_
              refine ops_ex rfl (guard_on rfl rfl rfl hg3015) rfl rfl (ex_fieldAddr (off' := 2) rfl rfl Try.underlying69 rfl tsz2 rfl) ?_
              refine ops_ex rfl (guard_on rfl rfl rfl hg3015) rfl rfl (ex_load1 rfl rfl Try.underlying2 rfl ((HM.box_at 0 rfl) 2 _ rfl)) ?_
              refine ops_does rfl (guard_on rfl rfl rfl hg3015) rfl rfl (does_callk rfl callok89 rfl (impl_within.calls (x0 := (gt x0 a2949).fOut.fValue) (x1 := 1) (x2 := 1000000) (cond_t (not_mk hg3015) h3009))) ?_
              rintro _ w3017 ⟨rfl, hn⟩
              replace HM : Mem w [] w3017 [box b2992 72 [.int .i64 ((gt x0 a2949).fRef.fTx), .int .i64 ((gt x0 a2949).fRef.fAt), .int .i64 ((gt x0 a2949).fOut.fValue), kv2990, .int .i64 ((gt x0 a2949).fOut.fRule.fNeed), .int .i64 ((gt x0 a2949).fOut.fRule.fAfter), .int .i64 ((gt x0 a2949).fHeight), .bool ((gt x0 a2949).fMined)]] := HM.call hn
              refine ops_ex rfl (guard_on rfl rfl rfl hg3015) rfl rfl (ex_not rfl rfl) ?_
              refine ops_ex (v := .bool (((!t3004) || (!t3006)) || (!t3008))) rfl (guard_none rfl) rfl rfl (ex_por_f rfl rfl hg3015 rfl) ?_
              refine ops_nil ?_
              exact at_meet [(0, p0), (9, p0), (10, .int .i64 (x0.length : Int)), (11, .int .i64 a2949), (4, .pointer (some ⟨b2992, 0, none⟩)), (3, .int .i64 a2949), (32, .bool (((!t3004) || (!t3006)) || (!t3008)))] ⟨rfl, HM⟩ (Sub.cons rfl (Sub.cons rfl (Sub.cons rfl (Sub.cons rfl (Sub.cons rfl (Sub.cons rfl (Sub.cons rfl Sub.nil)))))))
        · rintro _ w3018 ⟨rfl, HM⟩
          refine at_then ?_
          refine run_cond (b := (((!t3004) || (!t3006)) || (!t3008))) rfl (fun hb3019 => ?_) (fun hb3019 => ?_)
          · replace ho2913 := cond_t hb3019 ho2913
            refine run_seq ?_
            refine run_region rfl ?_
            refine ops_ex rfl (guard_none rfl) rfl rfl (ex_assign rfl rfl) ?_
            refine ops_nil ?_
            refine at_then ?_
            refine run_ret ?_
            refine at_then_ret ?_
            refine at_block_ret ?_
            refine at_then_ret ?_
            refine at_then_ret ?_
            refine at_block_ret ?_
            refine at_then_ret ?_
            replace HM := (HM.front 0 rfl rfl).drop
            have hR := Option.some.inj ho2913
            subst hR
            have hT := thn_inl H
            have hR := Option.some.inj hT
            subst hR
            exact at_ret1 rfl rfl ⟨_, rfl, rfl, HM⟩
          · replace ho2913 := cond_f hb3019 ho2913
            refine run_skip ?_
            refine at_then ?_
            refine run_seq ?_
            refine run_seq ?_
            obtain ⟨t3023, h3024, ho2913⟩ := bind_some ho2913
            refine run_region rfl ?_
            refine ops_ex rfl (guard_none rfl) rfl rfl (ex_fieldAddr (off' := 2) rfl rfl Try.underlying72 rfl tsz69 rfl) ?_
            refine ops_ex rfl (guard_none rfl) rfl rfl (ex_fieldAddr (off' := 3) rfl rfl Try.underlying69 rfl tsz67 rfl) ?_
            refine ops_ex rfl (guard_none rfl) rfl rfl (ex_loadN (cs := [kv2990, (.int .i64 ((gt x0 a2949).fOut.fRule.fNeed)), (.int .i64 ((gt x0 a2949).fOut.fRule.fAfter))]) rfl rfl Try.underlying67 rfl tsz67 rfl ((HM.box_at 0 rfl).sub 3 3 rfl)) ?_
            refine ops_does rfl (guard_none rfl) rfl rfl (does_callk rfl callok90 rfl (impl_RuleFault.calls (x0 := (gt x0 a2949).fOut.fRule) (HM.rd hk2991) h3024)) ?_
            rintro _ w3025 ⟨rfl, hn⟩
            replace HM : Mem w [] w3025 [box b2992 72 [.int .i64 ((gt x0 a2949).fRef.fTx), .int .i64 ((gt x0 a2949).fRef.fAt), .int .i64 ((gt x0 a2949).fOut.fValue), kv2990, .int .i64 ((gt x0 a2949).fOut.fRule.fNeed), .int .i64 ((gt x0 a2949).fOut.fRule.fAfter), .int .i64 ((gt x0 a2949).fHeight), .bool ((gt x0 a2949).fMined)]] := HM.call hn
            refine ops_ex rfl (guard_none rfl) rfl rfl (ex_assign rfl rfl) ?_
            refine ops_nil ?_
            refine at_then ?_
            refine run_seq ?_
            refine run_region rfl ?_
            refine ops_ex rfl (guard_none rfl) rfl rfl (ex_move rfl rfl) ?_
            refine ops_ex rfl (guard_none rfl) rfl rfl (ex_neq rfl rfl rfl) ?_
            refine ops_nil ?_
            refine at_then ?_
            refine run_cond (b := (t3023 != 0)) rfl (fun hb3026 => ?_) (fun hb3026 => ?_)
            · replace ho2913 := cond_t hb3026 ho2913
              refine run_seq ?_
              refine run_region rfl ?_
              refine ops_ex rfl (guard_none rfl) rfl rfl (ex_move rfl rfl) ?_
              refine ops_ex rfl (guard_none rfl) rfl rfl (ex_assign rfl rfl) ?_
              refine ops_nil ?_
              refine at_then ?_
              refine run_ret ?_
              refine at_then_ret ?_
              refine at_block_ret ?_
              refine at_then_ret ?_
              refine at_then_ret ?_
              refine at_block_ret ?_
              refine at_then_ret ?_
              replace HM := (HM.front 0 rfl rfl).drop
              have hR := Option.some.inj ho2913
              subst hR
              have hT := thn_inl H
              have hR := Option.some.inj hT
              subst hR
              exact at_ret1 rfl rfl ⟨_, rfl, rfl, HM⟩
            · replace ho2913 := cond_f hb3026 ho2913
              refine run_skip ?_
              refine at_then ?_
              refine run_seq ?_
              obtain ⟨e3027, ho2913⟩ := chk_some ho2913
              obtain ⟨t3031, h3032, ho2913⟩ := bind_some ho2913
              refine run_meet (fun ρ_ w_ => ρ_ = [(0, p0), (9, p0), (10, .int .i64 (x0.length : Int)), (11, .int .i64 a2949), (53, .bool ((decide (0 < a2949)) && (decide (0 ≤ t3031))))] ∧ Mem w [] w_ []) ?_ ?_
              · skip
                refine run_drawf (fun w_ => Mem w [] w_ [box b2992 72 [.int .i64 ((gt x0 a2949).fRef.fTx), .int .i64 ((gt x0 a2949).fRef.fAt), .int .i64 ((gt x0 a2949).fOut.fValue), kv2990, .int .i64 ((gt x0 a2949).fOut.fRule.fNeed), .int .i64 ((gt x0 a2949).fOut.fRule.fAfter), .int .i64 ((gt x0 a2949).fHeight), .bool ((gt x0 a2949).fMined)]]) [(0, true), (1, true), (2, true), (3, true), (4, true), (5, true), (6, true), (7, true), (8, true), (9, true), (10, true), (11, false), (12, true), (13, true)] mixed rfl rfl (by kernel_rfl) ?_
                replace HM := HM.grow (fr_drew _)
                have hS := Mem.suf (M := []) HM
                refine drwp_take rfl (guard_none rfl) rfl rfl (fun w_ hS_ => (ex_move rfl rfl)) hS ?_
                refine drwp_take rfl (guard_none rfl) rfl rfl (fun w_ hS_ => (ex_gtr rfl rfl rfl)) hS ?_
                refine drwp_take rfl (guard_none rfl) rfl rfl (fun w_ hS_ => (ex_move rfl rfl)) hS ?_
                refine bool_cases (decide (0 < a2949)) (fun hg3033 => ?_) (fun hg3033 => ?_)
                · skip
                  refine drwp_take rfl (guard_on rfl rfl rfl hg3033) rfl rfl (fun w_ hS_ => (ex_move rfl rfl)) hS ?_
                  refine drwp_take rfl (guard_on rfl rfl rfl hg3033) rfl rfl (fun w_ hS_ => (ex_move rfl rfl)) hS ?_
                  refine drwp_take rfl (guard_on rfl rfl rfl hg3033) rfl rfl (fun w_ hS_ => (ex_sub rfl rfl rfl)) hS ?_
                  obtain ⟨kv3029, hc3028, hk3030⟩ : ∃ u, CellsAt _ (sb p0) (so p0 + (wrap64 (a2949 - 1)).toNat * 8) [(.int .i64 ((gt x0 (wrap64 (a2949 - 1))).fRef.fTx)), (.int .i64 ((gt x0 (wrap64 (a2949 - 1))).fRef.fAt)), (.int .i64 ((gt x0 (wrap64 (a2949 - 1))).fOut.fValue)), u, (.int .i64 ((gt x0 (wrap64 (a2949 - 1))).fOut.fRule.fNeed)), (.int .i64 ((gt x0 (wrap64 (a2949 - 1))).fOut.fRule.fAfter)), (.int .i64 ((gt x0 (wrap64 (a2949 - 1))).fHeight)), (.bool ((gt x0 (wrap64 (a2949 - 1))).fMined))] ∧ RdS kInt _ u ((gt x0 (wrap64 (a2949 - 1))).fOut.fRule.fKeys) := rd_with1 hp0 (or_t e3027 hg3033)
                  refine drwp_take rfl (guard_on rfl rfl rfl hg3033) rfl rfl (fun w_ hS_ => (ex_indexAddr (d := kCoin) rfl rfl rfl Try.underlying60 tsz72 hp0 (idx_lo (or_t e3027 hg3033)) (idx_hi (or_t e3027 hg3033)))) hS ?_
                  refine drwp_take rfl (guard_on rfl rfl rfl hg3033) rfl rfl (fun w_ hS_ => (ex_fieldAddr (off' := so p0 + (wrap64 (a2949 - 1)).toNat * 8) rfl rfl Try.underlying72 rfl tsz36 rfl)) hS ?_
                  refine drwp_take rfl (guard_on rfl rfl rfl hg3033) rfl rfl (fun w_ hS_ => (ex_loadN (cs := [(.int .i64 ((gt x0 (wrap64 (a2949 - 1))).fRef.fTx)), (.int .i64 ((gt x0 (wrap64 (a2949 - 1))).fRef.fAt))]) rfl rfl Try.underlying36 rfl tsz36 rfl ((hS_.at_ hc3028).sub 0 2 rfl))) hS ?_
                  refine drwp_take rfl (guard_on rfl rfl rfl hg3033) rfl rfl (fun w_ hS_ => (ex_fieldAddr (off' := 0) rfl rfl Try.underlying72 rfl tsz36 rfl)) hS ?_
                  refine drwp_take rfl (guard_on rfl rfl rfl hg3033) rfl rfl (fun w_ hS_ => (ex_loadN (cs := [(.int .i64 ((gt x0 a2949).fRef.fTx)), (.int .i64 ((gt x0 a2949).fRef.fAt))]) rfl rfl Try.underlying36 rfl tsz36 rfl ((hS_.box_at 0 rfl).sub 0 2 rfl))) hS ?_
                  refine drwp_one rfl (guard_on rfl rfl rfl hg3033) rfl rfl (does_callk rfl callok91 rfl (impl_compareRefs.calls (x0 := (gt x0 (wrap64 (a2949 - 1))).fRef) (x1 := (gt x0 a2949).fRef) (cond_t hg3033 h3032))) ?_
                  rintro _ w3034 ⟨rfl, hn⟩
                  replace HM : Mem w [] w3034 [box b2992 72 [.int .i64 ((gt x0 a2949).fRef.fTx), .int .i64 ((gt x0 a2949).fRef.fAt), .int .i64 ((gt x0 a2949).fOut.fValue), kv2990, .int .i64 ((gt x0 a2949).fOut.fRule.fNeed), .int .i64 ((gt x0 a2949).fOut.fRule.fAfter), .int .i64 ((gt x0 a2949).fHeight), .bool ((gt x0 a2949).fMined)]] := HM.call hn
                  refine ⟨Mem.suf (M := []) HM, ?_⟩
                  have hS := Mem.suf (M := []) HM
                  refine drwp_take rfl (guard_on rfl rfl rfl hg3033) rfl rfl (fun w_ hS_ => (ex_geq rfl rfl rfl)) hS ?_
                  refine drwp_take (v := .bool ((decide (0 < a2949)) && (decide (0 ≤ t3031)))) rfl (guard_none rfl) rfl rfl (fun w_ hS_ => (ex_pand_t rfl rfl hg3033 rfl)) hS ?_
                  refine drwp_done ?_
                  replace HM := (HM.front 0 rfl rfl).drop
                  exact at_meet [(0, p0), (9, p0), (10, .int .i64 (x0.length : Int)), (11, .int .i64 a2949), (53, .bool ((decide (0 < a2949)) && (decide (0 ≤ t3031))))] ⟨rfl, HM⟩ (Sub.cons rfl (Sub.cons rfl (Sub.cons rfl (Sub.cons rfl (Sub.cons rfl Sub.nil)))))
                · skip
                  refine drwp_off rfl (guard_off rfl rfl rfl hg3033) rfl rfl hS ?_
                  refine drwp_off rfl (guard_off rfl rfl rfl hg3033) rfl rfl hS ?_
                  refine drwp_off rfl (guard_off rfl rfl rfl hg3033) rfl rfl hS ?_
                  refine drwp_off rfl (guard_off rfl rfl rfl hg3033) rfl rfl hS ?_
                  refine drwp_off rfl (guard_off rfl rfl rfl hg3033) rfl rfl hS ?_
                  refine drwp_off rfl (guard_off rfl rfl rfl hg3033) rfl rfl hS ?_
                  refine drwp_off rfl (guard_off rfl rfl rfl hg3033) rfl rfl hS ?_
                  refine drwp_off rfl (guard_off rfl rfl rfl hg3033) rfl rfl hS ?_
                  refine drwp_off1 rfl (guard_off rfl rfl rfl hg3033) rfl rfl ⟨hS, ?_⟩
                  refine drwp_off rfl (guard_off rfl rfl rfl hg3033) rfl rfl hS ?_
                  have hg3035 : ((decide (0 < a2949)) && (decide (0 ≤ t3031))) = false := by simp only [hg3033, Bool.and_true, Bool.true_and, Bool.and_false, Bool.false_and, Bool.or_true, Bool.true_or, Bool.or_false, Bool.false_or, Bool.not_true, Bool.not_false, Bool.not_not]
                  refine drwp_take (v := .bool ((decide (0 < a2949)) && (decide (0 ≤ t3031)))) rfl (guard_none rfl) rfl rfl (fun w_ hS_ => (ex_pand_f rfl rfl hg3033)) hS ?_
                  refine drwp_done ?_
                  replace HM := (HM.front 0 rfl rfl).drop
                  exact at_meet [(0, p0), (9, p0), (10, .int .i64 (x0.length : Int)), (11, .int .i64 a2949), (53, .bool ((decide (0 < a2949)) && (decide (0 ≤ t3031))))] ⟨rfl, HM⟩ (Sub.cons rfl (Sub.cons rfl (Sub.cons rfl (Sub.cons rfl (Sub.cons rfl Sub.nil)))))
              · rintro _ w3036 ⟨rfl, HM⟩
                refine at_then ?_
                refine run_cond (b := ((decide (0 < a2949)) && (decide (0 ≤ t3031)))) rfl (fun hb3037 => ?_) (fun hb3037 => ?_)
                · replace ho2913 := cond_t hb3037 ho2913
                  refine run_seq ?_
                  refine run_region rfl ?_
                  refine ops_ex rfl (guard_none rfl) rfl rfl (ex_assign rfl rfl) ?_
                  refine ops_nil ?_
                  refine at_then ?_
                  refine run_ret ?_
                  refine at_block_ret ?_
                  refine at_then_ret ?_
                  refine at_then_ret ?_
                  refine at_block_ret ?_
                  refine at_then_ret ?_
                  have hR := Option.some.inj ho2913
                  subst hR
                  have hT := thn_inl H
                  have hR := Option.some.inj hT
                  subst hR
                  exact at_ret1 rfl rfl ⟨_, rfl, rfl, HM⟩
                · replace ho2913 := cond_f hb3037 ho2913
                  refine run_skip ?_
                  refine at_block ?_
                  refine at_then ?_
                  refine run_region rfl ?_
                  refine ops_ex rfl (guard_none rfl) rfl rfl (ex_add rfl rfl rfl) ?_
                  refine ops_ex rfl (guard_none rfl) rfl rfl (ex_move rfl rfl) ?_
                  refine ops_nil ?_
                  exact at_again k2985 (ρ1 := [(0, p0), (9, p0), (10, .int .i64 (x0.length : Int)), (11, .int .i64 (wrap64 (a2949 + 1)))]) (Nat.lt_succ_self _) ⟨_, ho2913, rfl, HM⟩ (Sub.cons rfl (Sub.cons rfl (Sub.cons rfl (Sub.cons rfl Sub.nil))))
      · replace ho2913 := cond_f hb2987 ho2913
        refine run_exit ?_
        refine at_then_exit ?_
        refine at_then_exit ?_
        refine at_block_exit ?_
        exact at_mid (ρ' := []) ⟨(Option.some.inj ho2913), rfl, HM⟩ Sub.nil
    · rintro _ w3038 ⟨rfl, rfl, HM⟩
      replace H := (thn_inr H)
      refine run_seq ?_
      refine run_region rfl ?_
      refine ops_ex rfl (guard_none rfl) rfl rfl (ex_assign rfl rfl) ?_
      refine ops_nil ?_
      refine at_then ?_
      refine run_ret ?_
      have hR := Option.some.inj H
      subst hR
      exact at_ret1 rfl rfl ⟨_, rfl, rfl, HM⟩
end Go.Proofs.Ytbbcabpnkdilgaa.Zk
