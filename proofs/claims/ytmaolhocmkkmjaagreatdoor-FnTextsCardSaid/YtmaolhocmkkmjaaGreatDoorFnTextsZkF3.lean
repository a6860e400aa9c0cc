/- What functions of the program compute, each as a plain function, and that they do. Conditions: as each theorem states them. -/
import Derived.Test.YtmaolhocmkkmjaaGreatDoorFnTextsZkF2
namespace Go.Proofs.YtmaolhocmkkmjaaGreatDoor.Zk
open Go Go.RowKit Go.IntWalk Go.Proofs
set_option linter.unusedVariables false
set_option linter.unusedSimpArgs false
set_option maxRecDepth 100000
set_option maxHeartbeats 4000000
def strings_Cut.f (k : Nat) (x0 x1 : ByteArray) : Option (ByteArray × ByteArray × Bool) := (chk (leB x0.size 4294967280) (some ((⟨(Lib.cut x0.data.toList x1.data.toList).1.toArray⟩ : ByteArray), (⟨(Lib.cut x0.data.toList x1.data.toList).2.1.toArray⟩ : ByteArray), (Lib.cut x0.data.toList x1.data.toList).2.2)))
theorem strings_Cut.calls {k : Nat} {x0 x1 : ByteArray} {w : World} (htab : TabP w) {r : ByteArray × ByteArray × Bool} (H : strings_Cut.f k x0 x1 = some r) :
    Calls Tryz.prog 46 ([.string x0, .string x1] : List Value).toArray w (fun e w_ => ∃ v, e = .returned v ∧ v = .tuple #[.string r.1, .string r.2.1, .bool r.2.2] ∧ Mem w [] w_ []) := by
  obtain ⟨h, H⟩ := chk_some H
  have hR := Option.some.inj H
  subst hR
  have h0 : x0.size ≤ 4294967280 := leB_le h
  have hm : ∀ w_, Below w.heap.size w w_ → Mem w [] w_ [] := fun w_ hb => ⟨Fr.of_below hb nodr, [], .nil, List.nodup_nil, by simp⟩
  obtain ⟨m, hm'⟩ := htab.maxLen
  exact (Tryz.strings_Cut x0 x1 m w (by omega) hm').mono fun e w_ ⟨he, n, hw⟩ => ⟨_, he, rfl, hm _ (hw ▸ ⟨rfl, rfl, rfl, Nat.le_refl _, fun _ _ => rfl⟩)⟩

def impl_numbers.l0 (t2432 : List ByteArray) : Nat → (List Int) → Int → Option ((List Int))
  | 0, _, _ => none
  | k + 1, a2448, a2450 => (bif (decide (a2450 < (t2432.length : Int))) then (chk (idxOk a2450 t2432.length) ((impl_number.f k (gt t2432 a2450)).bind fun t2465 => (chk (leB ((a2448.length + ([t2465] : List Int).length) * 8) 140737488355328) (impl_numbers.l0 t2432 k (a2448 ++ ([t2465] : List Int)) (wrap64 (a2450 + 1)))))) else some a2448)
theorem impl_numbers.l0_z (t2432 : List ByteArray) (a2448 : List Int) (a2450 : Int) : impl_numbers.l0 t2432 0 a2448 a2450 = none := rfl
theorem impl_numbers.l0_s (t2432 : List ByteArray) (k : Nat) (a2448 : List Int) (a2450 : Int) : impl_numbers.l0 t2432 (k + 1) a2448 a2450 = (bif (decide (a2450 < (t2432.length : Int))) then (chk (idxOk a2450 t2432.length) ((impl_number.f k (gt t2432 a2450)).bind fun t2465 => (chk (leB ((a2448.length + ([t2465] : List Int).length) * 8) 140737488355328) (impl_numbers.l0 t2432 k (a2448 ++ ([t2465] : List Int)) (wrap64 (a2450 + 1)))))) else some a2448) := rfl
def impl_numbers.f (k : Nat) (x0 : ByteArray) (x1 : ByteArray) : Option ((List Int)) := (((strings_Split.f k x0 x1).bind fun t2432 => impl_numbers.l0 t2432 k ([] : List Int) 0).bind (fun a2428 => some a2428))
theorem impl_numbers.calls {k : Nat} {x0 : ByteArray} {x1 : ByteArray}  {w : World} (htab : TabP w)  {r : (List Int)} (H : impl_numbers.f k x0 x1 = some r) :
    Calls Tryz.prog 87 ([.string x0, .string x1] : List Value).toArray w (fun e w_ => ∃ v, e = .returned v ∧ ∃ u0 : Value, v = u0 ∧ Mem w [] w_ [own kInt 2 u0 r]) := by
  have HM := Mem.start w
  refine calls_run (N := 24) Tryz.func87 rfl rfl rfl rfl ?_
  unfold impl_numbers.f at H
  refine run_seq ?_
  refine run_region rfl ?_
  refine ox rfl rfl rfl rfl (ex_assign rfl rfl) ?_
  refine ops_nil (at_then (run_seq ?_))
  refine run_region rfl ?_
  refine od rfl rfl rfl rfl (does_lit (e := 2) (cs := []) (xs := ([] : List Int)) kInt rfl rfl (fun _ => by kernel_rfl) rfl rfl (fun _ _ h => by have h' : _ = [] := h; subst h'; exact .nil) HM.emp) ?_
  rintro v2385 w2388 HM
  refine ox rfl rfl rfl rfl (ex_assign rfl rfl) ?_
  refine ops_nil (at_then ?_)
  obtain ⟨o2430, ho2431, H⟩ := bind_some H
  refine run_mid (fun ρ_ w_ => ∃ v2427 : Value, ∃ a2428 : List Int, a2428 = o2430 ∧ ρ_ = [(5, v2427)] ∧ Mem w [] w_ [own kInt 2 v2427 a2428]) ?_ ?_
  · clear H
    refine run_seq ?_
    obtain ⟨t2432, h2433, ho2431⟩ := bind_some ho2431
    refine run_region rfl ?_
    refine ox rfl rfl rfl rfl (ex_move rfl rfl) ?_
    refine ox rfl rfl rfl rfl (ex_move rfl rfl) ?_
    refine od rfl rfl rfl rfl (does_callk rfl callok42 rfl (strings_Split.calls (x0 := x0) (x1 := x1) (HM.tabP htab) h2433)) ?_
    rintro u2434 w2436 ⟨_, rfl, hn⟩
    replace HM : Mem w [] w2436 [own kStr 9 u2434 t2432, own kInt 2 v2385 ([] : List Int)] := HM.call hn
    refine ox rfl rfl rfl rfl (ex_len (d := kStr) (xs := t2432) rfl rfl Tryz.underlying72 (HM.own_rd 0 rfl)) ?_
    refine ox rfl rfl rfl rfl (ex_move rfl rfl) ?_
    refine ops_nil (at_then ?_)
    refine run_block ?_
    replace HM := HM.front 1 rfl rfl
    refine run_loop (fun k_ ρ_ w_ => ∃ v2447 : Value, ∃ a2448 : List Int, ∃ a2450 : Int, impl_numbers.l0 t2432 k_ a2448 a2450 = some o2430 ∧ ρ_ = [(5, v2447), (11, u2434), (12, .int .i64 (t2432.length : Int)), (13, .int .i64 a2450)] ∧ Mem w [] w_ [own kInt 2 v2447 a2448, own kStr 9 u2434 t2432]) k (ρ1 := [(5, v2385), (11, u2434), (12, .int .i64 (t2432.length : Int)), (13, .int .i64 0)]) ⟨_, _, _, ho2431, rfl, HM⟩ (Sub.cons rfl (Sub.cons rfl (Sub.cons rfl (Sub.cons rfl Sub.nil)))) ?_
    clear HM ho2431
    rintro k2461 _ w2462 ⟨v2447, a2448, a2450, ho2431, rfl, HM⟩
    obtain _ | k2461 := k2461
    · exact nomatch ((impl_numbers.l0_z t2432 a2448 a2450).symm.trans ho2431)
    replace ho2431 := (impl_numbers.l0_s t2432 k2461 a2448 a2450).symm.trans ho2431
    refine run_seq ?_
    refine run_region rfl ?_
    refine ox rfl rfl rfl rfl (ex_lss rfl rfl rfl) ?_
    refine ops_nil (at_then (run_seq ?_))
    refine run_cond (b := (decide (a2450 < (t2432.length : Int)))) rfl (fun hb2463 => ?_) (fun hb2463 => ?_)
    · replace ho2431 := cond_t hb2463 ho2431
      refine run_skip ?_
      refine at_then ?_
      refine run_seq ?_
      refine run_block ?_
      refine run_seq ?_
      obtain ⟨e2464, ho2431⟩ := chk_some ho2431
      refine run_region rfl ?_
      refine ox rfl rfl rfl rfl (ex_indexAddr (d := kStr) rfl rfl rfl Tryz.underlying72 tsz9 (HM.own_rd 1 rfl) (idx_lo e2464) (idx_hi e2464)) ?_
      refine ox rfl rfl rfl rfl (ex_load1 rfl rfl Tryz.underlying9 rfl ((rd_plain (HM.own_rd 1 rfl) e2464) 0 _ rfl)) ?_
      refine ox rfl rfl rfl rfl (ex_assign rfl rfl) ?_
      refine ops_nil (at_then ?_)
      obtain ⟨t2465, h2466, ho2431⟩ := bind_some ho2431
      obtain ⟨e2470, ho2431⟩ := chk_some ho2431
      refine run_region rfl ?_
      refine ox rfl rfl rfl rfl (ex_move rfl rfl) ?_
      refine ox rfl rfl rfl rfl (ex_move rfl rfl) ?_
      refine od rfl rfl rfl rfl (does_callk rfl callok45 rfl (impl_number.calls (x0 := (gt t2432 a2450)) (HM.tabP htab) h2466)) ?_
      rintro _ w2473 ⟨rfl, hn⟩
      replace HM : Mem w [] w2473 [own kInt 2 v2447 a2448, own kStr 9 u2434 t2432] := HM.call hn
      refine od rfl rfl rfl rfl (does_lit (e := 2) (cs := [.int .i64 t2465]) (xs := ([t2465] : List Int)) kInt rfl rfl (fun _ => by kernel_rfl) rfl rfl (fun _ _ h => by have h' : _ = [] := h; subst h'; exact (Elems.cons (d := kInt) (x := t2465) (f := []) ⟨rfl, rfl⟩ .nil)) HM.emp) ?_
      rintro v2467 w2474 HM
      replace HM := HM.front 1 rfl rfl
      refine od rfl rfl rfl rfl (does_appendR kInt flat_plain rfl rfl rfl Tryz.underlying40 tsz2 rfl tby2 tz2 rfl rfl (leB_le e2470) (HM.own_rd 1 rfl) HM) ?_
      rintro v2471 w2475 HM
      refine ox rfl rfl rfl rfl (ex_assign rfl rfl) ?_
      refine ops_nil ?_
      refine at_block ?_
      refine at_then ?_
      refine run_region rfl ?_
      refine ox rfl rfl rfl rfl (ex_add rfl rfl rfl) ?_
      refine ox rfl rfl rfl rfl (ex_move rfl rfl) ?_
      refine ops_nil ?_
      replace HM := (HM.front 1 rfl rfl).drop
      exact at_again k2461 (ρ1 := [(5, v2471), (11, u2434), (12, .int .i64 (t2432.length : Int)), (13, .int .i64 (wrap64 (a2450 + 1)))]) (Nat.lt_succ_self _) ⟨_, _, _, ho2431, rfl, HM⟩ (Sub.cons rfl (Sub.cons rfl (Sub.cons rfl (Sub.cons rfl Sub.nil))))
    · replace ho2431 := cond_f hb2463 ho2431
      refine run_exit ?_
      refine at_then_exit ?_
      refine at_then_exit ?_
      refine at_block_exit ?_
      replace HM := (HM.front 1 rfl rfl).drop
      exact at_mid (ρ' := [(5, v2447)]) ⟨_, _, (Option.some.inj ho2431), rfl, HM⟩ (Sub.cons rfl Sub.nil)
  · rintro _ w2476 ⟨v2427, a2428, rfl, rfl, HM⟩
    refine run_seq ?_
    refine run_region rfl ?_
    refine ox rfl rfl rfl rfl (ex_move rfl rfl) ?_
    refine ox rfl rfl rfl rfl (ex_assign rfl rfl) ?_
    refine ops_nil (at_then ?_)
    refine run_ret ?_
    have hR := Option.some.inj H
    subst hR
    exact at_ret1 rfl rfl ⟨_, rfl, _, rfl, HM⟩

def impl_within.f (k : Nat) (x0 : Int) (x1 : Int) (x2 : Int) : Option Bool := some ((decide (x1 ≤ x0)) && (decide (x0 ≤ x2)))
theorem impl_within.calls {k : Nat} {x0 : Int} {x1 : Int} {x2 : Int}  {w : World}  {r : Bool} (H : impl_within.f k x0 x1 x2 = some r) :
    Calls Tryz.prog 27 ([.int .i64 x0, .int .i64 x1, .int .i64 x2] : List Value).toArray w (fun e w_ => ∃ v, e = .returned v ∧ v = (.bool r) ∧ Mem w [] w_ []) := by
  have HM := Mem.start w
  refine calls_run (N := 15) Tryz.func27 rfl rfl rfl rfl ?_
  unfold impl_within.f at H
  refine run_seq ?_
  refine run_region rfl ?_
  refine ox rfl rfl rfl rfl (ex_assign rfl rfl) ?_
  refine ops_nil (at_then (run_seq ?_))
  refine run_meet (fun ρ_ w_ => ρ_ = [(6, .bool ((decide (x1 ≤ x0)) && (decide (x0 ≤ x2))))] ∧ Mem w [] w_ []) ?_ ?_
  · skip
    refine run_region rfl ?_
    refine ox rfl rfl rfl rfl (ex_move rfl rfl) ?_
    refine ox rfl rfl rfl rfl (ex_move rfl rfl) ?_
    refine ox rfl rfl rfl rfl (ex_geq rfl rfl rfl) ?_
    refine ox rfl rfl rfl rfl (ex_move rfl rfl) ?_
    refine bool_cases (decide (x1 ≤ x0)) (fun hg2498 => ?_) (fun hg2498 => ?_)
    · skip
      refine ops_ex rfl (guard_on rfl rfl rfl hg2498) rfl rfl (ex_move rfl rfl) ?_
      refine ops_ex rfl (guard_on rfl rfl rfl hg2498) rfl rfl (ex_move rfl rfl) ?_
      refine ops_ex rfl (guard_on rfl rfl rfl hg2498) rfl rfl (ex_leq rfl rfl rfl) ?_
      refine ops_ex (v := .bool ((decide (x1 ≤ x0)) && (decide (x0 ≤ x2)))) rfl (guard_none rfl) rfl rfl (ex_pand_t rfl rfl hg2498 rfl) ?_
      refine ox rfl rfl rfl rfl (ex_assign rfl rfl) ?_
      refine ops_nil ?_
      exact at_meet [(6, .bool ((decide (x1 ≤ x0)) && (decide (x0 ≤ x2))))] ⟨rfl, HM⟩ (Sub.cons rfl Sub.nil)
    · skip
      refine ops_off rfl (guard_off rfl rfl rfl hg2498) rfl rfl ?_
      refine ops_off rfl (guard_off rfl rfl rfl hg2498) rfl rfl ?_
      refine ops_off rfl (guard_off rfl rfl rfl hg2498) rfl rfl ?_
      have hg2499 : ((decide (x1 ≤ x0)) && (decide (x0 ≤ x2))) = false := by simp only [hg2498, Bool.and_true, Bool.true_and, Bool.and_false, Bool.false_and, Bool.or_true, Bool.true_or, Bool.or_false, Bool.false_or, Bool.not_true, Bool.not_false, Bool.not_not]
      refine ops_ex (v := .bool ((decide (x1 ≤ x0)) && (decide (x0 ≤ x2)))) rfl (guard_none rfl) rfl rfl (ex_pand_f rfl rfl hg2498) ?_
      refine ox rfl rfl rfl rfl (ex_assign rfl rfl) ?_
      refine ops_nil ?_
      exact at_meet [(6, .bool ((decide (x1 ≤ x0)) && (decide (x0 ≤ x2))))] ⟨rfl, HM⟩ (Sub.cons rfl Sub.nil)
  · rintro _ w2500 ⟨rfl, HM⟩
    refine at_then ?_
    refine run_ret ?_
    have hR := Option.some.inj H
    subst hR
    exact at_ret1 rfl rfl ⟨_, rfl, rfl, HM⟩

def impl_isKey.f (k : Nat) (x0 : Int) : Option Bool := ((impl_within.f k x0 1 999).bind fun t2509 => some t2509)
theorem impl_isKey.calls {k : Nat} {x0 : Int}  {w : World}  {r : Bool} (H : impl_isKey.f k x0 = some r) :
    Calls Tryz.prog 28 ([.int .i64 x0] : List Value).toArray w (fun e w_ => ∃ v, e = .returned v ∧ v = (.bool r) ∧ Mem w [] w_ []) := by
  have HM := Mem.start w
  refine calls_run (N := 5) Tryz.func28 rfl rfl rfl rfl ?_
  unfold impl_isKey.f at H
  refine run_seq ?_
  refine run_region rfl ?_
  refine ox rfl rfl rfl rfl (ex_assign rfl rfl) ?_
  refine ops_nil (at_then (run_seq ?_))
  obtain ⟨t2509, h2510, H⟩ := bind_some H
  refine run_region rfl ?_
  refine ox rfl rfl rfl rfl (ex_move rfl rfl) ?_
  refine od rfl rfl rfl rfl (does_callk rfl callok27 rfl (impl_within.calls (x0 := x0) (x1 := 1) (x2 := 999) h2510)) ?_
  rintro _ w2511 ⟨rfl, hn⟩
  replace HM : Mem w [] w2511 [] := HM.call hn
  refine ox rfl rfl rfl rfl (ex_assign rfl rfl) ?_
  refine ops_nil (at_then ?_)
  refine run_ret ?_
  have hR := Option.some.inj H
  subst hR
  exact at_ret1 rfl rfl ⟨_, rfl, rfl, HM⟩

def impl_areKeys_1.f (k : Nat) (x0 : Int) : Option Bool := ((impl_isKey.f k x0).bind fun t2514 => some (!t2514))
theorem impl_areKeys_1.calls {k : Nat} {x0 : Int}  {w : World}  {r : Bool} (H : impl_areKeys_1.f k x0 = some r) :
    Calls Tryz.prog 93 ([.int .i64 x0] : List Value).toArray w (fun e w_ => ∃ v, e = .returned v ∧ v = (.bool r) ∧ Mem w [] w_ []) := by
  have HM := Mem.start w
  refine calls_run (N := 6) Tryz.func93 rfl rfl rfl rfl ?_
  unfold impl_areKeys_1.f at H
  refine run_seq ?_
  refine run_region rfl ?_
  refine ox rfl rfl rfl rfl (ex_assign rfl rfl) ?_
  refine ops_nil (at_then (run_seq ?_))
  obtain ⟨t2514, h2515, H⟩ := bind_some H
  refine run_region rfl ?_
  refine ox rfl rfl rfl rfl (ex_move rfl rfl) ?_
  refine od rfl rfl rfl rfl (does_callk rfl callok28 rfl (impl_isKey.calls (x0 := x0) h2515)) ?_
  rintro _ w2516 ⟨rfl, hn⟩
  replace HM : Mem w [] w2516 [] := HM.call hn
  refine ox rfl rfl rfl rfl (ex_not rfl rfl) ?_
  refine ox rfl rfl rfl rfl (ex_assign rfl rfl) ?_
  refine ops_nil (at_then ?_)
  refine run_ret ?_
  have hR := Option.some.inj H
  subst hR
  exact at_ret1 rfl rfl ⟨_, rfl, rfl, HM⟩

def slices_IndexFunc_int64.l0 (x0 : List Int) : Nat → Int → Option (Int ⊕ Unit)
  | 0, _ => none
  | k + 1, a2562 => (bif (decide (a2562 < (x0.length : Int))) then (chk (idxOk a2562 x0.length) ((impl_areKeys_1.f k (gt x0 a2562)).bind fun t2574 => (bif t2574 then some (.inl a2562) else slices_IndexFunc_int64.l0 x0 k (wrap64 (a2562 + 1))))) else some (.inr ()))
theorem slices_IndexFunc_int64.l0_z (x0 : List Int) (a2562 : Int) : slices_IndexFunc_int64.l0 x0 0 a2562 = none := rfl
theorem slices_IndexFunc_int64.l0_s (x0 : List Int) (k : Nat) (a2562 : Int) : slices_IndexFunc_int64.l0 x0 (k + 1) a2562 = (bif (decide (a2562 < (x0.length : Int))) then (chk (idxOk a2562 x0.length) ((impl_areKeys_1.f k (gt x0 a2562)).bind fun t2574 => (bif t2574 then some (.inl a2562) else slices_IndexFunc_int64.l0 x0 k (wrap64 (a2562 + 1))))) else some (.inr ())) := rfl
def slices_IndexFunc_int64.f (k : Nat) (x0 : List Int) : Option Int := ((slices_IndexFunc_int64.l0 x0 k 0).bind fun o2554 => thn o2554 (fun r => some r) (fun _ => some (-1)))
theorem slices_IndexFunc_int64.calls {k : Nat} {x0 : List Int} {p0 : Value} {w : World} (hp0 : RdS kInt w p0 x0) {r : Int} (H : slices_IndexFunc_int64.f k x0 = some r) :
    Calls Tryz.prog 112 ([p0, .func (.func 93) #[] #[]] : List Value).toArray w (fun e w_ => ∃ v, e = .returned v ∧ v = (.int .i64 r) ∧ Mem w [] w_ []) := by
  have HM := Mem.start w
  refine calls_run (N := 19) Tryz.func112 rfl rfl rfl rfl ?_
  unfold slices_IndexFunc_int64.f at H
  refine run_seq ?_
  refine run_region rfl ?_
  refine ox rfl rfl rfl rfl (ex_assign rfl rfl) ?_
  refine ops_nil (at_then ?_)
  obtain ⟨o2554, ho2555, H⟩ := bind_some H
  refine run_mid (fun ρ_ w_ => Sum.inr () = o2554 ∧ ρ_ = [] ∧ Mem w [] w_ []) ?_ ?_
  · skip
    refine run_seq ?_
    refine run_region rfl ?_
    refine ox rfl rfl rfl rfl (ex_move rfl rfl) ?_
    refine ox rfl rfl rfl rfl (ex_len (d := kInt) (xs := x0) rfl rfl Tryz.underlying40 hp0) ?_
    refine ox rfl rfl rfl rfl (ex_move rfl rfl) ?_
    refine ops_nil (at_then ?_)
    refine run_block ?_
    refine run_loop (fun k_ ρ_ w_ => ∃ a2562 : Int, slices_IndexFunc_int64.l0 x0 k_ a2562 = some o2554 ∧ ρ_ = [(0, p0), (1, .func (.func 93) #[] #[]), (7, .int .i64 (x0.length : Int)), (8, .int .i64 a2562)] ∧ Mem w [] w_ []) k (ρ1 := [(0, p0), (1, .func (.func 93) #[] #[]), (7, .int .i64 (x0.length : Int)), (8, .int .i64 0)]) ⟨_, ho2555, rfl, HM⟩ (Sub.cons rfl (Sub.cons rfl (Sub.cons rfl (Sub.cons rfl Sub.nil)))) ?_
    clear HM ho2555
    rintro k2569 _ w2570 ⟨a2562, ho2555, rfl, HM⟩
    obtain _ | k2569 := k2569
    · exact nomatch ((slices_IndexFunc_int64.l0_z x0 a2562).symm.trans ho2555)
    replace ho2555 := (slices_IndexFunc_int64.l0_s x0 k2569 a2562).symm.trans ho2555
    refine run_seq ?_
    refine run_region rfl ?_
    refine ox rfl rfl rfl rfl (ex_lss rfl rfl rfl) ?_
    refine ops_nil (at_then (run_seq ?_))
    refine run_cond (b := (decide (a2562 < (x0.length : Int)))) rfl (fun hb2571 => ?_) (fun hb2571 => ?_)
    · replace ho2555 := cond_t hb2571 ho2555
      refine run_skip ?_
      refine at_then ?_
      refine run_seq ?_
      refine run_block ?_
      refine run_seq ?_
      refine run_region rfl ?_
      refine ox rfl rfl rfl rfl (ex_move rfl rfl) ?_
      refine ox rfl rfl rfl rfl (ex_assign rfl rfl) ?_
      refine ops_nil (at_then (run_seq ?_))
      obtain ⟨e2572, ho2555⟩ := chk_some ho2555
      obtain ⟨t2574, h2575, ho2555⟩ := bind_some ho2555
      refine run_region rfl ?_
      refine ox rfl rfl rfl rfl (ex_move rfl rfl) ?_
      refine ox rfl rfl rfl rfl (ex_move rfl rfl) ?_
      refine ox rfl rfl rfl rfl (ex_move rfl rfl) ?_
      have hc2573 : CellsAt _ (sb p0) (so p0 + (a2562).toNat * 1) [(.int .i64 (gt x0 a2562))] := rd_plain hp0 e2572
      refine ox rfl rfl rfl rfl (ex_indexAddr (d := kInt) rfl rfl rfl Tryz.underlying40 tsz2 hp0 (idx_lo e2572) (idx_hi e2572)) ?_
      refine ox rfl rfl rfl rfl (ex_load1 rfl rfl Tryz.underlying2 rfl ((HM.at_ hc2573) 0 _ rfl)) ?_
      refine od rfl rfl rfl rfl (does_callvk rfl callok93 rfl rfl rfl (impl_areKeys_1.calls (x0 := (gt x0 a2562)) h2575)) ?_
      rintro _ w2576 ⟨rfl, hn⟩
      replace HM : Mem w [] w2576 [] := HM.call hn
      refine ops_nil (at_then ?_)
      refine run_cond (b := t2574) rfl (fun hb2577 => ?_) (fun hb2577 => ?_)
      · replace ho2555 := cond_t hb2577 ho2555
        refine run_seq ?_
        refine run_region rfl ?_
        refine ox rfl rfl rfl rfl (ex_move rfl rfl) ?_
        refine ox rfl rfl rfl rfl (ex_assign rfl rfl) ?_
        refine ops_nil (at_then ?_)
        refine run_ret ?_
        refine at_block_ret ?_
        refine at_then_ret ?_
        refine at_then_ret ?_
        refine at_block_ret ?_
        refine at_then_ret ?_
        have hR := Option.some.inj ho2555
        subst hR
        have hT := thn_inl H
        have hR := Option.some.inj hT
        subst hR
        exact at_ret1 rfl rfl ⟨_, rfl, rfl, HM⟩
      · replace ho2555 := cond_f hb2577 ho2555
        refine run_skip ?_
        refine at_block ?_
        refine at_then ?_
        refine run_region rfl ?_
        refine ox rfl rfl rfl rfl (ex_add rfl rfl rfl) ?_
        refine ox rfl rfl rfl rfl (ex_move rfl rfl) ?_
        refine ops_nil ?_
        exact at_again k2569 (ρ1 := [(0, p0), (1, .func (.func 93) #[] #[]), (7, .int .i64 (x0.length : Int)), (8, .int .i64 (wrap64 (a2562 + 1)))]) (Nat.lt_succ_self _) ⟨_, ho2555, rfl, HM⟩ (Sub.cons rfl (Sub.cons rfl (Sub.cons rfl (Sub.cons rfl Sub.nil))))
    · replace ho2555 := cond_f hb2571 ho2555
      refine run_exit ?_
      refine at_then_exit ?_
      refine at_then_exit ?_
      refine at_block_exit ?_
      exact at_mid (ρ' := []) ⟨(Option.some.inj ho2555), rfl, HM⟩ Sub.nil
  · rintro _ w2578 ⟨rfl, rfl, HM⟩
    replace H := (thn_inr H)
    refine run_seq ?_
    refine run_region rfl ?_
    refine ox rfl rfl rfl rfl (ex_assign rfl rfl) ?_
    refine ops_nil (at_then ?_)
    refine run_ret ?_
    have hR := Option.some.inj H
    subst hR
    exact at_ret1 rfl rfl ⟨_, rfl, rfl, HM⟩

def slices_ContainsFunc_int64.f (k : Nat) (x0 : List Int) : Option Bool := ((slices_IndexFunc_int64.f k x0).bind fun t2581 => some (decide (0 ≤ t2581)))
theorem slices_ContainsFunc_int64.calls {k : Nat} {x0 : List Int} {p0 : Value} {w : World} (hp0 : RdS kInt w p0 x0) {r : Bool} (H : slices_ContainsFunc_int64.f k x0 = some r) :
    Calls Tryz.prog 92 ([p0, .func (.func 93) #[] #[]] : List Value).toArray w (fun e w_ => ∃ v, e = .returned v ∧ v = (.bool r) ∧ Mem w [] w_ []) := by
  have HM := Mem.start w
  refine calls_run (N := 9) Tryz.func92 rfl rfl rfl rfl ?_
  unfold slices_ContainsFunc_int64.f at H
  refine run_seq ?_
  refine run_region rfl ?_
  refine ox rfl rfl rfl rfl (ex_assign rfl rfl) ?_
  refine ops_nil (at_then (run_seq ?_))
  obtain ⟨t2581, h2582, H⟩ := bind_some H
  refine run_region rfl ?_
  refine ox rfl rfl rfl rfl (ex_move rfl rfl) ?_
  refine ox rfl rfl rfl rfl (ex_move rfl rfl) ?_
  refine od rfl rfl rfl rfl (does_callk rfl callok112 rfl (slices_IndexFunc_int64.calls (x0 := x0) (HM.rd hp0) h2582)) ?_
  rintro _ w2583 ⟨rfl, hn⟩
  replace HM : Mem w [] w2583 [] := HM.call hn
  refine ox rfl rfl rfl rfl (ex_geq rfl rfl rfl) ?_
  refine ox rfl rfl rfl rfl (ex_assign rfl rfl) ?_
  refine ops_nil (at_then ?_)
  refine run_ret ?_
  have hR := Option.some.inj H
  subst hR
  exact at_ret1 rfl rfl ⟨_, rfl, rfl, HM⟩

def impl_areKeys.f (k : Nat) (x0 : List Int) : Option Bool := ((slices_ContainsFunc_int64.f k x0).bind fun t2586 => some (!t2586))
theorem impl_areKeys.calls {k : Nat} {x0 : List Int} {p0 : Value} {w : World} (hp0 : RdS kInt w p0 x0) {r : Bool} (H : impl_areKeys.f k x0 = some r) :
    Calls Tryz.prog 76 ([p0] : List Value).toArray w (fun e w_ => ∃ v, e = .returned v ∧ v = (.bool r) ∧ Mem w [] w_ []) := by
  have HM := Mem.start w
  refine calls_run (N := 6) Tryz.func76 rfl rfl rfl rfl ?_
  unfold impl_areKeys.f at H
  refine run_seq ?_
  refine run_region rfl ?_
  refine ox rfl rfl rfl rfl (ex_assign rfl rfl) ?_
  refine ops_nil (at_then (run_seq ?_))
  obtain ⟨t2586, h2587, H⟩ := bind_some H
  refine run_region rfl ?_
  refine ox rfl rfl rfl rfl (ex_move rfl rfl) ?_
  refine od rfl rfl rfl rfl (does_callk rfl callok92 rfl (slices_ContainsFunc_int64.calls (x0 := x0) (HM.rd hp0) h2587)) ?_
  rintro _ w2588 ⟨rfl, hn⟩
  replace HM : Mem w [] w2588 [] := HM.call hn
  refine ox rfl rfl rfl rfl (ex_not rfl rfl) ?_
  refine ox rfl rfl rfl rfl (ex_assign rfl rfl) ?_
  refine ops_nil (at_then ?_)
  refine run_ret ?_
  have hR := Option.some.inj H
  subst hR
  exact at_ret1 rfl rfl ⟨_, rfl, rfl, HM⟩

def impl_isHeight.f (k : Nat) (x0 : Int) : Option Bool := ((impl_within.f k x0 0 999).bind fun t2595 => some t2595)
theorem impl_isHeight.calls {k : Nat} {x0 : Int}  {w : World}  {r : Bool} (H : impl_isHeight.f k x0 = some r) :
    Calls Tryz.prog 77 ([.int .i64 x0] : List Value).toArray w (fun e w_ => ∃ v, e = .returned v ∧ v = (.bool r) ∧ Mem w [] w_ []) := by
  have HM := Mem.start w
  refine calls_run (N := 5) Tryz.func77 rfl rfl rfl rfl ?_
  unfold impl_isHeight.f at H
  refine run_seq ?_
  refine run_region rfl ?_
  refine ox rfl rfl rfl rfl (ex_assign rfl rfl) ?_
  refine ops_nil (at_then (run_seq ?_))
  obtain ⟨t2595, h2596, H⟩ := bind_some H
  refine run_region rfl ?_
  refine ox rfl rfl rfl rfl (ex_move rfl rfl) ?_
  refine od rfl rfl rfl rfl (does_callk rfl callok27 rfl (impl_within.calls (x0 := x0) (x1 := 0) (x2 := 999) h2596)) ?_
  rintro _ w2597 ⟨rfl, hn⟩
  replace HM : Mem w [] w2597 [] := HM.call hn
  refine ox rfl rfl rfl rfl (ex_assign rfl rfl) ?_
  refine ops_nil (at_then ?_)
  refine run_ret ?_
  have hR := Option.some.inj H
  subst hR
  exact at_ret1 rfl rfl ⟨_, rfl, rfl, HM⟩

def impl_isRising.l0 (x0 : List Int) : Nat → Int → Option (Bool ⊕ Unit)
  | 0, _ => none
  | k + 1, a2649 => (bif (decide (a2649 < (x0.length : Int))) then (chk (idxOk a2649 x0.length) (chk (idxOk (wrap64 (a2649 - 1)) x0.length) (bif (decide ((gt x0 a2649) ≤ (gt x0 (wrap64 (a2649 - 1))))) then some (.inl false) else impl_isRising.l0 x0 k (wrap64 (a2649 + 1))))) else some (.inr ()))
theorem impl_isRising.l0_z (x0 : List Int) (a2649 : Int) : impl_isRising.l0 x0 0 a2649 = none := rfl
theorem impl_isRising.l0_s (x0 : List Int) (k : Nat) (a2649 : Int) : impl_isRising.l0 x0 (k + 1) a2649 = (bif (decide (a2649 < (x0.length : Int))) then (chk (idxOk a2649 x0.length) (chk (idxOk (wrap64 (a2649 - 1)) x0.length) (bif (decide ((gt x0 a2649) ≤ (gt x0 (wrap64 (a2649 - 1))))) then some (.inl false) else impl_isRising.l0 x0 k (wrap64 (a2649 + 1))))) else some (.inr ())) := rfl
def impl_isRising.f (k : Nat) (x0 : List Int) : Option Bool := ((impl_isRising.l0 x0 k 1).bind fun o2641 => thn o2641 (fun r => some r) (fun _ => some true))
theorem impl_isRising.calls {k : Nat} {x0 : List Int} {p0 : Value} {w : World} (hp0 : RdS kInt w p0 x0) {r : Bool} (H : impl_isRising.f k x0 = some r) :
    Calls Tryz.prog 78 ([p0] : List Value).toArray w (fun e w_ => ∃ v, e = .returned v ∧ v = (.bool r) ∧ Mem w [] w_ []) := by
  have HM := Mem.start w
  refine calls_run (N := 20) Tryz.func78 rfl rfl rfl rfl ?_
  unfold impl_isRising.f at H
  refine run_seq ?_
  refine run_region rfl ?_
  refine ox rfl rfl rfl rfl (ex_assign rfl rfl) ?_
  refine ops_nil (at_then ?_)
  obtain ⟨o2641, ho2642, H⟩ := bind_some H
  refine run_mid (fun ρ_ w_ => Sum.inr () = o2641 ∧ ρ_ = [] ∧ Mem w [] w_ []) ?_ ?_
  · skip
    refine run_seq ?_
    refine run_region rfl ?_
    refine ox rfl rfl rfl rfl (ex_assign rfl rfl) ?_
    refine ops_nil (at_then ?_)
    refine run_block ?_
    refine run_loop (fun k_ ρ_ w_ => ∃ a2649 : Int, impl_isRising.l0 x0 k_ a2649 = some o2641 ∧ ρ_ = [(0, p0), (3, .int .i64 a2649)] ∧ Mem w [] w_ []) k (ρ1 := [(0, p0), (3, .int .i64 1)]) ⟨_, ho2642, rfl, HM⟩ (Sub.cons rfl (Sub.cons rfl Sub.nil)) ?_
    clear HM ho2642
    rintro k2656 _ w2657 ⟨a2649, ho2642, rfl, HM⟩
    obtain _ | k2656 := k2656
    · exact nomatch ((impl_isRising.l0_z x0 a2649).symm.trans ho2642)
    replace ho2642 := (impl_isRising.l0_s x0 k2656 a2649).symm.trans ho2642
    refine run_seq ?_
    refine run_seq ?_
    refine run_region rfl ?_
    refine ox rfl rfl rfl rfl (ex_move rfl rfl) ?_
    refine ox rfl rfl rfl rfl (ex_move rfl rfl) ?_
    refine ox rfl rfl rfl rfl (ex_len (d := kInt) (xs := x0) rfl rfl Tryz.underlying40 hp0) ?_
    refine ox rfl rfl rfl rfl (ex_lss rfl rfl rfl) ?_
    refine ops_nil (at_then ?_)
    refine run_cond (b := (decide (a2649 < (x0.length : Int)))) rfl (fun hb2658 => ?_) (fun hb2658 => ?_)
    · replace ho2642 := cond_t hb2658 ho2642
      refine run_skip ?_
      refine at_then ?_
      refine run_seq ?_
      refine run_block ?_
      refine run_seq ?_
      obtain ⟨e2659, ho2642⟩ := chk_some ho2642
      obtain ⟨e2661, ho2642⟩ := chk_some ho2642
      refine run_drawf (fun w_ => Mem w [] w_ []) [(0, true), (1, true), (2, true), (3, true), (4, true), (5, true), (6, true), (7, true), (8, true), (9, true)] mixed rfl rfl (by kernel_rfl) ?_
      replace HM := HM.grow (fr_drew _)
      have hS := Mem.suf (M := []) HM
      refine dp rfl rfl rfl rfl (ex_move rfl rfl) hS ?_
      refine dp rfl rfl rfl rfl (ex_move rfl rfl) hS ?_
      have hc2660 : CellsAt _ (sb p0) (so p0 + (a2649).toNat * 1) [(.int .i64 (gt x0 a2649))] := rd_plain hp0 e2659
      refine dp rfl rfl rfl rfl (ex_indexAddr (d := kInt) rfl rfl rfl Tryz.underlying40 tsz2 hp0 (idx_lo e2659) (idx_hi e2659)) hS ?_
      refine drwp_take rfl (guard_none rfl) rfl rfl (fun w_ hS_ => (ex_load1 rfl rfl Tryz.underlying2 rfl ((hS_.at_ hc2660) 0 _ rfl))) hS ?_
      refine dp rfl rfl rfl rfl (ex_move rfl rfl) hS ?_
      refine dp rfl rfl rfl rfl (ex_move rfl rfl) hS ?_
      refine dp rfl rfl rfl rfl (ex_sub rfl rfl rfl) hS ?_
      have hc2662 : CellsAt _ (sb p0) (so p0 + (wrap64 (a2649 - 1)).toNat * 1) [(.int .i64 (gt x0 (wrap64 (a2649 - 1))))] := rd_plain hp0 e2661
      refine dp rfl rfl rfl rfl (ex_indexAddr (d := kInt) rfl rfl rfl Tryz.underlying40 tsz2 hp0 (idx_lo e2661) (idx_hi e2661)) hS ?_
      refine drwp_take rfl (guard_none rfl) rfl rfl (fun w_ hS_ => (ex_load1 rfl rfl Tryz.underlying2 rfl ((hS_.at_ hc2662) 0 _ rfl))) hS ?_
      refine dp rfl rfl rfl rfl (ex_leq rfl rfl rfl) hS ?_
      refine drwp_done ?_
      refine at_then ?_
      refine run_cond (b := (decide ((gt x0 a2649) ≤ (gt x0 (wrap64 (a2649 - 1)))))) rfl (fun hb2663 => ?_) (fun hb2663 => ?_)
      · replace ho2642 := cond_t hb2663 ho2642
        refine run_seq ?_
        refine run_region rfl ?_
        refine ox rfl rfl rfl rfl (ex_assign rfl rfl) ?_
        refine ops_nil (at_then ?_)
        refine run_ret ?_
        refine at_block_ret ?_
        refine at_then_ret ?_
        refine at_then_ret ?_
        refine at_block_ret ?_
        refine at_then_ret ?_
        have hR := Option.some.inj ho2642
        subst hR
        have hT := thn_inl H
        have hR := Option.some.inj hT
        subst hR
        exact at_ret1 rfl rfl ⟨_, rfl, rfl, HM⟩
      · replace ho2642 := cond_f hb2663 ho2642
        refine run_skip ?_
        refine at_block ?_
        refine at_then ?_
        refine run_region rfl ?_
        refine ox rfl rfl rfl rfl (ex_move rfl rfl) ?_
        refine ox rfl rfl rfl rfl (ex_add rfl rfl rfl) ?_
        refine ox rfl rfl rfl rfl (ex_assign rfl rfl) ?_
        refine ops_nil ?_
        exact at_again k2656 (ρ1 := [(0, p0), (3, .int .i64 (wrap64 (a2649 + 1)))]) (Nat.lt_succ_self _) ⟨_, ho2642, rfl, HM⟩ (Sub.cons rfl (Sub.cons rfl Sub.nil))
    · replace ho2642 := cond_f hb2658 ho2642
      refine run_exit ?_
      refine at_then_exit ?_
      refine at_then_exit ?_
      refine at_block_exit ?_
      exact at_mid (ρ' := []) ⟨(Option.some.inj ho2642), rfl, HM⟩ Sub.nil
  · rintro _ w2664 ⟨rfl, rfl, HM⟩
    replace H := (thn_inr H)
    refine run_seq ?_
    refine run_region rfl ?_
    refine ox rfl rfl rfl rfl (ex_assign rfl rfl) ?_
    refine ops_nil (at_then ?_)
    refine run_ret ?_
    have hR := Option.some.inj H
    subst hR
    exact at_ret1 rfl rfl ⟨_, rfl, rfl, HM⟩

def impl_RuleFault.f (k : Nat) (x0 : Rule) : Option Int := ((impl_within.f k (x0.fKeys.length : Int) 1 3).bind fun t2672 => (bif !t2672 then some 2 else ((impl_areKeys.f k x0.fKeys).bind fun t2676 => ((bif (!(!t2676)) then impl_within.f k x0.fNeed 1 (x0.fKeys.length : Int) else some default).bind fun t2678 => ((bif (!((!t2676) || (!t2678))) then impl_isHeight.f k x0.fAfter else some default).bind fun t2680 => (bif (((!t2676) || (!t2678)) || (!t2680)) then some 3 else ((impl_isRising.f k x0.fKeys).bind fun t2692 => (bif !t2692 then some 1 else some 0))))))))
theorem impl_RuleFault.calls {k : Nat} {x0 : Rule} {p0_0 : Value} {w : World} (hp0_0 : RdS kInt w p0_0 x0.fKeys) {r : Int} (H : impl_RuleFault.f k x0 = some r) :
    Calls Tryz.prog 62 ([.agg #[p0_0, (.int .i64 x0.fNeed), (.int .i64 x0.fAfter)]] : List Value).toArray w (fun e w_ => ∃ v, e = .returned v ∧ v = (.int .i64 r) ∧ Mem w [] w_ []) := by
  have HM := Mem.start w
  refine calls_run (N := 34) Tryz.func62 rfl rfl rfl rfl ?_
  unfold impl_RuleFault.f at H
  refine run_seq ?_
  refine run_region rfl ?_
  refine od rfl rfl rfl rfl (does_box (cs := [p0_0, .int .i64 x0.fNeed, .int .i64 x0.fAfter]) rfl rfl rfl HM) ?_
  rintro _ w2671 ⟨b2668, rfl, HM⟩
  refine ox rfl rfl rfl rfl (ex_assign rfl rfl) ?_
  refine ops_nil (at_then (run_seq ?_))
  refine run_region rfl ?_
  refine ox rfl rfl rfl rfl (ex_fieldAddr (off' := 0) rfl rfl Tryz.underlying42 rfl tsz40 rfl) ?_
  refine ox rfl rfl rfl rfl (ex_load1 rfl rfl Tryz.underlying40 rfl ((HM.box_at 0 rfl) 0 _ rfl)) ?_
  refine ox rfl rfl rfl rfl (ex_len (d := kInt) (xs := x0.fKeys) rfl rfl Tryz.underlying40 hp0_0) ?_
  refine ox rfl rfl rfl rfl (ex_assign rfl rfl) ?_
  refine ops_nil (at_then (run_seq ?_))
  refine run_block ?_
  refine run_seq ?_
  obtain ⟨t2672, h2673, H⟩ := bind_some H
  refine run_region rfl ?_
  refine ox rfl rfl rfl rfl (ex_move rfl rfl) ?_
  refine od rfl rfl rfl rfl (does_callk rfl callok27 rfl (impl_within.calls (x0 := (x0.fKeys.length : Int)) (x1 := 1) (x2 := 3) h2673)) ?_
  rintro _ w2674 ⟨rfl, hn⟩
  replace HM : Mem w [] w2674 [box b2668 42 [p0_0, .int .i64 x0.fNeed, .int .i64 x0.fAfter]] := HM.call hn
  refine ox rfl rfl rfl rfl (ex_not rfl rfl) ?_
  refine ox rfl rfl rfl rfl (ex_assign rfl rfl) ?_
  refine ops_nil (at_then ?_)
  refine run_cond (b := !t2672) rfl (fun hb2675 => ?_) (fun hb2675 => ?_)
  · replace H := cond_t hb2675 H
    refine run_seq ?_
    refine run_region rfl ?_
    refine ox rfl rfl rfl rfl (ex_assign rfl rfl) ?_
    refine ops_nil (at_then ?_)
    refine run_ret ?_
    refine at_block_ret ?_
    refine at_then_ret ?_
    replace HM := (HM.front 0 rfl rfl).drop
    have hR := Option.some.inj H
    subst hR
    exact at_ret1 rfl rfl ⟨_, rfl, rfl, HM⟩
  · replace H := cond_f hb2675 H
    refine run_seq ?_
    obtain ⟨t2676, h2677, H⟩ := bind_some H
    obtain ⟨t2678, h2679, H⟩ := bind_some H
    obtain ⟨t2680, h2681, H⟩ := bind_some H
    refine run_meet (fun ρ_ w_ => ρ_ = [(1, .pointer (some ⟨b2668, 0, none⟩)), (11, .bool (((!t2676) || (!t2678)) || (!t2680)))] ∧ Mem w [] w_ [box b2668 42 [p0_0, .int .i64 x0.fNeed, .int .i64 x0.fAfter]]) ?_ ?_
    · skip
      refine run_region rfl ?_
      refine ox rfl rfl rfl rfl (ex_fieldAddr (off' := 0) rfl rfl Tryz.underlying42 rfl tsz40 rfl) ?_
      refine ox rfl rfl rfl rfl (ex_load1 rfl rfl Tryz.underlying40 rfl ((HM.box_at 0 rfl) 0 _ rfl)) ?_
      refine od rfl rfl rfl rfl (does_callk rfl callok76 rfl (impl_areKeys.calls (x0 := x0.fKeys) (HM.rd hp0_0) h2677)) ?_
      rintro _ w2682 ⟨rfl, hn⟩
      replace HM : Mem w [] w2682 [box b2668 42 [p0_0, .int .i64 x0.fNeed, .int .i64 x0.fAfter]] := HM.call hn
      refine ox rfl rfl rfl rfl (ex_not rfl rfl) ?_
      refine ox rfl rfl rfl rfl (ex_move rfl rfl) ?_
      refine bool_cases (!t2676) (fun hg2683 => ?_) (fun hg2683 => ?_)
      · skip
        refine ops_off rfl (guard_off rfl rfl rfl hg2683) rfl rfl ?_
        refine ops_off rfl (guard_off rfl rfl rfl hg2683) rfl rfl ?_
        refine ops_off rfl (guard_off rfl rfl rfl hg2683) rfl rfl ?_
        refine ops_off rfl (guard_off rfl rfl rfl hg2683) rfl rfl ?_
        refine ops_off rfl (guard_off rfl rfl rfl hg2683) rfl rfl ?_
        have hg2684 : ((!t2676) || (!t2678)) = true := by simp only [hg2683, Bool.and_true, Bool.true_and, Bool.and_false, Bool.false_and, Bool.or_true, Bool.true_or, Bool.or_false, Bool.false_or, Bool.not_true, Bool.not_false, Bool.not_not]
        refine ops_ex (v := .bool ((!t2676) || (!t2678))) rfl (guard_none rfl) rfl rfl (ex_por_t rfl rfl hg2683) ?_
        refine ox rfl rfl rfl rfl (ex_move rfl rfl) ?_
        refine ops_off rfl (guard_off rfl rfl rfl hg2684) rfl rfl ?_
        refine ops_off rfl (guard_off rfl rfl rfl hg2684) rfl rfl ?_
        refine ops_off rfl (guard_off rfl rfl rfl hg2684) rfl rfl ?_
        refine ops_off rfl (guard_off rfl rfl rfl hg2684) rfl rfl ?_
        have hg2685 : (((!t2676) || (!t2678)) || (!t2680)) = true := by simp only [hg2684, Bool.and_true, Bool.true_and, Bool.and_false, Bool.false_and, Bool.or_true, Bool.true_or, Bool.or_false, Bool.false_or, Bool.not_true, Bool.not_false, Bool.not_not]
        refine ops_ex (v := .bool (((!t2676) || (!t2678)) || (!t2680))) rfl (guard_none rfl) rfl rfl (ex_por_t rfl rfl hg2684) ?_
        refine ox rfl rfl rfl rfl (ex_assign rfl rfl) ?_
        refine ops_nil ?_
        exact at_meet [(1, .pointer (some ⟨b2668, 0, none⟩)), (11, .bool (((!t2676) || (!t2678)) || (!t2680)))] ⟨rfl, HM⟩ (Sub.cons rfl (Sub.cons rfl Sub.nil))
      · skip
        refine ops_ex rfl (guard_on rfl rfl rfl hg2683) rfl rfl (ex_fieldAddr (off' := 1) rfl rfl Tryz.underlying42 rfl tsz2 rfl) ?_
        refine ops_ex rfl (guard_on rfl rfl rfl hg2683) rfl rfl (ex_load1 rfl rfl Tryz.underlying2 rfl ((HM.box_at 0 rfl) 1 _ rfl)) ?_
        refine ops_ex rfl (guard_on rfl rfl rfl hg2683) rfl rfl (ex_move rfl rfl) ?_
        refine ops_does rfl (guard_on rfl rfl rfl hg2683) rfl rfl (does_callk rfl callok27 rfl (impl_within.calls (x0 := x0.fNeed) (x1 := 1) (x2 := (x0.fKeys.length : Int)) (cond_t (not_mk hg2683) h2679))) ?_
        rintro _ w2686 ⟨rfl, hn⟩
        replace HM : Mem w [] w2686 [box b2668 42 [p0_0, .int .i64 x0.fNeed, .int .i64 x0.fAfter]] := HM.call hn
        refine ops_ex rfl (guard_on rfl rfl rfl hg2683) rfl rfl (ex_not rfl rfl) ?_
        refine ops_ex (v := .bool ((!t2676) || (!t2678))) rfl (guard_none rfl) rfl rfl (ex_por_f rfl rfl hg2683 rfl) ?_
        refine ox rfl rfl rfl rfl (ex_move rfl rfl) ?_
        refine bool_cases ((!t2676) || (!t2678)) (fun hg2687 => ?_) (fun hg2687 => ?_)
        · skip
          refine ops_off rfl (guard_off rfl rfl rfl hg2687) rfl rfl ?_
          refine ops_off rfl (guard_off rfl rfl rfl hg2687) rfl rfl ?_
          refine ops_off rfl (guard_off rfl rfl rfl hg2687) rfl rfl ?_
          refine ops_off rfl (guard_off rfl rfl rfl hg2687) rfl rfl ?_
          have hg2688 : (((!t2676) || (!t2678)) || (!t2680)) = true := by simp only [hg2687, Bool.and_true, Bool.true_and, Bool.and_false, Bool.false_and, Bool.or_true, Bool.true_or, Bool.or_false, Bool.false_or, Bool.not_true, Bool.not_false, Bool.not_not]
          refine ops_ex (v := .bool (((!t2676) || (!t2678)) || (!t2680))) rfl (guard_none rfl) rfl rfl (ex_por_t rfl rfl hg2687) ?_
          refine ox rfl rfl rfl rfl (ex_assign rfl rfl) ?_
          refine ops_nil ?_
          exact at_meet [(1, .pointer (some ⟨b2668, 0, none⟩)), (11, .bool (((!t2676) || (!t2678)) || (!t2680)))] ⟨rfl, HM⟩ (Sub.cons rfl (Sub.cons rfl Sub.nil))
        · skip
          refine ops_ex rfl (guard_on rfl rfl rfl hg2687) rfl rfl (ex_fieldAddr (off' := 2) rfl rfl Tryz.underlying42 rfl tsz2 rfl) ?_
          refine ops_ex rfl (guard_on rfl rfl rfl hg2687) rfl rfl (ex_load1 rfl rfl Tryz.underlying2 rfl ((HM.box_at 0 rfl) 2 _ rfl)) ?_
          refine ops_does rfl (guard_on rfl rfl rfl hg2687) rfl rfl (does_callk rfl callok77 rfl (impl_isHeight.calls (x0 := x0.fAfter) (cond_t (not_mk hg2687) h2681))) ?_
          rintro _ w2689 ⟨rfl, hn⟩
          replace HM : Mem w [] w2689 [box b2668 42 [p0_0, .int .i64 x0.fNeed, .int .i64 x0.fAfter]] := HM.call hn
          refine ops_ex rfl (guard_on rfl rfl rfl hg2687) rfl rfl (ex_not rfl rfl) ?_
          refine ops_ex (v := .bool (((!t2676) || (!t2678)) || (!t2680))) rfl (guard_none rfl) rfl rfl (ex_por_f rfl rfl hg2687 rfl) ?_
          refine ox rfl rfl rfl rfl (ex_assign rfl rfl) ?_
          refine ops_nil ?_
          exact at_meet [(1, .pointer (some ⟨b2668, 0, none⟩)), (11, .bool (((!t2676) || (!t2678)) || (!t2680)))] ⟨rfl, HM⟩ (Sub.cons rfl (Sub.cons rfl Sub.nil))
    · rintro _ w2690 ⟨rfl, HM⟩
      refine at_then ?_
      refine run_cond (b := (((!t2676) || (!t2678)) || (!t2680))) rfl (fun hb2691 => ?_) (fun hb2691 => ?_)
      · replace H := cond_t hb2691 H
        refine run_seq ?_
        refine run_region rfl ?_
        refine ox rfl rfl rfl rfl (ex_assign rfl rfl) ?_
        refine ops_nil (at_then ?_)
        refine run_ret ?_
        refine at_block_ret ?_
        refine at_then_ret ?_
        replace HM := (HM.front 0 rfl rfl).drop
        have hR := Option.some.inj H
        subst hR
        exact at_ret1 rfl rfl ⟨_, rfl, rfl, HM⟩
      · replace H := cond_f hb2691 H
        refine run_seq ?_
        obtain ⟨t2692, h2693, H⟩ := bind_some H
        refine run_region rfl ?_
        refine ox rfl rfl rfl rfl (ex_fieldAddr (off' := 0) rfl rfl Tryz.underlying42 rfl tsz40 rfl) ?_
        refine ox rfl rfl rfl rfl (ex_load1 rfl rfl Tryz.underlying40 rfl ((HM.box_at 0 rfl) 0 _ rfl)) ?_
        refine od rfl rfl rfl rfl (does_callk rfl callok78 rfl (impl_isRising.calls (x0 := x0.fKeys) (HM.rd hp0_0) h2693)) ?_
        rintro _ w2694 ⟨rfl, hn⟩
        replace HM : Mem w [] w2694 [box b2668 42 [p0_0, .int .i64 x0.fNeed, .int .i64 x0.fAfter]] := HM.call hn
        refine ox rfl rfl rfl rfl (ex_not rfl rfl) ?_
        refine ox rfl rfl rfl rfl (ex_assign rfl rfl) ?_
        refine ops_nil (at_then ?_)
        refine run_cond (b := !t2692) rfl (fun hb2695 => ?_) (fun hb2695 => ?_)
        · replace H := cond_t hb2695 H
          refine run_seq ?_
          refine run_region rfl ?_
          refine ox rfl rfl rfl rfl (ex_assign rfl rfl) ?_
          refine ops_nil (at_then ?_)
          refine run_ret ?_
          refine at_block_ret ?_
          refine at_then_ret ?_
          replace HM := (HM.front 0 rfl rfl).drop
          have hR := Option.some.inj H
          subst hR
          exact at_ret1 rfl rfl ⟨_, rfl, rfl, HM⟩
        · replace H := cond_f hb2695 H
          refine run_skip ?_
          refine at_block ?_
          refine at_then ?_
          refine run_seq ?_
          refine run_region rfl ?_
          refine ox rfl rfl rfl rfl (ex_assign rfl rfl) ?_
          refine ops_nil (at_then ?_)
          refine run_ret ?_
          replace HM := (HM.front 0 rfl rfl).drop
          have hR := Option.some.inj H
          subst hR
          exact at_ret1 rfl rfl ⟨_, rfl, rfl, HM⟩

def strings_Join.f (k : Nat) (x0 : List ByteArray) (x1 : ByteArray) : Option ByteArray := (chk (leB x0.length 140737488355328 && leB (Lib.join (x0.map (·.data.toList)) x1.data.toList).length 140737488355328) (some (⟨(Lib.join (x0.map (·.data.toList)) x1.data.toList).toArray⟩ : ByteArray)))
theorem strings_Join.calls {k : Nat} {x0 : List ByteArray} {x1 : ByteArray} {p0 : Value} {w : World} (hp0 : RdS kStr w p0 x0) {r : ByteArray} (H : strings_Join.f k x0 x1 = some r) :
    Calls Tryz.prog 49 ([p0, .string x1] : List Value).toArray w (fun e w_ => ∃ v, e = .returned v ∧ v = (.string r) ∧ Mem w [] w_ []) := by
  obtain ⟨h, H⟩ := chk_some H
  have hR := Option.some.inj H
  subst hR
  rw [Bool.and_eq_true] at h
  have hm : ∀ w_, Below w.heap.size w w_ → Mem w [] w_ [] := fun w_ hb => ⟨Fr.of_below hb nodr, [], .nil, List.nodup_nil, by simp⟩
  obtain ⟨A, c, rfl, hc, hA⟩ := hp0
  rcases hA with rfl | ⟨b, o, rfl, hA⟩
  · exact (Tryz.strings_Join_none A c x1 w).mono fun e w_ ⟨he, hw⟩ => ⟨_, he, rfl, hm _ (hw ▸ Below.refl _ _)⟩
  · cases hx : x0 with
    | nil => subst hx; exact (Tryz.strings_Join_none _ c x1 w).mono fun e w_ ⟨he, hw⟩ => ⟨_, he, rfl, hm _ (hw ▸ Below.refl _ _)⟩
    | cons a l =>
      rw [← hx]
      have hcell : ∀ (j : Nat) x, x0[j]? = some x → w.cell? ⟨b, o + j, none⟩ = some (.string x) := fun j x hj => by
        obtain ⟨hlt, e1⟩ := List.getElem?_eq_some_iff.1 hj
        obtain ⟨cs, h2, h3⟩ := hA j hlt
        have h2' : cs = [Value.string x0[j]] := h2
        subst h2'
        have h4 : w.cell? ⟨b, o + j * 1 + 0, none⟩ = some (.string x0[j]) := h3 0 _ rfl
        rw [e1] at h4
        simpa using h4
      exact (Tryz.strings_Join b o c x0 x1 w hcell (World.block_lt_of_cell? w _ (hcell 0 a (by rw [hx]; rfl))) (leB_le h.1) hc (leB_le h.2)).mono fun e w_ ⟨he, hw⟩ => ⟨_, he, rfl, hm _ hw⟩

def impl_joined.l0 (x0 : List Int) : Nat → (List ByteArray) → Int → Option ((List ByteArray))
  | 0, _, _ => none
  | k + 1, a2811, a2813 => (bif (decide (a2813 < (x0.length : Int))) then (chk (idxOk a2813 x0.length) ((impl_dec.f k (gt x0 a2813)).bind fun t2830 => (chk (leB ((a2811.length + ([t2830] : List ByteArray).length) * 16) 140737488355328) (impl_joined.l0 x0 k (a2811 ++ ([t2830] : List ByteArray)) (wrap64 (a2813 + 1)))))) else some a2811)
theorem impl_joined.l0_z (x0 : List Int) (a2811 : List ByteArray) (a2813 : Int) : impl_joined.l0 x0 0 a2811 a2813 = none := rfl
theorem impl_joined.l0_s (x0 : List Int) (k : Nat) (a2811 : List ByteArray) (a2813 : Int) : impl_joined.l0 x0 (k + 1) a2811 a2813 = (bif (decide (a2813 < (x0.length : Int))) then (chk (idxOk a2813 x0.length) ((impl_dec.f k (gt x0 a2813)).bind fun t2830 => (chk (leB ((a2811.length + ([t2830] : List ByteArray).length) * 16) 140737488355328) (impl_joined.l0 x0 k (a2811 ++ ([t2830] : List ByteArray)) (wrap64 (a2813 + 1)))))) else some a2811) := rfl
def impl_joined.f (k : Nat) (x0 : List Int) (x1 : ByteArray) : Option ByteArray := ((impl_joined.l0 x0 k ([] : List ByteArray) 0).bind (fun a2795 => ((strings_Join.f k a2795 x1).bind fun t2842 => some t2842)))
theorem impl_joined.calls {k : Nat} {x0 : List Int} {x1 : ByteArray} {p0 : Value} {w : World} (htab : TabP w) (hp0 : RdS kInt w p0 x0) {r : ByteArray} (H : impl_joined.f k x0 x1 = some r) :
    Calls Tryz.prog 74 ([p0, .string x1] : List Value).toArray w (fun e w_ => ∃ v, e = .returned v ∧ v = (.string r) ∧ Mem w [] w_ []) := by
  have HM := Mem.start w
  refine calls_run (N := 24) Tryz.func74 rfl rfl rfl rfl ?_
  unfold impl_joined.f at H
  refine run_seq ?_
  refine run_region rfl ?_
  refine ox rfl rfl rfl rfl (ex_assign rfl rfl) ?_
  refine ops_nil (at_then (run_seq ?_))
  refine run_region rfl ?_
  refine od rfl rfl rfl rfl (does_lit (e := 9) (cs := []) (xs := ([] : List ByteArray)) kStr rfl rfl (fun _ => by kernel_rfl) rfl rfl (fun _ _ h => by have h' : _ = [] := h; subst h'; exact .nil) HM.emp) ?_
  rintro v2753 w2756 HM
  refine ox rfl rfl rfl rfl (ex_assign rfl rfl) ?_
  refine ops_nil (at_then ?_)
  obtain ⟨o2797, ho2798, H⟩ := bind_some H
  refine run_mid (fun ρ_ w_ => ∃ v2794 : Value, ∃ a2795 : List ByteArray, a2795 = o2797 ∧ ρ_ = [(1, .string x1), (5, v2794)] ∧ Mem w [] w_ [own kStr 9 v2794 a2795]) ?_ ?_
  · clear H
    refine run_seq ?_
    refine run_region rfl ?_
    refine ox rfl rfl rfl rfl (ex_move rfl rfl) ?_
    refine ox rfl rfl rfl rfl (ex_len (d := kInt) (xs := x0) rfl rfl Tryz.underlying40 hp0) ?_
    refine ox rfl rfl rfl rfl (ex_move rfl rfl) ?_
    refine ops_nil (at_then ?_)
    refine run_block ?_
    refine run_loop (fun k_ ρ_ w_ => ∃ v2810 : Value, ∃ a2811 : List ByteArray, ∃ a2813 : Int, impl_joined.l0 x0 k_ a2811 a2813 = some o2797 ∧ ρ_ = [(1, .string x1), (5, v2810), (9, p0), (10, .int .i64 (x0.length : Int)), (11, .int .i64 a2813)] ∧ Mem w [] w_ [own kStr 9 v2810 a2811]) k (ρ1 := [(1, .string x1), (5, v2753), (9, p0), (10, .int .i64 (x0.length : Int)), (11, .int .i64 0)]) ⟨_, _, _, ho2798, rfl, HM⟩ (Sub.cons rfl (Sub.cons rfl (Sub.cons rfl (Sub.cons rfl (Sub.cons rfl Sub.nil))))) ?_
    clear HM ho2798
    rintro k2825 _ w2826 ⟨v2810, a2811, a2813, ho2798, rfl, HM⟩
    obtain _ | k2825 := k2825
    · exact nomatch ((impl_joined.l0_z x0 a2811 a2813).symm.trans ho2798)
    replace ho2798 := (impl_joined.l0_s x0 k2825 a2811 a2813).symm.trans ho2798
    refine run_seq ?_
    refine run_region rfl ?_
    refine ox rfl rfl rfl rfl (ex_lss rfl rfl rfl) ?_
    refine ops_nil (at_then (run_seq ?_))
    refine run_cond (b := (decide (a2813 < (x0.length : Int)))) rfl (fun hb2827 => ?_) (fun hb2827 => ?_)
    · replace ho2798 := cond_t hb2827 ho2798
      refine run_skip ?_
      refine at_then ?_
      refine run_seq ?_
      refine run_block ?_
      refine run_seq ?_
      obtain ⟨e2828, ho2798⟩ := chk_some ho2798
      refine run_region rfl ?_
      have hc2829 : CellsAt _ (sb p0) (so p0 + (a2813).toNat * 1) [(.int .i64 (gt x0 a2813))] := rd_plain hp0 e2828
      refine ox rfl rfl rfl rfl (ex_indexAddr (d := kInt) rfl rfl rfl Tryz.underlying40 tsz2 hp0 (idx_lo e2828) (idx_hi e2828)) ?_
      refine ox rfl rfl rfl rfl (ex_load1 rfl rfl Tryz.underlying2 rfl ((HM.at_ hc2829) 0 _ rfl)) ?_
      refine ox rfl rfl rfl rfl (ex_assign rfl rfl) ?_
      refine ops_nil (at_then ?_)
      obtain ⟨t2830, h2831, ho2798⟩ := bind_some ho2798
      obtain ⟨e2835, ho2798⟩ := chk_some ho2798
      refine run_region rfl ?_
      refine ox rfl rfl rfl rfl (ex_move rfl rfl) ?_
      refine ox rfl rfl rfl rfl (ex_move rfl rfl) ?_
      refine od rfl rfl rfl rfl (does_callk rfl callok48 rfl (impl_dec.calls (x0 := (gt x0 a2813)) (HM.tabP htab) h2831)) ?_
      rintro _ w2838 ⟨rfl, hn⟩
      replace HM : Mem w [] w2838 [own kStr 9 v2810 a2811] := HM.call hn
      refine od rfl rfl rfl rfl (does_lit (e := 9) (cs := [.string t2830]) (xs := ([t2830] : List ByteArray)) kStr rfl rfl (fun _ => by kernel_rfl) rfl rfl (fun _ _ h => by have h' : _ = [] := h; subst h'; exact (Elems.cons (d := kStr) (x := t2830) (f := []) ⟨rfl, rfl⟩ .nil)) HM.emp) ?_
      rintro v2832 w2839 HM
      replace HM := HM.front 1 rfl rfl
      refine od rfl rfl rfl rfl (does_appendR kStr flat_plain rfl rfl rfl Tryz.underlying72 tsz9 rfl tby9 tz9 rfl rfl (leB_le e2835) (HM.own_rd 1 rfl) HM) ?_
      rintro v2836 w2840 HM
      refine ox rfl rfl rfl rfl (ex_assign rfl rfl) ?_
      refine ops_nil ?_
      refine at_block ?_
      refine at_then ?_
      refine run_region rfl ?_
      refine ox rfl rfl rfl rfl (ex_add rfl rfl rfl) ?_
      refine ox rfl rfl rfl rfl (ex_move rfl rfl) ?_
      refine ops_nil ?_
      replace HM := (HM.front 1 rfl rfl).drop
      exact at_again k2825 (ρ1 := [(1, .string x1), (5, v2836), (9, p0), (10, .int .i64 (x0.length : Int)), (11, .int .i64 (wrap64 (a2813 + 1)))]) (Nat.lt_succ_self _) ⟨_, _, _, ho2798, rfl, HM⟩ (Sub.cons rfl (Sub.cons rfl (Sub.cons rfl (Sub.cons rfl (Sub.cons rfl Sub.nil)))))
    · replace ho2798 := cond_f hb2827 ho2798
      refine run_exit ?_
      refine at_then_exit ?_
      refine at_then_exit ?_
      refine at_block_exit ?_
      exact at_mid (ρ' := [(1, .string x1), (5, v2810)]) ⟨_, _, (Option.some.inj ho2798), rfl, HM⟩ (Sub.cons rfl (Sub.cons rfl Sub.nil))
  · rintro _ w2841 ⟨v2794, a2795, rfl, rfl, HM⟩
    refine run_seq ?_
    obtain ⟨t2842, h2843, H⟩ := bind_some H
    refine run_region rfl ?_
    refine ox rfl rfl rfl rfl (ex_move rfl rfl) ?_
    refine ox rfl rfl rfl rfl (ex_move rfl rfl) ?_
    refine od rfl rfl rfl rfl (does_callk rfl callok49 rfl (strings_Join.calls (x0 := a2795) (x1 := x1) (HM.own_rd 0 rfl) h2843)) ?_
    rintro _ w2844 ⟨rfl, hn⟩
    replace HM : Mem w [] w2844 [own kStr 9 v2794 a2795] := HM.call hn
    refine ox rfl rfl rfl rfl (ex_assign rfl rfl) ?_
    refine ops_nil (at_then ?_)
    refine run_ret ?_
    replace HM := (HM.front 0 rfl rfl).drop
    have hR := Option.some.inj H
    subst hR
    exact at_ret1 rfl rfl ⟨_, rfl, rfl, HM⟩

def impl_ruleText.f (k : Nat) (x0 : Rule) (x1 : ByteArray) : Option ByteArray := ((impl_dec.f k x0.fNeed).bind fun t2859 => (chk (leB (t2859.size + x1.size) 9223372036854775807) (chk (leB ((t2859 ++ x1).size + (⟨#[111, 102]⟩ : ByteArray).size) 9223372036854775807) (chk (leB (((t2859 ++ x1) ++ (⟨#[111, 102]⟩ : ByteArray)).size + x1.size) 9223372036854775807) ((impl_joined.f k x0.fKeys (⟨#[44]⟩ : ByteArray)).bind fun t2864 => (chk (leB ((((t2859 ++ x1) ++ (⟨#[111, 102]⟩ : ByteArray)) ++ x1).size + t2864.size) 9223372036854775807) (bif (x0.fAfter != 0) then (chk (leB (x1.size + (⟨#[97, 102, 116, 101, 114]⟩ : ByteArray).size) 9223372036854775807) (chk (leB ((x1 ++ (⟨#[97, 102, 116, 101, 114]⟩ : ByteArray)).size + x1.size) 9223372036854775807) ((impl_dec.f k x0.fAfter).bind fun t2872 => (chk (leB (((x1 ++ (⟨#[97, 102, 116, 101, 114]⟩ : ByteArray)) ++ x1).size + t2872.size) 9223372036854775807) (chk (leB (((((t2859 ++ x1) ++ (⟨#[111, 102]⟩ : ByteArray)) ++ x1) ++ t2864).size + (((x1 ++ (⟨#[97, 102, 116, 101, 114]⟩ : ByteArray)) ++ x1) ++ t2872).size) 9223372036854775807) (some (((((t2859 ++ x1) ++ (⟨#[111, 102]⟩ : ByteArray)) ++ x1) ++ t2864) ++ (((x1 ++ (⟨#[97, 102, 116, 101, 114]⟩ : ByteArray)) ++ x1) ++ t2872)))))))) else some ((((t2859 ++ x1) ++ (⟨#[111, 102]⟩ : ByteArray)) ++ x1) ++ t2864))))))))
theorem impl_ruleText.calls {k : Nat} {x0 : Rule} {x1 : ByteArray} {p0_0 : Value} {w : World} (htab : TabP w) (hp0_0 : RdS kInt w p0_0 x0.fKeys) {r : ByteArray} (H : impl_ruleText.f k x0 x1 = some r) :
    Calls Tryz.prog 50 ([.agg #[p0_0, (.int .i64 x0.fNeed), (.int .i64 x0.fAfter)], .string x1] : List Value).toArray w (fun e w_ => ∃ v, e = .returned v ∧ v = (.string r) ∧ Mem w [] w_ []) := by
  have HM := Mem.start w
  refine calls_run (N := 32) Tryz.func50 rfl rfl rfl rfl ?_
  unfold impl_ruleText.f at H
  refine run_seq ?_
  refine run_region rfl ?_
  refine od rfl rfl rfl rfl (does_box (cs := [p0_0, .int .i64 x0.fNeed, .int .i64 x0.fAfter]) rfl rfl rfl HM) ?_
  rintro _ w2858 ⟨b2855, rfl, HM⟩
  refine ox rfl rfl rfl rfl (ex_assign rfl rfl) ?_
  refine ops_nil (at_then (run_seq ?_))
  obtain ⟨t2859, h2860, H⟩ := bind_some H
  obtain ⟨e2861, H⟩ := chk_some H
  obtain ⟨e2862, H⟩ := chk_some H
  obtain ⟨e2863, H⟩ := chk_some H
  obtain ⟨t2864, h2865, H⟩ := bind_some H
  obtain ⟨e2866, H⟩ := chk_some H
  refine run_drawf (fun w_ => Mem w [] w_ [box b2855 42 [p0_0, .int .i64 x0.fNeed, .int .i64 x0.fAfter]]) [(0, true), (1, true), (3, true), (6, true), (8, true), (9, true), (2, false), (4, true), (5, true), (7, true), (10, false), (11, true), (12, true)] mixed rfl rfl (by kernel_rfl) ?_
  replace HM := HM.grow (fr_drew _)
  have hS := Mem.suf (M := []) HM
  refine dp rfl rfl rfl rfl (ex_fieldAddr (off' := 1) rfl rfl Tryz.underlying42 rfl tsz2 rfl) hS ?_
  refine drwp_take rfl (guard_none rfl) rfl rfl (fun w_ hS_ => (ex_load1 rfl rfl Tryz.underlying2 rfl ((hS_.box_at 0 rfl) 1 _ rfl))) hS ?_
  refine dp rfl rfl rfl rfl (ex_move rfl rfl) hS ?_
  refine dp rfl rfl rfl rfl (ex_move rfl rfl) hS ?_
  refine dp rfl rfl rfl rfl (ex_fieldAddr (off' := 0) rfl rfl Tryz.underlying42 rfl tsz40 rfl) hS ?_
  refine drwp_take rfl (guard_none rfl) rfl rfl (fun w_ hS_ => (ex_load1 rfl rfl Tryz.underlying40 rfl ((hS_.box_at 0 rfl) 0 _ rfl))) hS ?_
  refine drwp_one rfl (guard_none rfl) rfl rfl (does_callk rfl callok48 rfl (impl_dec.calls (x0 := x0.fNeed) (HM.tabP htab) h2860)) ?_
  rintro _ w2867 ⟨rfl, hn⟩
  replace HM : Mem w [] w2867 [box b2855 42 [p0_0, .int .i64 x0.fNeed, .int .i64 x0.fAfter]] := HM.call hn
  have hS := Mem.suf (M := []) HM
  refine ⟨hS, ?_⟩
  refine dp rfl rfl rfl rfl (ex_sadd rfl rfl rfl (leB_le e2861)) hS ?_
  refine dp rfl rfl rfl rfl (ex_sadd rfl rfl rfl (leB_le e2862)) hS ?_
  refine dp rfl rfl rfl rfl (ex_sadd rfl rfl rfl (leB_le e2863)) hS ?_
  refine drwp_one rfl (guard_none rfl) rfl rfl (does_callk rfl callok74 rfl (impl_joined.calls (x0 := x0.fKeys) (x1 := (⟨#[44]⟩ : ByteArray)) (HM.tabP htab) (HM.rd hp0_0) h2865)) ?_
  rintro _ w2868 ⟨rfl, hn⟩
  replace HM : Mem w [] w2868 [box b2855 42 [p0_0, .int .i64 x0.fNeed, .int .i64 x0.fAfter]] := HM.call hn
  have hS := Mem.suf (M := []) HM
  refine ⟨hS, ?_⟩
  refine dp rfl rfl rfl rfl (ex_sadd rfl rfl rfl (leB_le e2866)) hS ?_
  refine dp rfl rfl rfl rfl (ex_assign rfl rfl) hS ?_
  refine drwp_done ?_
  refine at_then ?_
  refine run_seq ?_
  refine run_seq ?_
  refine run_region rfl ?_
  refine ox rfl rfl rfl rfl (ex_fieldAddr (off' := 2) rfl rfl Tryz.underlying42 rfl tsz2 rfl) ?_
  refine ox rfl rfl rfl rfl (ex_load1 rfl rfl Tryz.underlying2 rfl ((HM.box_at 0 rfl) 2 _ rfl)) ?_
  refine ox rfl rfl rfl rfl (ex_neq rfl rfl rfl) ?_
  refine ops_nil (at_then ?_)
  refine run_cond (b := (x0.fAfter != 0)) rfl (fun hb2869 => ?_) (fun hb2869 => ?_)
  · replace H := cond_t hb2869 H
    obtain ⟨e2870, H⟩ := chk_some H
    obtain ⟨e2871, H⟩ := chk_some H
    obtain ⟨t2872, h2873, H⟩ := bind_some H
    obtain ⟨e2874, H⟩ := chk_some H
    obtain ⟨e2875, H⟩ := chk_some H
    refine run_region rfl ?_
    refine ox rfl rfl rfl rfl (ex_move rfl rfl) ?_
    refine ox rfl rfl rfl rfl (ex_move rfl rfl) ?_
    refine ox rfl rfl rfl rfl (ex_sadd rfl rfl rfl (leB_le e2870)) ?_
    refine ox rfl rfl rfl rfl (ex_move rfl rfl) ?_
    refine ox rfl rfl rfl rfl (ex_sadd rfl rfl rfl (leB_le e2871)) ?_
    refine ox rfl rfl rfl rfl (ex_fieldAddr (off' := 2) rfl rfl Tryz.underlying42 rfl tsz2 rfl) ?_
    refine ox rfl rfl rfl rfl (ex_load1 rfl rfl Tryz.underlying2 rfl ((HM.box_at 0 rfl) 2 _ rfl)) ?_
    refine od rfl rfl rfl rfl (does_callk rfl callok48 rfl (impl_dec.calls (x0 := x0.fAfter) (HM.tabP htab) h2873)) ?_
    rintro _ w2876 ⟨rfl, hn⟩
    replace HM : Mem w [] w2876 [box b2855 42 [p0_0, .int .i64 x0.fNeed, .int .i64 x0.fAfter]] := HM.call hn
    refine ox rfl rfl rfl rfl (ex_sadd rfl rfl rfl (leB_le e2874)) ?_
    refine ox rfl rfl rfl rfl (ex_sadd rfl rfl rfl (leB_le e2875)) ?_
    refine ox rfl rfl rfl rfl (ex_assign rfl rfl) ?_
    refine ops_nil (at_then (run_seq ?_))
    refine run_region rfl ?_
    refine ox rfl rfl rfl rfl (ex_move rfl rfl) ?_
    refine ox rfl rfl rfl rfl (ex_assign rfl rfl) ?_
    refine ops_nil (at_then ?_)
    refine run_ret ?_
    replace HM := (HM.front 0 rfl rfl).drop
    have hR := Option.some.inj H
    subst hR
    exact at_ret1 rfl rfl ⟨_, rfl, rfl, HM⟩
  · replace H := cond_f hb2869 H
    refine run_skip ?_
    refine at_then ?_
    refine run_seq ?_
    refine run_region rfl ?_
    refine ox rfl rfl rfl rfl (ex_move rfl rfl) ?_
    refine ox rfl rfl rfl rfl (ex_assign rfl rfl) ?_
    refine ops_nil (at_then ?_)
    refine run_ret ?_
    replace HM := (HM.front 0 rfl rfl).drop
    have hR := Option.some.inj H
    subst hR
    exact at_ret1 rfl rfl ⟨_, rfl, rfl, HM⟩

def impl_readRule.f (k : Nat) (x0 : ByteArray) (x1 : ByteArray) : Option (Rule × Bool) := ((strings_Split.f k x0 x1).bind fun t2884 => (bif ((decide (300 < (x0.size : Int))) || (((t2884.length : Int) != 3) && ((t2884.length : Int) != 5))) then some ((⟨([] : List Int), 0, 0⟩ : Rule), false) else (chk (idxOk (0 : Int) t2884.length) (chk (idxOk (2 : Int) t2884.length) ((impl_number.f k (gt t2884 (0 : Int))).bind fun t2900 => ((impl_numbers.f k (gt t2884 (2 : Int)) (⟨#[44]⟩ : ByteArray)).bind fun t2902 => ((bif ((t2884.length : Int) == 5) then (chk (idxOk (4 : Int) t2884.length) ((impl_number.f k (gt t2884 (4 : Int))).bind fun t2943 => some t2943)) else some 0).bind (fun a2938 => ((impl_RuleFault.f k (⟨t2902, t2900, a2938⟩ : Rule)).bind fun t2948 => ((bif (!(t2948 != 0)) then impl_ruleText.f k (⟨t2902, t2900, a2938⟩ : Rule) x1 else some default).bind fun t2950 => (bif ((t2948 != 0) || (!sEq t2950 x0)) then some ((⟨([] : List Int), 0, 0⟩ : Rule), false) else some ((⟨t2902, t2900, a2938⟩ : Rule), true))))))))))))
theorem impl_readRule.calls {k : Nat} {x0 : ByteArray} {x1 : ByteArray}  {w : World} (htab : TabP w)  {r : Rule × Bool} (H : impl_readRule.f k x0 x1 = some r) :
    Calls Tryz.prog 69 ([.string x0, .string x1] : List Value).toArray w (fun e w_ => ∃ v, e = .returned v ∧ ∃ u0 : Value, v = (.tuple #[.agg #[u0, .int .i64 r.1.fNeed, .int .i64 r.1.fAfter], .bool r.2]) ∧ Mem w [] w_ [own kInt 2 u0 r.1.fKeys]) := by
  have HM := Mem.start w
  refine calls_run (N := 54) Tryz.func69 rfl rfl rfl rfl ?_
  unfold impl_readRule.f at H
  refine run_seq ?_
  refine run_region rfl ?_
  refine od rfl rfl rfl rfl (does_alloc (cs := [.slice none 0 0, .int .i64 0, .int .i64 0]) rfl tz42 rfl HM) ?_
  rintro _ w2883 ⟨b2880, rfl, HM⟩
  refine ox rfl rfl rfl rfl (ex_assign rfl rfl) ?_
  refine ops_nil (at_then (run_seq ?_))
  obtain ⟨t2884, h2885, H⟩ := bind_some H
  refine run_region rfl ?_
  refine ox rfl rfl rfl rfl (ex_move rfl rfl) ?_
  refine ox rfl rfl rfl rfl (ex_move rfl rfl) ?_
  refine od rfl rfl rfl rfl (does_callk rfl callok42 rfl (strings_Split.calls (x0 := x0) (x1 := x1) (HM.tabP htab) h2885)) ?_
  rintro u2886 w2888 ⟨_, rfl, hn⟩
  replace HM : Mem w [] w2888 [own kStr 9 u2886 t2884, box b2880 42 [.slice none 0 0, .int .i64 0, .int .i64 0]] := HM.call hn
  refine ox rfl rfl rfl rfl (ex_assign rfl rfl) ?_
  refine ops_nil (at_then (run_seq ?_))
  refine run_seq ?_
  refine run_meet (fun ρ_ w_ => ρ_ = [(0, .string x0), (1, .string x1), (4, .pointer (some ⟨b2880, 0, none⟩)), (6, u2886), (23, .bool ((decide (300 < (x0.size : Int))) || (((t2884.length : Int) != 3) && ((t2884.length : Int) != 5))))] ∧ Mem w [] w_ [box b2880 42 [.slice none 0 0, .int .i64 0, .int .i64 0], own kStr 9 u2886 t2884]) ?_ ?_
  · skip
    refine run_region rfl ?_
    refine ox rfl rfl rfl rfl (ex_move rfl rfl) ?_
    refine ox rfl rfl rfl rfl (ex_strlen rfl rfl Tryz.underlying9) ?_
    refine ox rfl rfl rfl rfl (ex_gtr rfl rfl rfl) ?_
    refine ox rfl rfl rfl rfl (ex_move rfl rfl) ?_
    refine bool_cases (decide (300 < (x0.size : Int))) (fun hg2890 => ?_) (fun hg2890 => ?_)
    · skip
      refine ops_off rfl (guard_off rfl rfl rfl hg2890) rfl rfl ?_
      refine ops_off rfl (guard_off rfl rfl rfl hg2890) rfl rfl ?_
      refine ops_off rfl (guard_off rfl rfl rfl hg2890) rfl rfl ?_
      refine ops_off rfl (guard_off rfl rfl rfl hg2890) rfl rfl ?_
      refine ops_off rfl (guard_undef rfl rfl rfl) rfl rfl ?_
      refine ops_off rfl (guard_undef rfl rfl rfl) rfl rfl ?_
      refine ops_off rfl (guard_undef rfl rfl rfl) rfl rfl ?_
      refine ops_off rfl (guard_off rfl rfl rfl hg2890) rfl rfl ?_
      have hg2891 : ((decide (300 < (x0.size : Int))) || (((t2884.length : Int) != 3) && ((t2884.length : Int) != 5))) = true := by simp only [hg2890, Bool.and_true, Bool.true_and, Bool.and_false, Bool.false_and, Bool.or_true, Bool.true_or, Bool.or_false, Bool.false_or, Bool.not_true, Bool.not_false, Bool.not_not]
      refine ops_ex (v := .bool ((decide (300 < (x0.size : Int))) || (((t2884.length : Int) != 3) && ((t2884.length : Int) != 5)))) rfl (guard_none rfl) rfl rfl (ex_por_t rfl rfl hg2890) ?_
      refine ops_nil ?_
      replace HM := HM.front 1 rfl rfl
      exact at_meet [(0, .string x0), (1, .string x1), (4, .pointer (some ⟨b2880, 0, none⟩)), (6, u2886), (23, .bool ((decide (300 < (x0.size : Int))) || (((t2884.length : Int) != 3) && ((t2884.length : Int) != 5))))] ⟨rfl, HM⟩ (Sub.cons rfl (Sub.cons rfl (Sub.cons rfl (Sub.cons rfl (Sub.cons rfl Sub.nil)))))
    · skip
      refine ops_ex rfl (guard_on rfl rfl rfl hg2890) rfl rfl (ex_move rfl rfl) ?_
      refine ops_ex rfl (guard_on rfl rfl rfl hg2890) rfl rfl (ex_len (d := kStr) (xs := t2884) rfl rfl Tryz.underlying72 (HM.own_rd 0 rfl)) ?_
      refine ops_ex rfl (guard_on rfl rfl rfl hg2890) rfl rfl (ex_neq rfl rfl rfl) ?_
      refine ops_ex rfl (guard_on rfl rfl rfl hg2890) rfl rfl (ex_move rfl rfl) ?_
      refine bool_cases ((t2884.length : Int) != 3) (fun hg2892 => ?_) (fun hg2892 => ?_)
      · skip
        refine ops_ex rfl (guard_on rfl rfl rfl hg2892) rfl rfl (ex_move rfl rfl) ?_
        refine ops_ex rfl (guard_on rfl rfl rfl hg2892) rfl rfl (ex_len (d := kStr) (xs := t2884) rfl rfl Tryz.underlying72 (HM.own_rd 0 rfl)) ?_
        refine ops_ex rfl (guard_on rfl rfl rfl hg2892) rfl rfl (ex_neq rfl rfl rfl) ?_
        refine ops_ex (v := .bool (((t2884.length : Int) != 3) && ((t2884.length : Int) != 5))) rfl (guard_on rfl rfl rfl hg2890) rfl rfl (ex_pand_t rfl rfl hg2892 rfl) ?_
        refine ops_ex (v := .bool ((decide (300 < (x0.size : Int))) || (((t2884.length : Int) != 3) && ((t2884.length : Int) != 5)))) rfl (guard_none rfl) rfl rfl (ex_por_f rfl rfl hg2890 rfl) ?_
        refine ops_nil ?_
        replace HM := HM.front 1 rfl rfl
        exact at_meet [(0, .string x0), (1, .string x1), (4, .pointer (some ⟨b2880, 0, none⟩)), (6, u2886), (23, .bool ((decide (300 < (x0.size : Int))) || (((t2884.length : Int) != 3) && ((t2884.length : Int) != 5))))] ⟨rfl, HM⟩ (Sub.cons rfl (Sub.cons rfl (Sub.cons rfl (Sub.cons rfl (Sub.cons rfl Sub.nil)))))
      · skip
        refine ops_off rfl (guard_off rfl rfl rfl hg2892) rfl rfl ?_
        refine ops_off rfl (guard_off rfl rfl rfl hg2892) rfl rfl ?_
        refine ops_off rfl (guard_off rfl rfl rfl hg2892) rfl rfl ?_
        have hg2893 : (((t2884.length : Int) != 3) && ((t2884.length : Int) != 5)) = false := by simp only [hg2892, Bool.and_true, Bool.true_and, Bool.and_false, Bool.false_and, Bool.or_true, Bool.true_or, Bool.or_false, Bool.false_or, Bool.not_true, Bool.not_false, Bool.not_not]
        refine ops_ex (v := .bool (((t2884.length : Int) != 3) && ((t2884.length : Int) != 5))) rfl (guard_on rfl rfl rfl hg2890) rfl rfl (ex_pand_f rfl rfl hg2892) ?_
        refine ops_ex (v := .bool ((decide (300 < (x0.size : Int))) || (((t2884.length : Int) != 3) && ((t2884.length : Int) != 5)))) rfl (guard_none rfl) rfl rfl (ex_por_f rfl rfl hg2890 rfl) ?_
        refine ops_nil ?_
        replace HM := HM.front 1 rfl rfl
        exact at_meet [(0, .string x0), (1, .string x1), (4, .pointer (some ⟨b2880, 0, none⟩)), (6, u2886), (23, .bool ((decide (300 < (x0.size : Int))) || (((t2884.length : Int) != 3) && ((t2884.length : Int) != 5))))] ⟨rfl, HM⟩ (Sub.cons rfl (Sub.cons rfl (Sub.cons rfl (Sub.cons rfl (Sub.cons rfl Sub.nil)))))
  · rintro _ w2894 ⟨rfl, HM⟩
    refine at_then ?_
    refine run_cond (b := ((decide (300 < (x0.size : Int))) || (((t2884.length : Int) != 3) && ((t2884.length : Int) != 5)))) rfl (fun hb2895 => ?_) (fun hb2895 => ?_)
    · replace H := cond_t hb2895 H
      refine run_seq ?_
      refine run_region rfl ?_
      refine ox rfl rfl rfl rfl (ex_build (cells := #[(.slice none 0 0), (.int .i64 0), (.int .i64 0)]) rfl rfl (by kernel_rfl)) ?_
      refine odS rfl rfl rfl (does_store (vs := [.slice none 0 0, .int .i64 0, .int .i64 0]) (cs' := [.slice none 0 0, .int .i64 0, .int .i64 0]) rfl rfl rfl rfl tsz42 (Ones.sl (Ones.int (Ones.int Ones.nil))) rfl rfl HM) ?_
      rintro w2896 HM
      refine ox rfl rfl rfl rfl (ex_assign rfl rfl) ?_
      refine ops_nil (at_then ?_)
      refine run_ret ?_
      refine at_then_ret ?_
      replace HM := HM.empty kInt 2 none
      replace HM := (HM.front 2 rfl rfl).drop
      replace HM := HM.front 1 rfl rfl
      have hcb0 := HM.box_at 0 rfl
      replace HM := (HM.front 0 rfl rfl).drop
      have hR := Option.some.inj H
      subst hR
      exact at_retN1 rfl rfl rfl Tryz.underlying42 rfl tsz42 rfl hcb0 ⟨_, rfl, _, rfl, HM⟩
    · replace H := cond_f hb2895 H
      refine run_skip ?_
      refine at_then ?_
      refine run_seq ?_
      obtain ⟨e2898, H⟩ := chk_some H
      obtain ⟨e2899, H⟩ := chk_some H
      obtain ⟨t2900, h2901, H⟩ := bind_some H
      obtain ⟨t2902, h2903, H⟩ := bind_some H
      refine run_meet (fun ρ_ w_ => ∃ u2904 : Value, ∃ b2906 : Nat, ρ_ = [(0, .string x0), (1, .string x1), (4, .pointer (some ⟨b2880, 0, none⟩)), (6, u2886), (7, .pointer (some ⟨b2906, 0, none⟩))] ∧ Mem w [] w_ [box b2880 42 [.slice none 0 0, .int .i64 0, .int .i64 0], own kStr 9 u2886 t2884, box b2906 42 [u2904, .int .i64 t2900, .int .i64 0], own kInt 2 u2904 t2902]) ?_ ?_
      · skip
        refine run_draw (fun w_ => Mem w [] w_ [box b2880 42 [.slice none 0 0, .int .i64 0, .int .i64 0], own kStr 9 u2886 t2884]) mixed rfl (l := #[false, false, false, false, false, false, false, false, false, false, false]) rfl ?_
        replace HM := HM.grow (fr_drew _)
        have hS := Mem.suf (M := []) HM
        refine drw_cut2 (l' := #[true, true, true, true, true, true, true, true, true, true, false]) (f' := 1) (fun (u2904 : Value) => fun (b2906 : Nat) => [(0, .string x0), (1, .string x1), (4, .pointer (some ⟨b2880, 0, none⟩)), (6, u2886), (33, .agg #[u2904, (.int .i64 t2900), (.int .i64 0)]), (7, .pointer (some ⟨b2906, 0, none⟩))]) (fun (u2904 : Value) => fun (b2906 : Nat) => fun w_ => Mem w [] w_ [box b2906 42 [.slice none 0 0, .int .i64 0, .int .i64 0], own kInt 2 u2904 t2902, box b2880 42 [.slice none 0 0, .int .i64 0, .int .i64 0], own kStr 9 u2886 t2884]) ?_ (fun K2917 => ?_)
        · rintro u2904 b2906 w2918 HM
          replace HM : Mem w [] w2918 [box b2906 42 [.slice none 0 0, .int .i64 0, .int .i64 0], own kInt 2 u2904 t2902, box b2880 42 [.slice none 0 0, .int .i64 0, .int .i64 0], own kStr 9 u2886 t2884] := HM
          have hS := Mem.suf (M := [box b2906 42 [.slice none 0 0, .int .i64 0, .int .i64 0], own kInt 2 u2904 t2902]) HM
          refine drw_any [10] (by kernel_rfl) rfl (.cons ?_ .nil)
          refine br_doesS (l' := #[true, true, true, true, true, true, true, true, true, true, true]) rfl (guard_none rfl) rfl (by kernel_rfl) (does_store (vs := [u2904, .int .i64 t2900, .int .i64 0]) (cs' := [u2904, .int .i64 t2900, .int .i64 0]) rfl rfl rfl rfl tsz42 (Ones.rd (HM.own_rd 1 rfl) (Ones.int (Ones.int Ones.nil))) rfl rfl HM) ?_
          rintro w2919 HM
          have hS := Mem.suf (M := [box b2906 42 [u2904, .int .i64 t2900, .int .i64 0], own kInt 2 u2904 t2902]) HM
          refine ⟨hS, ?_⟩
          refine drw_done (by kernel_rfl) ?_
          replace HM := HM.front 1 rfl rfl
          replace HM := HM.front 1 rfl rfl
          replace HM := HM.front 3 rfl rfl
          replace HM := HM.front 3 rfl rfl
          exact at_meet [(0, .string x0), (1, .string x1), (4, .pointer (some ⟨b2880, 0, none⟩)), (6, u2886), (7, .pointer (some ⟨b2906, 0, none⟩))] ⟨_, _, rfl, HM⟩ (Sub.cons rfl (Sub.cons rfl (Sub.cons rfl (Sub.cons rfl (Sub.cons rfl Sub.nil)))))
        refine drw_cut1 (l' := #[true, true, true, true, true, true, true, false, false, true, false]) (f' := 3) (fun (b2906 : Nat) => [(0, .string x0), (1, .string x1), (4, .pointer (some ⟨b2880, 0, none⟩)), (6, u2886), (31, .string (gt t2884 (2 : Int))), (28, .int .i64 t2900), (7, .pointer (some ⟨b2906, 0, none⟩))]) (fun (b2906 : Nat) => fun w_ => Mem w [] w_ [box b2906 42 [.slice none 0 0, .int .i64 0, .int .i64 0], box b2880 42 [.slice none 0 0, .int .i64 0, .int .i64 0], own kStr 9 u2886 t2884]) ?_ (fun K2920 => ?_)
        · rintro b2906 w2921 HM
          replace HM : Mem w [] w2921 [box b2906 42 [.slice none 0 0, .int .i64 0, .int .i64 0], box b2880 42 [.slice none 0 0, .int .i64 0, .int .i64 0], own kStr 9 u2886 t2884] := HM
          have hS := Mem.suf (M := [box b2906 42 [.slice none 0 0, .int .i64 0, .int .i64 0]]) HM
          refine drw_any [7] (by kernel_rfl) rfl (.cons ?_ .nil)
          refine br_does (l' := #[true, true, true, true, true, true, true, true, false, true, false]) rfl (guard_none rfl) rfl rfl (by kernel_rfl) (does_callk rfl callok87 rfl (impl_numbers.calls (x0 := (gt t2884 (2 : Int))) (x1 := (⟨#[44]⟩ : ByteArray)) (HM.tabP htab) h2903)) ?_
          rintro u2904 w2922 ⟨_, rfl, hn⟩
          replace HM : Mem w [] w2922 [own kInt 2 u2904 t2902, box b2906 42 [.slice none 0 0, .int .i64 0, .int .i64 0], box b2880 42 [.slice none 0 0, .int .i64 0, .int .i64 0], own kStr 9 u2886 t2884] := HM.call hn
          have hS := Mem.suf (M := [own kInt 2 u2904 t2902, box b2906 42 [.slice none 0 0, .int .i64 0, .int .i64 0]]) HM
          refine ⟨hS, ?_⟩
          refine dt 8 #[true, true, true, true, true, true, true, true, true, true, false] rfl rfl rfl rfl (by kernel_rfl) (ex_build1 (fun u2904 => [(1, .int .i64 t2900), (0, u2904)]) (fun u2904 => #[u2904, .int .i64 t2900, .int .i64 0]) rfl rfl (fun _ _ _ => by kernel_rfl) (HM.own_rd 0 rfl).isSl) hS ?_
          replace HM := HM.front 3 rfl rfl
          replace HM := HM.front 3 rfl rfl
          replace HM := HM.front 2 rfl rfl
          replace HM := HM.front 3 rfl rfl
          exact drw_sub (K2917 u2904 b2906 _ HM) (Sub.cons rfl (Sub.cons rfl (Sub.cons rfl (Sub.cons rfl (Sub.cons rfl (Sub.cons rfl Sub.nil))))))
        refine dt 0 #[true, false, false, false, false, false, false, false, false, false, false] rfl rfl rfl rfl (by kernel_rfl) (ex_move rfl rfl) hS ?_
        refine drw_take (i := 1) (l' := #[true, true, false, false, false, false, false, false, false, false, false]) rfl (guard_none rfl) rfl rfl (by kernel_rfl) (fun w_ hS_ => (ex_indexAddr (d := kStr) rfl rfl rfl Tryz.underlying72 tsz9 (hS_.own_rd 1 rfl) (idx_lo e2898) (idx_hi e2898))) hS ?_
        refine drw_take (i := 2) (l' := #[true, true, true, false, false, false, false, false, false, false, false]) rfl (guard_none rfl) rfl rfl (by kernel_rfl) (fun w_ hS_ => (ex_load1 rfl rfl Tryz.underlying9 rfl ((rd_plain (hS_.own_rd 1 rfl) e2898) 0 _ rfl))) hS ?_
        refine dt 4 #[true, true, true, false, true, false, false, false, false, false, false] rfl rfl rfl rfl (by kernel_rfl) (ex_move rfl rfl) hS ?_
        refine drw_take (i := 5) (l' := #[true, true, true, false, true, true, false, false, false, false, false]) rfl (guard_none rfl) rfl rfl (by kernel_rfl) (fun w_ hS_ => (ex_indexAddr (d := kStr) rfl rfl rfl Tryz.underlying72 tsz9 (hS_.own_rd 1 rfl) (idx_lo e2899) (idx_hi e2899))) hS ?_
        refine drw_take (i := 6) (l' := #[true, true, true, false, true, true, true, false, false, false, false]) rfl (guard_none rfl) rfl rfl (by kernel_rfl) (fun w_ hS_ => (ex_load1 rfl rfl Tryz.underlying9 rfl ((rd_plain (hS_.own_rd 1 rfl) e2899) 0 _ rfl))) hS ?_
        refine drw_any [3, 9] (by kernel_rfl) rfl (.cons ?_ (.cons ?_ .nil))
        · skip
          refine br_does (l' := #[true, true, true, true, true, true, true, false, false, false, false]) rfl (guard_none rfl) rfl rfl (by kernel_rfl) (does_callk rfl callok45 rfl (impl_number.calls (x0 := (gt t2884 (0 : Int))) (HM.tabP htab) h2901)) ?_
          rintro _ w2923 ⟨rfl, hn⟩
          replace HM : Mem w [] w2923 [box b2880 42 [.slice none 0 0, .int .i64 0, .int .i64 0], own kStr 9 u2886 t2884] := HM.call hn
          have hS := Mem.suf (M := []) HM
          refine ⟨hS, ?_⟩
          refine drw_any [7, 9] (by kernel_rfl) rfl (.cons ?_ (.cons ?_ .nil))
          · skip
            refine br_does (l' := #[true, true, true, true, true, true, true, true, false, false, false]) rfl (guard_none rfl) rfl rfl (by kernel_rfl) (does_callk rfl callok87 rfl (impl_numbers.calls (x0 := (gt t2884 (2 : Int))) (x1 := (⟨#[44]⟩ : ByteArray)) (HM.tabP htab) h2903)) ?_
            rintro u2904 w2924 ⟨_, rfl, hn⟩
            replace HM : Mem w [] w2924 [own kInt 2 u2904 t2902, box b2880 42 [.slice none 0 0, .int .i64 0, .int .i64 0], own kStr 9 u2886 t2884] := HM.call hn
            have hS := Mem.suf (M := [own kInt 2 u2904 t2902]) HM
            refine ⟨hS, ?_⟩
            refine dt 8 #[true, true, true, true, true, true, true, true, true, false, false] rfl rfl rfl rfl (by kernel_rfl) (ex_build1 (fun u2904 => [(1, .int .i64 t2900), (0, u2904)]) (fun u2904 => #[u2904, .int .i64 t2900, .int .i64 0]) rfl rfl (fun _ _ _ => by kernel_rfl) (HM.own_rd 0 rfl).isSl) hS ?_
            refine drw_any [9] (by kernel_rfl) rfl (.cons ?_ .nil)
            refine br_does (l' := #[true, true, true, true, true, true, true, true, true, true, false]) rfl (guard_none rfl) rfl rfl (by kernel_rfl) (does_alloc (cs := [.slice none 0 0, .int .i64 0, .int .i64 0]) rfl tz42 rfl HM) ?_
            rintro _ w2925 ⟨b2906, rfl, HM⟩
            have hS := Mem.suf (M := [box b2906 42 [.slice none 0 0, .int .i64 0, .int .i64 0], own kInt 2 u2904 t2902]) HM
            refine ⟨hS, ?_⟩
            exact drw_sub (K2917 u2904 b2906 _ HM) (Sub.cons rfl (Sub.cons rfl (Sub.cons rfl (Sub.cons rfl (Sub.cons rfl (Sub.cons rfl Sub.nil))))))
          · skip
            refine br_does (l' := #[true, true, true, true, true, true, true, false, false, true, false]) rfl (guard_none rfl) rfl rfl (by kernel_rfl) (does_alloc (cs := [.slice none 0 0, .int .i64 0, .int .i64 0]) rfl tz42 rfl HM) ?_
            rintro _ w2926 ⟨b2906, rfl, HM⟩
            have hS := Mem.suf (M := [box b2906 42 [.slice none 0 0, .int .i64 0, .int .i64 0]]) HM
            refine ⟨hS, ?_⟩
            exact drw_sub (K2920 b2906 _ HM) (Sub.cons rfl (Sub.cons rfl (Sub.cons rfl (Sub.cons rfl (Sub.cons rfl (Sub.cons rfl (Sub.cons rfl Sub.nil)))))))
        · skip
          refine br_does (l' := #[true, true, true, false, true, true, true, false, false, true, false]) rfl (guard_none rfl) rfl rfl (by kernel_rfl) (does_alloc (cs := [.slice none 0 0, .int .i64 0, .int .i64 0]) rfl tz42 rfl HM) ?_
          rintro _ w2927 ⟨b2906, rfl, HM⟩
          have hS := Mem.suf (M := [box b2906 42 [.slice none 0 0, .int .i64 0, .int .i64 0]]) HM
          refine ⟨hS, ?_⟩
          refine drw_any [3] (by kernel_rfl) rfl (.cons ?_ .nil)
          refine br_does (l' := #[true, true, true, true, true, true, true, false, false, true, false]) rfl (guard_none rfl) rfl rfl (by kernel_rfl) (does_callk rfl callok45 rfl (impl_number.calls (x0 := (gt t2884 (0 : Int))) (HM.tabP htab) h2901)) ?_
          rintro _ w2928 ⟨rfl, hn⟩
          replace HM : Mem w [] w2928 [box b2906 42 [.slice none 0 0, .int .i64 0, .int .i64 0], box b2880 42 [.slice none 0 0, .int .i64 0, .int .i64 0], own kStr 9 u2886 t2884] := HM.call hn
          have hS := Mem.suf (M := [box b2906 42 [.slice none 0 0, .int .i64 0, .int .i64 0]]) HM
          refine ⟨hS, ?_⟩
          exact drw_sub (K2920 b2906 _ HM) (Sub.cons rfl (Sub.cons rfl (Sub.cons rfl (Sub.cons rfl (Sub.cons rfl (Sub.cons rfl (Sub.cons rfl Sub.nil)))))))
      · rintro _ w2929 ⟨u2904, b2906, rfl, HM⟩
        refine at_then ?_
        obtain ⟨o2939, ho2940, H⟩ := bind_some H
        refine run_mid (fun ρ_ w_ => ∃ a2938 : Int, a2938 = o2939 ∧ ρ_ = [(0, .string x0), (1, .string x1), (4, .pointer (some ⟨b2880, 0, none⟩)), (7, .pointer (some ⟨b2906, 0, none⟩))] ∧ Mem w [] w_ [box b2880 42 [.slice none 0 0, .int .i64 0, .int .i64 0], box b2906 42 [u2904, .int .i64 t2900, .int .i64 a2938], own kInt 2 u2904 t2902]) ?_ ?_
        · clear H
          refine run_seq ?_
          refine run_region rfl ?_
          refine ox rfl rfl rfl rfl (ex_move rfl rfl) ?_
          refine ox rfl rfl rfl rfl (ex_len (d := kStr) (xs := t2884) rfl rfl Tryz.underlying72 (HM.own_rd 1 rfl)) ?_
          refine ox rfl rfl rfl rfl (ex_eql rfl rfl rfl) ?_
          refine ops_nil (at_then ?_)
          refine run_cond (b := ((t2884.length : Int) == 5)) rfl (fun hb2941 => ?_) (fun hb2941 => ?_)
          · replace ho2940 := cond_t hb2941 ho2940
            obtain ⟨e2942, ho2940⟩ := chk_some ho2940
            obtain ⟨t2943, h2944, ho2940⟩ := bind_some ho2940
            refine run_region rfl ?_
            refine ox rfl rfl rfl rfl (ex_move rfl rfl) ?_
            refine ox rfl rfl rfl rfl (ex_indexAddr (d := kStr) rfl rfl rfl Tryz.underlying72 tsz9 (HM.own_rd 1 rfl) (idx_lo e2942) (idx_hi e2942)) ?_
            refine ox rfl rfl rfl rfl (ex_load1 rfl rfl Tryz.underlying9 rfl ((rd_plain (HM.own_rd 1 rfl) e2942) 0 _ rfl)) ?_
            refine od rfl rfl rfl rfl (does_callk rfl callok45 rfl (impl_number.calls (x0 := (gt t2884 (4 : Int))) (HM.tabP htab) h2944)) ?_
            rintro _ w2945 ⟨rfl, hn⟩
            replace HM : Mem w [] w2945 [box b2880 42 [.slice none 0 0, .int .i64 0, .int .i64 0], own kStr 9 u2886 t2884, box b2906 42 [u2904, .int .i64 t2900, .int .i64 0], own kInt 2 u2904 t2902] := HM.call hn
            refine ox rfl rfl rfl rfl (ex_fieldAddr (off' := 2) rfl rfl Tryz.underlying42 rfl tsz2 rfl) ?_
            replace HM := HM.front 2 rfl rfl
            refine odS rfl rfl rfl (does_store (vs := [.int .i64 t2943]) (cs' := [u2904, .int .i64 t2900, .int .i64 t2943]) rfl rfl rfl rfl tsz2 (Ones.int Ones.nil) rfl rfl HM) ?_
            rintro w2946 HM
            refine ops_nil ?_
            replace HM := (HM.front 2 rfl rfl).drop
            replace HM := HM.front 2 rfl rfl
            replace HM := HM.front 1 rfl rfl
            replace HM := HM.front 2 rfl rfl
            exact at_mid (ρ' := [(0, .string x0), (1, .string x1), (4, .pointer (some ⟨b2880, 0, none⟩)), (7, .pointer (some ⟨b2906, 0, none⟩))]) ⟨_, (Option.some.inj ho2940), rfl, HM⟩ (Sub.cons rfl (Sub.cons rfl (Sub.cons rfl (Sub.cons rfl Sub.nil))))
          · replace ho2940 := cond_f hb2941 ho2940
            refine run_skip ?_
            replace HM := (HM.front 1 rfl rfl).drop
            exact at_mid (ρ' := [(0, .string x0), (1, .string x1), (4, .pointer (some ⟨b2880, 0, none⟩)), (7, .pointer (some ⟨b2906, 0, none⟩))]) ⟨_, (Option.some.inj ho2940), rfl, HM⟩ (Sub.cons rfl (Sub.cons rfl (Sub.cons rfl (Sub.cons rfl Sub.nil))))
        · rintro _ w2947 ⟨a2938, rfl, rfl, HM⟩
          refine run_seq ?_
          refine run_seq ?_
          obtain ⟨t2948, h2949, H⟩ := bind_some H
          obtain ⟨t2950, h2951, H⟩ := bind_some H
          refine run_meet (fun ρ_ w_ => ρ_ = [(4, .pointer (some ⟨b2880, 0, none⟩)), (7, .pointer (some ⟨b2906, 0, none⟩)), (51, .bool ((t2948 != 0) || (!sEq t2950 x0)))] ∧ Mem w [] w_ [box b2880 42 [.slice none 0 0, .int .i64 0, .int .i64 0], box b2906 42 [u2904, .int .i64 t2900, .int .i64 a2938], own kInt 2 u2904 t2902]) ?_ ?_
          · skip
            refine run_region rfl ?_
            refine ox rfl rfl rfl rfl (ex_loadN (cs := [u2904, (.int .i64 t2900), (.int .i64 a2938)]) rfl rfl Tryz.underlying42 rfl tsz42 rfl ((HM.box_at 1 rfl).sub 0 3 rfl)) ?_
            refine od rfl rfl rfl rfl (does_callk rfl callok62 rfl (impl_RuleFault.calls (x0 := (⟨t2902, t2900, a2938⟩ : Rule)) (HM.own_rd 2 rfl) h2949)) ?_
            rintro _ w2952 ⟨rfl, hn⟩
            replace HM : Mem w [] w2952 [box b2880 42 [.slice none 0 0, .int .i64 0, .int .i64 0], box b2906 42 [u2904, .int .i64 t2900, .int .i64 a2938], own kInt 2 u2904 t2902] := HM.call hn
            refine ox rfl rfl rfl rfl (ex_neq rfl rfl rfl) ?_
            refine ox rfl rfl rfl rfl (ex_move rfl rfl) ?_
            refine bool_cases (t2948 != 0) (fun hg2953 => ?_) (fun hg2953 => ?_)
            · skip
              refine ops_off rfl (guard_off rfl rfl rfl hg2953) rfl rfl ?_
              refine ops_off rfl (guard_off rfl rfl rfl hg2953) rfl rfl ?_
              refine ops_off rfl (guard_off rfl rfl rfl hg2953) rfl rfl ?_
              refine ops_off rfl (guard_off rfl rfl rfl hg2953) rfl rfl ?_
              refine ops_off rfl (guard_off rfl rfl rfl hg2953) rfl rfl ?_
              have hg2954 : ((t2948 != 0) || (!sEq t2950 x0)) = true := by simp only [hg2953, Bool.and_true, Bool.true_and, Bool.and_false, Bool.false_and, Bool.or_true, Bool.true_or, Bool.or_false, Bool.false_or, Bool.not_true, Bool.not_false, Bool.not_not]
              refine ops_ex (v := .bool ((t2948 != 0) || (!sEq t2950 x0))) rfl (guard_none rfl) rfl rfl (ex_por_t rfl rfl hg2953) ?_
              refine ops_nil ?_
              exact at_meet [(4, .pointer (some ⟨b2880, 0, none⟩)), (7, .pointer (some ⟨b2906, 0, none⟩)), (51, .bool ((t2948 != 0) || (!sEq t2950 x0)))] ⟨rfl, HM⟩ (Sub.cons rfl (Sub.cons rfl (Sub.cons rfl Sub.nil)))
            · skip
              refine ops_ex rfl (guard_on rfl rfl rfl hg2953) rfl rfl (ex_loadN (cs := [u2904, (.int .i64 t2900), (.int .i64 a2938)]) rfl rfl Tryz.underlying42 rfl tsz42 rfl ((HM.box_at 1 rfl).sub 0 3 rfl)) ?_
              refine ops_ex rfl (guard_on rfl rfl rfl hg2953) rfl rfl (ex_move rfl rfl) ?_
              refine ops_does rfl (guard_on rfl rfl rfl hg2953) rfl rfl (does_callk rfl callok50 rfl (impl_ruleText.calls (x0 := (⟨t2902, t2900, a2938⟩ : Rule)) (x1 := x1) (HM.tabP htab) (HM.own_rd 2 rfl) (cond_t (not_mk hg2953) h2951))) ?_
              rintro _ w2955 ⟨rfl, hn⟩
              replace HM : Mem w [] w2955 [box b2880 42 [.slice none 0 0, .int .i64 0, .int .i64 0], box b2906 42 [u2904, .int .i64 t2900, .int .i64 a2938], own kInt 2 u2904 t2902] := HM.call hn
              refine ops_ex rfl (guard_on rfl rfl rfl hg2953) rfl rfl (ex_move rfl rfl) ?_
              refine ops_ex rfl (guard_on rfl rfl rfl hg2953) rfl rfl (ex_sneq rfl rfl rfl) ?_
              refine ops_ex (v := .bool ((t2948 != 0) || (!sEq t2950 x0))) rfl (guard_none rfl) rfl rfl (ex_por_f rfl rfl hg2953 rfl) ?_
              refine ops_nil ?_
              exact at_meet [(4, .pointer (some ⟨b2880, 0, none⟩)), (7, .pointer (some ⟨b2906, 0, none⟩)), (51, .bool ((t2948 != 0) || (!sEq t2950 x0)))] ⟨rfl, HM⟩ (Sub.cons rfl (Sub.cons rfl (Sub.cons rfl Sub.nil)))
          · rintro _ w2956 ⟨rfl, HM⟩
            refine at_then ?_
            refine run_cond (b := ((t2948 != 0) || (!sEq t2950 x0))) rfl (fun hb2957 => ?_) (fun hb2957 => ?_)
            · replace H := cond_t hb2957 H
              refine run_seq ?_
              refine run_region rfl ?_
              refine ox rfl rfl rfl rfl (ex_build (cells := #[(.slice none 0 0), (.int .i64 0), (.int .i64 0)]) rfl rfl (by kernel_rfl)) ?_
              refine odS rfl rfl rfl (does_store (vs := [.slice none 0 0, .int .i64 0, .int .i64 0]) (cs' := [.slice none 0 0, .int .i64 0, .int .i64 0]) rfl rfl rfl rfl tsz42 (Ones.sl (Ones.int (Ones.int Ones.nil))) rfl rfl HM) ?_
              rintro w2958 HM
              refine ox rfl rfl rfl rfl (ex_assign rfl rfl) ?_
              refine ops_nil (at_then ?_)
              refine run_ret ?_
              refine at_then_ret ?_
              replace HM := HM.empty kInt 2 none
              replace HM := (HM.front 2 rfl rfl).drop
              replace HM := (HM.front 2 rfl rfl).drop
              replace HM := HM.front 1 rfl rfl
              have hcb0 := HM.box_at 0 rfl
              replace HM := (HM.front 0 rfl rfl).drop
              have hR := Option.some.inj H
              subst hR
              exact at_retN1 rfl rfl rfl Tryz.underlying42 rfl tsz42 rfl hcb0 ⟨_, rfl, _, rfl, HM⟩
            · replace H := cond_f hb2957 H
              refine run_skip ?_
              refine at_then ?_
              refine run_seq ?_
              refine run_region rfl ?_
              refine ox rfl rfl rfl rfl (ex_loadN (cs := [u2904, (.int .i64 t2900), (.int .i64 a2938)]) rfl rfl Tryz.underlying42 rfl tsz42 rfl ((HM.box_at 1 rfl).sub 0 3 rfl)) ?_
              refine odS rfl rfl rfl (does_store (vs := [u2904, .int .i64 t2900, .int .i64 a2938]) (cs' := [u2904, .int .i64 t2900, .int .i64 a2938]) rfl rfl rfl rfl tsz42 (Ones.rd (HM.own_rd 2 rfl) (Ones.int (Ones.int Ones.nil))) rfl rfl HM) ?_
              rintro w2960 HM
              refine ox rfl rfl rfl rfl (ex_assign rfl rfl) ?_
              refine ops_nil (at_then ?_)
              refine run_ret ?_
              replace HM := (HM.front 1 rfl rfl).drop
              have hcb0 := HM.box_at 0 rfl
              replace HM := (HM.front 0 rfl rfl).drop
              have hR := Option.some.inj H
              subst hR
              exact at_retN1 rfl rfl rfl Tryz.underlying42 rfl tsz42 rfl hcb0 ⟨_, rfl, _, rfl, HM⟩
end Go.Proofs.YtmaolhocmkkmjaaGreatDoor.Zk
