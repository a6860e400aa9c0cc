/- What functions of the program compute, each as a plain function, and that they do. Conditions: as each theorem states them. -/
import Derived.Test.YtdhkcglfeiapoaaDoorRuleTextZkF0
namespace Go.Proofs.YtdhkcglfeiapoaaDoor.Zk
open Go Go.RowKit Go.IntWalk Go.Proofs
set_option linter.unusedVariables false
set_option linter.unusedSimpArgs false
set_option maxRecDepth 100000
set_option maxHeartbeats 4000000
def spec_RuleText.f (k : Nat) (x0 : Rule) : Option TextResult := ((spec_l2Fault.f k x0).bind fun t481 => (bif (t481 != 0) then some (⟨t481, (⟨#[]⟩ : ByteArray)⟩ : TextResult) else ((spec_l2Text.f k x0).bind fun t486 => some (⟨0, t486⟩ : TextResult))))
theorem spec_RuleText.calls {k : Nat} {x0 : Rule} {p0_0 : Value} {w : World} (hp0_0 : RdS kInt w p0_0 x0.fKeys) {r : TextResult} (H : spec_RuleText.f k x0 = some r) :
    Calls Tryd.prog 6 ([.agg #[p0_0, (.int .i64 x0.fNeed), (.int .i64 x0.fAfter)]] : List Value).toArray w (fun e w_ => ∃ v, e = .returned v ∧ v = (.agg #[.int .i64 r.fCode, .string r.fText]) ∧ Mem w [] w_ []) := by
  have HM := Mem.start w
  refine calls_run (N := 11) Tryd.func6 rfl rfl rfl rfl ?_
  unfold spec_RuleText.f at H
  refine run_seq ?_
  refine run_region rfl ?_
  refine ops_does rfl (guard_none rfl) rfl rfl (does_box (cs := [p0_0, .int .i64 x0.fNeed, .int .i64 x0.fAfter]) rfl rfl rfl HM) ?_
  rintro _ w479 ⟨b473, rfl, HM⟩
  refine ops_does rfl (guard_none rfl) rfl rfl (does_alloc (cs := [.int .i64 0, .string (⟨#[]⟩ : ByteArray)]) rfl tz27 rfl HM) ?_
  rintro _ w480 ⟨b476, rfl, HM⟩
  refine ops_nil ?_
  refine at_then ?_
  refine run_seq ?_
  refine run_seq ?_
  obtain ⟨t481, h482, H⟩ := bind_some H
  refine run_region rfl ?_
  refine ops_does rfl (guard_none rfl) rfl rfl (does_callk rfl callok17 rfl (spec_l2Fault.calls (x0 := x0) (HM.box_at 1 rfl) (HM.rd hp0_0) h482)) ?_
  rintro _ w483 ⟨rfl, hn⟩
  replace HM : Mem w [] w483 [box b476 27 [.int .i64 0, .string (⟨#[]⟩ : ByteArray)], box b473 29 [p0_0, .int .i64 x0.fNeed, .int .i64 x0.fAfter]] := HM.call hn
  refine ops_ex rfl (guard_none rfl) rfl rfl (ex_assign rfl rfl) ?_
  refine ops_nil ?_
  refine at_then ?_
  refine run_seq ?_
  refine run_region rfl ?_
  refine ops_ex rfl (guard_none rfl) rfl rfl (ex_move rfl rfl) ?_
  refine ops_ex rfl (guard_none rfl) rfl rfl (ex_neq rfl rfl rfl) ?_
  refine ops_nil ?_
  refine at_then ?_
  refine run_cond (b := (t481 != 0)) rfl (fun hb484 => ?_) (fun hb484 => ?_)
  · replace H := cond_t hb484 H
    refine run_seq ?_
    refine run_region rfl ?_
    refine ops_ex rfl (guard_none rfl) rfl rfl (ex_move rfl rfl) ?_
    refine ops_ex rfl (guard_none rfl) rfl rfl (ex_build (cells := #[(.int .i64 t481), (.string (⟨#[]⟩ : ByteArray))]) rfl rfl (by kernel_rfl)) ?_
    refine ops_doesS rfl (guard_none rfl) rfl (does_store (vs := [.int .i64 t481, .string (⟨#[]⟩ : ByteArray)]) (cs' := [.int .i64 t481, .string (⟨#[]⟩ : ByteArray)]) rfl rfl rfl rfl tsz27 (Ones.int (Ones.str Ones.nil)) rfl rfl HM) ?_
    rintro w485 HM
    refine ops_nil ?_
    refine at_then ?_
    refine run_ret ?_
    refine at_then_ret ?_
    replace HM := (HM.front 1 rfl rfl).drop
    have hcb0 := HM.box_at 0 rfl
    replace HM := (HM.front 0 rfl rfl).drop
    have hR := Option.some.inj H
    subst hR
    exact at_retN rfl rfl Tryd.underlying27 rfl tsz27 rfl hcb0 ⟨_, rfl, rfl, HM⟩
  · replace H := cond_f hb484 H
    refine run_skip ?_
    refine at_then ?_
    refine run_seq ?_
    obtain ⟨t486, h487, H⟩ := bind_some H
    refine run_region rfl ?_
    refine ops_does rfl (guard_none rfl) rfl rfl (does_callk rfl callok18 rfl (spec_l2Text.calls (x0 := x0) (HM.box_at 1 rfl) (HM.rd hp0_0) h487)) ?_
    rintro _ w488 ⟨rfl, hn⟩
    replace HM : Mem w [] w488 [box b476 27 [.int .i64 0, .string (⟨#[]⟩ : ByteArray)], box b473 29 [p0_0, .int .i64 x0.fNeed, .int .i64 x0.fAfter]] := HM.call hn
    refine ops_ex rfl (guard_none rfl) rfl rfl (ex_build (cells := #[(.int .i64 0), (.string t486)]) rfl rfl (by kernel_rfl)) ?_
    refine ops_doesS rfl (guard_none rfl) rfl (does_store (vs := [.int .i64 0, .string t486]) (cs' := [.int .i64 0, .string t486]) rfl rfl rfl rfl tsz27 (Ones.int (Ones.str Ones.nil)) rfl rfl HM) ?_
    rintro w489 HM
    refine ops_nil ?_
    refine at_then ?_
    refine run_ret ?_
    replace HM := (HM.front 1 rfl rfl).drop
    have hcb0 := HM.box_at 0 rfl
    replace HM := (HM.front 0 rfl rfl).drop
    have hR := Option.some.inj H
    subst hR
    exact at_retN rfl rfl Tryd.underlying27 rfl tsz27 rfl hcb0 ⟨_, rfl, rfl, HM⟩

def impl_within.f (k : Nat) (x0 : Int) (x1 : Int) (x2 : Int) : Option Bool := some ((decide (x1 ≤ x0)) && (decide (x0 ≤ x2)))
theorem impl_within.calls {k : Nat} {x0 : Int} {x1 : Int} {x2 : Int}  {w : World}  {r : Bool} (H : impl_within.f k x0 x1 x2 = some r) :
    Calls Tryd.prog 31 ([.int .i64 x0, .int .i64 x1, .int .i64 x2] : List Value).toArray w (fun e w_ => ∃ v, e = .returned v ∧ v = (.bool r) ∧ Mem w [] w_ []) := by
  have HM := Mem.start w
  refine calls_run (N := 15) Tryd.func31 rfl rfl rfl rfl ?_
  unfold impl_within.f at H
  refine run_seq ?_
  refine run_region rfl ?_
  refine ops_ex rfl (guard_none rfl) rfl rfl (ex_assign rfl rfl) ?_
  refine ops_nil ?_
  refine at_then ?_
  refine run_seq ?_
  refine run_meet (fun ρ_ w_ => ρ_ = [(6, .bool ((decide (x1 ≤ x0)) && (decide (x0 ≤ x2))))] ∧ Mem w [] w_ []) ?_ ?_
  · skip
    refine run_region rfl ?_
    refine ops_ex rfl (guard_none rfl) rfl rfl (ex_move rfl rfl) ?_
    refine ops_ex rfl (guard_none rfl) rfl rfl (ex_move rfl rfl) ?_
    refine ops_ex rfl (guard_none rfl) rfl rfl (ex_geq rfl rfl rfl) ?_
    refine ops_ex rfl (guard_none rfl) rfl rfl (ex_move rfl rfl) ?_
    refine bool_cases (decide (x1 ≤ x0)) (fun hg511 => ?_) (fun hg511 => ?_)
    · skip
      refine ops_ex rfl (guard_on rfl rfl rfl hg511) rfl rfl (ex_move rfl rfl) ?_
      refine ops_ex rfl (guard_on rfl rfl rfl hg511) rfl rfl (ex_move rfl rfl) ?_
      refine ops_ex rfl (guard_on rfl rfl rfl hg511) rfl rfl (ex_leq rfl rfl rfl) ?_
      refine ops_ex (v := .bool ((decide (x1 ≤ x0)) && (decide (x0 ≤ x2)))) rfl (guard_none rfl) rfl rfl (ex_pand_t rfl rfl hg511 rfl) ?_
      refine ops_ex rfl (guard_none rfl) rfl rfl (ex_assign rfl rfl) ?_
      refine ops_nil ?_
      exact at_meet [(6, .bool ((decide (x1 ≤ x0)) && (decide (x0 ≤ x2))))] ⟨rfl, HM⟩ (Sub.cons rfl Sub.nil)
    · skip
      refine ops_off rfl (guard_off rfl rfl rfl hg511) rfl rfl ?_
      refine ops_off rfl (guard_off rfl rfl rfl hg511) rfl rfl ?_
      refine ops_off rfl (guard_off rfl rfl rfl hg511) rfl rfl ?_
      have hg512 : ((decide (x1 ≤ x0)) && (decide (x0 ≤ x2))) = false := by simp only [hg511, Bool.and_true, Bool.true_and, Bool.and_false, Bool.false_and, Bool.or_true, Bool.true_or, Bool.or_false, Bool.false_or, Bool.not_true, Bool.not_false, Bool.not_not]
      refine ops_ex (v := .bool ((decide (x1 ≤ x0)) && (decide (x0 ≤ x2)))) rfl (guard_none rfl) rfl rfl (ex_pand_f rfl rfl hg511) ?_
      refine ops_ex rfl (guard_none rfl) rfl rfl (ex_assign rfl rfl) ?_
      refine ops_nil ?_
      exact at_meet [(6, .bool ((decide (x1 ≤ x0)) && (decide (x0 ≤ x2))))] ⟨rfl, HM⟩ (Sub.cons rfl Sub.nil)
  · rintro _ w513 ⟨rfl, HM⟩
    refine at_then ?_
    refine run_ret ?_
    have hR := Option.some.inj H
    subst hR
    exact at_ret1 rfl rfl ⟨_, rfl, rfl, HM⟩

def impl_isKey.f (k : Nat) (x0 : Int) : Option Bool := ((impl_within.f k x0 1 999).bind fun t522 => some t522)
theorem impl_isKey.calls {k : Nat} {x0 : Int}  {w : World}  {r : Bool} (H : impl_isKey.f k x0 = some r) :
    Calls Tryd.prog 38 ([.int .i64 x0] : List Value).toArray w (fun e w_ => ∃ v, e = .returned v ∧ v = (.bool r) ∧ Mem w [] w_ []) := by
  have HM := Mem.start w
  refine calls_run (N := 5) Tryd.func38 rfl rfl rfl rfl ?_
  unfold impl_isKey.f at H
  refine run_seq ?_
  refine run_region rfl ?_
  refine ops_ex rfl (guard_none rfl) rfl rfl (ex_assign rfl rfl) ?_
  refine ops_nil ?_
  refine at_then ?_
  refine run_seq ?_
  obtain ⟨t522, h523, H⟩ := bind_some H
  refine run_region rfl ?_
  refine ops_ex rfl (guard_none rfl) rfl rfl (ex_move rfl rfl) ?_
  refine ops_does rfl (guard_none rfl) rfl rfl (does_callk rfl callok31 rfl (impl_within.calls (x0 := x0) (x1 := 1) (x2 := 999) h523)) ?_
  rintro _ w524 ⟨rfl, hn⟩
  replace HM : Mem w [] w524 [] := HM.call hn
  refine ops_ex rfl (guard_none rfl) rfl rfl (ex_assign rfl rfl) ?_
  refine ops_nil ?_
  refine at_then ?_
  refine run_ret ?_
  have hR := Option.some.inj H
  subst hR
  exact at_ret1 rfl rfl ⟨_, rfl, rfl, HM⟩

def impl_areKeys_1.f (k : Nat) (x0 : Int) : Option Bool := ((impl_isKey.f k x0).bind fun t527 => some (!t527))
theorem impl_areKeys_1.calls {k : Nat} {x0 : Int}  {w : World}  {r : Bool} (H : impl_areKeys_1.f k x0 = some r) :
    Calls Tryd.prog 42 ([.int .i64 x0] : List Value).toArray w (fun e w_ => ∃ v, e = .returned v ∧ v = (.bool r) ∧ Mem w [] w_ []) := by
  have HM := Mem.start w
  refine calls_run (N := 6) Tryd.func42 rfl rfl rfl rfl ?_
  unfold impl_areKeys_1.f at H
  refine run_seq ?_
  refine run_region rfl ?_
  refine ops_ex rfl (guard_none rfl) rfl rfl (ex_assign rfl rfl) ?_
  refine ops_nil ?_
  refine at_then ?_
  refine run_seq ?_
  obtain ⟨t527, h528, H⟩ := bind_some H
  refine run_region rfl ?_
  refine ops_ex rfl (guard_none rfl) rfl rfl (ex_move rfl rfl) ?_
  refine ops_does rfl (guard_none rfl) rfl rfl (does_callk rfl callok38 rfl (impl_isKey.calls (x0 := x0) h528)) ?_
  rintro _ w529 ⟨rfl, hn⟩
  replace HM : Mem w [] w529 [] := HM.call hn
  refine ops_ex rfl (guard_none rfl) rfl rfl (ex_not rfl rfl) ?_
  refine ops_ex rfl (guard_none rfl) rfl rfl (ex_assign rfl rfl) ?_
  refine ops_nil ?_
  refine at_then ?_
  refine run_ret ?_
  have hR := Option.some.inj H
  subst hR
  exact at_ret1 rfl rfl ⟨_, rfl, rfl, HM⟩

def slices_IndexFunc_int64.l0 (x0 : List Int) : Nat → Int → Option (Int ⊕ Unit)
  | 0, _ => none
  | k + 1, a575 => (bif (decide (a575 < (x0.length : Int))) then (chk (idxOk a575 x0.length) ((impl_areKeys_1.f k (gt x0 a575)).bind fun t587 => (bif t587 then some (.inl a575) else slices_IndexFunc_int64.l0 x0 k (wrap64 (a575 + 1))))) else some (.inr ()))
theorem slices_IndexFunc_int64.l0_z (x0 : List Int) (a575 : Int) : slices_IndexFunc_int64.l0 x0 0 a575 = none := rfl
theorem slices_IndexFunc_int64.l0_s (x0 : List Int) (k : Nat) (a575 : Int) : slices_IndexFunc_int64.l0 x0 (k + 1) a575 = (bif (decide (a575 < (x0.length : Int))) then (chk (idxOk a575 x0.length) ((impl_areKeys_1.f k (gt x0 a575)).bind fun t587 => (bif t587 then some (.inl a575) else slices_IndexFunc_int64.l0 x0 k (wrap64 (a575 + 1))))) else some (.inr ())) := rfl
def slices_IndexFunc_int64.f (k : Nat) (x0 : List Int) : Option Int := ((slices_IndexFunc_int64.l0 x0 k 0).bind fun o567 => thn o567 (fun r => some r) (fun _ => some (-1)))
theorem slices_IndexFunc_int64.calls {k : Nat} {x0 : List Int} {p0 : Value} {w : World} (hp0 : RdS kInt w p0 x0) {r : Int} (H : slices_IndexFunc_int64.f k x0 = some r) :
    Calls Tryd.prog 46 ([p0, .func (.func 42) #[] #[]] : List Value).toArray w (fun e w_ => ∃ v, e = .returned v ∧ v = (.int .i64 r) ∧ Mem w [] w_ []) := by
  have HM := Mem.start w
  refine calls_run (N := 19) Tryd.func46 rfl rfl rfl rfl ?_
  unfold slices_IndexFunc_int64.f at H
  refine run_seq ?_
  refine run_region rfl ?_
  refine ops_ex rfl (guard_none rfl) rfl rfl (ex_assign rfl rfl) ?_
  refine ops_nil ?_
  refine at_then ?_
  obtain ⟨o567, ho568, H⟩ := bind_some H
  refine run_mid (fun ρ_ w_ => Sum.inr () = o567 ∧ ρ_ = [] ∧ Mem w [] w_ []) ?_ ?_
  · skip
    refine run_seq ?_
    refine run_region rfl ?_
    refine ops_ex rfl (guard_none rfl) rfl rfl (ex_move rfl rfl) ?_
    refine ops_ex rfl (guard_none rfl) rfl rfl (ex_len (d := kInt) (xs := x0) rfl rfl Tryd.underlying22 hp0) ?_
    refine ops_ex rfl (guard_none rfl) rfl rfl (ex_move rfl rfl) ?_
    refine ops_nil ?_
    refine at_then ?_
    refine run_block ?_
    refine run_loop (fun k_ ρ_ w_ => ∃ a575 : Int, slices_IndexFunc_int64.l0 x0 k_ a575 = some o567 ∧ ρ_ = [(0, p0), (1, .func (.func 42) #[] #[]), (7, .int .i64 (x0.length : Int)), (8, .int .i64 a575)] ∧ Mem w [] w_ []) k (ρ1 := [(0, p0), (1, .func (.func 42) #[] #[]), (7, .int .i64 (x0.length : Int)), (8, .int .i64 0)]) ⟨_, ho568, rfl, HM⟩ (Sub.cons rfl (Sub.cons rfl (Sub.cons rfl (Sub.cons rfl Sub.nil)))) ?_
    clear HM ho568
    rintro k582 _ w583 ⟨a575, ho568, rfl, HM⟩
    obtain _ | k582 := k582
    · exact nomatch ((slices_IndexFunc_int64.l0_z x0 a575).symm.trans ho568)
    replace ho568 := (slices_IndexFunc_int64.l0_s x0 k582 a575).symm.trans ho568
    refine run_seq ?_
    refine run_region rfl ?_
    refine ops_ex rfl (guard_none rfl) rfl rfl (ex_lss rfl rfl rfl) ?_
    refine ops_nil ?_
    refine at_then ?_
    refine run_seq ?_
    refine run_cond (b := (decide (a575 < (x0.length : Int)))) rfl (fun hb584 => ?_) (fun hb584 => ?_)
    · replace ho568 := cond_t hb584 ho568
      refine run_skip ?_
      refine at_then ?_
      refine run_seq ?_
      refine run_block ?_
      refine run_seq ?_
      refine run_region rfl ?_
      refine ops_ex rfl (guard_none rfl) rfl rfl (ex_move rfl rfl) ?_
      refine ops_ex rfl (guard_none rfl) rfl rfl (ex_assign rfl rfl) ?_
      refine ops_nil ?_
      refine at_then ?_
      refine run_seq ?_
      obtain ⟨e585, ho568⟩ := chk_some ho568
      obtain ⟨t587, h588, ho568⟩ := bind_some ho568
      refine run_region rfl ?_
      refine ops_ex rfl (guard_none rfl) rfl rfl (ex_move rfl rfl) ?_
      refine ops_ex rfl (guard_none rfl) rfl rfl (ex_move rfl rfl) ?_
      refine ops_ex rfl (guard_none rfl) rfl rfl (ex_move rfl rfl) ?_
      have hc586 : CellsAt _ (sb p0) (so p0 + (a575).toNat * 1) [(.int .i64 (gt x0 a575))] := rd_plain hp0 e585
      refine ops_ex rfl (guard_none rfl) rfl rfl (ex_indexAddr (d := kInt) rfl rfl rfl Tryd.underlying22 tsz2 hp0 (idx_lo e585) (idx_hi e585)) ?_
      refine ops_ex rfl (guard_none rfl) rfl rfl (ex_load1 rfl rfl Tryd.underlying2 rfl ((HM.at_ hc586) 0 _ rfl)) ?_
      refine ops_does rfl (guard_none rfl) rfl rfl (does_callvk rfl callok42 rfl rfl rfl (impl_areKeys_1.calls (x0 := (gt x0 a575)) h588)) ?_
      rintro _ w589 ⟨rfl, hn⟩
      replace HM : Mem w [] w589 [] := HM.call hn
      refine ops_nil ?_
      refine at_then ?_
      refine run_cond (b := t587) rfl (fun hb590 => ?_) (fun hb590 => ?_)
      · replace ho568 := cond_t hb590 ho568
        refine run_seq ?_
        refine run_region rfl ?_
        refine ops_ex rfl (guard_none rfl) rfl rfl (ex_move rfl rfl) ?_
        refine ops_ex rfl (guard_none rfl) rfl rfl (ex_assign rfl rfl) ?_
        refine ops_nil ?_
        refine at_then ?_
        refine run_ret ?_
        refine at_block_ret ?_
        refine at_then_ret ?_
        refine at_then_ret ?_
        refine at_block_ret ?_
        refine at_then_ret ?_
        have hR := Option.some.inj ho568
        subst hR
        have hT := thn_inl H
        have hR := Option.some.inj hT
        subst hR
        exact at_ret1 rfl rfl ⟨_, rfl, rfl, HM⟩
      · replace ho568 := cond_f hb590 ho568
        refine run_skip ?_
        refine at_block ?_
        refine at_then ?_
        refine run_region rfl ?_
        refine ops_ex rfl (guard_none rfl) rfl rfl (ex_add rfl rfl rfl) ?_
        refine ops_ex rfl (guard_none rfl) rfl rfl (ex_move rfl rfl) ?_
        refine ops_nil ?_
        exact at_again k582 (ρ1 := [(0, p0), (1, .func (.func 42) #[] #[]), (7, .int .i64 (x0.length : Int)), (8, .int .i64 (wrap64 (a575 + 1)))]) (Nat.lt_succ_self _) ⟨_, ho568, rfl, HM⟩ (Sub.cons rfl (Sub.cons rfl (Sub.cons rfl (Sub.cons rfl Sub.nil))))
    · replace ho568 := cond_f hb584 ho568
      refine run_exit ?_
      refine at_then_exit ?_
      refine at_then_exit ?_
      refine at_block_exit ?_
      exact at_mid (ρ' := []) ⟨(Option.some.inj ho568), rfl, HM⟩ Sub.nil
  · rintro _ w591 ⟨rfl, rfl, HM⟩
    replace H := (thn_inr H)
    refine run_seq ?_
    refine run_region rfl ?_
    refine ops_ex rfl (guard_none rfl) rfl rfl (ex_assign rfl rfl) ?_
    refine ops_nil ?_
    refine at_then ?_
    refine run_ret ?_
    have hR := Option.some.inj H
    subst hR
    exact at_ret1 rfl rfl ⟨_, rfl, rfl, HM⟩

def slices_ContainsFunc_int64.f (k : Nat) (x0 : List Int) : Option Bool := ((slices_IndexFunc_int64.f k x0).bind fun t594 => some (decide (0 ≤ t594)))
theorem slices_ContainsFunc_int64.calls {k : Nat} {x0 : List Int} {p0 : Value} {w : World} (hp0 : RdS kInt w p0 x0) {r : Bool} (H : slices_ContainsFunc_int64.f k x0 = some r) :
    Calls Tryd.prog 41 ([p0, .func (.func 42) #[] #[]] : List Value).toArray w (fun e w_ => ∃ v, e = .returned v ∧ v = (.bool r) ∧ Mem w [] w_ []) := by
  have HM := Mem.start w
  refine calls_run (N := 9) Tryd.func41 rfl rfl rfl rfl ?_
  unfold slices_ContainsFunc_int64.f at H
  refine run_seq ?_
  refine run_region rfl ?_
  refine ops_ex rfl (guard_none rfl) rfl rfl (ex_assign rfl rfl) ?_
  refine ops_nil ?_
  refine at_then ?_
  refine run_seq ?_
  obtain ⟨t594, h595, H⟩ := bind_some H
  refine run_region rfl ?_
  refine ops_ex rfl (guard_none rfl) rfl rfl (ex_move rfl rfl) ?_
  refine ops_ex rfl (guard_none rfl) rfl rfl (ex_move rfl rfl) ?_
  refine ops_does rfl (guard_none rfl) rfl rfl (does_callk rfl callok46 rfl (slices_IndexFunc_int64.calls (x0 := x0) (HM.rd hp0) h595)) ?_
  rintro _ w596 ⟨rfl, hn⟩
  replace HM : Mem w [] w596 [] := HM.call hn
  refine ops_ex rfl (guard_none rfl) rfl rfl (ex_geq rfl rfl rfl) ?_
  refine ops_ex rfl (guard_none rfl) rfl rfl (ex_assign rfl rfl) ?_
  refine ops_nil ?_
  refine at_then ?_
  refine run_ret ?_
  have hR := Option.some.inj H
  subst hR
  exact at_ret1 rfl rfl ⟨_, rfl, rfl, HM⟩

def impl_areKeys.f (k : Nat) (x0 : List Int) : Option Bool := ((slices_ContainsFunc_int64.f k x0).bind fun t599 => some (!t599))
theorem impl_areKeys.calls {k : Nat} {x0 : List Int} {p0 : Value} {w : World} (hp0 : RdS kInt w p0 x0) {r : Bool} (H : impl_areKeys.f k x0 = some r) :
    Calls Tryd.prog 32 ([p0] : List Value).toArray w (fun e w_ => ∃ v, e = .returned v ∧ v = (.bool r) ∧ Mem w [] w_ []) := by
  have HM := Mem.start w
  refine calls_run (N := 6) Tryd.func32 rfl rfl rfl rfl ?_
  unfold impl_areKeys.f at H
  refine run_seq ?_
  refine run_region rfl ?_
  refine ops_ex rfl (guard_none rfl) rfl rfl (ex_assign rfl rfl) ?_
  refine ops_nil ?_
  refine at_then ?_
  refine run_seq ?_
  obtain ⟨t599, h600, H⟩ := bind_some H
  refine run_region rfl ?_
  refine ops_ex rfl (guard_none rfl) rfl rfl (ex_move rfl rfl) ?_
  refine ops_does rfl (guard_none rfl) rfl rfl (does_callk rfl callok41 rfl (slices_ContainsFunc_int64.calls (x0 := x0) (HM.rd hp0) h600)) ?_
  rintro _ w601 ⟨rfl, hn⟩
  replace HM : Mem w [] w601 [] := HM.call hn
  refine ops_ex rfl (guard_none rfl) rfl rfl (ex_not rfl rfl) ?_
  refine ops_ex rfl (guard_none rfl) rfl rfl (ex_assign rfl rfl) ?_
  refine ops_nil ?_
  refine at_then ?_
  refine run_ret ?_
  have hR := Option.some.inj H
  subst hR
  exact at_ret1 rfl rfl ⟨_, rfl, rfl, HM⟩

def impl_isHeight.f (k : Nat) (x0 : Int) : Option Bool := ((impl_within.f k x0 0 999).bind fun t608 => some t608)
theorem impl_isHeight.calls {k : Nat} {x0 : Int}  {w : World}  {r : Bool} (H : impl_isHeight.f k x0 = some r) :
    Calls Tryd.prog 33 ([.int .i64 x0] : List Value).toArray w (fun e w_ => ∃ v, e = .returned v ∧ v = (.bool r) ∧ Mem w [] w_ []) := by
  have HM := Mem.start w
  refine calls_run (N := 5) Tryd.func33 rfl rfl rfl rfl ?_
  unfold impl_isHeight.f at H
  refine run_seq ?_
  refine run_region rfl ?_
  refine ops_ex rfl (guard_none rfl) rfl rfl (ex_assign rfl rfl) ?_
  refine ops_nil ?_
  refine at_then ?_
  refine run_seq ?_
  obtain ⟨t608, h609, H⟩ := bind_some H
  refine run_region rfl ?_
  refine ops_ex rfl (guard_none rfl) rfl rfl (ex_move rfl rfl) ?_
  refine ops_does rfl (guard_none rfl) rfl rfl (does_callk rfl callok31 rfl (impl_within.calls (x0 := x0) (x1 := 0) (x2 := 999) h609)) ?_
  rintro _ w610 ⟨rfl, hn⟩
  replace HM : Mem w [] w610 [] := HM.call hn
  refine ops_ex rfl (guard_none rfl) rfl rfl (ex_assign rfl rfl) ?_
  refine ops_nil ?_
  refine at_then ?_
  refine run_ret ?_
  have hR := Option.some.inj H
  subst hR
  exact at_ret1 rfl rfl ⟨_, rfl, rfl, HM⟩

def impl_isRising.l0 (x0 : List Int) : Nat → Int → Option (Bool ⊕ Unit)
  | 0, _ => none
  | k + 1, a662 => (bif (decide (a662 < (x0.length : Int))) then (chk (idxOk a662 x0.length) (chk (idxOk (wrap64 (a662 - 1)) x0.length) (bif (decide ((gt x0 a662) ≤ (gt x0 (wrap64 (a662 - 1))))) then some (.inl false) else impl_isRising.l0 x0 k (wrap64 (a662 + 1))))) else some (.inr ()))
theorem impl_isRising.l0_z (x0 : List Int) (a662 : Int) : impl_isRising.l0 x0 0 a662 = none := rfl
theorem impl_isRising.l0_s (x0 : List Int) (k : Nat) (a662 : Int) : impl_isRising.l0 x0 (k + 1) a662 = (bif (decide (a662 < (x0.length : Int))) then (chk (idxOk a662 x0.length) (chk (idxOk (wrap64 (a662 - 1)) x0.length) (bif (decide ((gt x0 a662) ≤ (gt x0 (wrap64 (a662 - 1))))) then some (.inl false) else impl_isRising.l0 x0 k (wrap64 (a662 + 1))))) else some (.inr ())) := rfl
def impl_isRising.f (k : Nat) (x0 : List Int) : Option Bool := ((impl_isRising.l0 x0 k 1).bind fun o654 => thn o654 (fun r => some r) (fun _ => some true))
theorem impl_isRising.calls {k : Nat} {x0 : List Int} {p0 : Value} {w : World} (hp0 : RdS kInt w p0 x0) {r : Bool} (H : impl_isRising.f k x0 = some r) :
    Calls Tryd.prog 34 ([p0] : List Value).toArray w (fun e w_ => ∃ v, e = .returned v ∧ v = (.bool r) ∧ Mem w [] w_ []) := by
  have HM := Mem.start w
  refine calls_run (N := 20) Tryd.func34 rfl rfl rfl rfl ?_
  unfold impl_isRising.f at H
  refine run_seq ?_
  refine run_region rfl ?_
  refine ops_ex rfl (guard_none rfl) rfl rfl (ex_assign rfl rfl) ?_
  refine ops_nil ?_
  refine at_then ?_
  obtain ⟨o654, ho655, H⟩ := bind_some H
  refine run_mid (fun ρ_ w_ => Sum.inr () = o654 ∧ ρ_ = [] ∧ Mem w [] w_ []) ?_ ?_
  · skip
    refine run_seq ?_
    refine run_region rfl ?_
    refine ops_ex rfl (guard_none rfl) rfl rfl (ex_assign rfl rfl) ?_
    refine ops_nil ?_
    refine at_then ?_
    refine run_block ?_
    refine run_loop (fun k_ ρ_ w_ => ∃ a662 : Int, impl_isRising.l0 x0 k_ a662 = some o654 ∧ ρ_ = [(0, p0), (3, .int .i64 a662)] ∧ Mem w [] w_ []) k (ρ1 := [(0, p0), (3, .int .i64 1)]) ⟨_, ho655, rfl, HM⟩ (Sub.cons rfl (Sub.cons rfl Sub.nil)) ?_
    clear HM ho655
    rintro k669 _ w670 ⟨a662, ho655, rfl, HM⟩
    obtain _ | k669 := k669
    · exact nomatch ((impl_isRising.l0_z x0 a662).symm.trans ho655)
    replace ho655 := (impl_isRising.l0_s x0 k669 a662).symm.trans ho655
    refine run_seq ?_
    refine run_seq ?_
    refine run_region rfl ?_
    refine ops_ex rfl (guard_none rfl) rfl rfl (ex_move rfl rfl) ?_
    refine ops_ex rfl (guard_none rfl) rfl rfl (ex_move rfl rfl) ?_
    refine ops_ex rfl (guard_none rfl) rfl rfl (ex_len (d := kInt) (xs := x0) rfl rfl Tryd.underlying22 hp0) ?_
    refine ops_ex rfl (guard_none rfl) rfl rfl (ex_lss rfl rfl rfl) ?_
    refine ops_nil ?_
    refine at_then ?_
    refine run_cond (b := (decide (a662 < (x0.length : Int)))) rfl (fun hb671 => ?_) (fun hb671 => ?_)
    · replace ho655 := cond_t hb671 ho655
      refine run_skip ?_
      refine at_then ?_
      refine run_seq ?_
      refine run_block ?_
      refine run_seq ?_
      obtain ⟨e672, ho655⟩ := chk_some ho655
      obtain ⟨e674, ho655⟩ := chk_some ho655
      refine run_drawf (fun w_ => Mem w [] w_ []) [(0, true), (1, true), (2, true), (3, true), (4, true), (5, true), (6, true), (7, true), (8, true), (9, true)] mixed rfl rfl (by kernel_rfl) ?_
      replace HM := HM.grow (fr_drew _)
      have hS := Mem.suf (M := []) HM
      refine drwp_take rfl (guard_none rfl) rfl rfl (fun w_ hS_ => (ex_move rfl rfl)) hS ?_
      refine drwp_take rfl (guard_none rfl) rfl rfl (fun w_ hS_ => (ex_move rfl rfl)) hS ?_
      have hc673 : CellsAt _ (sb p0) (so p0 + (a662).toNat * 1) [(.int .i64 (gt x0 a662))] := rd_plain hp0 e672
      refine drwp_take rfl (guard_none rfl) rfl rfl (fun w_ hS_ => (ex_indexAddr (d := kInt) rfl rfl rfl Tryd.underlying22 tsz2 hp0 (idx_lo e672) (idx_hi e672))) hS ?_
      refine drwp_take rfl (guard_none rfl) rfl rfl (fun w_ hS_ => (ex_load1 rfl rfl Tryd.underlying2 rfl ((hS_.at_ hc673) 0 _ rfl))) hS ?_
      refine drwp_take rfl (guard_none rfl) rfl rfl (fun w_ hS_ => (ex_move rfl rfl)) hS ?_
      refine drwp_take rfl (guard_none rfl) rfl rfl (fun w_ hS_ => (ex_move rfl rfl)) hS ?_
      refine drwp_take rfl (guard_none rfl) rfl rfl (fun w_ hS_ => (ex_sub rfl rfl rfl)) hS ?_
      have hc675 : CellsAt _ (sb p0) (so p0 + (wrap64 (a662 - 1)).toNat * 1) [(.int .i64 (gt x0 (wrap64 (a662 - 1))))] := rd_plain hp0 e674
      refine drwp_take rfl (guard_none rfl) rfl rfl (fun w_ hS_ => (ex_indexAddr (d := kInt) rfl rfl rfl Tryd.underlying22 tsz2 hp0 (idx_lo e674) (idx_hi e674))) hS ?_
      refine drwp_take rfl (guard_none rfl) rfl rfl (fun w_ hS_ => (ex_load1 rfl rfl Tryd.underlying2 rfl ((hS_.at_ hc675) 0 _ rfl))) hS ?_
      refine drwp_take rfl (guard_none rfl) rfl rfl (fun w_ hS_ => (ex_leq rfl rfl rfl)) hS ?_
      refine drwp_done ?_
      refine at_then ?_
      refine run_cond (b := (decide ((gt x0 a662) ≤ (gt x0 (wrap64 (a662 - 1)))))) rfl (fun hb676 => ?_) (fun hb676 => ?_)
      · replace ho655 := cond_t hb676 ho655
        refine run_seq ?_
        refine run_region rfl ?_
        refine ops_ex rfl (guard_none rfl) rfl rfl (ex_assign rfl rfl) ?_
        refine ops_nil ?_
        refine at_then ?_
        refine run_ret ?_
        refine at_block_ret ?_
        refine at_then_ret ?_
        refine at_then_ret ?_
        refine at_block_ret ?_
        refine at_then_ret ?_
        have hR := Option.some.inj ho655
        subst hR
        have hT := thn_inl H
        have hR := Option.some.inj hT
        subst hR
        exact at_ret1 rfl rfl ⟨_, rfl, rfl, HM⟩
      · replace ho655 := cond_f hb676 ho655
        refine run_skip ?_
        refine at_block ?_
        refine at_then ?_
        refine run_region rfl ?_
        refine ops_ex rfl (guard_none rfl) rfl rfl (ex_move rfl rfl) ?_
        refine ops_ex rfl (guard_none rfl) rfl rfl (ex_add rfl rfl rfl) ?_
        refine ops_ex rfl (guard_none rfl) rfl rfl (ex_assign rfl rfl) ?_
        refine ops_nil ?_
        exact at_again k669 (ρ1 := [(0, p0), (3, .int .i64 (wrap64 (a662 + 1)))]) (Nat.lt_succ_self _) ⟨_, ho655, rfl, HM⟩ (Sub.cons rfl (Sub.cons rfl Sub.nil))
    · replace ho655 := cond_f hb671 ho655
      refine run_exit ?_
      refine at_then_exit ?_
      refine at_then_exit ?_
      refine at_block_exit ?_
      exact at_mid (ρ' := []) ⟨(Option.some.inj ho655), rfl, HM⟩ Sub.nil
  · rintro _ w677 ⟨rfl, rfl, HM⟩
    replace H := (thn_inr H)
    refine run_seq ?_
    refine run_region rfl ?_
    refine ops_ex rfl (guard_none rfl) rfl rfl (ex_assign rfl rfl) ?_
    refine ops_nil ?_
    refine at_then ?_
    refine run_ret ?_
    have hR := Option.some.inj H
    subst hR
    exact at_ret1 rfl rfl ⟨_, rfl, rfl, HM⟩

def impl_RuleFault.f (k : Nat) (x0 : Rule) : Option Int := ((impl_within.f k (x0.fKeys.length : Int) 1 3).bind fun t685 => (bif !t685 then some 2 else ((impl_areKeys.f k x0.fKeys).bind fun t689 => ((bif (!(!t689)) then impl_within.f k x0.fNeed 1 (x0.fKeys.length : Int) else some default).bind fun t691 => ((bif (!((!t689) || (!t691))) then impl_isHeight.f k x0.fAfter else some default).bind fun t693 => (bif (((!t689) || (!t691)) || (!t693)) then some 3 else ((impl_isRising.f k x0.fKeys).bind fun t705 => (bif !t705 then some 1 else some 0))))))))
theorem impl_RuleFault.calls {k : Nat} {x0 : Rule} {p0_0 : Value} {w : World} (hp0_0 : RdS kInt w p0_0 x0.fKeys) {r : Int} (H : impl_RuleFault.f k x0 = some r) :
    Calls Tryd.prog 20 ([.agg #[p0_0, (.int .i64 x0.fNeed), (.int .i64 x0.fAfter)]] : List Value).toArray w (fun e w_ => ∃ v, e = .returned v ∧ v = (.int .i64 r) ∧ Mem w [] w_ []) := by
  have HM := Mem.start w
  refine calls_run (N := 34) Tryd.func20 rfl rfl rfl rfl ?_
  unfold impl_RuleFault.f at H
  refine run_seq ?_
  refine run_region rfl ?_
  refine ops_does rfl (guard_none rfl) rfl rfl (does_box (cs := [p0_0, .int .i64 x0.fNeed, .int .i64 x0.fAfter]) rfl rfl rfl HM) ?_
  rintro _ w684 ⟨b681, rfl, HM⟩
  refine ops_ex rfl (guard_none rfl) rfl rfl (ex_assign rfl rfl) ?_
  refine ops_nil ?_
  refine at_then ?_
  refine run_seq ?_
  refine run_region rfl ?_
  refine ops_ex rfl (guard_none rfl) rfl rfl (ex_fieldAddr (off' := 0) rfl rfl Tryd.underlying29 rfl tsz22 rfl) ?_
  refine ops_ex rfl (guard_none rfl) rfl rfl (ex_load1 rfl rfl Tryd.underlying22 rfl ((HM.box_at 0 rfl) 0 _ rfl)) ?_
  refine ops_ex rfl (guard_none rfl) rfl rfl (ex_len (d := kInt) (xs := x0.fKeys) rfl rfl Tryd.underlying22 hp0_0) ?_
  refine ops_ex rfl (guard_none rfl) rfl rfl (ex_assign rfl rfl) ?_
  refine ops_nil ?_
  refine at_then ?_
  refine run_seq ?_
  refine run_block ?_
  refine run_seq ?_
  obtain ⟨t685, h686, H⟩ := bind_some H
  refine run_region rfl ?_
  refine ops_ex rfl (guard_none rfl) rfl rfl (ex_move rfl rfl) ?_
  refine ops_does rfl (guard_none rfl) rfl rfl (does_callk rfl callok31 rfl (impl_within.calls (x0 := (x0.fKeys.length : Int)) (x1 := 1) (x2 := 3) h686)) ?_
  rintro _ w687 ⟨rfl, hn⟩
  replace HM : Mem w [] w687 [box b681 29 [p0_0, .int .i64 x0.fNeed, .int .i64 x0.fAfter]] := HM.call hn
  refine ops_ex rfl (guard_none rfl) rfl rfl (ex_not rfl rfl) ?_
  refine ops_ex rfl (guard_none rfl) rfl rfl (ex_assign rfl rfl) ?_
  refine ops_nil ?_
  refine at_then ?_
  refine run_cond (b := !t685) rfl (fun hb688 => ?_) (fun hb688 => ?_)
  · replace H := cond_t hb688 H
    refine run_seq ?_
    refine run_region rfl ?_
    refine ops_ex rfl (guard_none rfl) rfl rfl (ex_assign rfl rfl) ?_
    refine ops_nil ?_
    refine at_then ?_
    refine run_ret ?_
    refine at_block_ret ?_
    refine at_then_ret ?_
    replace HM := (HM.front 0 rfl rfl).drop
    have hR := Option.some.inj H
    subst hR
    exact at_ret1 rfl rfl ⟨_, rfl, rfl, HM⟩
  · replace H := cond_f hb688 H
    refine run_seq ?_
    obtain ⟨t689, h690, H⟩ := bind_some H
    obtain ⟨t691, h692, H⟩ := bind_some H
    obtain ⟨t693, h694, H⟩ := bind_some H
    refine run_meet (fun ρ_ w_ => ρ_ = [(1, .pointer (some ⟨b681, 0, none⟩)), (11, .bool (((!t689) || (!t691)) || (!t693)))] ∧ Mem w [] w_ [box b681 29 [p0_0, .int .i64 x0.fNeed, .int .i64 x0.fAfter]]) ?_ ?_
    · skip
      refine run_region rfl ?_
      refine ops_ex rfl (guard_none rfl) rfl rfl (ex_fieldAddr (off' := 0) rfl rfl Tryd.underlying29 rfl tsz22 rfl) ?_
      refine ops_ex rfl (guard_none rfl) rfl rfl (ex_load1 rfl rfl Tryd.underlying22 rfl ((HM.box_at 0 rfl) 0 _ rfl)) ?_
      refine ops_does rfl (guard_none rfl) rfl rfl (does_callk rfl callok32 rfl (impl_areKeys.calls (x0 := x0.fKeys) (HM.rd hp0_0) h690)) ?_
      rintro _ w695 ⟨rfl, hn⟩
      replace HM : Mem w [] w695 [box b681 29 [p0_0, .int .i64 x0.fNeed, .int .i64 x0.fAfter]] := HM.call hn
      refine ops_ex rfl (guard_none rfl) rfl rfl (ex_not rfl rfl) ?_
      refine ops_ex rfl (guard_none rfl) rfl rfl (ex_move rfl rfl) ?_
      refine bool_cases (!t689) (fun hg696 => ?_) (fun hg696 => ?_)
      · skip
        refine ops_off rfl (guard_off rfl rfl rfl hg696) rfl rfl ?_
        refine ops_off rfl (guard_off rfl rfl rfl hg696) rfl rfl ?_
        refine ops_off rfl (guard_off rfl rfl rfl hg696) rfl rfl ?_
        refine ops_off rfl (guard_off rfl rfl rfl hg696) rfl rfl ?_
        refine ops_off rfl (guard_off rfl rfl rfl hg696) rfl rfl ?_
        have hg697 : ((!t689) || (!t691)) = true := by simp only [hg696, Bool.and_true, Bool.true_and, Bool.and_false, Bool.false_and, Bool.or_true, Bool.true_or, Bool.or_false, Bool.false_or, Bool.not_true, Bool.not_false, Bool.not_not]
        refine ops_ex (v := .bool ((!t689) || (!t691))) rfl (guard_none rfl) rfl rfl (ex_por_t rfl rfl hg696) ?_
        refine ops_ex rfl (guard_none rfl) rfl rfl (ex_move rfl rfl) ?_
        refine ops_off rfl (guard_off rfl rfl rfl hg697) rfl rfl ?_
        refine ops_off rfl (guard_off rfl rfl rfl hg697) rfl rfl ?_
        refine ops_off rfl (guard_off rfl rfl rfl hg697) rfl rfl ?_
        refine ops_off rfl (guard_off rfl rfl rfl hg697) rfl rfl ?_
        have hg698 : (((!t689) || (!t691)) || (!t693)) = true := by simp only [hg697, Bool.and_true, Bool.true_and, Bool.and_false, Bool.false_and, Bool.or_true, Bool.true_or, Bool.or_false, Bool.false_or, Bool.not_true, Bool.not_false, Bool.not_not]
        refine ops_ex (v := .bool (((!t689) || (!t691)) || (!t693))) rfl (guard_none rfl) rfl rfl (ex_por_t rfl rfl hg697) ?_
        refine ops_ex rfl (guard_none rfl) rfl rfl (ex_assign rfl rfl) ?_
        refine ops_nil ?_
        exact at_meet [(1, .pointer (some ⟨b681, 0, none⟩)), (11, .bool (((!t689) || (!t691)) || (!t693)))] ⟨rfl, HM⟩ (Sub.cons rfl (Sub.cons rfl Sub.nil))
      · skip
        refine ops_ex rfl (guard_on rfl rfl rfl hg696) rfl rfl (ex_fieldAddr (off' := 1) rfl rfl Tryd.underlying29 rfl tsz2 rfl) ?_
        refine ops_ex rfl (guard_on rfl rfl rfl hg696) rfl rfl (ex_load1 rfl rfl Tryd.underlying2 rfl ((HM.box_at 0 rfl) 1 _ rfl)) ?_
        refine ops_ex rfl (guard_on rfl rfl rfl hg696) rfl rfl (ex_move rfl rfl) ?_
        refine ops_does rfl (guard_on rfl rfl rfl hg696) rfl rfl (does_callk rfl callok31 rfl (impl_within.calls (x0 := x0.fNeed) (x1 := 1) (x2 := (x0.fKeys.length : Int)) (cond_t (not_mk hg696) h692))) ?_
        rintro _ w699 ⟨rfl, hn⟩
        replace HM : Mem w [] w699 [box b681 29 [p0_0, .int .i64 x0.fNeed, .int .i64 x0.fAfter]] := HM.call hn
        refine ops_ex rfl (guard_on rfl rfl rfl hg696) rfl rfl (ex_not rfl rfl) ?_
        refine ops_ex (v := .bool ((!t689) || (!t691))) rfl (guard_none rfl) rfl rfl (ex_por_f rfl rfl hg696 rfl) ?_
        refine ops_ex rfl (guard_none rfl) rfl rfl (ex_move rfl rfl) ?_
        refine bool_cases ((!t689) || (!t691)) (fun hg700 => ?_) (fun hg700 => ?_)
        · skip
          refine ops_off rfl (guard_off rfl rfl rfl hg700) rfl rfl ?_
          refine ops_off rfl (guard_off rfl rfl rfl hg700) rfl rfl ?_
          refine ops_off rfl (guard_off rfl rfl rfl hg700) rfl rfl ?_
          refine ops_off rfl (guard_off rfl rfl rfl hg700) rfl rfl ?_
          have hg701 : (((!t689) || (!t691)) || (!t693)) = true := by simp only [hg700, Bool.and_true, Bool.true_and, Bool.and_false, Bool.false_and, Bool.or_true, Bool.true_or, Bool.or_false, Bool.false_or, Bool.not_true, Bool.not_false, Bool.not_not]
          refine ops_ex (v := .bool (((!t689) || (!t691)) || (!t693))) rfl (guard_none rfl) rfl rfl (ex_por_t rfl rfl hg700) ?_
          refine ops_ex rfl (guard_none rfl) rfl rfl (ex_assign rfl rfl) ?_
          refine ops_nil ?_
          exact at_meet [(1, .pointer (some ⟨b681, 0, none⟩)), (11, .bool (((!t689) || (!t691)) || (!t693)))] ⟨rfl, HM⟩ (Sub.cons rfl (Sub.cons rfl Sub.nil))
        · skip
          refine ops_ex rfl (guard_on rfl rfl rfl hg700) rfl rfl (ex_fieldAddr (off' := 2) rfl rfl Tryd.underlying29 rfl tsz2 rfl) ?_
          refine ops_ex rfl (guard_on rfl rfl rfl hg700) rfl rfl (ex_load1 rfl rfl Tryd.underlying2 rfl ((HM.box_at 0 rfl) 2 _ rfl)) ?_
          refine ops_does rfl (guard_on rfl rfl rfl hg700) rfl rfl (does_callk rfl callok33 rfl (impl_isHeight.calls (x0 := x0.fAfter) (cond_t (not_mk hg700) h694))) ?_
          rintro _ w702 ⟨rfl, hn⟩
          replace HM : Mem w [] w702 [box b681 29 [p0_0, .int .i64 x0.fNeed, .int .i64 x0.fAfter]] := HM.call hn
          refine ops_ex rfl (guard_on rfl rfl rfl hg700) rfl rfl (ex_not rfl rfl) ?_
          refine ops_ex (v := .bool (((!t689) || (!t691)) || (!t693))) rfl (guard_none rfl) rfl rfl (ex_por_f rfl rfl hg700 rfl) ?_
          refine ops_ex rfl (guard_none rfl) rfl rfl (ex_assign rfl rfl) ?_
          refine ops_nil ?_
          exact at_meet [(1, .pointer (some ⟨b681, 0, none⟩)), (11, .bool (((!t689) || (!t691)) || (!t693)))] ⟨rfl, HM⟩ (Sub.cons rfl (Sub.cons rfl Sub.nil))
    · rintro _ w703 ⟨rfl, HM⟩
      refine at_then ?_
      refine run_cond (b := (((!t689) || (!t691)) || (!t693))) rfl (fun hb704 => ?_) (fun hb704 => ?_)
      · replace H := cond_t hb704 H
        refine run_seq ?_
        refine run_region rfl ?_
        refine ops_ex rfl (guard_none rfl) rfl rfl (ex_assign rfl rfl) ?_
        refine ops_nil ?_
        refine at_then ?_
        refine run_ret ?_
        refine at_block_ret ?_
        refine at_then_ret ?_
        replace HM := (HM.front 0 rfl rfl).drop
        have hR := Option.some.inj H
        subst hR
        exact at_ret1 rfl rfl ⟨_, rfl, rfl, HM⟩
      · replace H := cond_f hb704 H
        refine run_seq ?_
        obtain ⟨t705, h706, H⟩ := bind_some H
        refine run_region rfl ?_
        refine ops_ex rfl (guard_none rfl) rfl rfl (ex_fieldAddr (off' := 0) rfl rfl Tryd.underlying29 rfl tsz22 rfl) ?_
        refine ops_ex rfl (guard_none rfl) rfl rfl (ex_load1 rfl rfl Tryd.underlying22 rfl ((HM.box_at 0 rfl) 0 _ rfl)) ?_
        refine ops_does rfl (guard_none rfl) rfl rfl (does_callk rfl callok34 rfl (impl_isRising.calls (x0 := x0.fKeys) (HM.rd hp0_0) h706)) ?_
        rintro _ w707 ⟨rfl, hn⟩
        replace HM : Mem w [] w707 [box b681 29 [p0_0, .int .i64 x0.fNeed, .int .i64 x0.fAfter]] := HM.call hn
        refine ops_ex rfl (guard_none rfl) rfl rfl (ex_not rfl rfl) ?_
        refine ops_ex rfl (guard_none rfl) rfl rfl (ex_assign rfl rfl) ?_
        refine ops_nil ?_
        refine at_then ?_
        refine run_cond (b := !t705) rfl (fun hb708 => ?_) (fun hb708 => ?_)
        · replace H := cond_t hb708 H
          refine run_seq ?_
          refine run_region rfl ?_
          refine ops_ex rfl (guard_none rfl) rfl rfl (ex_assign rfl rfl) ?_
          refine ops_nil ?_
          refine at_then ?_
          refine run_ret ?_
          refine at_block_ret ?_
          refine at_then_ret ?_
          replace HM := (HM.front 0 rfl rfl).drop
          have hR := Option.some.inj H
          subst hR
          exact at_ret1 rfl rfl ⟨_, rfl, rfl, HM⟩
        · replace H := cond_f hb708 H
          refine run_skip ?_
          refine at_block ?_
          refine at_then ?_
          refine run_seq ?_
          refine run_region rfl ?_
          refine ops_ex rfl (guard_none rfl) rfl rfl (ex_assign rfl rfl) ?_
          refine ops_nil ?_
          refine at_then ?_
          refine run_ret ?_
          replace HM := (HM.front 0 rfl rfl).drop
          have hR := Option.some.inj H
          subst hR
          exact at_ret1 rfl rfl ⟨_, rfl, rfl, HM⟩

def strconv_FormatInt.f (k : Nat) (x0 : Int) (x1 : Int) : Option ByteArray := (chk ((decide (-9223372036854775808 ≤ x0) && decide (x0 ≤ 9223372036854775807)) && (x1 == 10)) (some (⟨(Lib.itoa x0).toArray⟩ : ByteArray)))
theorem strconv_FormatInt.calls {k : Nat} {x0 x1 : Int} {w : World} (htab : Tab w) {r : ByteArray} (H : strconv_FormatInt.f k x0 x1 = some r) :
    Calls Tryd.prog 43 ([.int .i64 x0, .int .i64 x1] : List Value).toArray w (fun e w_ => ∃ v, e = .returned v ∧ v = (.string r) ∧ Mem w [] w_ []) := by
  obtain ⟨h, H⟩ := chk_some H
  have hR := Option.some.inj H
  subst hR
  simp only [Bool.and_eq_true, decide_eq_true_eq, beq_iff_eq] at h
  obtain ⟨⟨h0, h1⟩, rfl⟩ := h
  exact (Tryd.strconv_FormatInt_10 x0 h0 h1 w htab).mono fun e w_ ⟨he, k, os, hw⟩ => ⟨_, he, rfl, hw ▸ mem_grow w k os⟩

def impl_dec.f (k : Nat) (x0 : Int) : Option ByteArray := ((strconv_FormatInt.f k x0 10).bind fun t717 => some t717)
theorem impl_dec.calls {k : Nat} {x0 : Int}  {w : World} (htab : Tab w)  {r : ByteArray} (H : impl_dec.f k x0 = some r) :
    Calls Tryd.prog 35 ([.int .i64 x0] : List Value).toArray w (fun e w_ => ∃ v, e = .returned v ∧ v = (.string r) ∧ Mem w [] w_ []) := by
  have HM := Mem.start w
  refine calls_run (N := 5) Tryd.func35 rfl rfl rfl rfl ?_
  unfold impl_dec.f at H
  refine run_seq ?_
  refine run_region rfl ?_
  refine ops_ex rfl (guard_none rfl) rfl rfl (ex_assign rfl rfl) ?_
  refine ops_nil ?_
  refine at_then ?_
  refine run_seq ?_
  obtain ⟨t717, h718, H⟩ := bind_some H
  refine run_region rfl ?_
  refine ops_ex rfl (guard_none rfl) rfl rfl (ex_move rfl rfl) ?_
  refine ops_does rfl (guard_none rfl) rfl rfl (does_callk rfl callok43 rfl (strconv_FormatInt.calls (x0 := x0) (x1 := 10) (HM.tab htab) h718)) ?_
  rintro _ w719 ⟨rfl, hn⟩
  replace HM : Mem w [] w719 [] := HM.call hn
  refine ops_ex rfl (guard_none rfl) rfl rfl (ex_assign rfl rfl) ?_
  refine ops_nil ?_
  refine at_then ?_
  refine run_ret ?_
  have hR := Option.some.inj H
  subst hR
  exact at_ret1 rfl rfl ⟨_, rfl, rfl, HM⟩

def strings_Join.f (k : Nat) (x0 : List ByteArray) (x1 : ByteArray) : Option ByteArray := (chk (leB x0.length 140737488355328 && leB (Lib.join (x0.map (·.data.toList)) x1.data.toList).length 140737488355328) (some (⟨(Lib.join (x0.map (·.data.toList)) x1.data.toList).toArray⟩ : ByteArray)))
theorem strings_Join.calls {k : Nat} {x0 : List ByteArray} {x1 : ByteArray} {p0 : Value} {w : World} (hp0 : RdS kStr w p0 x0) {r : ByteArray} (H : strings_Join.f k x0 x1 = some r) :
    Calls Tryd.prog 44 ([p0, .string x1] : List Value).toArray w (fun e w_ => ∃ v, e = .returned v ∧ v = (.string r) ∧ Mem w [] w_ []) := by
  obtain ⟨h, H⟩ := chk_some H
  have hR := Option.some.inj H
  subst hR
  rw [Bool.and_eq_true] at h
  have hm : ∀ w_, Below w.heap.size w w_ → Mem w [] w_ [] := fun w_ hb => ⟨Fr.of_below hb, [], .nil, List.nodup_nil, by simp⟩
  obtain ⟨A, c, rfl, hc, hA⟩ := hp0
  rcases hA with rfl | ⟨b, o, rfl, hA⟩
  · exact (Tryd.strings_Join_none A c x1 w).mono fun e w_ ⟨he, hw⟩ => ⟨_, he, rfl, hm _ (hw ▸ Below.refl _ _)⟩
  · cases hx : x0 with
    | nil => subst hx; exact (Tryd.strings_Join_none _ c x1 w).mono fun e w_ ⟨he, hw⟩ => ⟨_, he, rfl, hm _ (hw ▸ Below.refl _ _)⟩
    | cons a l =>
      rw [← hx]
      have hcell : ∀ (j : Nat) x, x0[j]? = some x → w.cell? ⟨b, o + j, none⟩ = some (.string x) := fun j x hj => by
        obtain ⟨hlt, e1⟩ := List.getElem?_eq_some_iff.1 hj
        obtain ⟨cs, h2, h3⟩ := hA j hlt
        have h2' : cs = [Value.string x0[j]] := h2
        subst h2'
        have h4 : w.cell? ⟨b, o + j * 1 + 0, none⟩ = some (.string x0[j]) := h3 0 _ rfl
        rw [e1] at h4
        simpa using h4
      exact (Tryd.strings_Join b o c x0 x1 w hcell (World.block_lt_of_cell? w _ (hcell 0 a (by rw [hx]; rfl))) (leB_le h.1) hc (leB_le h.2)).mono fun e w_ ⟨he, hw⟩ => ⟨_, he, rfl, hm _ hw⟩

def impl_joined.l0 (x0 : List Int) : Nat → (List ByteArray) → Int → Option ((List ByteArray))
  | 0, _, _ => none
  | k + 1, a830, a832 => (bif (decide (a832 < (x0.length : Int))) then (chk (idxOk a832 x0.length) ((impl_dec.f k (gt x0 a832)).bind fun t849 => (chk (leB ((a830.length + ([t849] : List ByteArray).length) * 16) 140737488355328) (impl_joined.l0 x0 k (a830 ++ ([t849] : List ByteArray)) (wrap64 (a832 + 1)))))) else some a830)
theorem impl_joined.l0_z (x0 : List Int) (a830 : List ByteArray) (a832 : Int) : impl_joined.l0 x0 0 a830 a832 = none := rfl
theorem impl_joined.l0_s (x0 : List Int) (k : Nat) (a830 : List ByteArray) (a832 : Int) : impl_joined.l0 x0 (k + 1) a830 a832 = (bif (decide (a832 < (x0.length : Int))) then (chk (idxOk a832 x0.length) ((impl_dec.f k (gt x0 a832)).bind fun t849 => (chk (leB ((a830.length + ([t849] : List ByteArray).length) * 16) 140737488355328) (impl_joined.l0 x0 k (a830 ++ ([t849] : List ByteArray)) (wrap64 (a832 + 1)))))) else some a830) := rfl
def impl_joined.f (k : Nat) (x0 : List Int) (x1 : ByteArray) : Option ByteArray := ((impl_joined.l0 x0 k ([] : List ByteArray) 0).bind (fun a814 => ((strings_Join.f k a814 x1).bind fun t861 => some t861)))
theorem impl_joined.calls {k : Nat} {x0 : List Int} {x1 : ByteArray} {p0 : Value} {w : World} (htab : Tab w) (hp0 : RdS kInt w p0 x0) {r : ByteArray} (H : impl_joined.f k x0 x1 = some r) :
    Calls Tryd.prog 36 ([p0, .string x1] : List Value).toArray w (fun e w_ => ∃ v, e = .returned v ∧ v = (.string r) ∧ Mem w [] w_ []) := by
  have HM := Mem.start w
  refine calls_run (N := 24) Tryd.func36 rfl rfl rfl rfl ?_
  unfold impl_joined.f at H
  refine run_seq ?_
  refine run_region rfl ?_
  refine ops_ex rfl (guard_none rfl) rfl rfl (ex_assign rfl rfl) ?_
  refine ops_nil ?_
  refine at_then ?_
  refine run_seq ?_
  refine run_region rfl ?_
  refine ops_does rfl (guard_none rfl) rfl rfl (does_lit (e := 9) (cs := []) (xs := ([] : List ByteArray)) kStr rfl rfl (fun _ => by kernel_rfl) rfl rfl (fun _ _ h => by have h' : _ = [] := h; subst h'; exact .nil) HM.emp) ?_
  rintro v772 w775 HM
  refine ops_ex rfl (guard_none rfl) rfl rfl (ex_assign rfl rfl) ?_
  refine ops_nil ?_
  refine at_then ?_
  obtain ⟨o816, ho817, H⟩ := bind_some H
  refine run_mid (fun ρ_ w_ => ∃ v813 : Value, ∃ a814 : List ByteArray, a814 = o816 ∧ ρ_ = [(1, .string x1), (5, v813)] ∧ Mem w [] w_ [own kStr 9 v813 a814]) ?_ ?_
  · clear H
    refine run_seq ?_
    refine run_region rfl ?_
    refine ops_ex rfl (guard_none rfl) rfl rfl (ex_move rfl rfl) ?_
    refine ops_ex rfl (guard_none rfl) rfl rfl (ex_len (d := kInt) (xs := x0) rfl rfl Tryd.underlying22 hp0) ?_
    refine ops_ex rfl (guard_none rfl) rfl rfl (ex_move rfl rfl) ?_
    refine ops_nil ?_
    refine at_then ?_
    refine run_block ?_
    refine run_loop (fun k_ ρ_ w_ => ∃ v829 : Value, ∃ a830 : List ByteArray, ∃ a832 : Int, impl_joined.l0 x0 k_ a830 a832 = some o816 ∧ ρ_ = [(1, .string x1), (5, v829), (9, p0), (10, .int .i64 (x0.length : Int)), (11, .int .i64 a832)] ∧ Mem w [] w_ [own kStr 9 v829 a830]) k (ρ1 := [(1, .string x1), (5, v772), (9, p0), (10, .int .i64 (x0.length : Int)), (11, .int .i64 0)]) ⟨_, _, _, ho817, rfl, HM⟩ (Sub.cons rfl (Sub.cons rfl (Sub.cons rfl (Sub.cons rfl (Sub.cons rfl Sub.nil))))) ?_
    clear HM ho817
    rintro k844 _ w845 ⟨v829, a830, a832, ho817, rfl, HM⟩
    obtain _ | k844 := k844
    · exact nomatch ((impl_joined.l0_z x0 a830 a832).symm.trans ho817)
    replace ho817 := (impl_joined.l0_s x0 k844 a830 a832).symm.trans ho817
    refine run_seq ?_
    refine run_region rfl ?_
    refine ops_ex rfl (guard_none rfl) rfl rfl (ex_lss rfl rfl rfl) ?_
    refine ops_nil ?_
    refine at_then ?_
    refine run_seq ?_
    refine run_cond (b := (decide (a832 < (x0.length : Int)))) rfl (fun hb846 => ?_) (fun hb846 => ?_)
    · replace ho817 := cond_t hb846 ho817
      refine run_skip ?_
      refine at_then ?_
      refine run_seq ?_
      refine run_block ?_
      refine run_seq ?_
      obtain ⟨e847, ho817⟩ := chk_some ho817
      refine run_region rfl ?_
      have hc848 : CellsAt _ (sb p0) (so p0 + (a832).toNat * 1) [(.int .i64 (gt x0 a832))] := rd_plain hp0 e847
      refine ops_ex rfl (guard_none rfl) rfl rfl (ex_indexAddr (d := kInt) rfl rfl rfl Tryd.underlying22 tsz2 hp0 (idx_lo e847) (idx_hi e847)) ?_
      refine ops_ex rfl (guard_none rfl) rfl rfl (ex_load1 rfl rfl Tryd.underlying2 rfl ((HM.at_ hc848) 0 _ rfl)) ?_
      refine ops_ex rfl (guard_none rfl) rfl rfl (ex_assign rfl rfl) ?_
      refine ops_nil ?_
      refine at_then ?_
      obtain ⟨t849, h850, ho817⟩ := bind_some ho817
      obtain ⟨e854, ho817⟩ := chk_some ho817
      refine run_region rfl ?_
      refine ops_ex rfl (guard_none rfl) rfl rfl (ex_move rfl rfl) ?_
      refine ops_ex rfl (guard_none rfl) rfl rfl (ex_move rfl rfl) ?_
      refine ops_does rfl (guard_none rfl) rfl rfl (does_callk rfl callok35 rfl (impl_dec.calls (x0 := (gt x0 a832)) (HM.tab htab) h850)) ?_
      rintro _ w857 ⟨rfl, hn⟩
      replace HM : Mem w [] w857 [own kStr 9 v829 a830] := HM.call hn
      refine ops_does rfl (guard_none rfl) rfl rfl (does_lit (e := 9) (cs := [.string t849]) (xs := ([t849] : List ByteArray)) kStr rfl rfl (fun _ => by kernel_rfl) rfl rfl (fun _ _ h => by have h' : _ = [] := h; subst h'; exact (Elems.cons (d := kStr) (f := []) ⟨rfl, rfl⟩ .nil)) HM.emp) ?_
      rintro v851 w858 HM
      replace HM := HM.front 1 rfl rfl
      refine ops_does rfl (guard_none rfl) rfl rfl (does_appendR kStr flat_plain rfl rfl rfl Tryd.underlying64 tsz9 rfl tby9 tz9 rfl rfl (leB_le e854) (HM.own_rd 1 rfl) HM) ?_
      rintro v855 w859 HM
      refine ops_ex rfl (guard_none rfl) rfl rfl (ex_assign rfl rfl) ?_
      refine ops_nil ?_
      refine at_block ?_
      refine at_then ?_
      refine run_region rfl ?_
      refine ops_ex rfl (guard_none rfl) rfl rfl (ex_add rfl rfl rfl) ?_
      refine ops_ex rfl (guard_none rfl) rfl rfl (ex_move rfl rfl) ?_
      refine ops_nil ?_
      replace HM := (HM.front 1 rfl rfl).drop
      exact at_again k844 (ρ1 := [(1, .string x1), (5, v855), (9, p0), (10, .int .i64 (x0.length : Int)), (11, .int .i64 (wrap64 (a832 + 1)))]) (Nat.lt_succ_self _) ⟨_, _, _, ho817, rfl, HM⟩ (Sub.cons rfl (Sub.cons rfl (Sub.cons rfl (Sub.cons rfl (Sub.cons rfl Sub.nil)))))
    · replace ho817 := cond_f hb846 ho817
      refine run_exit ?_
      refine at_then_exit ?_
      refine at_then_exit ?_
      refine at_block_exit ?_
      exact at_mid (ρ' := [(1, .string x1), (5, v829)]) ⟨_, _, (Option.some.inj ho817), rfl, HM⟩ (Sub.cons rfl (Sub.cons rfl Sub.nil))
  · rintro _ w860 ⟨v813, a814, rfl, rfl, HM⟩
    refine run_seq ?_
    obtain ⟨t861, h862, H⟩ := bind_some H
    refine run_region rfl ?_
    refine ops_ex rfl (guard_none rfl) rfl rfl (ex_move rfl rfl) ?_
    refine ops_ex rfl (guard_none rfl) rfl rfl (ex_move rfl rfl) ?_
    refine ops_does rfl (guard_none rfl) rfl rfl (does_callk rfl callok44 rfl (strings_Join.calls (x0 := a814) (x1 := x1) (HM.own_rd 0 rfl) h862)) ?_
    rintro _ w863 ⟨rfl, hn⟩
    replace HM : Mem w [] w863 [own kStr 9 v813 a814] := HM.call hn
    refine ops_ex rfl (guard_none rfl) rfl rfl (ex_assign rfl rfl) ?_
    refine ops_nil ?_
    refine at_then ?_
    refine run_ret ?_
    replace HM := (HM.front 0 rfl rfl).drop
    have hR := Option.some.inj H
    subst hR
    exact at_ret1 rfl rfl ⟨_, rfl, rfl, HM⟩

def impl_ruleText.f (k : Nat) (x0 : Rule) (x1 : ByteArray) : Option ByteArray := ((impl_dec.f k x0.fNeed).bind fun t878 => (chk (leB (t878.size + x1.size) 9223372036854775807) (chk (leB ((t878 ++ x1).size + (⟨#[111, 102]⟩ : ByteArray).size) 9223372036854775807) (chk (leB (((t878 ++ x1) ++ (⟨#[111, 102]⟩ : ByteArray)).size + x1.size) 9223372036854775807) ((impl_joined.f k x0.fKeys (⟨#[44]⟩ : ByteArray)).bind fun t883 => (chk (leB ((((t878 ++ x1) ++ (⟨#[111, 102]⟩ : ByteArray)) ++ x1).size + t883.size) 9223372036854775807) (bif (x0.fAfter != 0) then (chk (leB (x1.size + (⟨#[97, 102, 116, 101, 114]⟩ : ByteArray).size) 9223372036854775807) (chk (leB ((x1 ++ (⟨#[97, 102, 116, 101, 114]⟩ : ByteArray)).size + x1.size) 9223372036854775807) ((impl_dec.f k x0.fAfter).bind fun t891 => (chk (leB (((x1 ++ (⟨#[97, 102, 116, 101, 114]⟩ : ByteArray)) ++ x1).size + t891.size) 9223372036854775807) (chk (leB (((((t878 ++ x1) ++ (⟨#[111, 102]⟩ : ByteArray)) ++ x1) ++ t883).size + (((x1 ++ (⟨#[97, 102, 116, 101, 114]⟩ : ByteArray)) ++ x1) ++ t891).size) 9223372036854775807) (some (((((t878 ++ x1) ++ (⟨#[111, 102]⟩ : ByteArray)) ++ x1) ++ t883) ++ (((x1 ++ (⟨#[97, 102, 116, 101, 114]⟩ : ByteArray)) ++ x1) ++ t891)))))))) else some ((((t878 ++ x1) ++ (⟨#[111, 102]⟩ : ByteArray)) ++ x1) ++ t883))))))))
theorem impl_ruleText.calls {k : Nat} {x0 : Rule} {x1 : ByteArray} {p0_0 : Value} {w : World} (htab : Tab w) (hp0_0 : RdS kInt w p0_0 x0.fKeys) {r : ByteArray} (H : impl_ruleText.f k x0 x1 = some r) :
    Calls Tryd.prog 21 ([.agg #[p0_0, (.int .i64 x0.fNeed), (.int .i64 x0.fAfter)], .string x1] : List Value).toArray w (fun e w_ => ∃ v, e = .returned v ∧ v = (.string r) ∧ Mem w [] w_ []) := by
  have HM := Mem.start w
  refine calls_run (N := 32) Tryd.func21 rfl rfl rfl rfl ?_
  unfold impl_ruleText.f at H
  refine run_seq ?_
  refine run_region rfl ?_
  refine ops_does rfl (guard_none rfl) rfl rfl (does_box (cs := [p0_0, .int .i64 x0.fNeed, .int .i64 x0.fAfter]) rfl rfl rfl HM) ?_
  rintro _ w877 ⟨b874, rfl, HM⟩
  refine ops_ex rfl (guard_none rfl) rfl rfl (ex_assign rfl rfl) ?_
  refine ops_nil ?_
  refine at_then ?_
  refine run_seq ?_
  obtain ⟨t878, h879, H⟩ := bind_some H
  obtain ⟨e880, H⟩ := chk_some H
  obtain ⟨e881, H⟩ := chk_some H
  obtain ⟨e882, H⟩ := chk_some H
  obtain ⟨t883, h884, H⟩ := bind_some H
  obtain ⟨e885, H⟩ := chk_some H
  refine run_drawf (fun w_ => Mem w [] w_ [box b874 29 [p0_0, .int .i64 x0.fNeed, .int .i64 x0.fAfter]]) [(0, true), (1, true), (3, true), (6, true), (8, true), (9, true), (2, false), (4, true), (5, true), (7, true), (10, false), (11, true), (12, true)] mixed rfl rfl (by kernel_rfl) ?_
  replace HM := HM.grow (fr_drew _)
  have hS := Mem.suf (M := []) HM
  refine drwp_take rfl (guard_none rfl) rfl rfl (fun w_ hS_ => (ex_fieldAddr (off' := 1) rfl rfl Tryd.underlying29 rfl tsz2 rfl)) hS ?_
  refine drwp_take rfl (guard_none rfl) rfl rfl (fun w_ hS_ => (ex_load1 rfl rfl Tryd.underlying2 rfl ((hS_.box_at 0 rfl) 1 _ rfl))) hS ?_
  refine drwp_take rfl (guard_none rfl) rfl rfl (fun w_ hS_ => (ex_move rfl rfl)) hS ?_
  refine drwp_take rfl (guard_none rfl) rfl rfl (fun w_ hS_ => (ex_move rfl rfl)) hS ?_
  refine drwp_take rfl (guard_none rfl) rfl rfl (fun w_ hS_ => (ex_fieldAddr (off' := 0) rfl rfl Tryd.underlying29 rfl tsz22 rfl)) hS ?_
  refine drwp_take rfl (guard_none rfl) rfl rfl (fun w_ hS_ => (ex_load1 rfl rfl Tryd.underlying22 rfl ((hS_.box_at 0 rfl) 0 _ rfl))) hS ?_
  refine drwp_one rfl (guard_none rfl) rfl rfl (does_callk rfl callok35 rfl (impl_dec.calls (x0 := x0.fNeed) (HM.tab htab) h879)) ?_
  rintro _ w886 ⟨rfl, hn⟩
  replace HM : Mem w [] w886 [box b874 29 [p0_0, .int .i64 x0.fNeed, .int .i64 x0.fAfter]] := HM.call hn
  refine ⟨Mem.suf (M := []) HM, ?_⟩
  have hS := Mem.suf (M := []) HM
  refine drwp_take rfl (guard_none rfl) rfl rfl (fun w_ hS_ => (ex_sadd rfl rfl rfl (leB_le e880))) hS ?_
  refine drwp_take rfl (guard_none rfl) rfl rfl (fun w_ hS_ => (ex_sadd rfl rfl rfl (leB_le e881))) hS ?_
  refine drwp_take rfl (guard_none rfl) rfl rfl (fun w_ hS_ => (ex_sadd rfl rfl rfl (leB_le e882))) hS ?_
  refine drwp_one rfl (guard_none rfl) rfl rfl (does_callk rfl callok36 rfl (impl_joined.calls (x0 := x0.fKeys) (x1 := (⟨#[44]⟩ : ByteArray)) (HM.tab htab) (HM.rd hp0_0) h884)) ?_
  rintro _ w887 ⟨rfl, hn⟩
  replace HM : Mem w [] w887 [box b874 29 [p0_0, .int .i64 x0.fNeed, .int .i64 x0.fAfter]] := HM.call hn
  refine ⟨Mem.suf (M := []) HM, ?_⟩
  have hS := Mem.suf (M := []) HM
  refine drwp_take rfl (guard_none rfl) rfl rfl (fun w_ hS_ => (ex_sadd rfl rfl rfl (leB_le e885))) hS ?_
  refine drwp_take rfl (guard_none rfl) rfl rfl (fun w_ hS_ => (ex_assign rfl rfl)) hS ?_
  refine drwp_done ?_
  refine at_then ?_
  refine run_seq ?_
  refine run_seq ?_
  refine run_region rfl ?_
  refine ops_ex rfl (guard_none rfl) rfl rfl (ex_fieldAddr (off' := 2) rfl rfl Tryd.underlying29 rfl tsz2 rfl) ?_
  refine ops_ex rfl (guard_none rfl) rfl rfl (ex_load1 rfl rfl Tryd.underlying2 rfl ((HM.box_at 0 rfl) 2 _ rfl)) ?_
  refine ops_ex rfl (guard_none rfl) rfl rfl (ex_neq rfl rfl rfl) ?_
  refine ops_nil ?_
  refine at_then ?_
  refine run_cond (b := (x0.fAfter != 0)) rfl (fun hb888 => ?_) (fun hb888 => ?_)
  · replace H := cond_t hb888 H
    obtain ⟨e889, H⟩ := chk_some H
    obtain ⟨e890, H⟩ := chk_some H
    obtain ⟨t891, h892, H⟩ := bind_some H
    obtain ⟨e893, H⟩ := chk_some H
    obtain ⟨e894, H⟩ := chk_some H
    refine run_region rfl ?_
    refine ops_ex rfl (guard_none rfl) rfl rfl (ex_move rfl rfl) ?_
    refine ops_ex rfl (guard_none rfl) rfl rfl (ex_move rfl rfl) ?_
    refine ops_ex rfl (guard_none rfl) rfl rfl (ex_sadd rfl rfl rfl (leB_le e889)) ?_
    refine ops_ex rfl (guard_none rfl) rfl rfl (ex_move rfl rfl) ?_
    refine ops_ex rfl (guard_none rfl) rfl rfl (ex_sadd rfl rfl rfl (leB_le e890)) ?_
    refine ops_ex rfl (guard_none rfl) rfl rfl (ex_fieldAddr (off' := 2) rfl rfl Tryd.underlying29 rfl tsz2 rfl) ?_
    refine ops_ex rfl (guard_none rfl) rfl rfl (ex_load1 rfl rfl Tryd.underlying2 rfl ((HM.box_at 0 rfl) 2 _ rfl)) ?_
    refine ops_does rfl (guard_none rfl) rfl rfl (does_callk rfl callok35 rfl (impl_dec.calls (x0 := x0.fAfter) (HM.tab htab) h892)) ?_
    rintro _ w895 ⟨rfl, hn⟩
    replace HM : Mem w [] w895 [box b874 29 [p0_0, .int .i64 x0.fNeed, .int .i64 x0.fAfter]] := HM.call hn
    refine ops_ex rfl (guard_none rfl) rfl rfl (ex_sadd rfl rfl rfl (leB_le e893)) ?_
    refine ops_ex rfl (guard_none rfl) rfl rfl (ex_sadd rfl rfl rfl (leB_le e894)) ?_
    refine ops_ex rfl (guard_none rfl) rfl rfl (ex_assign rfl rfl) ?_
    refine ops_nil ?_
    refine at_then ?_
    refine run_seq ?_
    refine run_region rfl ?_
    refine ops_ex rfl (guard_none rfl) rfl rfl (ex_move rfl rfl) ?_
    refine ops_ex rfl (guard_none rfl) rfl rfl (ex_assign rfl rfl) ?_
    refine ops_nil ?_
    refine at_then ?_
    refine run_ret ?_
    replace HM := (HM.front 0 rfl rfl).drop
    have hR := Option.some.inj H
    subst hR
    exact at_ret1 rfl rfl ⟨_, rfl, rfl, HM⟩
  · replace H := cond_f hb888 H
    refine run_skip ?_
    refine at_then ?_
    refine run_seq ?_
    refine run_region rfl ?_
    refine ops_ex rfl (guard_none rfl) rfl rfl (ex_move rfl rfl) ?_
    refine ops_ex rfl (guard_none rfl) rfl rfl (ex_assign rfl rfl) ?_
    refine ops_nil ?_
    refine at_then ?_
    refine run_ret ?_
    replace HM := (HM.front 0 rfl rfl).drop
    have hR := Option.some.inj H
    subst hR
    exact at_ret1 rfl rfl ⟨_, rfl, rfl, HM⟩

def impl_RuleText.f (k : Nat) (x0 : Rule) : Option TextResult := ((impl_RuleFault.f k x0).bind fun t906 => (bif (t906 != 0) then some (⟨t906, (⟨#[]⟩ : ByteArray)⟩ : TextResult) else ((impl_ruleText.f k x0 (⟨#[32]⟩ : ByteArray)).bind fun t911 => some (⟨0, t911⟩ : TextResult))))
theorem impl_RuleText.calls {k : Nat} {x0 : Rule} {p0_0 : Value} {w : World} (htab : Tab w) (hp0_0 : RdS kInt w p0_0 x0.fKeys) {r : TextResult} (H : impl_RuleText.f k x0 = some r) :
    Calls Tryd.prog 8 ([.agg #[p0_0, (.int .i64 x0.fNeed), (.int .i64 x0.fAfter)]] : List Value).toArray w (fun e w_ => ∃ v, e = .returned v ∧ v = (.agg #[.int .i64 r.fCode, .string r.fText]) ∧ Mem w [] w_ []) := by
  have HM := Mem.start w
  refine calls_run (N := 13) Tryd.func8 rfl rfl rfl rfl ?_
  unfold impl_RuleText.f at H
  refine run_seq ?_
  refine run_region rfl ?_
  refine ops_does rfl (guard_none rfl) rfl rfl (does_box (cs := [p0_0, .int .i64 x0.fNeed, .int .i64 x0.fAfter]) rfl rfl rfl HM) ?_
  rintro _ w904 ⟨b898, rfl, HM⟩
  refine ops_does rfl (guard_none rfl) rfl rfl (does_alloc (cs := [.int .i64 0, .string (⟨#[]⟩ : ByteArray)]) rfl tz27 rfl HM) ?_
  rintro _ w905 ⟨b901, rfl, HM⟩
  refine ops_nil ?_
  refine at_then ?_
  refine run_seq ?_
  refine run_seq ?_
  obtain ⟨t906, h907, H⟩ := bind_some H
  refine run_region rfl ?_
  refine ops_ex rfl (guard_none rfl) rfl rfl (ex_loadN (cs := [p0_0, (.int .i64 x0.fNeed), (.int .i64 x0.fAfter)]) rfl rfl Tryd.underlying29 rfl tsz29 rfl ((HM.box_at 1 rfl).sub 0 3 rfl)) ?_
  refine ops_does rfl (guard_none rfl) rfl rfl (does_callk rfl callok20 rfl (impl_RuleFault.calls (x0 := x0) (HM.rd hp0_0) h907)) ?_
  rintro _ w908 ⟨rfl, hn⟩
  replace HM : Mem w [] w908 [box b901 27 [.int .i64 0, .string (⟨#[]⟩ : ByteArray)], box b898 29 [p0_0, .int .i64 x0.fNeed, .int .i64 x0.fAfter]] := HM.call hn
  refine ops_ex rfl (guard_none rfl) rfl rfl (ex_assign rfl rfl) ?_
  refine ops_nil ?_
  refine at_then ?_
  refine run_seq ?_
  refine run_region rfl ?_
  refine ops_ex rfl (guard_none rfl) rfl rfl (ex_move rfl rfl) ?_
  refine ops_ex rfl (guard_none rfl) rfl rfl (ex_neq rfl rfl rfl) ?_
  refine ops_nil ?_
  refine at_then ?_
  refine run_cond (b := (t906 != 0)) rfl (fun hb909 => ?_) (fun hb909 => ?_)
  · replace H := cond_t hb909 H
    refine run_seq ?_
    refine run_region rfl ?_
    refine ops_ex rfl (guard_none rfl) rfl rfl (ex_move rfl rfl) ?_
    refine ops_ex rfl (guard_none rfl) rfl rfl (ex_build (cells := #[(.int .i64 t906), (.string (⟨#[]⟩ : ByteArray))]) rfl rfl (by kernel_rfl)) ?_
    refine ops_doesS rfl (guard_none rfl) rfl (does_store (vs := [.int .i64 t906, .string (⟨#[]⟩ : ByteArray)]) (cs' := [.int .i64 t906, .string (⟨#[]⟩ : ByteArray)]) rfl rfl rfl rfl tsz27 (Ones.int (Ones.str Ones.nil)) rfl rfl HM) ?_
    rintro w910 HM
    refine ops_nil ?_
    refine at_then ?_
    refine run_ret ?_
    refine at_then_ret ?_
    replace HM := (HM.front 1 rfl rfl).drop
    have hcb0 := HM.box_at 0 rfl
    replace HM := (HM.front 0 rfl rfl).drop
    have hR := Option.some.inj H
    subst hR
    exact at_retN rfl rfl Tryd.underlying27 rfl tsz27 rfl hcb0 ⟨_, rfl, rfl, HM⟩
  · replace H := cond_f hb909 H
    refine run_skip ?_
    refine at_then ?_
    refine run_seq ?_
    obtain ⟨t911, h912, H⟩ := bind_some H
    refine run_region rfl ?_
    refine ops_ex rfl (guard_none rfl) rfl rfl (ex_loadN (cs := [p0_0, (.int .i64 x0.fNeed), (.int .i64 x0.fAfter)]) rfl rfl Tryd.underlying29 rfl tsz29 rfl ((HM.box_at 1 rfl).sub 0 3 rfl)) ?_
    refine ops_does rfl (guard_none rfl) rfl rfl (does_callk rfl callok21 rfl (impl_ruleText.calls (x0 := x0) (x1 := (⟨#[32]⟩ : ByteArray)) (HM.tab htab) (HM.rd hp0_0) h912)) ?_
    rintro _ w913 ⟨rfl, hn⟩
    replace HM : Mem w [] w913 [box b901 27 [.int .i64 0, .string (⟨#[]⟩ : ByteArray)], box b898 29 [p0_0, .int .i64 x0.fNeed, .int .i64 x0.fAfter]] := HM.call hn
    refine ops_ex rfl (guard_none rfl) rfl rfl (ex_build (cells := #[(.int .i64 0), (.string t911)]) rfl rfl (by kernel_rfl)) ?_
    refine ops_doesS rfl (guard_none rfl) rfl (does_store (vs := [.int .i64 0, .string t911]) (cs' := [.int .i64 0, .string t911]) rfl rfl rfl rfl tsz27 (Ones.int (Ones.str Ones.nil)) rfl rfl HM) ?_
    rintro w914 HM
    refine ops_nil ?_
    refine at_then ?_
    refine run_ret ?_
    replace HM := (HM.front 1 rfl rfl).drop
    have hcb0 := HM.box_at 0 rfl
    replace HM := (HM.front 0 rfl rfl).drop
    have hR := Option.some.inj H
    subst hR
    exact at_retN rfl rfl Tryd.underlying27 rfl tsz27 rfl hcb0 ⟨_, rfl, rfl, HM⟩
end Go.Proofs.YtdhkcglfeiapoaaDoor.Zk
