/- What functions of the program compute, each as a plain function, and that they do. Conditions: as each theorem states them. -/
import Derived.Test.YtoiacoiccpiciaaKeysOfZkF0
namespace Go.Proofs.Ytoiacoiccpiciaa.Zk
open Go Go.RowKit Go.IntWalk Go.Proofs
set_option linter.unusedVariables false
set_option linter.unusedSimpArgs false
set_option maxRecDepth 100000
set_option maxHeartbeats 4000000
def impl_within.f (k : Nat) (x0 : Int) (x1 : Int) (x2 : Int) : Option Bool := some ((decide (x1 ≤ x0)) && (decide (x0 ≤ x2)))
theorem impl_within.calls {k : Nat} {x0 : Int} {x1 : Int} {x2 : Int}  {w : World}  {r : Bool} (H : impl_within.f k x0 x1 x2 = some r) :
    Calls Try.prog 81 ([.int .i64 x0, .int .i64 x1, .int .i64 x2] : List Value).toArray w (fun e w_ => ∃ v, e = .returned v ∧ v = (.bool r) ∧ Mem w [] w_ []) := by
  have HM := Mem.start w
  refine calls_run (N := 15) Try.func81 rfl rfl rfl rfl ?_
  unfold impl_within.f at H
  refine run_seq ?_
  refine run_region rfl ?_
  refine ops_ex rfl (guard_none rfl) rfl rfl (ex_assign rfl rfl) ?_
  refine ops_nil ?_
  refine at_then ?_
  refine run_seq ?_
  refine run_meet (fun ρ_ w_ => ρ_ = [(6, .bool ((decide (x1 ≤ x0)) && (decide (x0 ≤ x2))))] ∧ Mem w [] w_ []) ?_ ?_
  · skip
    refine run_region rfl ?_
    refine ops_ex rfl (guard_none rfl) rfl rfl (ex_move rfl rfl) ?_
    refine ops_ex rfl (guard_none rfl) rfl rfl (ex_move rfl rfl) ?_
    refine ops_ex rfl (guard_none rfl) rfl rfl (ex_geq rfl rfl rfl) ?_
    refine ops_ex rfl (guard_none rfl) rfl rfl (ex_move rfl rfl) ?_
    refine bool_cases (decide (x1 ≤ x0)) (fun hg815 => ?_) (fun hg815 => ?_)
    · skip
      refine ops_ex rfl (guard_on rfl rfl rfl hg815) rfl rfl (ex_move rfl rfl) ?_
      refine ops_ex rfl (guard_on rfl rfl rfl hg815) rfl rfl (ex_move rfl rfl) ?_
      refine ops_ex rfl (guard_on rfl rfl rfl hg815) rfl rfl (ex_leq rfl rfl rfl) ?_
      refine ops_ex (v := .bool ((decide (x1 ≤ x0)) && (decide (x0 ≤ x2)))) rfl (guard_none rfl) rfl rfl (ex_pand_t rfl rfl hg815 rfl) ?_
      refine ops_ex rfl (guard_none rfl) rfl rfl (ex_assign rfl rfl) ?_
      refine ops_nil ?_
      exact at_meet [(6, .bool ((decide (x1 ≤ x0)) && (decide (x0 ≤ x2))))] ⟨rfl, HM⟩ (Sub.cons rfl Sub.nil)
    · skip
      refine ops_off rfl (guard_off rfl rfl rfl hg815) rfl rfl ?_
      refine ops_off rfl (guard_off rfl rfl rfl hg815) rfl rfl ?_
      refine ops_off rfl (guard_off rfl rfl rfl hg815) rfl rfl ?_
      have hg816 : ((decide (x1 ≤ x0)) && (decide (x0 ≤ x2))) = false := by simp only [hg815, Bool.and_true, Bool.true_and, Bool.and_false, Bool.false_and, Bool.or_true, Bool.true_or, Bool.or_false, Bool.false_or, Bool.not_true, Bool.not_false, Bool.not_not]
      refine ops_ex (v := .bool ((decide (x1 ≤ x0)) && (decide (x0 ≤ x2)))) rfl (guard_none rfl) rfl rfl (ex_pand_f rfl rfl hg815) ?_
      refine ops_ex rfl (guard_none rfl) rfl rfl (ex_assign rfl rfl) ?_
      refine ops_nil ?_
      exact at_meet [(6, .bool ((decide (x1 ≤ x0)) && (decide (x0 ≤ x2))))] ⟨rfl, HM⟩ (Sub.cons rfl Sub.nil)
  · rintro _ w817 ⟨rfl, HM⟩
    refine at_then ?_
    refine run_ret ?_
    have hR := Option.some.inj H
    subst hR
    exact at_ret1 rfl rfl ⟨_, rfl, rfl, HM⟩

def impl_isKey.f (k : Nat) (x0 : Int) : Option Bool := ((impl_within.f k x0 1 999).bind fun t820 => some t820)
theorem impl_isKey.calls {k : Nat} {x0 : Int}  {w : World}  {r : Bool} (H : impl_isKey.f k x0 = some r) :
    Calls Try.prog 86 ([.int .i64 x0] : List Value).toArray w (fun e w_ => ∃ v, e = .returned v ∧ v = (.bool r) ∧ Mem w [] w_ []) := by
  have HM := Mem.start w
  refine calls_run (N := 5) Try.func86 rfl rfl rfl rfl ?_
  unfold impl_isKey.f at H
  refine run_seq ?_
  refine run_region rfl ?_
  refine ops_ex rfl (guard_none rfl) rfl rfl (ex_assign rfl rfl) ?_
  refine ops_nil ?_
  refine at_then ?_
  refine run_seq ?_
  obtain ⟨t820, h821, H⟩ := bind_some H
  refine run_region rfl ?_
  refine ops_ex rfl (guard_none rfl) rfl rfl (ex_move rfl rfl) ?_
  refine ops_does rfl (guard_none rfl) rfl rfl (does_callk rfl callok81 rfl (impl_within.calls (x0 := x0) (x1 := 1) (x2 := 999) h821)) ?_
  rintro _ w822 ⟨rfl, hn⟩
  replace HM : Mem w [] w822 [] := HM.call hn
  refine ops_ex rfl (guard_none rfl) rfl rfl (ex_assign rfl rfl) ?_
  refine ops_nil ?_
  refine at_then ?_
  refine run_ret ?_
  have hR := Option.some.inj H
  subst hR
  exact at_ret1 rfl rfl ⟨_, rfl, rfl, HM⟩

def impl_isId.f (k : Nat) (x0 : Int) : Option Bool := ((impl_within.f k x0 1 60).bind fun t830 => some t830)
theorem impl_isId.calls {k : Nat} {x0 : Int}  {w : World}  {r : Bool} (H : impl_isId.f k x0 = some r) :
    Calls Try.prog 131 ([.int .i64 x0] : List Value).toArray w (fun e w_ => ∃ v, e = .returned v ∧ v = (.bool r) ∧ Mem w [] w_ []) := by
  have HM := Mem.start w
  refine calls_run (N := 5) Try.func131 rfl rfl rfl rfl ?_
  unfold impl_isId.f at H
  refine run_seq ?_
  refine run_region rfl ?_
  refine ops_ex rfl (guard_none rfl) rfl rfl (ex_assign rfl rfl) ?_
  refine ops_nil ?_
  refine at_then ?_
  refine run_seq ?_
  obtain ⟨t830, h831, H⟩ := bind_some H
  refine run_region rfl ?_
  refine ops_ex rfl (guard_none rfl) rfl rfl (ex_move rfl rfl) ?_
  refine ops_does rfl (guard_none rfl) rfl rfl (does_callk rfl callok81 rfl (impl_within.calls (x0 := x0) (x1 := 1) (x2 := 60) h831)) ?_
  rintro _ w832 ⟨rfl, hn⟩
  replace HM : Mem w [] w832 [] := HM.call hn
  refine ops_ex rfl (guard_none rfl) rfl rfl (ex_assign rfl rfl) ?_
  refine ops_nil ?_
  refine at_then ?_
  refine run_ret ?_
  have hR := Option.some.inj H
  subst hR
  exact at_ret1 rfl rfl ⟨_, rfl, rfl, HM⟩

def impl_isRef.f (k : Nat) (x0 : Ref) : Option Bool := ((impl_isId.f k x0.fTx).bind fun t841 => ((bif t841 then impl_within.f k x0.fAt 0 3 else some default).bind fun t843 => some (t841 && t843)))
theorem impl_isRef.calls {k : Nat} {x0 : Ref}  {w : World}  {r : Bool} (H : impl_isRef.f k x0 = some r) :
    Calls Try.prog 79 ([.agg #[(.int .i64 x0.fTx), (.int .i64 x0.fAt)]] : List Value).toArray w (fun e w_ => ∃ v, e = .returned v ∧ v = (.bool r) ∧ Mem w [] w_ []) := by
  have HM := Mem.start w
  refine calls_run (N := 11) Try.func79 rfl rfl rfl rfl ?_
  unfold impl_isRef.f at H
  refine run_seq ?_
  refine run_region rfl ?_
  refine ops_does rfl (guard_none rfl) rfl rfl (does_box (cs := [.int .i64 x0.fTx, .int .i64 x0.fAt]) rfl rfl rfl HM) ?_
  rintro _ w840 ⟨b837, rfl, HM⟩
  refine ops_ex rfl (guard_none rfl) rfl rfl (ex_assign rfl rfl) ?_
  refine ops_nil ?_
  refine at_then ?_
  refine run_seq ?_
  obtain ⟨t841, h842, H⟩ := bind_some H
  obtain ⟨t843, h844, H⟩ := bind_some H
  refine run_meet (fun ρ_ w_ => ρ_ = [(2, .bool (t841 && t843))] ∧ Mem w [] w_ []) ?_ ?_
  · skip
    refine run_region rfl ?_
    refine ops_ex rfl (guard_none rfl) rfl rfl (ex_fieldAddr (off' := 0) rfl rfl Try.underlying99 rfl tsz2 rfl) ?_
    refine ops_ex rfl (guard_none rfl) rfl rfl (ex_load1 rfl rfl Try.underlying2 rfl ((HM.box_at 0 rfl) 0 _ rfl)) ?_
    refine ops_does rfl (guard_none rfl) rfl rfl (does_callk rfl callok131 rfl (impl_isId.calls (x0 := x0.fTx) h842)) ?_
    rintro _ w845 ⟨rfl, hn⟩
    replace HM : Mem w [] w845 [box b837 99 [.int .i64 x0.fTx, .int .i64 x0.fAt]] := HM.call hn
    refine ops_ex rfl (guard_none rfl) rfl rfl (ex_move rfl rfl) ?_
    refine bool_cases t841 (fun hg846 => ?_) (fun hg846 => ?_)
    · skip
      refine ops_ex rfl (guard_on rfl rfl rfl hg846) rfl rfl (ex_fieldAddr (off' := 1) rfl rfl Try.underlying99 rfl tsz2 rfl) ?_
      refine ops_ex rfl (guard_on rfl rfl rfl hg846) rfl rfl (ex_load1 rfl rfl Try.underlying2 rfl ((HM.box_at 0 rfl) 1 _ rfl)) ?_
      refine ops_does rfl (guard_on rfl rfl rfl hg846) rfl rfl (does_callk rfl callok81 rfl (impl_within.calls (x0 := x0.fAt) (x1 := 0) (x2 := 3) (cond_t hg846 h844))) ?_
      rintro _ w847 ⟨rfl, hn⟩
      replace HM : Mem w [] w847 [box b837 99 [.int .i64 x0.fTx, .int .i64 x0.fAt]] := HM.call hn
      refine ops_ex (v := .bool (t841 && t843)) rfl (guard_none rfl) rfl rfl (ex_pand_t rfl rfl hg846 rfl) ?_
      refine ops_ex rfl (guard_none rfl) rfl rfl (ex_assign rfl rfl) ?_
      refine ops_nil ?_
      replace HM := (HM.front 0 rfl rfl).drop
      exact at_meet [(2, .bool (t841 && t843))] ⟨rfl, HM⟩ (Sub.cons rfl Sub.nil)
    · skip
      refine ops_off rfl (guard_off rfl rfl rfl hg846) rfl rfl ?_
      refine ops_off rfl (guard_off rfl rfl rfl hg846) rfl rfl ?_
      refine ops_off rfl (guard_off rfl rfl rfl hg846) rfl rfl ?_
      have hg848 : (t841 && t843) = false := by simp only [hg846, Bool.and_true, Bool.true_and, Bool.and_false, Bool.false_and, Bool.or_true, Bool.true_or, Bool.or_false, Bool.false_or, Bool.not_true, Bool.not_false, Bool.not_not]
      refine ops_ex (v := .bool (t841 && t843)) rfl (guard_none rfl) rfl rfl (ex_pand_f rfl rfl hg846) ?_
      refine ops_ex rfl (guard_none rfl) rfl rfl (ex_assign rfl rfl) ?_
      refine ops_nil ?_
      replace HM := (HM.front 0 rfl rfl).drop
      exact at_meet [(2, .bool (t841 && t843))] ⟨rfl, HM⟩ (Sub.cons rfl Sub.nil)
  · rintro _ w849 ⟨rfl, HM⟩
    refine at_then ?_
    refine run_ret ?_
    have hR := Option.some.inj H
    subst hR
    exact at_ret1 rfl rfl ⟨_, rfl, rfl, HM⟩

def impl_MembersFault_1.f (k : Nat) (x0 : Member) (x1 : Member) : Option Bool := some ((x0.fRef.fTx == x1.fRef.fTx) && (x0.fRef.fAt == x1.fRef.fAt))
theorem impl_MembersFault_1.calls {k : Nat} {x0 : Member} {x1 : Member} {b1 f1 : Nat} {w : World} (hc1 : CellsAt w b1 f1 [.int .i64 x1.fKey, .int .i64 x1.fRef.fTx, .int .i64 x1.fRef.fAt]) {r : Bool} (H : impl_MembersFault_1.f k x0 x1 = some r) :
    Calls Try.prog 146 ([.agg #[(.int .i64 x0.fKey), (.int .i64 x0.fRef.fTx), (.int .i64 x0.fRef.fAt)], .pointer (some ⟨b1, f1, none⟩)] : List Value).toArray w (fun e w_ => ∃ v, e = .returned v ∧ v = (.bool r) ∧ Mem w [] w_ []) := by
  have HM := Mem.start w
  refine calls_run (N := 9) Try.func146 rfl rfl rfl rfl ?_
  unfold impl_MembersFault_1.f at H
  refine run_seq ?_
  refine run_region rfl ?_
  refine ops_does rfl (guard_none rfl) rfl rfl (does_box (cs := [.int .i64 x0.fKey, .int .i64 x0.fRef.fTx, .int .i64 x0.fRef.fAt]) rfl rfl rfl HM) ?_
  rintro _ w921 ⟨b918, rfl, HM⟩
  refine ops_ex rfl (guard_none rfl) rfl rfl (ex_assign rfl rfl) ?_
  refine ops_nil ?_
  refine at_then ?_
  refine run_seq ?_
  refine run_region rfl ?_
  refine ops_ex rfl (guard_none rfl) rfl rfl (ex_fieldAddr (off' := 1) rfl rfl Try.underlying144 rfl tsz99 rfl) ?_
  refine ops_ex rfl (guard_none rfl) rfl rfl (ex_loadN (cs := [(.int .i64 x0.fRef.fTx), (.int .i64 x0.fRef.fAt)]) rfl rfl Try.underlying99 rfl tsz99 rfl ((HM.box_at 0 rfl).sub 1 2 rfl)) ?_
  refine ops_ex rfl (guard_none rfl) rfl rfl (ex_fieldAddr (off' := f1 + 1) rfl rfl Try.underlying144 rfl tsz99 rfl) ?_
  refine ops_ex rfl (guard_none rfl) rfl rfl (ex_loadN (cs := [(.int .i64 x1.fRef.fTx), (.int .i64 x1.fRef.fAt)]) rfl rfl Try.underlying99 rfl tsz99 rfl ((HM.at_ hc1).sub 1 2 rfl)) ?_
  refine ops_ex rfl (guard_none rfl) rfl rfl (ex_aeql rfl rfl rfl (by kernel_rfl) (eqs99 _ _ _ _ _)) ?_
  refine ops_ex rfl (guard_none rfl) rfl rfl (ex_assign rfl rfl) ?_
  refine ops_nil ?_
  refine at_then ?_
  refine run_ret ?_
  replace HM := (HM.front 0 rfl rfl).drop
  have hR := Option.some.inj H
  subst hR
  exact at_ret1 rfl rfl ⟨_, rfl, rfl, HM⟩

def slices_IndexFunc_impl_Member.l0 (x0 : List Member) (x1_0 : Member) : Nat → Int → Option (Int ⊕ Unit)
  | 0, _ => none
  | k + 1, a967 => (bif (decide (a967 < (x0.length : Int))) then (chk (idxOk a967 x0.length) ((impl_MembersFault_1.f k (gt x0 a967) x1_0).bind fun t979 => (bif t979 then some (.inl a967) else slices_IndexFunc_impl_Member.l0 x0 x1_0 k (wrap64 (a967 + 1))))) else some (.inr ()))
theorem slices_IndexFunc_impl_Member.l0_z (x0 : List Member) (x1_0 : Member) (a967 : Int) : slices_IndexFunc_impl_Member.l0 x0 x1_0 0 a967 = none := rfl
theorem slices_IndexFunc_impl_Member.l0_s (x0 : List Member) (x1_0 : Member) (k : Nat) (a967 : Int) : slices_IndexFunc_impl_Member.l0 x0 x1_0 (k + 1) a967 = (bif (decide (a967 < (x0.length : Int))) then (chk (idxOk a967 x0.length) ((impl_MembersFault_1.f k (gt x0 a967) x1_0).bind fun t979 => (bif t979 then some (.inl a967) else slices_IndexFunc_impl_Member.l0 x0 x1_0 k (wrap64 (a967 + 1))))) else some (.inr ())) := rfl
def slices_IndexFunc_impl_Member.f (k : Nat) (x0 : List Member) (x1_0 : Member) : Option Int := ((slices_IndexFunc_impl_Member.l0 x0 x1_0 k 0).bind fun o959 => thn o959 (fun r => some r) (fun _ => some (-1)))
theorem slices_IndexFunc_impl_Member.calls {k : Nat} {x0 : List Member} {x1_0 : Member} {p0 : Value} {b1_0 f1_0 : Nat} {w : World} (hp0 : RdS kMember w p0 x0) (hc1_0 : CellsAt w b1_0 f1_0 [.int .i64 x1_0.fKey, .int .i64 x1_0.fRef.fTx, .int .i64 x1_0.fRef.fAt]) {r : Int} (H : slices_IndexFunc_impl_Member.f k x0 x1_0 = some r) :
    Calls Try.prog 166 ([p0, .func (.func 146) #[] #[(.pointer (some ⟨b1_0, f1_0, none⟩))]] : List Value).toArray w (fun e w_ => ∃ v, e = .returned v ∧ v = (.int .i64 r) ∧ Mem w [] w_ []) := by
  have HM := Mem.start w
  refine calls_run (N := 19) Try.func166 rfl rfl rfl rfl ?_
  unfold slices_IndexFunc_impl_Member.f at H
  refine run_seq ?_
  refine run_region rfl ?_
  refine ops_ex rfl (guard_none rfl) rfl rfl (ex_assign rfl rfl) ?_
  refine ops_nil ?_
  refine at_then ?_
  obtain ⟨o959, ho960, H⟩ := bind_some H
  refine run_mid (fun ρ_ w_ => Sum.inr () = o959 ∧ ρ_ = [] ∧ Mem w [] w_ []) ?_ ?_
  · skip
    refine run_seq ?_
    refine run_region rfl ?_
    refine ops_ex rfl (guard_none rfl) rfl rfl (ex_move rfl rfl) ?_
    refine ops_ex rfl (guard_none rfl) rfl rfl (ex_len (d := kMember) (xs := x0) rfl rfl Try.underlying49 hp0) ?_
    refine ops_ex rfl (guard_none rfl) rfl rfl (ex_move rfl rfl) ?_
    refine ops_nil ?_
    refine at_then ?_
    refine run_block ?_
    refine run_loop (fun k_ ρ_ w_ => ∃ a967 : Int, slices_IndexFunc_impl_Member.l0 x0 x1_0 k_ a967 = some o959 ∧ ρ_ = [(0, p0), (1, .func (.func 146) #[] #[(.pointer (some ⟨b1_0, f1_0, none⟩))]), (7, .int .i64 (x0.length : Int)), (8, .int .i64 a967)] ∧ Mem w [] w_ []) k (ρ1 := [(0, p0), (1, .func (.func 146) #[] #[(.pointer (some ⟨b1_0, f1_0, none⟩))]), (7, .int .i64 (x0.length : Int)), (8, .int .i64 0)]) ⟨_, ho960, rfl, HM⟩ (Sub.cons rfl (Sub.cons rfl (Sub.cons rfl (Sub.cons rfl Sub.nil)))) ?_
    clear HM ho960
    rintro k974 _ w975 ⟨a967, ho960, rfl, HM⟩
    obtain _ | k974 := k974
    · exact nomatch ((slices_IndexFunc_impl_Member.l0_z x0 x1_0 a967).symm.trans ho960)
    replace ho960 := (slices_IndexFunc_impl_Member.l0_s x0 x1_0 k974 a967).symm.trans ho960
    refine run_seq ?_
    refine run_region rfl ?_
    refine ops_ex rfl (guard_none rfl) rfl rfl (ex_lss rfl rfl rfl) ?_
    refine ops_nil ?_
    refine at_then ?_
    refine run_seq ?_
    refine run_cond (b := (decide (a967 < (x0.length : Int)))) rfl (fun hb976 => ?_) (fun hb976 => ?_)
    · replace ho960 := cond_t hb976 ho960
      refine run_skip ?_
      refine at_then ?_
      refine run_seq ?_
      refine run_block ?_
      refine run_seq ?_
      refine run_region rfl ?_
      refine ops_ex rfl (guard_none rfl) rfl rfl (ex_move rfl rfl) ?_
      refine ops_ex rfl (guard_none rfl) rfl rfl (ex_assign rfl rfl) ?_
      refine ops_nil ?_
      refine at_then ?_
      refine run_seq ?_
      obtain ⟨e977, ho960⟩ := chk_some ho960
      obtain ⟨t979, h980, ho960⟩ := bind_some ho960
      refine run_region rfl ?_
      refine ops_ex rfl (guard_none rfl) rfl rfl (ex_move rfl rfl) ?_
      refine ops_ex rfl (guard_none rfl) rfl rfl (ex_move rfl rfl) ?_
      refine ops_ex rfl (guard_none rfl) rfl rfl (ex_move rfl rfl) ?_
      have hc978 : CellsAt _ (sb p0) (so p0 + (a967).toNat * 3) [(.int .i64 ((gt x0 a967).fKey)), (.int .i64 ((gt x0 a967).fRef.fTx)), (.int .i64 ((gt x0 a967).fRef.fAt))] := rd_plain hp0 e977
      refine ops_ex rfl (guard_none rfl) rfl rfl (ex_indexAddr (d := kMember) rfl rfl rfl Try.underlying49 tsz144 hp0 (idx_lo e977) (idx_hi e977)) ?_
      refine ops_ex rfl (guard_none rfl) rfl rfl (ex_loadN (cs := [(.int .i64 ((gt x0 a967).fKey)), (.int .i64 ((gt x0 a967).fRef.fTx)), (.int .i64 ((gt x0 a967).fRef.fAt))]) rfl rfl Try.underlying144 rfl tsz144 rfl ((HM.at_ hc978).sub 0 3 rfl)) ?_
      refine ops_does rfl (guard_none rfl) rfl rfl (does_callvk rfl callok146 rfl rfl rfl (impl_MembersFault_1.calls (x0 := (gt x0 a967)) (x1 := x1_0) (HM.at_ hc1_0) h980)) ?_
      rintro _ w981 ⟨rfl, hn⟩
      replace HM : Mem w [] w981 [] := HM.call hn
      refine ops_nil ?_
      refine at_then ?_
      refine run_cond (b := t979) rfl (fun hb982 => ?_) (fun hb982 => ?_)
      · replace ho960 := cond_t hb982 ho960
        refine run_seq ?_
        refine run_region rfl ?_
        refine ops_ex rfl (guard_none rfl) rfl rfl (ex_move rfl rfl) ?_
        refine ops_ex rfl (guard_none rfl) rfl rfl (ex_assign rfl rfl) ?_
        refine ops_nil ?_
        refine at_then ?_
        refine run_ret ?_
        refine at_block_ret ?_
        refine at_then_ret ?_
        refine at_then_ret ?_
        refine at_block_ret ?_
        refine at_then_ret ?_
        have hR := Option.some.inj ho960
        subst hR
        have hT := thn_inl H
        have hR := Option.some.inj hT
        subst hR
        exact at_ret1 rfl rfl ⟨_, rfl, rfl, HM⟩
      · replace ho960 := cond_f hb982 ho960
        refine run_skip ?_
        refine at_block ?_
        refine at_then ?_
        refine run_region rfl ?_
        refine ops_ex rfl (guard_none rfl) rfl rfl (ex_add rfl rfl rfl) ?_
        refine ops_ex rfl (guard_none rfl) rfl rfl (ex_move rfl rfl) ?_
        refine ops_nil ?_
        exact at_again k974 (ρ1 := [(0, p0), (1, .func (.func 146) #[] #[(.pointer (some ⟨b1_0, f1_0, none⟩))]), (7, .int .i64 (x0.length : Int)), (8, .int .i64 (wrap64 (a967 + 1)))]) (Nat.lt_succ_self _) ⟨_, ho960, rfl, HM⟩ (Sub.cons rfl (Sub.cons rfl (Sub.cons rfl (Sub.cons rfl Sub.nil))))
    · replace ho960 := cond_f hb976 ho960
      refine run_exit ?_
      refine at_then_exit ?_
      refine at_then_exit ?_
      refine at_block_exit ?_
      exact at_mid (ρ' := []) ⟨(Option.some.inj ho960), rfl, HM⟩ Sub.nil
  · rintro _ w983 ⟨rfl, rfl, HM⟩
    replace H := (thn_inr H)
    refine run_seq ?_
    refine run_region rfl ?_
    refine ops_ex rfl (guard_none rfl) rfl rfl (ex_assign rfl rfl) ?_
    refine ops_nil ?_
    refine at_then ?_
    refine run_ret ?_
    have hR := Option.some.inj H
    subst hR
    exact at_ret1 rfl rfl ⟨_, rfl, rfl, HM⟩

def slices_ContainsFunc_impl_Member.f (k : Nat) (x0 : List Member) (x1_0 : Member) : Option Bool := ((slices_IndexFunc_impl_Member.f k x0 x1_0).bind fun t986 => some (decide (0 ≤ t986)))
theorem slices_ContainsFunc_impl_Member.calls {k : Nat} {x0 : List Member} {x1_0 : Member} {p0 : Value} {b1_0 f1_0 : Nat} {w : World} (hp0 : RdS kMember w p0 x0) (hc1_0 : CellsAt w b1_0 f1_0 [.int .i64 x1_0.fKey, .int .i64 x1_0.fRef.fTx, .int .i64 x1_0.fRef.fAt]) {r : Bool} (H : slices_ContainsFunc_impl_Member.f k x0 x1_0 = some r) :
    Calls Try.prog 145 ([p0, .func (.func 146) #[] #[(.pointer (some ⟨b1_0, f1_0, none⟩))]] : List Value).toArray w (fun e w_ => ∃ v, e = .returned v ∧ v = (.bool r) ∧ Mem w [] w_ []) := by
  have HM := Mem.start w
  refine calls_run (N := 9) Try.func145 rfl rfl rfl rfl ?_
  unfold slices_ContainsFunc_impl_Member.f at H
  refine run_seq ?_
  refine run_region rfl ?_
  refine ops_ex rfl (guard_none rfl) rfl rfl (ex_assign rfl rfl) ?_
  refine ops_nil ?_
  refine at_then ?_
  refine run_seq ?_
  obtain ⟨t986, h987, H⟩ := bind_some H
  refine run_region rfl ?_
  refine ops_ex rfl (guard_none rfl) rfl rfl (ex_move rfl rfl) ?_
  refine ops_ex rfl (guard_none rfl) rfl rfl (ex_move rfl rfl) ?_
  refine ops_does rfl (guard_none rfl) rfl rfl (does_callk rfl callok166 rfl (slices_IndexFunc_impl_Member.calls (x0 := x0) (x1_0 := x1_0) (HM.rd hp0) (HM.at_ hc1_0) h987)) ?_
  rintro _ w988 ⟨rfl, hn⟩
  replace HM : Mem w [] w988 [] := HM.call hn
  refine ops_ex rfl (guard_none rfl) rfl rfl (ex_geq rfl rfl rfl) ?_
  refine ops_ex rfl (guard_none rfl) rfl rfl (ex_assign rfl rfl) ?_
  refine ops_nil ?_
  refine at_then ?_
  refine run_ret ?_
  have hR := Option.some.inj H
  subst hR
  exact at_ret1 rfl rfl ⟨_, rfl, rfl, HM⟩

def impl_MembersFault.l0 (x0 : List Member) : Nat → Int → Option (Int ⊕ Unit)
  | 0, _ => none
  | k + 1, a1102 => (bif (decide (a1102 < (x0.length : Int))) then (chk (idxOk a1102 x0.length) ((impl_isKey.f k ((gt x0 a1102).fKey)).bind fun t1137 => ((bif (!(!t1137)) then impl_isRef.f k ((gt x0 a1102).fRef) else some default).bind fun t1139 => (bif ((!t1137) || (!t1139)) then some (.inl 3) else (chk (!(decide (0 < a1102)) || (idxOk (wrap64 (a1102 - 1)) x0.length)) (bif ((decide (0 < a1102)) && (decide (((gt x0 a1102).fKey) ≤ ((gt x0 (wrap64 (a1102 - 1))).fKey)))) then some (.inl 1) else impl_MembersFault.l0 x0 k (wrap64 (a1102 + 1)))))))) else some (.inr ()))
theorem impl_MembersFault.l0_z (x0 : List Member) (a1102 : Int) : impl_MembersFault.l0 x0 0 a1102 = none := rfl
theorem impl_MembersFault.l0_s (x0 : List Member) (k : Nat) (a1102 : Int) : impl_MembersFault.l0 x0 (k + 1) a1102 = (bif (decide (a1102 < (x0.length : Int))) then (chk (idxOk a1102 x0.length) ((impl_isKey.f k ((gt x0 a1102).fKey)).bind fun t1137 => ((bif (!(!t1137)) then impl_isRef.f k ((gt x0 a1102).fRef) else some default).bind fun t1139 => (bif ((!t1137) || (!t1139)) then some (.inl 3) else (chk (!(decide (0 < a1102)) || (idxOk (wrap64 (a1102 - 1)) x0.length)) (bif ((decide (0 < a1102)) && (decide (((gt x0 a1102).fKey) ≤ ((gt x0 (wrap64 (a1102 - 1))).fKey)))) then some (.inl 1) else impl_MembersFault.l0 x0 k (wrap64 (a1102 + 1)))))))) else some (.inr ())) := rfl
def impl_MembersFault.l1 (x0 : List Member) : Nat → Int → Option (Int ⊕ Unit)
  | 0, _ => none
  | k + 1, a1209 => (bif (decide (a1209 < (x0.length : Int))) then (chk (idxOk a1209 x0.length) (chk (cutOk a1209 x0.length) ((slices_ContainsFunc_impl_Member.f k (x0.take (a1209).toNat) (gt x0 a1209)).bind fun t1237 => (bif t1237 then some (.inl 7) else impl_MembersFault.l1 x0 k (wrap64 (a1209 + 1)))))) else some (.inr ()))
theorem impl_MembersFault.l1_z (x0 : List Member) (a1209 : Int) : impl_MembersFault.l1 x0 0 a1209 = none := rfl
theorem impl_MembersFault.l1_s (x0 : List Member) (k : Nat) (a1209 : Int) : impl_MembersFault.l1 x0 (k + 1) a1209 = (bif (decide (a1209 < (x0.length : Int))) then (chk (idxOk a1209 x0.length) (chk (cutOk a1209 x0.length) ((slices_ContainsFunc_impl_Member.f k (x0.take (a1209).toNat) (gt x0 a1209)).bind fun t1237 => (bif t1237 then some (.inl 7) else impl_MembersFault.l1 x0 k (wrap64 (a1209 + 1)))))) else some (.inr ())) := rfl
def impl_MembersFault.f (k : Nat) (x0 : List Member) : Option Int := (bif (decide (8 < (x0.length : Int))) then some 2 else ((impl_MembersFault.l0 x0 k 0).bind fun o1081 => thn o1081 (fun r => some r) (fun _ => ((impl_MembersFault.l1 x0 k 0).bind fun o1194 => thn o1194 (fun r => some r) (fun _ => some 0)))))
theorem impl_MembersFault.calls {k : Nat} {x0 : List Member} {p0 : Value} {w : World} (hp0 : RdS kMember w p0 x0) {r : Int} (H : impl_MembersFault.f k x0 = some r) :
    Calls Try.prog 98 ([p0] : List Value).toArray w (fun e w_ => ∃ v, e = .returned v ∧ v = (.int .i64 r) ∧ Mem w [] w_ []) := by
  have HM := Mem.start w
  refine calls_run (N := 54) Try.func98 rfl rfl rfl rfl ?_
  unfold impl_MembersFault.f at H
  refine run_seq ?_
  refine run_region rfl ?_
  refine ops_ex rfl (guard_none rfl) rfl rfl (ex_assign rfl rfl) ?_
  refine ops_nil ?_
  refine at_then ?_
  refine run_seq ?_
  refine run_seq ?_
  refine run_region rfl ?_
  refine ops_ex rfl (guard_none rfl) rfl rfl (ex_move rfl rfl) ?_
  refine ops_ex rfl (guard_none rfl) rfl rfl (ex_len (d := kMember) (xs := x0) rfl rfl Try.underlying49 hp0) ?_
  refine ops_ex rfl (guard_none rfl) rfl rfl (ex_gtr rfl rfl rfl) ?_
  refine ops_nil ?_
  refine at_then ?_
  refine run_cond (b := (decide (8 < (x0.length : Int)))) rfl (fun hb1022 => ?_) (fun hb1022 => ?_)
  · replace H := cond_t hb1022 H
    refine run_seq ?_
    refine run_region rfl ?_
    refine ops_ex rfl (guard_none rfl) rfl rfl (ex_assign rfl rfl) ?_
    refine ops_nil ?_
    refine at_then ?_
    refine run_ret ?_
    refine at_then_ret ?_
    have hR := Option.some.inj H
    subst hR
    exact at_ret1 rfl rfl ⟨_, rfl, rfl, HM⟩
  · replace H := cond_f hb1022 H
    refine run_skip ?_
    refine at_then ?_
    obtain ⟨o1081, ho1082, H⟩ := bind_some H
    refine run_mid (fun ρ_ w_ => Sum.inr () = o1081 ∧ ρ_ = [(0, p0)] ∧ Mem w [] w_ []) ?_ ?_
    · skip
      refine run_seq ?_
      refine run_region rfl ?_
      refine ops_ex rfl (guard_none rfl) rfl rfl (ex_move rfl rfl) ?_
      refine ops_ex rfl (guard_none rfl) rfl rfl (ex_len (d := kMember) (xs := x0) rfl rfl Try.underlying49 hp0) ?_
      refine ops_ex rfl (guard_none rfl) rfl rfl (ex_move rfl rfl) ?_
      refine ops_nil ?_
      refine at_then ?_
      refine run_block ?_
      refine run_loop (fun k_ ρ_ w_ => ∃ a1102 : Int, impl_MembersFault.l0 x0 k_ a1102 = some o1081 ∧ ρ_ = [(0, p0), (10, p0), (11, .int .i64 (x0.length : Int)), (12, .int .i64 a1102)] ∧ Mem w [] w_ []) k (ρ1 := [(0, p0), (10, p0), (11, .int .i64 (x0.length : Int)), (12, .int .i64 0)]) ⟨_, ho1082, rfl, HM⟩ (Sub.cons rfl (Sub.cons rfl (Sub.cons rfl (Sub.cons rfl Sub.nil)))) ?_
      clear HM ho1082
      rintro k1122 _ w1123 ⟨a1102, ho1082, rfl, HM⟩
      obtain _ | k1122 := k1122
      · exact nomatch ((impl_MembersFault.l0_z x0 a1102).symm.trans ho1082)
      replace ho1082 := (impl_MembersFault.l0_s x0 k1122 a1102).symm.trans ho1082
      refine run_seq ?_
      refine run_region rfl ?_
      refine ops_ex rfl (guard_none rfl) rfl rfl (ex_lss rfl rfl rfl) ?_
      refine ops_nil ?_
      refine at_then ?_
      refine run_seq ?_
      refine run_cond (b := (decide (a1102 < (x0.length : Int)))) rfl (fun hb1124 => ?_) (fun hb1124 => ?_)
      · replace ho1082 := cond_t hb1124 ho1082
        refine run_skip ?_
        refine at_then ?_
        refine run_seq ?_
        refine run_block ?_
        refine run_seq ?_
        obtain ⟨e1125, ho1082⟩ := chk_some ho1082
        refine run_region rfl ?_
        refine ops_ex rfl (guard_none rfl) rfl rfl (ex_move rfl rfl) ?_
        have hc1126 : CellsAt _ (sb p0) (so p0 + (a1102).toNat * 3) [(.int .i64 ((gt x0 a1102).fKey)), (.int .i64 ((gt x0 a1102).fRef.fTx)), (.int .i64 ((gt x0 a1102).fRef.fAt))] := rd_plain hp0 e1125
        refine ops_ex rfl (guard_none rfl) rfl rfl (ex_indexAddr (d := kMember) rfl rfl rfl Try.underlying49 tsz144 hp0 (idx_lo e1125) (idx_hi e1125)) ?_
        refine ops_ex rfl (guard_none rfl) rfl rfl (ex_loadN (cs := [(.int .i64 ((gt x0 a1102).fKey)), (.int .i64 ((gt x0 a1102).fRef.fTx)), (.int .i64 ((gt x0 a1102).fRef.fAt))]) rfl rfl Try.underlying144 rfl tsz144 rfl ((HM.at_ hc1126).sub 0 3 rfl)) ?_
        refine ops_does rfl (guard_none rfl) rfl rfl (does_alloc (cs := [.int .i64 0, .int .i64 0, .int .i64 0]) rfl tz144 rfl HM) ?_
        rintro _ w1130 ⟨b1127, rfl, HM⟩
        refine ops_ex rfl (guard_none rfl) rfl rfl (ex_assign rfl rfl) ?_
        refine ops_doesS rfl (guard_none rfl) rfl (does_store (vs := [.int .i64 ((gt x0 a1102).fKey), .int .i64 ((gt x0 a1102).fRef.fTx), .int .i64 ((gt x0 a1102).fRef.fAt)]) (cs' := [.int .i64 ((gt x0 a1102).fKey), .int .i64 ((gt x0 a1102).fRef.fTx), .int .i64 ((gt x0 a1102).fRef.fAt)]) rfl rfl rfl rfl tsz144 (Ones.int (Ones.int (Ones.int Ones.nil))) rfl rfl HM) ?_
        rintro w1131 HM
        refine ops_nil ?_
        refine at_then ?_
        refine run_seq ?_
        refine run_seq ?_
        obtain ⟨t1137, h1138, ho1082⟩ := bind_some ho1082
        obtain ⟨t1139, h1140, ho1082⟩ := bind_some ho1082
        refine run_meet (fun ρ_ w_ => ρ_ = [(0, p0), (10, p0), (11, .int .i64 (x0.length : Int)), (12, .int .i64 a1102), (4, .pointer (some ⟨b1127, 0, none⟩)), (3, .int .i64 a1102), (26, .bool ((!t1137) || (!t1139)))] ∧ Mem w [] w_ [box b1127 144 [.int .i64 ((gt x0 a1102).fKey), .int .i64 ((gt x0 a1102).fRef.fTx), .int .i64 ((gt x0 a1102).fRef.fAt)]]) ?_ ?_
        · skip
          refine run_region rfl ?_
          refine ops_ex rfl (guard_none rfl) rfl rfl (ex_fieldAddr (off' := 0) rfl rfl Try.underlying144 rfl tsz2 rfl) ?_
          refine ops_ex rfl (guard_none rfl) rfl rfl (ex_load1 rfl rfl Try.underlying2 rfl ((HM.box_at 0 rfl) 0 _ rfl)) ?_
          refine ops_does rfl (guard_none rfl) rfl rfl (does_callk rfl callok86 rfl (impl_isKey.calls (x0 := (gt x0 a1102).fKey) h1138)) ?_
          rintro _ w1141 ⟨rfl, hn⟩
          replace HM : Mem w [] w1141 [box b1127 144 [.int .i64 ((gt x0 a1102).fKey), .int .i64 ((gt x0 a1102).fRef.fTx), .int .i64 ((gt x0 a1102).fRef.fAt)]] := HM.call hn
          refine ops_ex rfl (guard_none rfl) rfl rfl (ex_not rfl rfl) ?_
          refine ops_ex rfl (guard_none rfl) rfl rfl (ex_move rfl rfl) ?_
          refine bool_cases (!t1137) (fun hg1142 => ?_) (fun hg1142 => ?_)
          · skip
            refine ops_off rfl (guard_off rfl rfl rfl hg1142) rfl rfl ?_
            refine ops_off rfl (guard_off rfl rfl rfl hg1142) rfl rfl ?_
            refine ops_off rfl (guard_off rfl rfl rfl hg1142) rfl rfl ?_
            refine ops_off rfl (guard_off rfl rfl rfl hg1142) rfl rfl ?_
            have hg1143 : ((!t1137) || (!t1139)) = true := by simp only [hg1142, Bool.and_true, Bool.true_and, Bool.and_false, Bool.false_and, Bool.or_true, Bool.true_or, Bool.or_false, Bool.false_or, Bool.not_true, Bool.not_false, Bool.not_not]
            refine ops_ex (v := .bool ((!t1137) || (!t1139))) rfl (guard_none rfl) rfl rfl (ex_por_t rfl rfl hg1142) ?_
            refine ops_nil ?_
            exact at_meet [(0, p0), (10, p0), (11, .int .i64 (x0.length : Int)), (12, .int .i64 a1102), (4, .pointer (some ⟨b1127, 0, none⟩)), (3, .int .i64 a1102), (26, .bool ((!t1137) || (!t1139)))] ⟨rfl, HM⟩ (Sub.cons rfl (Sub.cons rfl (Sub.cons rfl (Sub.cons rfl (Sub.cons rfl (Sub.cons rfl (Sub.cons rfl Sub.nil)))))))
          · skip
            refine ops_ex rfl (guard_on rfl rfl rfl hg1142) rfl rfl (ex_fieldAddr (off' := 1) rfl rfl Try.underlying144 rfl tsz99 rfl) ?_
            refine ops_ex rfl (guard_on rfl rfl rfl hg1142) rfl rfl (ex_loadN (cs := [(.int .i64 ((gt x0 a1102).fRef.fTx)), (.int .i64 ((gt x0 a1102).fRef.fAt))]) rfl rfl Try.underlying99 rfl tsz99 rfl ((HM.box_at 0 rfl).sub 1 2 rfl)) ?_
            refine ops_does rfl (guard_on rfl rfl rfl hg1142) rfl rfl (does_callk rfl callok79 rfl (impl_isRef.calls (x0 := (gt x0 a1102).fRef) (cond_t (not_mk hg1142) h1140))) ?_
            rintro _ w1144 ⟨rfl, hn⟩
            replace HM : Mem w [] w1144 [box b1127 144 [.int .i64 ((gt x0 a1102).fKey), .int .i64 ((gt x0 a1102).fRef.fTx), .int .i64 ((gt x0 a1102).fRef.fAt)]] := HM.call hn
            refine ops_ex rfl (guard_on rfl rfl rfl hg1142) rfl rfl (ex_not rfl rfl) ?_
            refine ops_ex (v := .bool ((!t1137) || (!t1139))) rfl (guard_none rfl) rfl rfl (ex_por_f rfl rfl hg1142 rfl) ?_
            refine ops_nil ?_
            exact at_meet [(0, p0), (10, p0), (11, .int .i64 (x0.length : Int)), (12, .int .i64 a1102), (4, .pointer (some ⟨b1127, 0, none⟩)), (3, .int .i64 a1102), (26, .bool ((!t1137) || (!t1139)))] ⟨rfl, HM⟩ (Sub.cons rfl (Sub.cons rfl (Sub.cons rfl (Sub.cons rfl (Sub.cons rfl (Sub.cons rfl (Sub.cons rfl Sub.nil)))))))
        · rintro _ w1145 ⟨rfl, HM⟩
          refine at_then ?_
          refine run_cond (b := ((!t1137) || (!t1139))) rfl (fun hb1146 => ?_) (fun hb1146 => ?_)
          · replace ho1082 := cond_t hb1146 ho1082
            refine run_seq ?_
            refine run_region rfl ?_
            refine ops_ex rfl (guard_none rfl) rfl rfl (ex_assign rfl rfl) ?_
            refine ops_nil ?_
            refine at_then ?_
            refine run_ret ?_
            refine at_then_ret ?_
            refine at_block_ret ?_
            refine at_then_ret ?_
            refine at_then_ret ?_
            refine at_block_ret ?_
            refine at_then_ret ?_
            replace HM := (HM.front 0 rfl rfl).drop
            have hR := Option.some.inj ho1082
            subst hR
            have hT := thn_inl H
            have hR := Option.some.inj hT
            subst hR
            exact at_ret1 rfl rfl ⟨_, rfl, rfl, HM⟩
          · replace ho1082 := cond_f hb1146 ho1082
            refine run_skip ?_
            refine at_then ?_
            refine run_seq ?_
            obtain ⟨e1147, ho1082⟩ := chk_some ho1082
            refine run_meet (fun ρ_ w_ => ρ_ = [(0, p0), (10, p0), (11, .int .i64 (x0.length : Int)), (12, .int .i64 a1102), (39, .bool ((decide (0 < a1102)) && (decide (((gt x0 a1102).fKey) ≤ ((gt x0 (wrap64 (a1102 - 1))).fKey)))))] ∧ Mem w [] w_ []) ?_ ?_
            · skip
              refine run_drawf (fun w_ => Mem w [] w_ [box b1127 144 [.int .i64 ((gt x0 a1102).fKey), .int .i64 ((gt x0 a1102).fRef.fTx), .int .i64 ((gt x0 a1102).fRef.fAt)]]) [(0, true), (1, true), (2, true), (3, true), (4, true), (5, true), (6, true), (7, true), (8, true), (9, true), (10, true), (11, true), (12, true)] mixed rfl rfl (by kernel_rfl) ?_
              replace HM := HM.grow (fr_drew _)
              have hS := Mem.suf (M := []) HM
              refine drwp_take rfl (guard_none rfl) rfl rfl (fun w_ hS_ => (ex_move rfl rfl)) hS ?_
              refine drwp_take rfl (guard_none rfl) rfl rfl (fun w_ hS_ => (ex_gtr rfl rfl rfl)) hS ?_
              refine drwp_take rfl (guard_none rfl) rfl rfl (fun w_ hS_ => (ex_move rfl rfl)) hS ?_
              refine bool_cases (decide (0 < a1102)) (fun hg1149 => ?_) (fun hg1149 => ?_)
              · skip
                refine drwp_take rfl (guard_on rfl rfl rfl hg1149) rfl rfl (fun w_ hS_ => (ex_fieldAddr (off' := 0) rfl rfl Try.underlying144 rfl tsz2 rfl)) hS ?_
                refine drwp_take rfl (guard_on rfl rfl rfl hg1149) rfl rfl (fun w_ hS_ => (ex_load1 rfl rfl Try.underlying2 rfl ((hS_.box_at 0 rfl) 0 _ rfl))) hS ?_
                refine drwp_take rfl (guard_on rfl rfl rfl hg1149) rfl rfl (fun w_ hS_ => (ex_move rfl rfl)) hS ?_
                refine drwp_take rfl (guard_on rfl rfl rfl hg1149) rfl rfl (fun w_ hS_ => (ex_move rfl rfl)) hS ?_
                refine drwp_take rfl (guard_on rfl rfl rfl hg1149) rfl rfl (fun w_ hS_ => (ex_sub rfl rfl rfl)) hS ?_
                have hc1148 : CellsAt _ (sb p0) (so p0 + (wrap64 (a1102 - 1)).toNat * 3) [(.int .i64 ((gt x0 (wrap64 (a1102 - 1))).fKey)), (.int .i64 ((gt x0 (wrap64 (a1102 - 1))).fRef.fTx)), (.int .i64 ((gt x0 (wrap64 (a1102 - 1))).fRef.fAt))] := rd_plain hp0 (or_t e1147 hg1149)
                refine drwp_take rfl (guard_on rfl rfl rfl hg1149) rfl rfl (fun w_ hS_ => (ex_indexAddr (d := kMember) rfl rfl rfl Try.underlying49 tsz144 hp0 (idx_lo (or_t e1147 hg1149)) (idx_hi (or_t e1147 hg1149)))) hS ?_
                refine drwp_take rfl (guard_on rfl rfl rfl hg1149) rfl rfl (fun w_ hS_ => (ex_fieldAddr (off' := so p0 + (wrap64 (a1102 - 1)).toNat * 3) rfl rfl Try.underlying144 rfl tsz2 rfl)) hS ?_
                refine drwp_take rfl (guard_on rfl rfl rfl hg1149) rfl rfl (fun w_ hS_ => (ex_load1 rfl rfl Try.underlying2 rfl ((hS_.at_ hc1148) 0 _ rfl))) hS ?_
                refine drwp_take rfl (guard_on rfl rfl rfl hg1149) rfl rfl (fun w_ hS_ => (ex_leq rfl rfl rfl)) hS ?_
                refine drwp_take (v := .bool ((decide (0 < a1102)) && (decide (((gt x0 a1102).fKey) ≤ ((gt x0 (wrap64 (a1102 - 1))).fKey))))) rfl (guard_none rfl) rfl rfl (fun w_ hS_ => (ex_pand_t rfl rfl hg1149 rfl)) hS ?_
                refine drwp_done ?_
                replace HM := (HM.front 0 rfl rfl).drop
                exact at_meet [(0, p0), (10, p0), (11, .int .i64 (x0.length : Int)), (12, .int .i64 a1102), (39, .bool ((decide (0 < a1102)) && (decide (((gt x0 a1102).fKey) ≤ ((gt x0 (wrap64 (a1102 - 1))).fKey)))))] ⟨rfl, HM⟩ (Sub.cons rfl (Sub.cons rfl (Sub.cons rfl (Sub.cons rfl (Sub.cons rfl Sub.nil)))))
              · skip
                refine drwp_off rfl (guard_off rfl rfl rfl hg1149) rfl rfl hS ?_
                refine drwp_off rfl (guard_off rfl rfl rfl hg1149) rfl rfl hS ?_
                refine drwp_off rfl (guard_off rfl rfl rfl hg1149) rfl rfl hS ?_
                refine drwp_off rfl (guard_off rfl rfl rfl hg1149) rfl rfl hS ?_
                refine drwp_off rfl (guard_off rfl rfl rfl hg1149) rfl rfl hS ?_
                refine drwp_off rfl (guard_off rfl rfl rfl hg1149) rfl rfl hS ?_
                refine drwp_off rfl (guard_off rfl rfl rfl hg1149) rfl rfl hS ?_
                refine drwp_off rfl (guard_off rfl rfl rfl hg1149) rfl rfl hS ?_
                refine drwp_off rfl (guard_off rfl rfl rfl hg1149) rfl rfl hS ?_
                have hg1150 : ((decide (0 < a1102)) && (decide (((gt x0 a1102).fKey) ≤ ((gt x0 (wrap64 (a1102 - 1))).fKey)))) = false := by simp only [hg1149, Bool.and_true, Bool.true_and, Bool.and_false, Bool.false_and, Bool.or_true, Bool.true_or, Bool.or_false, Bool.false_or, Bool.not_true, Bool.not_false, Bool.not_not]
                refine drwp_take (v := .bool ((decide (0 < a1102)) && (decide (((gt x0 a1102).fKey) ≤ ((gt x0 (wrap64 (a1102 - 1))).fKey))))) rfl (guard_none rfl) rfl rfl (fun w_ hS_ => (ex_pand_f rfl rfl hg1149)) hS ?_
                refine drwp_done ?_
                replace HM := (HM.front 0 rfl rfl).drop
                exact at_meet [(0, p0), (10, p0), (11, .int .i64 (x0.length : Int)), (12, .int .i64 a1102), (39, .bool ((decide (0 < a1102)) && (decide (((gt x0 a1102).fKey) ≤ ((gt x0 (wrap64 (a1102 - 1))).fKey)))))] ⟨rfl, HM⟩ (Sub.cons rfl (Sub.cons rfl (Sub.cons rfl (Sub.cons rfl (Sub.cons rfl Sub.nil)))))
            · rintro _ w1151 ⟨rfl, HM⟩
              refine at_then ?_
              refine run_cond (b := ((decide (0 < a1102)) && (decide (((gt x0 a1102).fKey) ≤ ((gt x0 (wrap64 (a1102 - 1))).fKey))))) rfl (fun hb1152 => ?_) (fun hb1152 => ?_)
              · replace ho1082 := cond_t hb1152 ho1082
                refine run_seq ?_
                refine run_region rfl ?_
                refine ops_ex rfl (guard_none rfl) rfl rfl (ex_assign rfl rfl) ?_
                refine ops_nil ?_
                refine at_then ?_
                refine run_ret ?_
                refine at_block_ret ?_
                refine at_then_ret ?_
                refine at_then_ret ?_
                refine at_block_ret ?_
                refine at_then_ret ?_
                have hR := Option.some.inj ho1082
                subst hR
                have hT := thn_inl H
                have hR := Option.some.inj hT
                subst hR
                exact at_ret1 rfl rfl ⟨_, rfl, rfl, HM⟩
              · replace ho1082 := cond_f hb1152 ho1082
                refine run_skip ?_
                refine at_block ?_
                refine at_then ?_
                refine run_region rfl ?_
                refine ops_ex rfl (guard_none rfl) rfl rfl (ex_add rfl rfl rfl) ?_
                refine ops_ex rfl (guard_none rfl) rfl rfl (ex_move rfl rfl) ?_
                refine ops_nil ?_
                exact at_again k1122 (ρ1 := [(0, p0), (10, p0), (11, .int .i64 (x0.length : Int)), (12, .int .i64 (wrap64 (a1102 + 1)))]) (Nat.lt_succ_self _) ⟨_, ho1082, rfl, HM⟩ (Sub.cons rfl (Sub.cons rfl (Sub.cons rfl (Sub.cons rfl Sub.nil))))
      · replace ho1082 := cond_f hb1124 ho1082
        refine run_exit ?_
        refine at_then_exit ?_
        refine at_then_exit ?_
        refine at_block_exit ?_
        exact at_mid (ρ' := [(0, p0)]) ⟨(Option.some.inj ho1082), rfl, HM⟩ (Sub.cons rfl Sub.nil)
    · rintro _ w1153 ⟨rfl, rfl, HM⟩
      replace H := (thn_inr H)
      obtain ⟨o1194, ho1195, H⟩ := bind_some H
      refine run_mid (fun ρ_ w_ => Sum.inr () = o1194 ∧ ρ_ = [] ∧ Mem w [] w_ []) ?_ ?_
      · skip
        refine run_seq ?_
        refine run_region rfl ?_
        refine ops_ex rfl (guard_none rfl) rfl rfl (ex_move rfl rfl) ?_
        refine ops_ex rfl (guard_none rfl) rfl rfl (ex_len (d := kMember) (xs := x0) rfl rfl Try.underlying49 hp0) ?_
        refine ops_ex rfl (guard_none rfl) rfl rfl (ex_move rfl rfl) ?_
        refine ops_nil ?_
        refine at_then ?_
        refine run_block ?_
        refine run_loop (fun k_ ρ_ w_ => ∃ a1209 : Int, impl_MembersFault.l1 x0 k_ a1209 = some o1194 ∧ ρ_ = [(0, p0), (41, p0), (42, .int .i64 (x0.length : Int)), (43, .int .i64 a1209)] ∧ Mem w [] w_ []) k (ρ1 := [(0, p0), (41, p0), (42, .int .i64 (x0.length : Int)), (43, .int .i64 0)]) ⟨_, ho1195, rfl, HM⟩ (Sub.cons rfl (Sub.cons rfl (Sub.cons rfl (Sub.cons rfl Sub.nil)))) ?_
        clear HM ho1195
        rintro k1223 _ w1224 ⟨a1209, ho1195, rfl, HM⟩
        obtain _ | k1223 := k1223
        · exact nomatch ((impl_MembersFault.l1_z x0 a1209).symm.trans ho1195)
        replace ho1195 := (impl_MembersFault.l1_s x0 k1223 a1209).symm.trans ho1195
        refine run_seq ?_
        refine run_region rfl ?_
        refine ops_ex rfl (guard_none rfl) rfl rfl (ex_lss rfl rfl rfl) ?_
        refine ops_nil ?_
        refine at_then ?_
        refine run_seq ?_
        refine run_cond (b := (decide (a1209 < (x0.length : Int)))) rfl (fun hb1225 => ?_) (fun hb1225 => ?_)
        · replace ho1195 := cond_t hb1225 ho1195
          refine run_skip ?_
          refine at_then ?_
          refine run_seq ?_
          refine run_block ?_
          refine run_seq ?_
          obtain ⟨e1226, ho1195⟩ := chk_some ho1195
          refine run_region rfl ?_
          refine ops_ex rfl (guard_none rfl) rfl rfl (ex_move rfl rfl) ?_
          have hc1227 : CellsAt _ (sb p0) (so p0 + (a1209).toNat * 3) [(.int .i64 ((gt x0 a1209).fKey)), (.int .i64 ((gt x0 a1209).fRef.fTx)), (.int .i64 ((gt x0 a1209).fRef.fAt))] := rd_plain hp0 e1226
          refine ops_ex rfl (guard_none rfl) rfl rfl (ex_indexAddr (d := kMember) rfl rfl rfl Try.underlying49 tsz144 hp0 (idx_lo e1226) (idx_hi e1226)) ?_
          refine ops_ex rfl (guard_none rfl) rfl rfl (ex_loadN (cs := [(.int .i64 ((gt x0 a1209).fKey)), (.int .i64 ((gt x0 a1209).fRef.fTx)), (.int .i64 ((gt x0 a1209).fRef.fAt))]) rfl rfl Try.underlying144 rfl tsz144 rfl ((HM.at_ hc1227).sub 0 3 rfl)) ?_
          refine ops_does rfl (guard_none rfl) rfl rfl (does_alloc (cs := [.int .i64 0, .int .i64 0, .int .i64 0]) rfl tz144 rfl HM) ?_
          rintro _ w1231 ⟨b1228, rfl, HM⟩
          refine ops_ex rfl (guard_none rfl) rfl rfl (ex_assign rfl rfl) ?_
          refine ops_doesS rfl (guard_none rfl) rfl (does_store (vs := [.int .i64 ((gt x0 a1209).fKey), .int .i64 ((gt x0 a1209).fRef.fTx), .int .i64 ((gt x0 a1209).fRef.fAt)]) (cs' := [.int .i64 ((gt x0 a1209).fKey), .int .i64 ((gt x0 a1209).fRef.fTx), .int .i64 ((gt x0 a1209).fRef.fAt)]) rfl rfl rfl rfl tsz144 (Ones.int (Ones.int (Ones.int Ones.nil))) rfl rfl HM) ?_
          rintro w1232 HM
          refine ops_nil ?_
          refine at_then ?_
          refine run_seq ?_
          obtain ⟨e1233, ho1195⟩ := chk_some ho1195
          obtain ⟨t1237, h1238, ho1195⟩ := bind_some ho1195
          refine run_region rfl ?_
          refine ops_ex rfl (guard_none rfl) rfl rfl (ex_move rfl rfl) ?_
          refine ops_ex rfl (guard_none rfl) rfl rfl (ex_move rfl rfl) ?_
          refine ops_exE rfl (guard_none rfl) rfl rfl (ex_cutH kMember rfl rfl rfl Try.underlying49 tsz144 hp0 e1233) ?_
          intro u1234 hr1236
          refine ops_ex rfl (guard_none rfl) rfl rfl (ex_func rfl rfl) ?_
          refine ops_does rfl (guard_none rfl) rfl rfl (does_callk rfl callok145 rfl (slices_ContainsFunc_impl_Member.calls (x0 := x0.take (a1209).toNat) (x1_0 := (gt x0 a1209)) (HM.rd hr1236) (HM.box_at 0 rfl) h1238)) ?_
          rintro _ w1239 ⟨rfl, hn⟩
          replace HM : Mem w [] w1239 [box b1228 144 [.int .i64 ((gt x0 a1209).fKey), .int .i64 ((gt x0 a1209).fRef.fTx), .int .i64 ((gt x0 a1209).fRef.fAt)]] := HM.call hn
          refine ops_nil ?_
          refine at_then ?_
          refine run_cond (b := t1237) rfl (fun hb1240 => ?_) (fun hb1240 => ?_)
          · replace ho1195 := cond_t hb1240 ho1195
            refine run_seq ?_
            refine run_region rfl ?_
            refine ops_ex rfl (guard_none rfl) rfl rfl (ex_assign rfl rfl) ?_
            refine ops_nil ?_
            refine at_then ?_
            refine run_ret ?_
            refine at_block_ret ?_
            refine at_then_ret ?_
            refine at_then_ret ?_
            refine at_block_ret ?_
            refine at_then_ret ?_
            replace HM := (HM.front 0 rfl rfl).drop
            have hR := Option.some.inj ho1195
            subst hR
            have hT := thn_inl H
            have hR := Option.some.inj hT
            subst hR
            exact at_ret1 rfl rfl ⟨_, rfl, rfl, HM⟩
          · replace ho1195 := cond_f hb1240 ho1195
            refine run_skip ?_
            refine at_block ?_
            refine at_then ?_
            refine run_region rfl ?_
            refine ops_ex rfl (guard_none rfl) rfl rfl (ex_add rfl rfl rfl) ?_
            refine ops_ex rfl (guard_none rfl) rfl rfl (ex_move rfl rfl) ?_
            refine ops_nil ?_
            replace HM := (HM.front 0 rfl rfl).drop
            exact at_again k1223 (ρ1 := [(0, p0), (41, p0), (42, .int .i64 (x0.length : Int)), (43, .int .i64 (wrap64 (a1209 + 1)))]) (Nat.lt_succ_self _) ⟨_, ho1195, rfl, HM⟩ (Sub.cons rfl (Sub.cons rfl (Sub.cons rfl (Sub.cons rfl Sub.nil))))
        · replace ho1195 := cond_f hb1225 ho1195
          refine run_exit ?_
          refine at_then_exit ?_
          refine at_then_exit ?_
          refine at_block_exit ?_
          exact at_mid (ρ' := []) ⟨(Option.some.inj ho1195), rfl, HM⟩ Sub.nil
      · rintro _ w1241 ⟨rfl, rfl, HM⟩
        replace H := (thn_inr H)
        refine run_seq ?_
        refine run_region rfl ?_
        refine ops_ex rfl (guard_none rfl) rfl rfl (ex_assign rfl rfl) ?_
        refine ops_nil ?_
        refine at_then ?_
        refine run_ret ?_
        have hR := Option.some.inj H
        subst hR
        exact at_ret1 rfl rfl ⟨_, rfl, rfl, HM⟩

def impl_keysOf.l0 (x0 : List Member) : Nat → (List Int) → Int → Option ((List Int))
  | 0, _, _ => none
  | k + 1, a1355, a1357 => (bif (decide (a1357 < (x0.length : Int))) then (chk (idxOk a1357 x0.length) (chk (leB ((a1355.length + ([(gt x0 a1357).fKey] : List Int).length) * 8) 140737488355328) (impl_keysOf.l0 x0 k (a1355 ++ ([(gt x0 a1357).fKey] : List Int)) (wrap64 (a1357 + 1))))) else some a1355)
theorem impl_keysOf.l0_z (x0 : List Member) (a1355 : List Int) (a1357 : Int) : impl_keysOf.l0 x0 0 a1355 a1357 = none := rfl
theorem impl_keysOf.l0_s (x0 : List Member) (k : Nat) (a1355 : List Int) (a1357 : Int) : impl_keysOf.l0 x0 (k + 1) a1355 a1357 = (bif (decide (a1357 < (x0.length : Int))) then (chk (idxOk a1357 x0.length) (chk (leB ((a1355.length + ([(gt x0 a1357).fKey] : List Int).length) * 8) 140737488355328) (impl_keysOf.l0 x0 k (a1355 ++ ([(gt x0 a1357).fKey] : List Int)) (wrap64 (a1357 + 1))))) else some a1355) := rfl
def impl_keysOf.f (k : Nat) (x0 : List Member) : Option ((List Int)) := ((impl_keysOf.l0 x0 k ([] : List Int) 0).bind (fun a1338 => some a1338))
theorem impl_keysOf.calls {k : Nat} {x0 : List Member} {p0 : Value} {w : World} (hp0 : RdS kMember w p0 x0) {r : (List Int)} (H : impl_keysOf.f k x0 = some r) :
    Calls Try.prog 112 ([p0] : List Value).toArray w (fun e w_ => ∃ v, e = .returned v ∧ ∃ u0 : Value, v = u0 ∧ Mem w [] w_ [own kInt 2 u0 r]) := by
  have HM := Mem.start w
  refine calls_run (N := 20) Try.func112 rfl rfl rfl rfl ?_
  unfold impl_keysOf.f at H
  refine run_seq ?_
  refine run_region rfl ?_
  refine ops_ex rfl (guard_none rfl) rfl rfl (ex_assign rfl rfl) ?_
  refine ops_nil ?_
  refine at_then ?_
  refine run_seq ?_
  refine run_region rfl ?_
  refine ops_does rfl (guard_none rfl) rfl rfl (does_lit (e := 2) (cs := []) (xs := ([] : List Int)) kInt rfl rfl (fun _ => by kernel_rfl) rfl rfl (fun _ _ h => by have h' : _ = [] := h; subst h'; exact .nil) HM.emp) ?_
  rintro v1293 w1296 HM
  refine ops_ex rfl (guard_none rfl) rfl rfl (ex_assign rfl rfl) ?_
  refine ops_nil ?_
  refine at_then ?_
  obtain ⟨o1340, ho1341, H⟩ := bind_some H
  refine run_mid (fun ρ_ w_ => ∃ v1337 : Value, ∃ a1338 : List Int, a1338 = o1340 ∧ ρ_ = [(3, v1337)] ∧ Mem w [] w_ [own kInt 2 v1337 a1338]) ?_ ?_
  · clear H
    refine run_seq ?_
    refine run_region rfl ?_
    refine ops_ex rfl (guard_none rfl) rfl rfl (ex_move rfl rfl) ?_
    refine ops_ex rfl (guard_none rfl) rfl rfl (ex_len (d := kMember) (xs := x0) rfl rfl Try.underlying49 hp0) ?_
    refine ops_ex rfl (guard_none rfl) rfl rfl (ex_move rfl rfl) ?_
    refine ops_nil ?_
    refine at_then ?_
    refine run_block ?_
    refine run_loop (fun k_ ρ_ w_ => ∃ v1354 : Value, ∃ a1355 : List Int, ∃ a1357 : Int, impl_keysOf.l0 x0 k_ a1355 a1357 = some o1340 ∧ ρ_ = [(3, v1354), (7, p0), (8, .int .i64 (x0.length : Int)), (9, .int .i64 a1357)] ∧ Mem w [] w_ [own kInt 2 v1354 a1355]) k (ρ1 := [(3, v1293), (7, p0), (8, .int .i64 (x0.length : Int)), (9, .int .i64 0)]) ⟨_, _, _, ho1341, rfl, HM⟩ (Sub.cons rfl (Sub.cons rfl (Sub.cons rfl (Sub.cons rfl Sub.nil)))) ?_
    clear HM ho1341
    rintro k1370 _ w1371 ⟨v1354, a1355, a1357, ho1341, rfl, HM⟩
    obtain _ | k1370 := k1370
    · exact nomatch ((impl_keysOf.l0_z x0 a1355 a1357).symm.trans ho1341)
    replace ho1341 := (impl_keysOf.l0_s x0 k1370 a1355 a1357).symm.trans ho1341
    refine run_seq ?_
    refine run_region rfl ?_
    refine ops_ex rfl (guard_none rfl) rfl rfl (ex_lss rfl rfl rfl) ?_
    refine ops_nil ?_
    refine at_then ?_
    refine run_seq ?_
    refine run_cond (b := (decide (a1357 < (x0.length : Int)))) rfl (fun hb1372 => ?_) (fun hb1372 => ?_)
    · replace ho1341 := cond_t hb1372 ho1341
      refine run_skip ?_
      refine at_then ?_
      refine run_seq ?_
      refine run_block ?_
      refine run_seq ?_
      obtain ⟨e1373, ho1341⟩ := chk_some ho1341
      refine run_region rfl ?_
      have hc1374 : CellsAt _ (sb p0) (so p0 + (a1357).toNat * 3) [(.int .i64 ((gt x0 a1357).fKey)), (.int .i64 ((gt x0 a1357).fRef.fTx)), (.int .i64 ((gt x0 a1357).fRef.fAt))] := rd_plain hp0 e1373
      refine ops_ex rfl (guard_none rfl) rfl rfl (ex_indexAddr (d := kMember) rfl rfl rfl Try.underlying49 tsz144 hp0 (idx_lo e1373) (idx_hi e1373)) ?_
      refine ops_ex rfl (guard_none rfl) rfl rfl (ex_loadN (cs := [(.int .i64 ((gt x0 a1357).fKey)), (.int .i64 ((gt x0 a1357).fRef.fTx)), (.int .i64 ((gt x0 a1357).fRef.fAt))]) rfl rfl Try.underlying144 rfl tsz144 rfl ((HM.at_ hc1374).sub 0 3 rfl)) ?_
      refine ops_does rfl (guard_none rfl) rfl rfl (does_alloc (cs := [.int .i64 0, .int .i64 0, .int .i64 0]) rfl tz144 rfl HM) ?_
      rintro _ w1378 ⟨b1375, rfl, HM⟩
      refine ops_doesS rfl (guard_none rfl) rfl (does_store (vs := [.int .i64 ((gt x0 a1357).fKey), .int .i64 ((gt x0 a1357).fRef.fTx), .int .i64 ((gt x0 a1357).fRef.fAt)]) (cs' := [.int .i64 ((gt x0 a1357).fKey), .int .i64 ((gt x0 a1357).fRef.fTx), .int .i64 ((gt x0 a1357).fRef.fAt)]) rfl rfl rfl rfl tsz144 (Ones.int (Ones.int (Ones.int Ones.nil))) rfl rfl HM) ?_
      rintro w1379 HM
      refine ops_nil ?_
      refine at_then ?_
      obtain ⟨e1383, ho1341⟩ := chk_some ho1341
      refine run_region rfl ?_
      refine ops_ex rfl (guard_none rfl) rfl rfl (ex_move rfl rfl) ?_
      refine ops_ex rfl (guard_none rfl) rfl rfl (ex_fieldAddr (off' := 0) rfl rfl Try.underlying144 rfl tsz2 rfl) ?_
      refine ops_ex rfl (guard_none rfl) rfl rfl (ex_load1 rfl rfl Try.underlying2 rfl ((HM.box_at 0 rfl) 0 _ rfl)) ?_
      refine ops_does rfl (guard_none rfl) rfl rfl (does_lit (e := 2) (cs := [.int .i64 ((gt x0 a1357).fKey)]) (xs := ([(gt x0 a1357).fKey] : List Int)) kInt rfl rfl (fun _ => by kernel_rfl) rfl rfl (fun _ _ h => by have h' : _ = [] := h; subst h'; exact (Elems.cons (d := kInt) (f := []) ⟨rfl, rfl⟩ .nil)) HM.emp) ?_
      rintro v1380 w1386 HM
      replace HM := HM.front 2 rfl rfl
      refine ops_does rfl (guard_none rfl) rfl rfl (does_appendR kInt flat_plain rfl rfl rfl Try.underlying74 tsz2 rfl tby2 tz2 rfl rfl (leB_le e1383) (HM.own_rd 1 rfl) HM) ?_
      rintro v1384 w1387 HM
      refine ops_ex rfl (guard_none rfl) rfl rfl (ex_assign rfl rfl) ?_
      refine ops_nil ?_
      refine at_block ?_
      refine at_then ?_
      refine run_region rfl ?_
      refine ops_ex rfl (guard_none rfl) rfl rfl (ex_add rfl rfl rfl) ?_
      refine ops_ex rfl (guard_none rfl) rfl rfl (ex_move rfl rfl) ?_
      refine ops_nil ?_
      replace HM := (HM.front 1 rfl rfl).drop
      replace HM := (HM.front 1 rfl rfl).drop
      exact at_again k1370 (ρ1 := [(3, v1384), (7, p0), (8, .int .i64 (x0.length : Int)), (9, .int .i64 (wrap64 (a1357 + 1)))]) (Nat.lt_succ_self _) ⟨_, _, _, ho1341, rfl, HM⟩ (Sub.cons rfl (Sub.cons rfl (Sub.cons rfl (Sub.cons rfl Sub.nil))))
    · replace ho1341 := cond_f hb1372 ho1341
      refine run_exit ?_
      refine at_then_exit ?_
      refine at_then_exit ?_
      refine at_block_exit ?_
      exact at_mid (ρ' := [(3, v1354)]) ⟨_, _, (Option.some.inj ho1341), rfl, HM⟩ (Sub.cons rfl Sub.nil)
  · rintro _ w1388 ⟨v1337, a1338, rfl, rfl, HM⟩
    refine run_seq ?_
    refine run_region rfl ?_
    refine ops_ex rfl (guard_none rfl) rfl rfl (ex_move rfl rfl) ?_
    refine ops_ex rfl (guard_none rfl) rfl rfl (ex_assign rfl rfl) ?_
    refine ops_nil ?_
    refine at_then ?_
    refine run_ret ?_
    have hR := Option.some.inj H
    subst hR
    exact at_ret1 rfl rfl ⟨_, rfl, _, rfl, HM⟩

def impl_KeysOf.f (k : Nat) (x0 : List Member) : Option IntsResult := ((impl_MembersFault.f k x0).bind fun t1397 => (bif (t1397 != 0) then some (⟨t1397, ([] : List Int)⟩ : IntsResult) else ((impl_keysOf.f k x0).bind fun t1403 => some (⟨0, t1403⟩ : IntsResult))))
theorem impl_KeysOf.calls {k : Nat} {x0 : List Member} {p0 : Value} {w : World} (hp0 : RdS kMember w p0 x0) {r : IntsResult} (H : impl_KeysOf.f k x0 = some r) :
    Calls Try.prog 51 ([p0] : List Value).toArray w (fun e w_ => ∃ v, e = .returned v ∧ ∃ u0 : Value, v = (.agg #[.int .i64 r.fCode, u0]) ∧ Mem w [] w_ [own kInt 2 u0 r.fList]) := by
  have HM := Mem.start w
  refine calls_run (N := 13) Try.func51 rfl rfl rfl rfl ?_
  unfold impl_KeysOf.f at H
  refine run_seq ?_
  refine run_region rfl ?_
  refine ops_does rfl (guard_none rfl) rfl rfl (does_alloc (cs := [.int .i64 0, .slice none 0 0]) rfl tz76 rfl HM) ?_
  rintro _ w1396 ⟨b1393, rfl, HM⟩
  refine ops_nil ?_
  refine at_then ?_
  refine run_seq ?_
  refine run_seq ?_
  obtain ⟨t1397, h1398, H⟩ := bind_some H
  refine run_region rfl ?_
  refine ops_ex rfl (guard_none rfl) rfl rfl (ex_move rfl rfl) ?_
  refine ops_does rfl (guard_none rfl) rfl rfl (does_callk rfl callok98 rfl (impl_MembersFault.calls (x0 := x0) (HM.rd hp0) h1398)) ?_
  rintro _ w1399 ⟨rfl, hn⟩
  replace HM : Mem w [] w1399 [box b1393 76 [.int .i64 0, .slice none 0 0]] := HM.call hn
  refine ops_ex rfl (guard_none rfl) rfl rfl (ex_assign rfl rfl) ?_
  refine ops_nil ?_
  refine at_then ?_
  refine run_seq ?_
  refine run_region rfl ?_
  refine ops_ex rfl (guard_none rfl) rfl rfl (ex_move rfl rfl) ?_
  refine ops_ex rfl (guard_none rfl) rfl rfl (ex_neq rfl rfl rfl) ?_
  refine ops_nil ?_
  refine at_then ?_
  refine run_cond (b := (t1397 != 0)) rfl (fun hb1400 => ?_) (fun hb1400 => ?_)
  · replace H := cond_t hb1400 H
    refine run_seq ?_
    refine run_region rfl ?_
    refine ops_ex rfl (guard_none rfl) rfl rfl (ex_move rfl rfl) ?_
    refine ops_ex rfl (guard_none rfl) rfl rfl (ex_build (cells := #[(.int .i64 t1397), (.slice none 0 0)]) rfl rfl (by kernel_rfl)) ?_
    refine ops_doesS rfl (guard_none rfl) rfl (does_store (vs := [.int .i64 t1397, .slice none 0 0]) (cs' := [.int .i64 t1397, .slice none 0 0]) rfl rfl rfl rfl tsz76 (Ones.int (Ones.sl Ones.nil)) rfl rfl HM) ?_
    rintro w1401 HM
    refine ops_nil ?_
    refine at_then ?_
    refine run_ret ?_
    refine at_then_ret ?_
    replace HM := HM.empty kInt 2 none
    replace HM := HM.front 1 rfl rfl
    have hcb0 := HM.box_at 0 rfl
    replace HM := (HM.front 0 rfl rfl).drop
    have hR := Option.some.inj H
    subst hR
    exact at_retN rfl rfl Try.underlying76 rfl tsz76 rfl hcb0 ⟨_, rfl, _, rfl, HM⟩
  · replace H := cond_f hb1400 H
    refine run_skip ?_
    refine at_then ?_
    refine run_seq ?_
    obtain ⟨t1403, h1404, H⟩ := bind_some H
    refine run_region rfl ?_
    refine ops_ex rfl (guard_none rfl) rfl rfl (ex_move rfl rfl) ?_
    refine ops_does rfl (guard_none rfl) rfl rfl (does_callk rfl callok112 rfl (impl_keysOf.calls (x0 := x0) (HM.rd hp0) h1404)) ?_
    rintro u1405 w1407 ⟨_, rfl, hn⟩
    replace HM : Mem w [] w1407 [own kInt 2 u1405 t1403, box b1393 76 [.int .i64 0, .slice none 0 0]] := HM.call hn
    refine ops_ex rfl (guard_none rfl) rfl rfl (ex_build1 (fun u1405 => [(1, u1405)]) (fun u1405 => #[.int .i64 0, u1405]) rfl rfl (fun _ _ _ => by kernel_rfl) (HM.own_rd 0 rfl).isSl) ?_
    replace HM := HM.front 1 rfl rfl
    refine ops_doesS rfl (guard_none rfl) rfl (does_store (vs := [.int .i64 0, u1405]) (cs' := [.int .i64 0, u1405]) rfl rfl rfl rfl tsz76 (Ones.int (Ones.rd (HM.own_rd 1 rfl) Ones.nil)) rfl rfl HM) ?_
    rintro w1408 HM
    refine ops_nil ?_
    refine at_then ?_
    refine run_ret ?_
    have hcb0 := HM.box_at 0 rfl
    replace HM := (HM.front 0 rfl rfl).drop
    have hR := Option.some.inj H
    subst hR
    exact at_retN rfl rfl Try.underlying76 rfl tsz76 rfl hcb0 ⟨_, rfl, _, rfl, HM⟩

def laws_eqInt64S.l0 (x0 : List Int) (x1 : List Int) : Nat → Int → Option (Bool ⊕ Unit)
  | 0, _ => none
  | k + 1, a1476 => (bif (decide (a1476 < (x0.length : Int))) then (chk (idxOk a1476 x0.length) (chk (idxOk a1476 x1.length) (bif ((gt x0 a1476) != (gt x1 a1476)) then some (.inl false) else laws_eqInt64S.l0 x0 x1 k (wrap64 (a1476 + 1))))) else some (.inr ()))
theorem laws_eqInt64S.l0_z (x0 : List Int) (x1 : List Int) (a1476 : Int) : laws_eqInt64S.l0 x0 x1 0 a1476 = none := rfl
theorem laws_eqInt64S.l0_s (x0 : List Int) (x1 : List Int) (k : Nat) (a1476 : Int) : laws_eqInt64S.l0 x0 x1 (k + 1) a1476 = (bif (decide (a1476 < (x0.length : Int))) then (chk (idxOk a1476 x0.length) (chk (idxOk a1476 x1.length) (bif ((gt x0 a1476) != (gt x1 a1476)) then some (.inl false) else laws_eqInt64S.l0 x0 x1 k (wrap64 (a1476 + 1))))) else some (.inr ())) := rfl
def laws_eqInt64S.f (k : Nat) (x0 : List Int) (x1 : List Int) : Option Bool := (bif ((x0.length : Int) != (x1.length : Int)) then some false else ((laws_eqInt64S.l0 x0 x1 k 0).bind fun o1468 => thn o1468 (fun r => some r) (fun _ => some true)))
theorem laws_eqInt64S.calls {k : Nat} {x0 : List Int} {x1 : List Int} {p0 : Value} {p1 : Value} {w : World} (hp0 : RdS kInt w p0 x0) (hp1 : RdS kInt w p1 x1) {r : Bool} (H : laws_eqInt64S.f k x0 x1 = some r) :
    Calls Try.prog 113 ([p0, p1] : List Value).toArray w (fun e w_ => ∃ v, e = .returned v ∧ v = (.bool r) ∧ Mem w [] w_ []) := by
  have HM := Mem.start w
  refine calls_run (N := 26) Try.func113 rfl rfl rfl rfl ?_
  unfold laws_eqInt64S.f at H
  refine run_seq ?_
  refine run_region rfl ?_
  refine ops_ex rfl (guard_none rfl) rfl rfl (ex_assign rfl rfl) ?_
  refine ops_nil ?_
  refine at_then ?_
  refine run_seq ?_
  refine run_seq ?_
  refine run_region rfl ?_
  refine ops_ex rfl (guard_none rfl) rfl rfl (ex_move rfl rfl) ?_
  refine ops_ex rfl (guard_none rfl) rfl rfl (ex_len (d := kInt) (xs := x0) rfl rfl Try.underlying74 hp0) ?_
  refine ops_ex rfl (guard_none rfl) rfl rfl (ex_move rfl rfl) ?_
  refine ops_ex rfl (guard_none rfl) rfl rfl (ex_len (d := kInt) (xs := x1) rfl rfl Try.underlying74 hp1) ?_
  refine ops_ex rfl (guard_none rfl) rfl rfl (ex_neq rfl rfl rfl) ?_
  refine ops_nil ?_
  refine at_then ?_
  refine run_cond (b := ((x0.length : Int) != (x1.length : Int))) rfl (fun hb1448 => ?_) (fun hb1448 => ?_)
  · replace H := cond_t hb1448 H
    refine run_seq ?_
    refine run_region rfl ?_
    refine ops_ex rfl (guard_none rfl) rfl rfl (ex_assign rfl rfl) ?_
    refine ops_nil ?_
    refine at_then ?_
    refine run_ret ?_
    refine at_then_ret ?_
    have hR := Option.some.inj H
    subst hR
    exact at_ret1 rfl rfl ⟨_, rfl, rfl, HM⟩
  · replace H := cond_f hb1448 H
    refine run_skip ?_
    refine at_then ?_
    obtain ⟨o1468, ho1469, H⟩ := bind_some H
    refine run_mid (fun ρ_ w_ => Sum.inr () = o1468 ∧ ρ_ = [] ∧ Mem w [] w_ []) ?_ ?_
    · skip
      refine run_seq ?_
      refine run_region rfl ?_
      refine ops_ex rfl (guard_none rfl) rfl rfl (ex_assign rfl rfl) ?_
      refine ops_nil ?_
      refine at_then ?_
      refine run_block ?_
      refine run_loop (fun k_ ρ_ w_ => ∃ a1476 : Int, laws_eqInt64S.l0 x0 x1 k_ a1476 = some o1468 ∧ ρ_ = [(0, p0), (1, p1), (5, .int .i64 a1476)] ∧ Mem w [] w_ []) k (ρ1 := [(0, p0), (1, p1), (5, .int .i64 0)]) ⟨_, ho1469, rfl, HM⟩ (Sub.cons rfl (Sub.cons rfl (Sub.cons rfl Sub.nil))) ?_
      clear HM ho1469
      rintro k1483 _ w1484 ⟨a1476, ho1469, rfl, HM⟩
      obtain _ | k1483 := k1483
      · exact nomatch ((laws_eqInt64S.l0_z x0 x1 a1476).symm.trans ho1469)
      replace ho1469 := (laws_eqInt64S.l0_s x0 x1 k1483 a1476).symm.trans ho1469
      refine run_seq ?_
      refine run_seq ?_
      refine run_region rfl ?_
      refine ops_ex rfl (guard_none rfl) rfl rfl (ex_move rfl rfl) ?_
      refine ops_ex rfl (guard_none rfl) rfl rfl (ex_move rfl rfl) ?_
      refine ops_ex rfl (guard_none rfl) rfl rfl (ex_len (d := kInt) (xs := x0) rfl rfl Try.underlying74 hp0) ?_
      refine ops_ex rfl (guard_none rfl) rfl rfl (ex_lss rfl rfl rfl) ?_
      refine ops_nil ?_
      refine at_then ?_
      refine run_cond (b := (decide (a1476 < (x0.length : Int)))) rfl (fun hb1485 => ?_) (fun hb1485 => ?_)
      · replace ho1469 := cond_t hb1485 ho1469
        refine run_skip ?_
        refine at_then ?_
        refine run_seq ?_
        refine run_block ?_
        refine run_seq ?_
        obtain ⟨e1486, ho1469⟩ := chk_some ho1469
        obtain ⟨e1488, ho1469⟩ := chk_some ho1469
        refine run_drawf (fun w_ => Mem w [] w_ []) [(0, true), (1, true), (2, true), (3, true), (4, true), (5, true), (6, true), (7, true), (8, true)] mixed rfl rfl (by kernel_rfl) ?_
        replace HM := HM.grow (fr_drew _)
        have hS := Mem.suf (M := []) HM
        refine drwp_take rfl (guard_none rfl) rfl rfl (fun w_ hS_ => (ex_move rfl rfl)) hS ?_
        refine drwp_take rfl (guard_none rfl) rfl rfl (fun w_ hS_ => (ex_move rfl rfl)) hS ?_
        have hc1487 : CellsAt _ (sb p0) (so p0 + (a1476).toNat * 1) [(.int .i64 (gt x0 a1476))] := rd_plain hp0 e1486
        refine drwp_take rfl (guard_none rfl) rfl rfl (fun w_ hS_ => (ex_indexAddr (d := kInt) rfl rfl rfl Try.underlying74 tsz2 hp0 (idx_lo e1486) (idx_hi e1486))) hS ?_
        refine drwp_take rfl (guard_none rfl) rfl rfl (fun w_ hS_ => (ex_load1 rfl rfl Try.underlying2 rfl ((hS_.at_ hc1487) 0 _ rfl))) hS ?_
        refine drwp_take rfl (guard_none rfl) rfl rfl (fun w_ hS_ => (ex_move rfl rfl)) hS ?_
        refine drwp_take rfl (guard_none rfl) rfl rfl (fun w_ hS_ => (ex_move rfl rfl)) hS ?_
        have hc1489 : CellsAt _ (sb p1) (so p1 + (a1476).toNat * 1) [(.int .i64 (gt x1 a1476))] := rd_plain hp1 e1488
        refine drwp_take rfl (guard_none rfl) rfl rfl (fun w_ hS_ => (ex_indexAddr (d := kInt) rfl rfl rfl Try.underlying74 tsz2 hp1 (idx_lo e1488) (idx_hi e1488))) hS ?_
        refine drwp_take rfl (guard_none rfl) rfl rfl (fun w_ hS_ => (ex_load1 rfl rfl Try.underlying2 rfl ((hS_.at_ hc1489) 0 _ rfl))) hS ?_
        refine drwp_take rfl (guard_none rfl) rfl rfl (fun w_ hS_ => (ex_neq rfl rfl rfl)) hS ?_
        refine drwp_done ?_
        refine at_then ?_
        refine run_cond (b := ((gt x0 a1476) != (gt x1 a1476))) rfl (fun hb1490 => ?_) (fun hb1490 => ?_)
        · replace ho1469 := cond_t hb1490 ho1469
          refine run_seq ?_
          refine run_region rfl ?_
          refine ops_ex rfl (guard_none rfl) rfl rfl (ex_assign rfl rfl) ?_
          refine ops_nil ?_
          refine at_then ?_
          refine run_ret ?_
          refine at_block_ret ?_
          refine at_then_ret ?_
          refine at_then_ret ?_
          refine at_block_ret ?_
          refine at_then_ret ?_
          have hR := Option.some.inj ho1469
          subst hR
          have hT := thn_inl H
          have hR := Option.some.inj hT
          subst hR
          exact at_ret1 rfl rfl ⟨_, rfl, rfl, HM⟩
        · replace ho1469 := cond_f hb1490 ho1469
          refine run_skip ?_
          refine at_block ?_
          refine at_then ?_
          refine run_region rfl ?_
          refine ops_ex rfl (guard_none rfl) rfl rfl (ex_move rfl rfl) ?_
          refine ops_ex rfl (guard_none rfl) rfl rfl (ex_add rfl rfl rfl) ?_
          refine ops_ex rfl (guard_none rfl) rfl rfl (ex_assign rfl rfl) ?_
          refine ops_nil ?_
          exact at_again k1483 (ρ1 := [(0, p0), (1, p1), (5, .int .i64 (wrap64 (a1476 + 1)))]) (Nat.lt_succ_self _) ⟨_, ho1469, rfl, HM⟩ (Sub.cons rfl (Sub.cons rfl (Sub.cons rfl Sub.nil)))
      · replace ho1469 := cond_f hb1485 ho1469
        refine run_exit ?_
        refine at_then_exit ?_
        refine at_then_exit ?_
        refine at_block_exit ?_
        exact at_mid (ρ' := []) ⟨(Option.some.inj ho1469), rfl, HM⟩ Sub.nil
    · rintro _ w1491 ⟨rfl, rfl, HM⟩
      replace H := (thn_inr H)
      refine run_seq ?_
      refine run_region rfl ?_
      refine ops_ex rfl (guard_none rfl) rfl rfl (ex_assign rfl rfl) ?_
      refine ops_nil ?_
      refine at_then ?_
      refine run_ret ?_
      have hR := Option.some.inj H
      subst hR
      exact at_ret1 rfl rfl ⟨_, rfl, rfl, HM⟩
end Go.Proofs.Ytoiacoiccpiciaa.Zk
