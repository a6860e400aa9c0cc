/- What functions of the program compute, each as a plain function, and that they do. Conditions: as each theorem states them. -/
import Derived.Test.YtoiacoiccpiciaaMemberOfZkF0
namespace Go.Proofs.Ytoiacoiccpiciaa.Zk
open Go Go.RowKit Go.IntWalk Go.Proofs
set_option linter.unusedVariables false
set_option linter.unusedSimpArgs false
set_option maxRecDepth 100000
set_option maxHeartbeats 4000000
def impl_within.f (k : Nat) (x0 : Int) (x1 : Int) (x2 : Int) : Option Bool := some ((decide (x1 ≤ x0)) && (decide (x0 ≤ x2)))
theorem impl_within.calls {k : Nat} {x0 : Int} {x1 : Int} {x2 : Int}  {w : World}  {r : Bool} (H : impl_within.f k x0 x1 x2 = some r) :
    Calls Try.prog 81 ([.int .i64 x0, .int .i64 x1, .int .i64 x2] : List Value).toArray w (fun e w_ => ∃ v, e = .returned v ∧ v = (.bool r) ∧ Mem w [] w_ []) := by
  have HM := Mem.start w
  refine calls_run (N := 15) Try.func81 rfl rfl rfl rfl ?_
  unfold impl_within.f at H
  refine run_seq ?_
  refine run_region rfl ?_
  refine ops_ex rfl (guard_none rfl) rfl rfl (ex_assign rfl rfl) ?_
  refine ops_nil ?_
  refine at_then ?_
  refine run_seq ?_
  refine run_meet (fun ρ_ w_ => ρ_ = [(6, .bool ((decide (x1 ≤ x0)) && (decide (x0 ≤ x2))))] ∧ Mem w [] w_ []) ?_ ?_
  · skip
    refine run_region rfl ?_
    refine ops_ex rfl (guard_none rfl) rfl rfl (ex_move rfl rfl) ?_
    refine ops_ex rfl (guard_none rfl) rfl rfl (ex_move rfl rfl) ?_
    refine ops_ex rfl (guard_none rfl) rfl rfl (ex_geq rfl rfl rfl) ?_
    refine ops_ex rfl (guard_none rfl) rfl rfl (ex_move rfl rfl) ?_
    refine bool_cases (decide (x1 ≤ x0)) (fun hg765 => ?_) (fun hg765 => ?_)
    · skip
      refine ops_ex rfl (guard_on rfl rfl rfl hg765) rfl rfl (ex_move rfl rfl) ?_
      refine ops_ex rfl (guard_on rfl rfl rfl hg765) rfl rfl (ex_move rfl rfl) ?_
      refine ops_ex rfl (guard_on rfl rfl rfl hg765) rfl rfl (ex_leq rfl rfl rfl) ?_
      refine ops_ex (v := .bool ((decide (x1 ≤ x0)) && (decide (x0 ≤ x2)))) rfl (guard_none rfl) rfl rfl (ex_pand_t rfl rfl hg765 rfl) ?_
      refine ops_ex rfl (guard_none rfl) rfl rfl (ex_assign rfl rfl) ?_
      refine ops_nil ?_
      exact at_meet [(6, .bool ((decide (x1 ≤ x0)) && (decide (x0 ≤ x2))))] ⟨rfl, HM⟩ (Sub.cons rfl Sub.nil)
    · skip
      refine ops_off rfl (guard_off rfl rfl rfl hg765) rfl rfl ?_
      refine ops_off rfl (guard_off rfl rfl rfl hg765) rfl rfl ?_
      refine ops_off rfl (guard_off rfl rfl rfl hg765) rfl rfl ?_
      have hg766 : ((decide (x1 ≤ x0)) && (decide (x0 ≤ x2))) = false := by simp only [hg765, Bool.and_true, Bool.true_and, Bool.and_false, Bool.false_and, Bool.or_true, Bool.true_or, Bool.or_false, Bool.false_or, Bool.not_true, Bool.not_false, Bool.not_not]
      refine ops_ex (v := .bool ((decide (x1 ≤ x0)) && (decide (x0 ≤ x2)))) rfl (guard_none rfl) rfl rfl (ex_pand_f rfl rfl hg765) ?_
      refine ops_ex rfl (guard_none rfl) rfl rfl (ex_assign rfl rfl) ?_
      refine ops_nil ?_
      exact at_meet [(6, .bool ((decide (x1 ≤ x0)) && (decide (x0 ≤ x2))))] ⟨rfl, HM⟩ (Sub.cons rfl Sub.nil)
  · rintro _ w767 ⟨rfl, HM⟩
    refine at_then ?_
    refine run_ret ?_
    have hR := Option.some.inj H
    subst hR
    exact at_ret1 rfl rfl ⟨_, rfl, rfl, HM⟩

def impl_isKey.f (k : Nat) (x0 : Int) : Option Bool := ((impl_within.f k x0 1 999).bind fun t770 => some t770)
theorem impl_isKey.calls {k : Nat} {x0 : Int}  {w : World}  {r : Bool} (H : impl_isKey.f k x0 = some r) :
    Calls Try.prog 86 ([.int .i64 x0] : List Value).toArray w (fun e w_ => ∃ v, e = .returned v ∧ v = (.bool r) ∧ Mem w [] w_ []) := by
  have HM := Mem.start w
  refine calls_run (N := 5) Try.func86 rfl rfl rfl rfl ?_
  unfold impl_isKey.f at H
  refine run_seq ?_
  refine run_region rfl ?_
  refine ops_ex rfl (guard_none rfl) rfl rfl (ex_assign rfl rfl) ?_
  refine ops_nil ?_
  refine at_then ?_
  refine run_seq ?_
  obtain ⟨t770, h771, H⟩ := bind_some H
  refine run_region rfl ?_
  refine ops_ex rfl (guard_none rfl) rfl rfl (ex_move rfl rfl) ?_
  refine ops_does rfl (guard_none rfl) rfl rfl (does_callk rfl callok81 rfl (impl_within.calls (x0 := x0) (x1 := 1) (x2 := 999) h771)) ?_
  rintro _ w772 ⟨rfl, hn⟩
  replace HM : Mem w [] w772 [] := HM.call hn
  refine ops_ex rfl (guard_none rfl) rfl rfl (ex_assign rfl rfl) ?_
  refine ops_nil ?_
  refine at_then ?_
  refine run_ret ?_
  have hR := Option.some.inj H
  subst hR
  exact at_ret1 rfl rfl ⟨_, rfl, rfl, HM⟩

def impl_isId.f (k : Nat) (x0 : Int) : Option Bool := ((impl_within.f k x0 1 60).bind fun t780 => some t780)
theorem impl_isId.calls {k : Nat} {x0 : Int}  {w : World}  {r : Bool} (H : impl_isId.f k x0 = some r) :
    Calls Try.prog 131 ([.int .i64 x0] : List Value).toArray w (fun e w_ => ∃ v, e = .returned v ∧ v = (.bool r) ∧ Mem w [] w_ []) := by
  have HM := Mem.start w
  refine calls_run (N := 5) Try.func131 rfl rfl rfl rfl ?_
  unfold impl_isId.f at H
  refine run_seq ?_
  refine run_region rfl ?_
  refine ops_ex rfl (guard_none rfl) rfl rfl (ex_assign rfl rfl) ?_
  refine ops_nil ?_
  refine at_then ?_
  refine run_seq ?_
  obtain ⟨t780, h781, H⟩ := bind_some H
  refine run_region rfl ?_
  refine ops_ex rfl (guard_none rfl) rfl rfl (ex_move rfl rfl) ?_
  refine ops_does rfl (guard_none rfl) rfl rfl (does_callk rfl callok81 rfl (impl_within.calls (x0 := x0) (x1 := 1) (x2 := 60) h781)) ?_
  rintro _ w782 ⟨rfl, hn⟩
  replace HM : Mem w [] w782 [] := HM.call hn
  refine ops_ex rfl (guard_none rfl) rfl rfl (ex_assign rfl rfl) ?_
  refine ops_nil ?_
  refine at_then ?_
  refine run_ret ?_
  have hR := Option.some.inj H
  subst hR
  exact at_ret1 rfl rfl ⟨_, rfl, rfl, HM⟩

def impl_isRef.f (k : Nat) (x0 : Ref) : Option Bool := ((impl_isId.f k x0.fTx).bind fun t791 => ((bif t791 then impl_within.f k x0.fAt 0 3 else some default).bind fun t793 => some (t791 && t793)))
theorem impl_isRef.calls {k : Nat} {x0 : Ref}  {w : World}  {r : Bool} (H : impl_isRef.f k x0 = some r) :
    Calls Try.prog 79 ([.agg #[(.int .i64 x0.fTx), (.int .i64 x0.fAt)]] : List Value).toArray w (fun e w_ => ∃ v, e = .returned v ∧ v = (.bool r) ∧ Mem w [] w_ []) := by
  have HM := Mem.start w
  refine calls_run (N := 11) Try.func79 rfl rfl rfl rfl ?_
  unfold impl_isRef.f at H
  refine run_seq ?_
  refine run_region rfl ?_
  refine ops_does rfl (guard_none rfl) rfl rfl (does_box (cs := [.int .i64 x0.fTx, .int .i64 x0.fAt]) rfl rfl rfl HM) ?_
  rintro _ w790 ⟨b787, rfl, HM⟩
  refine ops_ex rfl (guard_none rfl) rfl rfl (ex_assign rfl rfl) ?_
  refine ops_nil ?_
  refine at_then ?_
  refine run_seq ?_
  obtain ⟨t791, h792, H⟩ := bind_some H
  obtain ⟨t793, h794, H⟩ := bind_some H
  refine run_meet (fun ρ_ w_ => ρ_ = [(2, .bool (t791 && t793))] ∧ Mem w [] w_ []) ?_ ?_
  · skip
    refine run_region rfl ?_
    refine ops_ex rfl (guard_none rfl) rfl rfl (ex_fieldAddr (off' := 0) rfl rfl Try.underlying99 rfl tsz2 rfl) ?_
    refine ops_ex rfl (guard_none rfl) rfl rfl (ex_load1 rfl rfl Try.underlying2 rfl ((HM.box_at 0 rfl) 0 _ rfl)) ?_
    refine ops_does rfl (guard_none rfl) rfl rfl (does_callk rfl callok131 rfl (impl_isId.calls (x0 := x0.fTx) h792)) ?_
    rintro _ w795 ⟨rfl, hn⟩
    replace HM : Mem w [] w795 [box b787 99 [.int .i64 x0.fTx, .int .i64 x0.fAt]] := HM.call hn
    refine ops_ex rfl (guard_none rfl) rfl rfl (ex_move rfl rfl) ?_
    refine bool_cases t791 (fun hg796 => ?_) (fun hg796 => ?_)
    · skip
      refine ops_ex rfl (guard_on rfl rfl rfl hg796) rfl rfl (ex_fieldAddr (off' := 1) rfl rfl Try.underlying99 rfl tsz2 rfl) ?_
      refine ops_ex rfl (guard_on rfl rfl rfl hg796) rfl rfl (ex_load1 rfl rfl Try.underlying2 rfl ((HM.box_at 0 rfl) 1 _ rfl)) ?_
      refine ops_does rfl (guard_on rfl rfl rfl hg796) rfl rfl (does_callk rfl callok81 rfl (impl_within.calls (x0 := x0.fAt) (x1 := 0) (x2 := 3) (cond_t hg796 h794))) ?_
      rintro _ w797 ⟨rfl, hn⟩
      replace HM : Mem w [] w797 [box b787 99 [.int .i64 x0.fTx, .int .i64 x0.fAt]] := HM.call hn
      refine ops_ex (v := .bool (t791 && t793)) rfl (guard_none rfl) rfl rfl (ex_pand_t rfl rfl hg796 rfl) ?_
      refine ops_ex rfl (guard_none rfl) rfl rfl (ex_assign rfl rfl) ?_
      refine ops_nil ?_
      replace HM := (HM.front 0 rfl rfl).drop
      exact at_meet [(2, .bool (t791 && t793))] ⟨rfl, HM⟩ (Sub.cons rfl Sub.nil)
    · skip
      refine ops_off rfl (guard_off rfl rfl rfl hg796) rfl rfl ?_
      refine ops_off rfl (guard_off rfl rfl rfl hg796) rfl rfl ?_
      refine ops_off rfl (guard_off rfl rfl rfl hg796) rfl rfl ?_
      have hg798 : (t791 && t793) = false := by simp only [hg796, Bool.and_true, Bool.true_and, Bool.and_false, Bool.false_and, Bool.or_true, Bool.true_or, Bool.or_false, Bool.false_or, Bool.not_true, Bool.not_false, Bool.not_not]
      refine ops_ex (v := .bool (t791 && t793)) rfl (guard_none rfl) rfl rfl (ex_pand_f rfl rfl hg796) ?_
      refine ops_ex rfl (guard_none rfl) rfl rfl (ex_assign rfl rfl) ?_
      refine ops_nil ?_
      replace HM := (HM.front 0 rfl rfl).drop
      exact at_meet [(2, .bool (t791 && t793))] ⟨rfl, HM⟩ (Sub.cons rfl Sub.nil)
  · rintro _ w799 ⟨rfl, HM⟩
    refine at_then ?_
    refine run_ret ?_
    have hR := Option.some.inj H
    subst hR
    exact at_ret1 rfl rfl ⟨_, rfl, rfl, HM⟩

def impl_MembersFault_1.f (k : Nat) (x0 : Member) (x1 : Member) : Option Bool := some ((x0.fRef.fTx == x1.fRef.fTx) && (x0.fRef.fAt == x1.fRef.fAt))
theorem impl_MembersFault_1.calls {k : Nat} {x0 : Member} {x1 : Member} {b1 f1 : Nat} {w : World} (hc1 : CellsAt w b1 f1 [.int .i64 x1.fKey, .int .i64 x1.fRef.fTx, .int .i64 x1.fRef.fAt]) {r : Bool} (H : impl_MembersFault_1.f k x0 x1 = some r) :
    Calls Try.prog 146 ([.agg #[(.int .i64 x0.fKey), (.int .i64 x0.fRef.fTx), (.int .i64 x0.fRef.fAt)], .pointer (some ⟨b1, f1, none⟩)] : List Value).toArray w (fun e w_ => ∃ v, e = .returned v ∧ v = (.bool r) ∧ Mem w [] w_ []) := by
  have HM := Mem.start w
  refine calls_run (N := 9) Try.func146 rfl rfl rfl rfl ?_
  unfold impl_MembersFault_1.f at H
  refine run_seq ?_
  refine run_region rfl ?_
  refine ops_does rfl (guard_none rfl) rfl rfl (does_box (cs := [.int .i64 x0.fKey, .int .i64 x0.fRef.fTx, .int .i64 x0.fRef.fAt]) rfl rfl rfl HM) ?_
  rintro _ w871 ⟨b868, rfl, HM⟩
  refine ops_ex rfl (guard_none rfl) rfl rfl (ex_assign rfl rfl) ?_
  refine ops_nil ?_
  refine at_then ?_
  refine run_seq ?_
  refine run_region rfl ?_
  refine ops_ex rfl (guard_none rfl) rfl rfl (ex_fieldAddr (off' := 1) rfl rfl Try.underlying144 rfl tsz99 rfl) ?_
  refine ops_ex rfl (guard_none rfl) rfl rfl (ex_loadN (cs := [(.int .i64 x0.fRef.fTx), (.int .i64 x0.fRef.fAt)]) rfl rfl Try.underlying99 rfl tsz99 rfl ((HM.box_at 0 rfl).sub 1 2 rfl)) ?_
  refine ops_ex rfl (guard_none rfl) rfl rfl (ex_fieldAddr (off' := f1 + 1) rfl rfl Try.underlying144 rfl tsz99 rfl) ?_
  refine ops_ex rfl (guard_none rfl) rfl rfl (ex_loadN (cs := [(.int .i64 x1.fRef.fTx), (.int .i64 x1.fRef.fAt)]) rfl rfl Try.underlying99 rfl tsz99 rfl ((HM.at_ hc1).sub 1 2 rfl)) ?_
  refine ops_ex rfl (guard_none rfl) rfl rfl (ex_aeql rfl rfl rfl (by kernel_rfl) (eqs99 _ _ _ _ _)) ?_
  refine ops_ex rfl (guard_none rfl) rfl rfl (ex_assign rfl rfl) ?_
  refine ops_nil ?_
  refine at_then ?_
  refine run_ret ?_
  replace HM := (HM.front 0 rfl rfl).drop
  have hR := Option.some.inj H
  subst hR
  exact at_ret1 rfl rfl ⟨_, rfl, rfl, HM⟩

def slices_IndexFunc_impl_Member.l0 (x0 : List Member) (x1_0 : Member) : Nat → Int → Option (Int ⊕ Unit)
  | 0, _ => none
  | k + 1, a917 => (bif (decide (a917 < (x0.length : Int))) then (chk (idxOk a917 x0.length) ((impl_MembersFault_1.f k (gt x0 a917) x1_0).bind fun t929 => (bif t929 then some (.inl a917) else slices_IndexFunc_impl_Member.l0 x0 x1_0 k (wrap64 (a917 + 1))))) else some (.inr ()))
theorem slices_IndexFunc_impl_Member.l0_z (x0 : List Member) (x1_0 : Member) (a917 : Int) : slices_IndexFunc_impl_Member.l0 x0 x1_0 0 a917 = none := rfl
theorem slices_IndexFunc_impl_Member.l0_s (x0 : List Member) (x1_0 : Member) (k : Nat) (a917 : Int) : slices_IndexFunc_impl_Member.l0 x0 x1_0 (k + 1) a917 = (bif (decide (a917 < (x0.length : Int))) then (chk (idxOk a917 x0.length) ((impl_MembersFault_1.f k (gt x0 a917) x1_0).bind fun t929 => (bif t929 then some (.inl a917) else slices_IndexFunc_impl_Member.l0 x0 x1_0 k (wrap64 (a917 + 1))))) else some (.inr ())) := rfl
def slices_IndexFunc_impl_Member.f (k : Nat) (x0 : List Member) (x1_0 : Member) : Option Int := ((slices_IndexFunc_impl_Member.l0 x0 x1_0 k 0).bind fun o909 => thn o909 (fun r => some r) (fun _ => some (-1)))
theorem slices_IndexFunc_impl_Member.calls {k : Nat} {x0 : List Member} {x1_0 : Member} {p0 : Value} {b1_0 f1_0 : Nat} {w : World} (hp0 : RdS kMember w p0 x0) (hc1_0 : CellsAt w b1_0 f1_0 [.int .i64 x1_0.fKey, .int .i64 x1_0.fRef.fTx, .int .i64 x1_0.fRef.fAt]) {r : Int} (H : slices_IndexFunc_impl_Member.f k x0 x1_0 = some r) :
    Calls Try.prog 166 ([p0, .func (.func 146) #[] #[(.pointer (some ⟨b1_0, f1_0, none⟩))]] : List Value).toArray w (fun e w_ => ∃ v, e = .returned v ∧ v = (.int .i64 r) ∧ Mem w [] w_ []) := by
  have HM := Mem.start w
  refine calls_run (N := 19) Try.func166 rfl rfl rfl rfl ?_
  unfold slices_IndexFunc_impl_Member.f at H
  refine run_seq ?_
  refine run_region rfl ?_
  refine ops_ex rfl (guard_none rfl) rfl rfl (ex_assign rfl rfl) ?_
  refine ops_nil ?_
  refine at_then ?_
  obtain ⟨o909, ho910, H⟩ := bind_some H
  refine run_mid (fun ρ_ w_ => Sum.inr () = o909 ∧ ρ_ = [] ∧ Mem w [] w_ []) ?_ ?_
  · skip
    refine run_seq ?_
    refine run_region rfl ?_
    refine ops_ex rfl (guard_none rfl) rfl rfl (ex_move rfl rfl) ?_
    refine ops_ex rfl (guard_none rfl) rfl rfl (ex_len (d := kMember) (xs := x0) rfl rfl Try.underlying49 hp0) ?_
    refine ops_ex rfl (guard_none rfl) rfl rfl (ex_move rfl rfl) ?_
    refine ops_nil ?_
    refine at_then ?_
    refine run_block ?_
    refine run_loop (fun k_ ρ_ w_ => ∃ a917 : Int, slices_IndexFunc_impl_Member.l0 x0 x1_0 k_ a917 = some o909 ∧ ρ_ = [(0, p0), (1, .func (.func 146) #[] #[(.pointer (some ⟨b1_0, f1_0, none⟩))]), (7, .int .i64 (x0.length : Int)), (8, .int .i64 a917)] ∧ Mem w [] w_ []) k (ρ1 := [(0, p0), (1, .func (.func 146) #[] #[(.pointer (some ⟨b1_0, f1_0, none⟩))]), (7, .int .i64 (x0.length : Int)), (8, .int .i64 0)]) ⟨_, ho910, rfl, HM⟩ (Sub.cons rfl (Sub.cons rfl (Sub.cons rfl (Sub.cons rfl Sub.nil)))) ?_
    clear HM ho910
    rintro k924 _ w925 ⟨a917, ho910, rfl, HM⟩
    obtain _ | k924 := k924
    · exact nomatch ((slices_IndexFunc_impl_Member.l0_z x0 x1_0 a917).symm.trans ho910)
    replace ho910 := (slices_IndexFunc_impl_Member.l0_s x0 x1_0 k924 a917).symm.trans ho910
    refine run_seq ?_
    refine run_region rfl ?_
    refine ops_ex rfl (guard_none rfl) rfl rfl (ex_lss rfl rfl rfl) ?_
    refine ops_nil ?_
    refine at_then ?_
    refine run_seq ?_
    refine run_cond (b := (decide (a917 < (x0.length : Int)))) rfl (fun hb926 => ?_) (fun hb926 => ?_)
    · replace ho910 := cond_t hb926 ho910
      refine run_skip ?_
      refine at_then ?_
      refine run_seq ?_
      refine run_block ?_
      refine run_seq ?_
      refine run_region rfl ?_
      refine ops_ex rfl (guard_none rfl) rfl rfl (ex_move rfl rfl) ?_
      refine ops_ex rfl (guard_none rfl) rfl rfl (ex_assign rfl rfl) ?_
      refine ops_nil ?_
      refine at_then ?_
      refine run_seq ?_
      obtain ⟨e927, ho910⟩ := chk_some ho910
      obtain ⟨t929, h930, ho910⟩ := bind_some ho910
      refine run_region rfl ?_
      refine ops_ex rfl (guard_none rfl) rfl rfl (ex_move rfl rfl) ?_
      refine ops_ex rfl (guard_none rfl) rfl rfl (ex_move rfl rfl) ?_
      refine ops_ex rfl (guard_none rfl) rfl rfl (ex_move rfl rfl) ?_
      have hc928 : CellsAt _ (sb p0) (so p0 + (a917).toNat * 3) [(.int .i64 ((gt x0 a917).fKey)), (.int .i64 ((gt x0 a917).fRef.fTx)), (.int .i64 ((gt x0 a917).fRef.fAt))] := rd_plain hp0 e927
      refine ops_ex rfl (guard_none rfl) rfl rfl (ex_indexAddr (d := kMember) rfl rfl rfl Try.underlying49 tsz144 hp0 (idx_lo e927) (idx_hi e927)) ?_
      refine ops_ex rfl (guard_none rfl) rfl rfl (ex_loadN (cs := [(.int .i64 ((gt x0 a917).fKey)), (.int .i64 ((gt x0 a917).fRef.fTx)), (.int .i64 ((gt x0 a917).fRef.fAt))]) rfl rfl Try.underlying144 rfl tsz144 rfl ((HM.at_ hc928).sub 0 3 rfl)) ?_
      refine ops_does rfl (guard_none rfl) rfl rfl (does_callvk rfl callok146 rfl rfl rfl (impl_MembersFault_1.calls (x0 := (gt x0 a917)) (x1 := x1_0) (HM.at_ hc1_0) h930)) ?_
      rintro _ w931 ⟨rfl, hn⟩
      replace HM : Mem w [] w931 [] := HM.call hn
      refine ops_nil ?_
      refine at_then ?_
      refine run_cond (b := t929) rfl (fun hb932 => ?_) (fun hb932 => ?_)
      · replace ho910 := cond_t hb932 ho910
        refine run_seq ?_
        refine run_region rfl ?_
        refine ops_ex rfl (guard_none rfl) rfl rfl (ex_move rfl rfl) ?_
        refine ops_ex rfl (guard_none rfl) rfl rfl (ex_assign rfl rfl) ?_
        refine ops_nil ?_
        refine at_then ?_
        refine run_ret ?_
        refine at_block_ret ?_
        refine at_then_ret ?_
        refine at_then_ret ?_
        refine at_block_ret ?_
        refine at_then_ret ?_
        have hR := Option.some.inj ho910
        subst hR
        have hT := thn_inl H
        have hR := Option.some.inj hT
        subst hR
        exact at_ret1 rfl rfl ⟨_, rfl, rfl, HM⟩
      · replace ho910 := cond_f hb932 ho910
        refine run_skip ?_
        refine at_block ?_
        refine at_then ?_
        refine run_region rfl ?_
        refine ops_ex rfl (guard_none rfl) rfl rfl (ex_add rfl rfl rfl) ?_
        refine ops_ex rfl (guard_none rfl) rfl rfl (ex_move rfl rfl) ?_
        refine ops_nil ?_
        exact at_again k924 (ρ1 := [(0, p0), (1, .func (.func 146) #[] #[(.pointer (some ⟨b1_0, f1_0, none⟩))]), (7, .int .i64 (x0.length : Int)), (8, .int .i64 (wrap64 (a917 + 1)))]) (Nat.lt_succ_self _) ⟨_, ho910, rfl, HM⟩ (Sub.cons rfl (Sub.cons rfl (Sub.cons rfl (Sub.cons rfl Sub.nil))))
    · replace ho910 := cond_f hb926 ho910
      refine run_exit ?_
      refine at_then_exit ?_
      refine at_then_exit ?_
      refine at_block_exit ?_
      exact at_mid (ρ' := []) ⟨(Option.some.inj ho910), rfl, HM⟩ Sub.nil
  · rintro _ w933 ⟨rfl, rfl, HM⟩
    replace H := (thn_inr H)
    refine run_seq ?_
    refine run_region rfl ?_
    refine ops_ex rfl (guard_none rfl) rfl rfl (ex_assign rfl rfl) ?_
    refine ops_nil ?_
    refine at_then ?_
    refine run_ret ?_
    have hR := Option.some.inj H
    subst hR
    exact at_ret1 rfl rfl ⟨_, rfl, rfl, HM⟩

def slices_ContainsFunc_impl_Member.f (k : Nat) (x0 : List Member) (x1_0 : Member) : Option Bool := ((slices_IndexFunc_impl_Member.f k x0 x1_0).bind fun t936 => some (decide (0 ≤ t936)))
theorem slices_ContainsFunc_impl_Member.calls {k : Nat} {x0 : List Member} {x1_0 : Member} {p0 : Value} {b1_0 f1_0 : Nat} {w : World} (hp0 : RdS kMember w p0 x0) (hc1_0 : CellsAt w b1_0 f1_0 [.int .i64 x1_0.fKey, .int .i64 x1_0.fRef.fTx, .int .i64 x1_0.fRef.fAt]) {r : Bool} (H : slices_ContainsFunc_impl_Member.f k x0 x1_0 = some r) :
    Calls Try.prog 145 ([p0, .func (.func 146) #[] #[(.pointer (some ⟨b1_0, f1_0, none⟩))]] : List Value).toArray w (fun e w_ => ∃ v, e = .returned v ∧ v = (.bool r) ∧ Mem w [] w_ []) := by
  have HM := Mem.start w
  refine calls_run (N := 9) Try.func145 rfl rfl rfl rfl ?_
  unfold slices_ContainsFunc_impl_Member.f at H
  refine run_seq ?_
  refine run_region rfl ?_
  refine ops_ex rfl (guard_none rfl) rfl rfl (ex_assign rfl rfl) ?_
  refine ops_nil ?_
  refine at_then ?_
  refine run_seq ?_
  obtain ⟨t936, h937, H⟩ := bind_some H
  refine run_region rfl ?_
  refine ops_ex rfl (guard_none rfl) rfl rfl (ex_move rfl rfl) ?_
  refine ops_ex rfl (guard_none rfl) rfl rfl (ex_move rfl rfl) ?_
  refine ops_does rfl (guard_none rfl) rfl rfl (does_callk rfl callok166 rfl (slices_IndexFunc_impl_Member.calls (x0 := x0) (x1_0 := x1_0) (HM.rd hp0) (HM.at_ hc1_0) h937)) ?_
  rintro _ w938 ⟨rfl, hn⟩
  replace HM : Mem w [] w938 [] := HM.call hn
  refine ops_ex rfl (guard_none rfl) rfl rfl (ex_geq rfl rfl rfl) ?_
  refine ops_ex rfl (guard_none rfl) rfl rfl (ex_assign rfl rfl) ?_
  refine ops_nil ?_
  refine at_then ?_
  refine run_ret ?_
  have hR := Option.some.inj H
  subst hR
  exact at_ret1 rfl rfl ⟨_, rfl, rfl, HM⟩

def impl_MembersFault.l0 (x0 : List Member) : Nat → Int → Option (Int ⊕ Unit)
  | 0, _ => none
  | k + 1, a1052 => (bif (decide (a1052 < (x0.length : Int))) then (chk (idxOk a1052 x0.length) ((impl_isKey.f k ((gt x0 a1052).fKey)).bind fun t1087 => ((bif (!(!t1087)) then impl_isRef.f k ((gt x0 a1052).fRef) else some default).bind fun t1089 => (bif ((!t1087) || (!t1089)) then some (.inl 3) else (chk (!(decide (0 < a1052)) || (idxOk (wrap64 (a1052 - 1)) x0.length)) (bif ((decide (0 < a1052)) && (decide (((gt x0 a1052).fKey) ≤ ((gt x0 (wrap64 (a1052 - 1))).fKey)))) then some (.inl 1) else impl_MembersFault.l0 x0 k (wrap64 (a1052 + 1)))))))) else some (.inr ()))
theorem impl_MembersFault.l0_z (x0 : List Member) (a1052 : Int) : impl_MembersFault.l0 x0 0 a1052 = none := rfl
theorem impl_MembersFault.l0_s (x0 : List Member) (k : Nat) (a1052 : Int) : impl_MembersFault.l0 x0 (k + 1) a1052 = (bif (decide (a1052 < (x0.length : Int))) then (chk (idxOk a1052 x0.length) ((impl_isKey.f k ((gt x0 a1052).fKey)).bind fun t1087 => ((bif (!(!t1087)) then impl_isRef.f k ((gt x0 a1052).fRef) else some default).bind fun t1089 => (bif ((!t1087) || (!t1089)) then some (.inl 3) else (chk (!(decide (0 < a1052)) || (idxOk (wrap64 (a1052 - 1)) x0.length)) (bif ((decide (0 < a1052)) && (decide (((gt x0 a1052).fKey) ≤ ((gt x0 (wrap64 (a1052 - 1))).fKey)))) then some (.inl 1) else impl_MembersFault.l0 x0 k (wrap64 (a1052 + 1)))))))) else some (.inr ())) := rfl
def impl_MembersFault.l1 (x0 : List Member) : Nat → Int → Option (Int ⊕ Unit)
  | 0, _ => none
  | k + 1, a1159 => (bif (decide (a1159 < (x0.length : Int))) then (chk (idxOk a1159 x0.length) (chk (cutOk a1159 x0.length) ((slices_ContainsFunc_impl_Member.f k (x0.take (a1159).toNat) (gt x0 a1159)).bind fun t1187 => (bif t1187 then some (.inl 7) else impl_MembersFault.l1 x0 k (wrap64 (a1159 + 1)))))) else some (.inr ()))
theorem impl_MembersFault.l1_z (x0 : List Member) (a1159 : Int) : impl_MembersFault.l1 x0 0 a1159 = none := rfl
theorem impl_MembersFault.l1_s (x0 : List Member) (k : Nat) (a1159 : Int) : impl_MembersFault.l1 x0 (k + 1) a1159 = (bif (decide (a1159 < (x0.length : Int))) then (chk (idxOk a1159 x0.length) (chk (cutOk a1159 x0.length) ((slices_ContainsFunc_impl_Member.f k (x0.take (a1159).toNat) (gt x0 a1159)).bind fun t1187 => (bif t1187 then some (.inl 7) else impl_MembersFault.l1 x0 k (wrap64 (a1159 + 1)))))) else some (.inr ())) := rfl
def impl_MembersFault.f (k : Nat) (x0 : List Member) : Option Int := (bif (decide (8 < (x0.length : Int))) then some 2 else ((impl_MembersFault.l0 x0 k 0).bind fun o1031 => thn o1031 (fun r => some r) (fun _ => ((impl_MembersFault.l1 x0 k 0).bind fun o1144 => thn o1144 (fun r => some r) (fun _ => some 0)))))
theorem impl_MembersFault.calls {k : Nat} {x0 : List Member} {p0 : Value} {w : World} (hp0 : RdS kMember w p0 x0) {r : Int} (H : impl_MembersFault.f k x0 = some r) :
    Calls Try.prog 98 ([p0] : List Value).toArray w (fun e w_ => ∃ v, e = .returned v ∧ v = (.int .i64 r) ∧ Mem w [] w_ []) := by
  have HM := Mem.start w
  refine calls_run (N := 54) Try.func98 rfl rfl rfl rfl ?_
  unfold impl_MembersFault.f at H
  refine run_seq ?_
  refine run_region rfl ?_
  refine ops_ex rfl (guard_none rfl) rfl rfl (ex_assign rfl rfl) ?_
  refine ops_nil ?_
  refine at_then ?_
  refine run_seq ?_
  refine run_seq ?_
  refine run_region rfl ?_
  refine ops_ex rfl (guard_none rfl) rfl rfl (ex_move rfl rfl) ?_
  refine ops_ex rfl (guard_none rfl) rfl rfl (ex_len (d := kMember) (xs := x0) rfl rfl Try.underlying49 hp0) ?_
  refine ops_ex rfl (guard_none rfl) rfl rfl (ex_gtr rfl rfl rfl) ?_
  refine ops_nil ?_
  refine at_then ?_
  refine run_cond (b := (decide (8 < (x0.length : Int)))) rfl (fun hb972 => ?_) (fun hb972 => ?_)
  · replace H := cond_t hb972 H
    refine run_seq ?_
    refine run_region rfl ?_
    refine ops_ex rfl (guard_none rfl) rfl rfl (ex_assign rfl rfl) ?_
    refine ops_nil ?_
    refine at_then ?_
    refine run_ret ?_
    refine at_then_ret ?_
    have hR := Option.some.inj H
    subst hR
    exact at_ret1 rfl rfl ⟨_, rfl, rfl, HM⟩
  · replace H := cond_f hb972 H
    refine run_skip ?_
    refine at_then ?_
    obtain ⟨o1031, ho1032, H⟩ := bind_some H
    refine run_mid (fun ρ_ w_ => Sum.inr () = o1031 ∧ ρ_ = [(0, p0)] ∧ Mem w [] w_ []) ?_ ?_
    · skip
      refine run_seq ?_
      refine run_region rfl ?_
      refine ops_ex rfl (guard_none rfl) rfl rfl (ex_move rfl rfl) ?_
      refine ops_ex rfl (guard_none rfl) rfl rfl (ex_len (d := kMember) (xs := x0) rfl rfl Try.underlying49 hp0) ?_
      refine ops_ex rfl (guard_none rfl) rfl rfl (ex_move rfl rfl) ?_
      refine ops_nil ?_
      refine at_then ?_
      refine run_block ?_
      refine run_loop (fun k_ ρ_ w_ => ∃ a1052 : Int, impl_MembersFault.l0 x0 k_ a1052 = some o1031 ∧ ρ_ = [(0, p0), (10, p0), (11, .int .i64 (x0.length : Int)), (12, .int .i64 a1052)] ∧ Mem w [] w_ []) k (ρ1 := [(0, p0), (10, p0), (11, .int .i64 (x0.length : Int)), (12, .int .i64 0)]) ⟨_, ho1032, rfl, HM⟩ (Sub.cons rfl (Sub.cons rfl (Sub.cons rfl (Sub.cons rfl Sub.nil)))) ?_
      clear HM ho1032
      rintro k1072 _ w1073 ⟨a1052, ho1032, rfl, HM⟩
      obtain _ | k1072 := k1072
      · exact nomatch ((impl_MembersFault.l0_z x0 a1052).symm.trans ho1032)
      replace ho1032 := (impl_MembersFault.l0_s x0 k1072 a1052).symm.trans ho1032
      refine run_seq ?_
      refine run_region rfl ?_
      refine ops_ex rfl (guard_none rfl) rfl rfl (ex_lss rfl rfl rfl) ?_
      refine ops_nil ?_
      refine at_then ?_
      refine run_seq ?_
      refine run_cond (b := (decide (a1052 < (x0.length : Int)))) rfl (fun hb1074 => ?_) (fun hb1074 => ?_)
      · replace ho1032 := cond_t hb1074 ho1032
        refine run_skip ?_
        refine at_then ?_
        refine run_seq ?_
        refine run_block ?_
        refine run_seq ?_
        obtain ⟨e1075, ho1032⟩ := chk_some ho1032
        refine run_region rfl ?_
        refine ops_ex rfl (guard_none rfl) rfl rfl (ex_move rfl rfl) ?_
        have hc1076 : CellsAt _ (sb p0) (so p0 + (a1052).toNat * 3) [(.int .i64 ((gt x0 a1052).fKey)), (.int .i64 ((gt x0 a1052).fRef.fTx)), (.int .i64 ((gt x0 a1052).fRef.fAt))] := rd_plain hp0 e1075
        refine ops_ex rfl (guard_none rfl) rfl rfl (ex_indexAddr (d := kMember) rfl rfl rfl Try.underlying49 tsz144 hp0 (idx_lo e1075) (idx_hi e1075)) ?_
        refine ops_ex rfl (guard_none rfl) rfl rfl (ex_loadN (cs := [(.int .i64 ((gt x0 a1052).fKey)), (.int .i64 ((gt x0 a1052).fRef.fTx)), (.int .i64 ((gt x0 a1052).fRef.fAt))]) rfl rfl Try.underlying144 rfl tsz144 rfl ((HM.at_ hc1076).sub 0 3 rfl)) ?_
        refine ops_does rfl (guard_none rfl) rfl rfl (does_alloc (cs := [.int .i64 0, .int .i64 0, .int .i64 0]) rfl tz144 rfl HM) ?_
        rintro _ w1080 ⟨b1077, rfl, HM⟩
        refine ops_ex rfl (guard_none rfl) rfl rfl (ex_assign rfl rfl) ?_
        refine ops_doesS rfl (guard_none rfl) rfl (does_store (vs := [.int .i64 ((gt x0 a1052).fKey), .int .i64 ((gt x0 a1052).fRef.fTx), .int .i64 ((gt x0 a1052).fRef.fAt)]) (cs' := [.int .i64 ((gt x0 a1052).fKey), .int .i64 ((gt x0 a1052).fRef.fTx), .int .i64 ((gt x0 a1052).fRef.fAt)]) rfl rfl rfl rfl tsz144 (Ones.int (Ones.int (Ones.int Ones.nil))) rfl rfl HM) ?_
        rintro w1081 HM
        refine ops_nil ?_
        refine at_then ?_
        refine run_seq ?_
        refine run_seq ?_
        obtain ⟨t1087, h1088, ho1032⟩ := bind_some ho1032
        obtain ⟨t1089, h1090, ho1032⟩ := bind_some ho1032
        refine run_meet (fun ρ_ w_ => ρ_ = [(0, p0), (10, p0), (11, .int .i64 (x0.length : Int)), (12, .int .i64 a1052), (4, .pointer (some ⟨b1077, 0, none⟩)), (3, .int .i64 a1052), (26, .bool ((!t1087) || (!t1089)))] ∧ Mem w [] w_ [box b1077 144 [.int .i64 ((gt x0 a1052).fKey), .int .i64 ((gt x0 a1052).fRef.fTx), .int .i64 ((gt x0 a1052).fRef.fAt)]]) ?_ ?_
        · skip
          refine run_region rfl ?_
          refine ops_ex rfl (guard_none rfl) rfl rfl (ex_fieldAddr (off' := 0) rfl rfl Try.underlying144 rfl tsz2 rfl) ?_
          refine ops_ex rfl (guard_none rfl) rfl rfl (ex_load1 rfl rfl Try.underlying2 rfl ((HM.box_at 0 rfl) 0 _ rfl)) ?_
          refine ops_does rfl (guard_none rfl) rfl rfl (does_callk rfl callok86 rfl (impl_isKey.calls (x0 := (gt x0 a1052).fKey) h1088)) ?_
          rintro _ w1091 ⟨rfl, hn⟩
          replace HM : Mem w [] w1091 [box b1077 144 [.int .i64 ((gt x0 a1052).fKey), .int .i64 ((gt x0 a1052).fRef.fTx), .int .i64 ((gt x0 a1052).fRef.fAt)]] := HM.call hn
          refine ops_ex rfl (guard_none rfl) rfl rfl (ex_not rfl rfl) ?_
          refine ops_ex rfl (guard_none rfl) rfl rfl (ex_move rfl rfl) ?_
          refine bool_cases (!t1087) (fun hg1092 => ?_) (fun hg1092 => ?_)
          · skip
            refine ops_off rfl (guard_off rfl rfl rfl hg1092) rfl rfl ?_
            refine ops_off rfl (guard_off rfl rfl rfl hg1092) rfl rfl ?_
            refine ops_off rfl (guard_off rfl rfl rfl hg1092) rfl rfl ?_
            refine ops_off rfl (guard_off rfl rfl rfl hg1092) rfl rfl ?_
            have hg1093 : ((!t1087) || (!t1089)) = true := by simp only [hg1092, Bool.and_true, Bool.true_and, Bool.and_false, Bool.false_and, Bool.or_true, Bool.true_or, Bool.or_false, Bool.false_or, Bool.not_true, Bool.not_false, Bool.not_not]
            refine ops_ex (v := .bool ((!t1087) || (!t1089))) rfl (guard_none rfl) rfl rfl (ex_por_t rfl rfl hg1092) ?_
            refine ops_nil ?_
            exact at_meet [(0, p0), (10, p0), (11, .int .i64 (x0.length : Int)), (12, .int .i64 a1052), (4, .pointer (some ⟨b1077, 0, none⟩)), (3, .int .i64 a1052), (26, .bool ((!t1087) || (!t1089)))] ⟨rfl, HM⟩ (Sub.cons rfl (Sub.cons rfl (Sub.cons rfl (Sub.cons rfl (Sub.cons rfl (Sub.cons rfl (Sub.cons rfl Sub.nil)))))))
          · skip
            refine ops_ex rfl (guard_on rfl rfl rfl hg1092) rfl rfl (ex_fieldAddr (off' := 1) rfl rfl Try.underlying144 rfl tsz99 rfl) ?_
            refine ops_ex rfl (guard_on rfl rfl rfl hg1092) rfl rfl (ex_loadN (cs := [(.int .i64 ((gt x0 a1052).fRef.fTx)), (.int .i64 ((gt x0 a1052).fRef.fAt))]) rfl rfl Try.underlying99 rfl tsz99 rfl ((HM.box_at 0 rfl).sub 1 2 rfl)) ?_
            refine ops_does rfl (guard_on rfl rfl rfl hg1092) rfl rfl (does_callk rfl callok79 rfl (impl_isRef.calls (x0 := (gt x0 a1052).fRef) (cond_t (not_mk hg1092) h1090))) ?_
            rintro _ w1094 ⟨rfl, hn⟩
            replace HM : Mem w [] w1094 [box b1077 144 [.int .i64 ((gt x0 a1052).fKey), .int .i64 ((gt x0 a1052).fRef.fTx), .int .i64 ((gt x0 a1052).fRef.fAt)]] := HM.call hn
            refine ops_ex rfl (guard_on rfl rfl rfl hg1092) rfl rfl (ex_not rfl rfl) ?_
            refine ops_ex (v := .bool ((!t1087) || (!t1089))) rfl (guard_none rfl) rfl rfl (ex_por_f rfl rfl hg1092 rfl) ?_
            refine ops_nil ?_
            exact at_meet [(0, p0), (10, p0), (11, .int .i64 (x0.length : Int)), (12, .int .i64 a1052), (4, .pointer (some ⟨b1077, 0, none⟩)), (3, .int .i64 a1052), (26, .bool ((!t1087) || (!t1089)))] ⟨rfl, HM⟩ (Sub.cons rfl (Sub.cons rfl (Sub.cons rfl (Sub.cons rfl (Sub.cons rfl (Sub.cons rfl (Sub.cons rfl Sub.nil)))))))
        · rintro _ w1095 ⟨rfl, HM⟩
          refine at_then ?_
          refine run_cond (b := ((!t1087) || (!t1089))) rfl (fun hb1096 => ?_) (fun hb1096 => ?_)
          · replace ho1032 := cond_t hb1096 ho1032
            refine run_seq ?_
            refine run_region rfl ?_
            refine ops_ex rfl (guard_none rfl) rfl rfl (ex_assign rfl rfl) ?_
            refine ops_nil ?_
            refine at_then ?_
            refine run_ret ?_
            refine at_then_ret ?_
            refine at_block_ret ?_
            refine at_then_ret ?_
            refine at_then_ret ?_
            refine at_block_ret ?_
            refine at_then_ret ?_
            replace HM := (HM.front 0 rfl rfl).drop
            have hR := Option.some.inj ho1032
            subst hR
            have hT := thn_inl H
            have hR := Option.some.inj hT
            subst hR
            exact at_ret1 rfl rfl ⟨_, rfl, rfl, HM⟩
          · replace ho1032 := cond_f hb1096 ho1032
            refine run_skip ?_
            refine at_then ?_
            refine run_seq ?_
            obtain ⟨e1097, ho1032⟩ := chk_some ho1032
            refine run_meet (fun ρ_ w_ => ρ_ = [(0, p0), (10, p0), (11, .int .i64 (x0.length : Int)), (12, .int .i64 a1052), (39, .bool ((decide (0 < a1052)) && (decide (((gt x0 a1052).fKey) ≤ ((gt x0 (wrap64 (a1052 - 1))).fKey)))))] ∧ Mem w [] w_ []) ?_ ?_
            · skip
              refine run_drawf (fun w_ => Mem w [] w_ [box b1077 144 [.int .i64 ((gt x0 a1052).fKey), .int .i64 ((gt x0 a1052).fRef.fTx), .int .i64 ((gt x0 a1052).fRef.fAt)]]) [(0, true), (1, true), (2, true), (3, true), (4, true), (5, true), (6, true), (7, true), (8, true), (9, true), (10, true), (11, true), (12, true)] mixed rfl rfl (by kernel_rfl) ?_
              replace HM := HM.grow (fr_drew _)
              have hS := Mem.suf (M := []) HM
              refine drwp_take rfl (guard_none rfl) rfl rfl (fun w_ hS_ => (ex_move rfl rfl)) hS ?_
              refine drwp_take rfl (guard_none rfl) rfl rfl (fun w_ hS_ => (ex_gtr rfl rfl rfl)) hS ?_
              refine drwp_take rfl (guard_none rfl) rfl rfl (fun w_ hS_ => (ex_move rfl rfl)) hS ?_
              refine bool_cases (decide (0 < a1052)) (fun hg1099 => ?_) (fun hg1099 => ?_)
              · skip
                refine drwp_take rfl (guard_on rfl rfl rfl hg1099) rfl rfl (fun w_ hS_ => (ex_fieldAddr (off' := 0) rfl rfl Try.underlying144 rfl tsz2 rfl)) hS ?_
                refine drwp_take rfl (guard_on rfl rfl rfl hg1099) rfl rfl (fun w_ hS_ => (ex_load1 rfl rfl Try.underlying2 rfl ((hS_.box_at 0 rfl) 0 _ rfl))) hS ?_
                refine drwp_take rfl (guard_on rfl rfl rfl hg1099) rfl rfl (fun w_ hS_ => (ex_move rfl rfl)) hS ?_
                refine drwp_take rfl (guard_on rfl rfl rfl hg1099) rfl rfl (fun w_ hS_ => (ex_move rfl rfl)) hS ?_
                refine drwp_take rfl (guard_on rfl rfl rfl hg1099) rfl rfl (fun w_ hS_ => (ex_sub rfl rfl rfl)) hS ?_
                have hc1098 : CellsAt _ (sb p0) (so p0 + (wrap64 (a1052 - 1)).toNat * 3) [(.int .i64 ((gt x0 (wrap64 (a1052 - 1))).fKey)), (.int .i64 ((gt x0 (wrap64 (a1052 - 1))).fRef.fTx)), (.int .i64 ((gt x0 (wrap64 (a1052 - 1))).fRef.fAt))] := rd_plain hp0 (or_t e1097 hg1099)
                refine drwp_take rfl (guard_on rfl rfl rfl hg1099) rfl rfl (fun w_ hS_ => (ex_indexAddr (d := kMember) rfl rfl rfl Try.underlying49 tsz144 hp0 (idx_lo (or_t e1097 hg1099)) (idx_hi (or_t e1097 hg1099)))) hS ?_
                refine drwp_take rfl (guard_on rfl rfl rfl hg1099) rfl rfl (fun w_ hS_ => (ex_fieldAddr (off' := so p0 + (wrap64 (a1052 - 1)).toNat * 3) rfl rfl Try.underlying144 rfl tsz2 rfl)) hS ?_
                refine drwp_take rfl (guard_on rfl rfl rfl hg1099) rfl rfl (fun w_ hS_ => (ex_load1 rfl rfl Try.underlying2 rfl ((hS_.at_ hc1098) 0 _ rfl))) hS ?_
                refine drwp_take rfl (guard_on rfl rfl rfl hg1099) rfl rfl (fun w_ hS_ => (ex_leq rfl rfl rfl)) hS ?_
                refine drwp_take (v := .bool ((decide (0 < a1052)) && (decide (((gt x0 a1052).fKey) ≤ ((gt x0 (wrap64 (a1052 - 1))).fKey))))) rfl (guard_none rfl) rfl rfl (fun w_ hS_ => (ex_pand_t rfl rfl hg1099 rfl)) hS ?_
                refine drwp_done ?_
                replace HM := (HM.front 0 rfl rfl).drop
                exact at_meet [(0, p0), (10, p0), (11, .int .i64 (x0.length : Int)), (12, .int .i64 a1052), (39, .bool ((decide (0 < a1052)) && (decide (((gt x0 a1052).fKey) ≤ ((gt x0 (wrap64 (a1052 - 1))).fKey)))))] ⟨rfl, HM⟩ (Sub.cons rfl (Sub.cons rfl (Sub.cons rfl (Sub.cons rfl (Sub.cons rfl Sub.nil)))))
              · skip
                refine drwp_off rfl (guard_off rfl rfl rfl hg1099) rfl rfl hS ?_
                refine drwp_off rfl (guard_off rfl rfl rfl hg1099) rfl rfl hS ?_
                refine drwp_off rfl (guard_off rfl rfl rfl hg1099) rfl rfl hS ?_
                refine drwp_off rfl (guard_off rfl rfl rfl hg1099) rfl rfl hS ?_
                refine drwp_off rfl (guard_off rfl rfl rfl hg1099) rfl rfl hS ?_
                refine drwp_off rfl (guard_off rfl rfl rfl hg1099) rfl rfl hS ?_
                refine drwp_off rfl (guard_off rfl rfl rfl hg1099) rfl rfl hS ?_
                refine drwp_off rfl (guard_off rfl rfl rfl hg1099) rfl rfl hS ?_
                refine drwp_off rfl (guard_off rfl rfl rfl hg1099) rfl rfl hS ?_
                have hg1100 : ((decide (0 < a1052)) && (decide (((gt x0 a1052).fKey) ≤ ((gt x0 (wrap64 (a1052 - 1))).fKey)))) = false := by simp only [hg1099, Bool.and_true, Bool.true_and, Bool.and_false, Bool.false_and, Bool.or_true, Bool.true_or, Bool.or_false, Bool.false_or, Bool.not_true, Bool.not_false, Bool.not_not]
                refine drwp_take (v := .bool ((decide (0 < a1052)) && (decide (((gt x0 a1052).fKey) ≤ ((gt x0 (wrap64 (a1052 - 1))).fKey))))) rfl (guard_none rfl) rfl rfl (fun w_ hS_ => (ex_pand_f rfl rfl hg1099)) hS ?_
                refine drwp_done ?_
                replace HM := (HM.front 0 rfl rfl).drop
                exact at_meet [(0, p0), (10, p0), (11, .int .i64 (x0.length : Int)), (12, .int .i64 a1052), (39, .bool ((decide (0 < a1052)) && (decide (((gt x0 a1052).fKey) ≤ ((gt x0 (wrap64 (a1052 - 1))).fKey)))))] ⟨rfl, HM⟩ (Sub.cons rfl (Sub.cons rfl (Sub.cons rfl (Sub.cons rfl (Sub.cons rfl Sub.nil)))))
            · rintro _ w1101 ⟨rfl, HM⟩
              refine at_then ?_
              refine run_cond (b := ((decide (0 < a1052)) && (decide (((gt x0 a1052).fKey) ≤ ((gt x0 (wrap64 (a1052 - 1))).fKey))))) rfl (fun hb1102 => ?_) (fun hb1102 => ?_)
              · replace ho1032 := cond_t hb1102 ho1032
                refine run_seq ?_
                refine run_region rfl ?_
                refine ops_ex rfl (guard_none rfl) rfl rfl (ex_assign rfl rfl) ?_
                refine ops_nil ?_
                refine at_then ?_
                refine run_ret ?_
                refine at_block_ret ?_
                refine at_then_ret ?_
                refine at_then_ret ?_
                refine at_block_ret ?_
                refine at_then_ret ?_
                have hR := Option.some.inj ho1032
                subst hR
                have hT := thn_inl H
                have hR := Option.some.inj hT
                subst hR
                exact at_ret1 rfl rfl ⟨_, rfl, rfl, HM⟩
              · replace ho1032 := cond_f hb1102 ho1032
                refine run_skip ?_
                refine at_block ?_
                refine at_then ?_
                refine run_region rfl ?_
                refine ops_ex rfl (guard_none rfl) rfl rfl (ex_add rfl rfl rfl) ?_
                refine ops_ex rfl (guard_none rfl) rfl rfl (ex_move rfl rfl) ?_
                refine ops_nil ?_
                exact at_again k1072 (ρ1 := [(0, p0), (10, p0), (11, .int .i64 (x0.length : Int)), (12, .int .i64 (wrap64 (a1052 + 1)))]) (Nat.lt_succ_self _) ⟨_, ho1032, rfl, HM⟩ (Sub.cons rfl (Sub.cons rfl (Sub.cons rfl (Sub.cons rfl Sub.nil))))
      · replace ho1032 := cond_f hb1074 ho1032
        refine run_exit ?_
        refine at_then_exit ?_
        refine at_then_exit ?_
        refine at_block_exit ?_
        exact at_mid (ρ' := [(0, p0)]) ⟨(Option.some.inj ho1032), rfl, HM⟩ (Sub.cons rfl Sub.nil)
    · rintro _ w1103 ⟨rfl, rfl, HM⟩
      replace H := (thn_inr H)
      obtain ⟨o1144, ho1145, H⟩ := bind_some H
      refine run_mid (fun ρ_ w_ => Sum.inr () = o1144 ∧ ρ_ = [] ∧ Mem w [] w_ []) ?_ ?_
      · skip
        refine run_seq ?_
        refine run_region rfl ?_
        refine ops_ex rfl (guard_none rfl) rfl rfl (ex_move rfl rfl) ?_
        refine ops_ex rfl (guard_none rfl) rfl rfl (ex_len (d := kMember) (xs := x0) rfl rfl Try.underlying49 hp0) ?_
        refine ops_ex rfl (guard_none rfl) rfl rfl (ex_move rfl rfl) ?_
        refine ops_nil ?_
        refine at_then ?_
        refine run_block ?_
        refine run_loop (fun k_ ρ_ w_ => ∃ a1159 : Int, impl_MembersFault.l1 x0 k_ a1159 = some o1144 ∧ ρ_ = [(0, p0), (41, p0), (42, .int .i64 (x0.length : Int)), (43, .int .i64 a1159)] ∧ Mem w [] w_ []) k (ρ1 := [(0, p0), (41, p0), (42, .int .i64 (x0.length : Int)), (43, .int .i64 0)]) ⟨_, ho1145, rfl, HM⟩ (Sub.cons rfl (Sub.cons rfl (Sub.cons rfl (Sub.cons rfl Sub.nil)))) ?_
        clear HM ho1145
        rintro k1173 _ w1174 ⟨a1159, ho1145, rfl, HM⟩
        obtain _ | k1173 := k1173
        · exact nomatch ((impl_MembersFault.l1_z x0 a1159).symm.trans ho1145)
        replace ho1145 := (impl_MembersFault.l1_s x0 k1173 a1159).symm.trans ho1145
        refine run_seq ?_
        refine run_region rfl ?_
        refine ops_ex rfl (guard_none rfl) rfl rfl (ex_lss rfl rfl rfl) ?_
        refine ops_nil ?_
        refine at_then ?_
        refine run_seq ?_
        refine run_cond (b := (decide (a1159 < (x0.length : Int)))) rfl (fun hb1175 => ?_) (fun hb1175 => ?_)
        · replace ho1145 := cond_t hb1175 ho1145
          refine run_skip ?_
          refine at_then ?_
          refine run_seq ?_
          refine run_block ?_
          refine run_seq ?_
          obtain ⟨e1176, ho1145⟩ := chk_some ho1145
          refine run_region rfl ?_
          refine ops_ex rfl (guard_none rfl) rfl rfl (ex_move rfl rfl) ?_
          have hc1177 : CellsAt _ (sb p0) (so p0 + (a1159).toNat * 3) [(.int .i64 ((gt x0 a1159).fKey)), (.int .i64 ((gt x0 a1159).fRef.fTx)), (.int .i64 ((gt x0 a1159).fRef.fAt))] := rd_plain hp0 e1176
          refine ops_ex rfl (guard_none rfl) rfl rfl (ex_indexAddr (d := kMember) rfl rfl rfl Try.underlying49 tsz144 hp0 (idx_lo e1176) (idx_hi e1176)) ?_
          refine ops_ex rfl (guard_none rfl) rfl rfl (ex_loadN (cs := [(.int .i64 ((gt x0 a1159).fKey)), (.int .i64 ((gt x0 a1159).fRef.fTx)), (.int .i64 ((gt x0 a1159).fRef.fAt))]) rfl rfl Try.underlying144 rfl tsz144 rfl ((HM.at_ hc1177).sub 0 3 rfl)) ?_
          refine ops_does rfl (guard_none rfl) rfl rfl (does_alloc (cs := [.int .i64 0, .int .i64 0, .int .i64 0]) rfl tz144 rfl HM) ?_
          rintro _ w1181 ⟨b1178, rfl, HM⟩
          refine ops_ex rfl (guard_none rfl) rfl rfl (ex_assign rfl rfl) ?_
          refine ops_doesS rfl (guard_none rfl) rfl (does_store (vs := [.int .i64 ((gt x0 a1159).fKey), .int .i64 ((gt x0 a1159).fRef.fTx), .int .i64 ((gt x0 a1159).fRef.fAt)]) (cs' := [.int .i64 ((gt x0 a1159).fKey), .int .i64 ((gt x0 a1159).fRef.fTx), .int .i64 ((gt x0 a1159).fRef.fAt)]) rfl rfl rfl rfl tsz144 (Ones.int (Ones.int (Ones.int Ones.nil))) rfl rfl HM) ?_
          rintro w1182 HM
          refine ops_nil ?_
          refine at_then ?_
          refine run_seq ?_
          obtain ⟨e1183, ho1145⟩ := chk_some ho1145
          obtain ⟨t1187, h1188, ho1145⟩ := bind_some ho1145
          refine run_region rfl ?_
          refine ops_ex rfl (guard_none rfl) rfl rfl (ex_move rfl rfl) ?_
          refine ops_ex rfl (guard_none rfl) rfl rfl (ex_move rfl rfl) ?_
          refine ops_exE rfl (guard_none rfl) rfl rfl (ex_cutH kMember rfl rfl rfl Try.underlying49 tsz144 hp0 e1183) ?_
          intro u1184 hr1186
          refine ops_ex rfl (guard_none rfl) rfl rfl (ex_func rfl rfl) ?_
          refine ops_does rfl (guard_none rfl) rfl rfl (does_callk rfl callok145 rfl (slices_ContainsFunc_impl_Member.calls (x0 := x0.take (a1159).toNat) (x1_0 := (gt x0 a1159)) (HM.rd hr1186) (HM.box_at 0 rfl) h1188)) ?_
          rintro _ w1189 ⟨rfl, hn⟩
          replace HM : Mem w [] w1189 [box b1178 144 [.int .i64 ((gt x0 a1159).fKey), .int .i64 ((gt x0 a1159).fRef.fTx), .int .i64 ((gt x0 a1159).fRef.fAt)]] := HM.call hn
          refine ops_nil ?_
          refine at_then ?_
          refine run_cond (b := t1187) rfl (fun hb1190 => ?_) (fun hb1190 => ?_)
          · replace ho1145 := cond_t hb1190 ho1145
            refine run_seq ?_
            refine run_region rfl ?_
            refine ops_ex rfl (guard_none rfl) rfl rfl (ex_assign rfl rfl) ?_
            refine ops_nil ?_
            refine at_then ?_
            refine run_ret ?_
            refine at_block_ret ?_
            refine at_then_ret ?_
            refine at_then_ret ?_
            refine at_block_ret ?_
            refine at_then_ret ?_
            replace HM := (HM.front 0 rfl rfl).drop
            have hR := Option.some.inj ho1145
            subst hR
            have hT := thn_inl H
            have hR := Option.some.inj hT
            subst hR
            exact at_ret1 rfl rfl ⟨_, rfl, rfl, HM⟩
          · replace ho1145 := cond_f hb1190 ho1145
            refine run_skip ?_
            refine at_block ?_
            refine at_then ?_
            refine run_region rfl ?_
            refine ops_ex rfl (guard_none rfl) rfl rfl (ex_add rfl rfl rfl) ?_
            refine ops_ex rfl (guard_none rfl) rfl rfl (ex_move rfl rfl) ?_
            refine ops_nil ?_
            replace HM := (HM.front 0 rfl rfl).drop
            exact at_again k1173 (ρ1 := [(0, p0), (41, p0), (42, .int .i64 (x0.length : Int)), (43, .int .i64 (wrap64 (a1159 + 1)))]) (Nat.lt_succ_self _) ⟨_, ho1145, rfl, HM⟩ (Sub.cons rfl (Sub.cons rfl (Sub.cons rfl (Sub.cons rfl Sub.nil))))
        · replace ho1145 := cond_f hb1175 ho1145
          refine run_exit ?_
          refine at_then_exit ?_
          refine at_then_exit ?_
          refine at_block_exit ?_
          exact at_mid (ρ' := []) ⟨(Option.some.inj ho1145), rfl, HM⟩ Sub.nil
      · rintro _ w1191 ⟨rfl, rfl, HM⟩
        replace H := (thn_inr H)
        refine run_seq ?_
        refine run_region rfl ?_
        refine ops_ex rfl (guard_none rfl) rfl rfl (ex_assign rfl rfl) ?_
        refine ops_nil ?_
        refine at_then ?_
        refine run_ret ?_
        have hR := Option.some.inj H
        subst hR
        exact at_ret1 rfl rfl ⟨_, rfl, rfl, HM⟩

def cmp_isNaN_int64.f (k : Nat) (x0 : Int) : Option Bool := some (x0 != x0)
theorem cmp_isNaN_int64.calls {k : Nat} {x0 : Int}  {w : World}  {r : Bool} (H : cmp_isNaN_int64.f k x0 = some r) :
    Calls Try.prog 164 ([.int .i64 x0] : List Value).toArray w (fun e w_ => ∃ v, e = .returned v ∧ v = (.bool r) ∧ Mem w [] w_ []) := by
  have HM := Mem.start w
  refine calls_run (N := 6) Try.func164 rfl rfl rfl rfl ?_
  unfold cmp_isNaN_int64.f at H
  refine run_seq ?_
  refine run_region rfl ?_
  refine ops_ex rfl (guard_none rfl) rfl rfl (ex_assign rfl rfl) ?_
  refine ops_nil ?_
  refine at_then ?_
  refine run_seq ?_
  refine run_region rfl ?_
  refine ops_ex rfl (guard_none rfl) rfl rfl (ex_move rfl rfl) ?_
  refine ops_ex rfl (guard_none rfl) rfl rfl (ex_move rfl rfl) ?_
  refine ops_ex rfl (guard_none rfl) rfl rfl (ex_neq rfl rfl rfl) ?_
  refine ops_ex rfl (guard_none rfl) rfl rfl (ex_assign rfl rfl) ?_
  refine ops_nil ?_
  refine at_then ?_
  refine run_ret ?_
  have hR := Option.some.inj H
  subst hR
  exact at_ret1 rfl rfl ⟨_, rfl, rfl, HM⟩

def cmp_Compare_int64.f (k : Nat) (x0 : Int) (x1 : Int) : Option Int := ((cmp_isNaN_int64.f k x0).bind fun t1218 => ((cmp_isNaN_int64.f k x1).bind fun t1221 => (bif t1218 then (bif t1221 then some 0 else some (-1)) else (bif t1221 then some 1 else (bif (decide (x0 < x1)) then some (-1) else (bif (decide (x1 < x0)) then some 1 else some 0))))))
theorem cmp_Compare_int64.calls {k : Nat} {x0 : Int} {x1 : Int}  {w : World}  {r : Int} (H : cmp_Compare_int64.f k x0 x1 = some r) :
    Calls Try.prog 135 ([.int .i64 x0, .int .i64 x1] : List Value).toArray w (fun e w_ => ∃ v, e = .returned v ∧ v = (.int .i64 r) ∧ Mem w [] w_ []) := by
  have HM := Mem.start w
  refine calls_run (N := 20) Try.func135 rfl rfl rfl rfl ?_
  unfold cmp_Compare_int64.f at H
  refine run_seq ?_
  refine run_region rfl ?_
  refine ops_ex rfl (guard_none rfl) rfl rfl (ex_assign rfl rfl) ?_
  refine ops_nil ?_
  refine at_then ?_
  refine run_seq ?_
  obtain ⟨t1218, h1219, H⟩ := bind_some H
  refine run_region rfl ?_
  refine ops_ex rfl (guard_none rfl) rfl rfl (ex_move rfl rfl) ?_
  refine ops_does rfl (guard_none rfl) rfl rfl (does_callk rfl callok164 rfl (cmp_isNaN_int64.calls (x0 := x0) h1219)) ?_
  rintro _ w1220 ⟨rfl, hn⟩
  replace HM : Mem w [] w1220 [] := HM.call hn
  refine ops_ex rfl (guard_none rfl) rfl rfl (ex_assign rfl rfl) ?_
  refine ops_nil ?_
  refine at_then ?_
  refine run_seq ?_
  obtain ⟨t1221, h1222, H⟩ := bind_some H
  refine run_region rfl ?_
  refine ops_ex rfl (guard_none rfl) rfl rfl (ex_move rfl rfl) ?_
  refine ops_does rfl (guard_none rfl) rfl rfl (does_callk rfl callok164 rfl (cmp_isNaN_int64.calls (x0 := x1) h1222)) ?_
  rintro _ w1223 ⟨rfl, hn⟩
  replace HM : Mem w [] w1223 [] := HM.call hn
  refine ops_ex rfl (guard_none rfl) rfl rfl (ex_assign rfl rfl) ?_
  refine ops_nil ?_
  refine at_then ?_
  refine run_seq ?_
  refine run_seq ?_
  refine run_region rfl ?_
  refine ops_ex rfl (guard_none rfl) rfl rfl (ex_move rfl rfl) ?_
  refine ops_nil ?_
  refine at_then ?_
  refine run_cond (b := t1218) rfl (fun hb1226 => ?_) (fun hb1226 => ?_)
  · replace H := cond_t hb1226 H
    refine run_seq ?_
    refine run_seq ?_
    refine run_region rfl ?_
    refine ops_ex rfl (guard_none rfl) rfl rfl (ex_move rfl rfl) ?_
    refine ops_nil ?_
    refine at_then ?_
    refine run_cond (b := t1221) rfl (fun hb1227 => ?_) (fun hb1227 => ?_)
    · replace H := cond_t hb1227 H
      refine run_seq ?_
      refine run_region rfl ?_
      refine ops_ex rfl (guard_none rfl) rfl rfl (ex_assign rfl rfl) ?_
      refine ops_nil ?_
      refine at_then ?_
      refine run_ret ?_
      refine at_then_ret ?_
      refine at_then_ret ?_
      have hR := Option.some.inj H
      subst hR
      exact at_ret1 rfl rfl ⟨_, rfl, rfl, HM⟩
    · replace H := cond_f hb1227 H
      refine run_skip ?_
      refine at_then ?_
      refine run_seq ?_
      refine run_region rfl ?_
      refine ops_ex rfl (guard_none rfl) rfl rfl (ex_assign rfl rfl) ?_
      refine ops_nil ?_
      refine at_then ?_
      refine run_ret ?_
      refine at_then_ret ?_
      have hR := Option.some.inj H
      subst hR
      exact at_ret1 rfl rfl ⟨_, rfl, rfl, HM⟩
  · replace H := cond_f hb1226 H
    refine run_skip ?_
    refine at_then ?_
    refine run_seq ?_
    refine run_seq ?_
    refine run_region rfl ?_
    refine ops_ex rfl (guard_none rfl) rfl rfl (ex_move rfl rfl) ?_
    refine ops_nil ?_
    refine at_then ?_
    refine run_cond (b := t1221) rfl (fun hb1229 => ?_) (fun hb1229 => ?_)
    · replace H := cond_t hb1229 H
      refine run_seq ?_
      refine run_region rfl ?_
      refine ops_ex rfl (guard_none rfl) rfl rfl (ex_assign rfl rfl) ?_
      refine ops_nil ?_
      refine at_then ?_
      refine run_ret ?_
      refine at_then_ret ?_
      have hR := Option.some.inj H
      subst hR
      exact at_ret1 rfl rfl ⟨_, rfl, rfl, HM⟩
    · replace H := cond_f hb1229 H
      refine run_skip ?_
      refine at_then ?_
      refine run_seq ?_
      refine run_seq ?_
      refine run_region rfl ?_
      refine ops_ex rfl (guard_none rfl) rfl rfl (ex_move rfl rfl) ?_
      refine ops_ex rfl (guard_none rfl) rfl rfl (ex_move rfl rfl) ?_
      refine ops_ex rfl (guard_none rfl) rfl rfl (ex_lss rfl rfl rfl) ?_
      refine ops_nil ?_
      refine at_then ?_
      refine run_cond (b := (decide (x0 < x1))) rfl (fun hb1231 => ?_) (fun hb1231 => ?_)
      · replace H := cond_t hb1231 H
        refine run_seq ?_
        refine run_region rfl ?_
        refine ops_ex rfl (guard_none rfl) rfl rfl (ex_assign rfl rfl) ?_
        refine ops_nil ?_
        refine at_then ?_
        refine run_ret ?_
        refine at_then_ret ?_
        have hR := Option.some.inj H
        subst hR
        exact at_ret1 rfl rfl ⟨_, rfl, rfl, HM⟩
      · replace H := cond_f hb1231 H
        refine run_skip ?_
        refine at_then ?_
        refine run_seq ?_
        refine run_seq ?_
        refine run_region rfl ?_
        refine ops_ex rfl (guard_none rfl) rfl rfl (ex_move rfl rfl) ?_
        refine ops_ex rfl (guard_none rfl) rfl rfl (ex_move rfl rfl) ?_
        refine ops_ex rfl (guard_none rfl) rfl rfl (ex_gtr rfl rfl rfl) ?_
        refine ops_nil ?_
        refine at_then ?_
        refine run_cond (b := (decide (x1 < x0))) rfl (fun hb1232 => ?_) (fun hb1232 => ?_)
        · replace H := cond_t hb1232 H
          refine run_seq ?_
          refine run_region rfl ?_
          refine ops_ex rfl (guard_none rfl) rfl rfl (ex_assign rfl rfl) ?_
          refine ops_nil ?_
          refine at_then ?_
          refine run_ret ?_
          refine at_then_ret ?_
          have hR := Option.some.inj H
          subst hR
          exact at_ret1 rfl rfl ⟨_, rfl, rfl, HM⟩
        · replace H := cond_f hb1232 H
          refine run_skip ?_
          refine at_then ?_
          refine run_seq ?_
          refine run_region rfl ?_
          refine ops_ex rfl (guard_none rfl) rfl rfl (ex_assign rfl rfl) ?_
          refine ops_nil ?_
          refine at_then ?_
          refine run_ret ?_
          have hR := Option.some.inj H
          subst hR
          exact at_ret1 rfl rfl ⟨_, rfl, rfl, HM⟩

def impl_findMember_1.f (k : Nat) (x0 : Member) (x1 : Int) : Option Int := ((cmp_Compare_int64.f k x0.fKey x1).bind fun t1239 => some t1239)
theorem impl_findMember_1.calls {k : Nat} {x0 : Member} {x1 : Int}  {w : World}  {r : Int} (H : impl_findMember_1.f k x0 x1 = some r) :
    Calls Try.prog 155 ([.agg #[(.int .i64 x0.fKey), (.int .i64 x0.fRef.fTx), (.int .i64 x0.fRef.fAt)], .int .i64 x1] : List Value).toArray w (fun e w_ => ∃ v, e = .returned v ∧ v = (.int .i64 r) ∧ Mem w [] w_ []) := by
  have HM := Mem.start w
  refine calls_run (N := 9) Try.func155 rfl rfl rfl rfl ?_
  unfold impl_findMember_1.f at H
  refine run_seq ?_
  refine run_region rfl ?_
  refine ops_does rfl (guard_none rfl) rfl rfl (does_box (cs := [.int .i64 x0.fKey, .int .i64 x0.fRef.fTx, .int .i64 x0.fRef.fAt]) rfl rfl rfl HM) ?_
  rintro _ w1238 ⟨b1235, rfl, HM⟩
  refine ops_ex rfl (guard_none rfl) rfl rfl (ex_assign rfl rfl) ?_
  refine ops_nil ?_
  refine at_then ?_
  refine run_seq ?_
  obtain ⟨t1239, h1240, H⟩ := bind_some H
  refine run_region rfl ?_
  refine ops_ex rfl (guard_none rfl) rfl rfl (ex_fieldAddr (off' := 0) rfl rfl Try.underlying144 rfl tsz2 rfl) ?_
  refine ops_ex rfl (guard_none rfl) rfl rfl (ex_load1 rfl rfl Try.underlying2 rfl ((HM.box_at 0 rfl) 0 _ rfl)) ?_
  refine ops_ex rfl (guard_none rfl) rfl rfl (ex_move rfl rfl) ?_
  refine ops_does rfl (guard_none rfl) rfl rfl (does_callk rfl callok135 rfl (cmp_Compare_int64.calls (x0 := x0.fKey) (x1 := x1) h1240)) ?_
  rintro _ w1241 ⟨rfl, hn⟩
  replace HM : Mem w [] w1241 [box b1235 144 [.int .i64 x0.fKey, .int .i64 x0.fRef.fTx, .int .i64 x0.fRef.fAt]] := HM.call hn
  refine ops_ex rfl (guard_none rfl) rfl rfl (ex_assign rfl rfl) ?_
  refine ops_nil ?_
  refine at_then ?_
  refine run_ret ?_
  replace HM := (HM.front 0 rfl rfl).drop
  have hR := Option.some.inj H
  subst hR
  exact at_ret1 rfl rfl ⟨_, rfl, rfl, HM⟩

def slices_BinarySearchFunc_impl_Member.l0 (x0 : List Member) (x1 : Int) : Nat → Int → Int → Option Int
  | 0, _, _ => none
  | k + 1, a1301, a1302 => (bif (decide (a1301 < a1302)) then (chk (decide (0 ≤ (1 : Int)) && decide ((1 : Int) ≤ IntKind.u64.bits)) (chk (idxOk (wrap64 ((IntKind.u64.wrap (wrap64 (a1301 + a1302))) / 2 ^ ((1 : Int)).toNat)) x0.length) ((impl_findMember_1.f k (gt x0 (wrap64 ((IntKind.u64.wrap (wrap64 (a1301 + a1302))) / 2 ^ ((1 : Int)).toNat))) x1).bind fun t1316 => (bif (decide (t1316 < 0)) then slices_BinarySearchFunc_impl_Member.l0 x0 x1 k (wrap64 ((wrap64 ((IntKind.u64.wrap (wrap64 (a1301 + a1302))) / 2 ^ ((1 : Int)).toNat)) + 1)) a1302 else slices_BinarySearchFunc_impl_Member.l0 x0 x1 k a1301 (wrap64 ((IntKind.u64.wrap (wrap64 (a1301 + a1302))) / 2 ^ ((1 : Int)).toNat)))))) else some a1301)
theorem slices_BinarySearchFunc_impl_Member.l0_z (x0 : List Member) (x1 : Int) (a1301 : Int) (a1302 : Int) : slices_BinarySearchFunc_impl_Member.l0 x0 x1 0 a1301 a1302 = none := rfl
theorem slices_BinarySearchFunc_impl_Member.l0_s (x0 : List Member) (x1 : Int) (k : Nat) (a1301 : Int) (a1302 : Int) : slices_BinarySearchFunc_impl_Member.l0 x0 x1 (k + 1) a1301 a1302 = (bif (decide (a1301 < a1302)) then (chk (decide (0 ≤ (1 : Int)) && decide ((1 : Int) ≤ IntKind.u64.bits)) (chk (idxOk (wrap64 ((IntKind.u64.wrap (wrap64 (a1301 + a1302))) / 2 ^ ((1 : Int)).toNat)) x0.length) ((impl_findMember_1.f k (gt x0 (wrap64 ((IntKind.u64.wrap (wrap64 (a1301 + a1302))) / 2 ^ ((1 : Int)).toNat))) x1).bind fun t1316 => (bif (decide (t1316 < 0)) then slices_BinarySearchFunc_impl_Member.l0 x0 x1 k (wrap64 ((wrap64 ((IntKind.u64.wrap (wrap64 (a1301 + a1302))) / 2 ^ ((1 : Int)).toNat)) + 1)) a1302 else slices_BinarySearchFunc_impl_Member.l0 x0 x1 k a1301 (wrap64 ((IntKind.u64.wrap (wrap64 (a1301 + a1302))) / 2 ^ ((1 : Int)).toNat)))))) else some a1301) := rfl
def slices_BinarySearchFunc_impl_Member.f (k : Nat) (x0 : List Member) (x1 : Int) : Option (Int × Bool) := ((slices_BinarySearchFunc_impl_Member.l0 x0 x1 k 0 (x0.length : Int)).bind (fun a1291 => (chk (!(decide (a1291 < (x0.length : Int))) || (idxOk a1291 x0.length)) ((bif (decide (a1291 < (x0.length : Int))) then impl_findMember_1.f k (gt x0 a1291) x1 else some default).bind fun t1323 => some (a1291, ((decide (a1291 < (x0.length : Int))) && (t1323 == 0)))))))
theorem slices_BinarySearchFunc_impl_Member.calls {k : Nat} {x0 : List Member} {x1 : Int} {p0 : Value} {w : World} (hp0 : RdS kMember w p0 x0) {r : Int × Bool} (H : slices_BinarySearchFunc_impl_Member.f k x0 x1 = some r) :
    Calls Try.prog 154 ([p0, .int .i64 x1, .func (.func 155) #[] #[]] : List Value).toArray w (fun e w_ => ∃ v, e = .returned v ∧ v = (.tuple #[.int .i64 r.1, .bool r.2]) ∧ Mem w [] w_ []) := by
  have HM := Mem.start w
  refine calls_run (N := 49) Try.func154 rfl rfl rfl rfl ?_
  unfold slices_BinarySearchFunc_impl_Member.f at H
  refine run_seq ?_
  refine run_region rfl ?_
  refine ops_ex rfl (guard_none rfl) rfl rfl (ex_assign rfl rfl) ?_
  refine ops_ex rfl (guard_none rfl) rfl rfl (ex_assign rfl rfl) ?_
  refine ops_nil ?_
  refine at_then ?_
  refine run_seq ?_
  refine run_region rfl ?_
  refine ops_ex rfl (guard_none rfl) rfl rfl (ex_move rfl rfl) ?_
  refine ops_ex rfl (guard_none rfl) rfl rfl (ex_len (d := kMember) (xs := x0) rfl rfl Try.underlying49 hp0) ?_
  refine ops_ex rfl (guard_none rfl) rfl rfl (ex_assign rfl rfl) ?_
  refine ops_nil ?_
  refine at_then ?_
  refine run_seq ?_
  refine run_region rfl ?_
  refine ops_ex rfl (guard_none rfl) rfl rfl (ex_move rfl rfl) ?_
  refine ops_ex rfl (guard_none rfl) rfl rfl (ex_assign rfl rfl) ?_
  refine ops_ex rfl (guard_none rfl) rfl rfl (ex_assign rfl rfl) ?_
  refine ops_nil ?_
  refine at_then ?_
  obtain ⟨o1292, ho1293, H⟩ := bind_some H
  refine run_mid (fun ρ_ w_ => ∃ a1291 : Int, a1291 = o1292 ∧ ρ_ = [(0, p0), (1, .int .i64 x1), (2, .func (.func 155) #[] #[]), (8, .int .i64 (x0.length : Int)), (9, .int .i64 a1291)] ∧ Mem w [] w_ []) ?_ ?_
  · clear H
    refine run_block ?_
    refine run_loop (fun k_ ρ_ w_ => ∃ a1301 : Int, ∃ a1302 : Int, slices_BinarySearchFunc_impl_Member.l0 x0 x1 k_ a1301 a1302 = some o1292 ∧ ρ_ = [(0, p0), (1, .int .i64 x1), (2, .func (.func 155) #[] #[]), (8, .int .i64 (x0.length : Int)), (9, .int .i64 a1301), (10, .int .i64 a1302)] ∧ Mem w [] w_ []) k (ρ1 := [(0, p0), (1, .int .i64 x1), (2, .func (.func 155) #[] #[]), (8, .int .i64 (x0.length : Int)), (9, .int .i64 0), (10, .int .i64 (x0.length : Int))]) ⟨_, _, ho1293, rfl, HM⟩ (Sub.cons rfl (Sub.cons rfl (Sub.cons rfl (Sub.cons rfl (Sub.cons rfl (Sub.cons rfl Sub.nil)))))) ?_
    clear HM ho1293
    rintro k1310 _ w1311 ⟨a1301, a1302, ho1293, rfl, HM⟩
    obtain _ | k1310 := k1310
    · exact nomatch ((slices_BinarySearchFunc_impl_Member.l0_z x0 x1 a1301 a1302).symm.trans ho1293)
    replace ho1293 := (slices_BinarySearchFunc_impl_Member.l0_s x0 x1 k1310 a1301 a1302).symm.trans ho1293
    refine run_seq ?_
    refine run_seq ?_
    refine run_region rfl ?_
    refine ops_ex rfl (guard_none rfl) rfl rfl (ex_move rfl rfl) ?_
    refine ops_ex rfl (guard_none rfl) rfl rfl (ex_move rfl rfl) ?_
    refine ops_ex rfl (guard_none rfl) rfl rfl (ex_lss rfl rfl rfl) ?_
    refine ops_nil ?_
    refine at_then ?_
    refine run_cond (b := (decide (a1301 < a1302))) rfl (fun hb1312 => ?_) (fun hb1312 => ?_)
    · replace ho1293 := cond_t hb1312 ho1293
      refine run_skip ?_
      refine at_then ?_
      refine run_block ?_
      refine run_seq ?_
      obtain ⟨e1313, ho1293⟩ := chk_some ho1293
      refine run_region rfl ?_
      refine ops_ex rfl (guard_none rfl) rfl rfl (ex_move rfl rfl) ?_
      refine ops_ex rfl (guard_none rfl) rfl rfl (ex_move rfl rfl) ?_
      refine ops_ex rfl (guard_none rfl) rfl rfl (ex_add rfl rfl rfl) ?_
      refine ops_ex rfl (guard_none rfl) rfl rfl (ex_conv rfl rfl (by rw [Try.underlying3]; rfl) Try.underlying189) ?_
      refine ops_ex rfl (guard_none rfl) rfl rfl (ex_shr rfl rfl rfl e1313) ?_
      refine ops_ex rfl (guard_none rfl) rfl rfl (ex_conv64 rfl rfl (by rw [Try.underlying189]; rfl) Try.underlying3) ?_
      refine ops_ex rfl (guard_none rfl) rfl rfl (ex_assign rfl rfl) ?_
      refine ops_nil ?_
      refine at_then ?_
      refine run_seq ?_
      obtain ⟨e1314, ho1293⟩ := chk_some ho1293
      obtain ⟨t1316, h1317, ho1293⟩ := bind_some ho1293
      refine run_region rfl ?_
      refine ops_ex rfl (guard_none rfl) rfl rfl (ex_move rfl rfl) ?_
      refine ops_ex rfl (guard_none rfl) rfl rfl (ex_move rfl rfl) ?_
      refine ops_ex rfl (guard_none rfl) rfl rfl (ex_move rfl rfl) ?_
      have hc1315 : CellsAt _ (sb p0) (so p0 + (wrap64 ((IntKind.u64.wrap (wrap64 (a1301 + a1302))) / 2 ^ ((1 : Int)).toNat)).toNat * 3) [(.int .i64 ((gt x0 (wrap64 ((IntKind.u64.wrap (wrap64 (a1301 + a1302))) / 2 ^ ((1 : Int)).toNat))).fKey)), (.int .i64 ((gt x0 (wrap64 ((IntKind.u64.wrap (wrap64 (a1301 + a1302))) / 2 ^ ((1 : Int)).toNat))).fRef.fTx)), (.int .i64 ((gt x0 (wrap64 ((IntKind.u64.wrap (wrap64 (a1301 + a1302))) / 2 ^ ((1 : Int)).toNat))).fRef.fAt))] := rd_plain hp0 e1314
      refine ops_ex rfl (guard_none rfl) rfl rfl (ex_indexAddr (d := kMember) rfl rfl rfl Try.underlying49 tsz144 hp0 (idx_lo e1314) (idx_hi e1314)) ?_
      refine ops_ex rfl (guard_none rfl) rfl rfl (ex_loadN (cs := [(.int .i64 ((gt x0 (wrap64 ((IntKind.u64.wrap (wrap64 (a1301 + a1302))) / 2 ^ ((1 : Int)).toNat))).fKey)), (.int .i64 ((gt x0 (wrap64 ((IntKind.u64.wrap (wrap64 (a1301 + a1302))) / 2 ^ ((1 : Int)).toNat))).fRef.fTx)), (.int .i64 ((gt x0 (wrap64 ((IntKind.u64.wrap (wrap64 (a1301 + a1302))) / 2 ^ ((1 : Int)).toNat))).fRef.fAt))]) rfl rfl Try.underlying144 rfl tsz144 rfl ((HM.at_ hc1315).sub 0 3 rfl)) ?_
      refine ops_ex rfl (guard_none rfl) rfl rfl (ex_move rfl rfl) ?_
      refine ops_does rfl (guard_none rfl) rfl rfl (does_callvk rfl callok155 rfl rfl rfl (impl_findMember_1.calls (x0 := (gt x0 (wrap64 ((IntKind.u64.wrap (wrap64 (a1301 + a1302))) / 2 ^ ((1 : Int)).toNat)))) (x1 := x1) h1317)) ?_
      rintro _ w1318 ⟨rfl, hn⟩
      replace HM : Mem w [] w1318 [] := HM.call hn
      refine ops_ex rfl (guard_none rfl) rfl rfl (ex_lss rfl rfl rfl) ?_
      refine ops_nil ?_
      refine at_then ?_
      refine run_cond (b := (decide (t1316 < 0))) rfl (fun hb1319 => ?_) (fun hb1319 => ?_)
      · replace ho1293 := cond_t hb1319 ho1293
        refine run_region rfl ?_
        refine ops_ex rfl (guard_none rfl) rfl rfl (ex_move rfl rfl) ?_
        refine ops_ex rfl (guard_none rfl) rfl rfl (ex_add rfl rfl rfl) ?_
        refine ops_ex rfl (guard_none rfl) rfl rfl (ex_assign rfl rfl) ?_
        refine ops_nil ?_
        refine at_block ?_
        exact at_again k1310 (ρ1 := [(0, p0), (1, .int .i64 x1), (2, .func (.func 155) #[] #[]), (8, .int .i64 (x0.length : Int)), (9, .int .i64 (wrap64 ((wrap64 ((IntKind.u64.wrap (wrap64 (a1301 + a1302))) / 2 ^ ((1 : Int)).toNat)) + 1))), (10, .int .i64 a1302)]) (Nat.lt_succ_self _) ⟨_, _, ho1293, rfl, HM⟩ (Sub.cons rfl (Sub.cons rfl (Sub.cons rfl (Sub.cons rfl (Sub.cons rfl (Sub.cons rfl Sub.nil))))))
      · replace ho1293 := cond_f hb1319 ho1293
        refine run_region rfl ?_
        refine ops_ex rfl (guard_none rfl) rfl rfl (ex_move rfl rfl) ?_
        refine ops_ex rfl (guard_none rfl) rfl rfl (ex_assign rfl rfl) ?_
        refine ops_nil ?_
        refine at_block ?_
        exact at_again k1310 (ρ1 := [(0, p0), (1, .int .i64 x1), (2, .func (.func 155) #[] #[]), (8, .int .i64 (x0.length : Int)), (9, .int .i64 a1301), (10, .int .i64 (wrap64 ((IntKind.u64.wrap (wrap64 (a1301 + a1302))) / 2 ^ ((1 : Int)).toNat)))]) (Nat.lt_succ_self _) ⟨_, _, ho1293, rfl, HM⟩ (Sub.cons rfl (Sub.cons rfl (Sub.cons rfl (Sub.cons rfl (Sub.cons rfl (Sub.cons rfl Sub.nil))))))
    · replace ho1293 := cond_f hb1312 ho1293
      refine run_exit ?_
      refine at_then_exit ?_
      refine at_then_exit ?_
      refine at_block_exit ?_
      exact at_mid (ρ' := [(0, p0), (1, .int .i64 x1), (2, .func (.func 155) #[] #[]), (8, .int .i64 (x0.length : Int)), (9, .int .i64 a1301)]) ⟨_, (Option.some.inj ho1293), rfl, HM⟩ (Sub.cons rfl (Sub.cons rfl (Sub.cons rfl (Sub.cons rfl (Sub.cons rfl Sub.nil)))))
  · rintro _ w1320 ⟨a1291, rfl, rfl, HM⟩
    refine run_seq ?_
    obtain ⟨e1321, H⟩ := chk_some H
    obtain ⟨t1323, h1324, H⟩ := bind_some H
    refine run_meet (fun ρ_ w_ => ρ_ = [(6, .int .i64 a1291), (7, .bool ((decide (a1291 < (x0.length : Int))) && (t1323 == 0)))] ∧ Mem w [] w_ []) ?_ ?_
    · skip
      refine run_region rfl ?_
      refine ops_ex rfl (guard_none rfl) rfl rfl (ex_move rfl rfl) ?_
      refine ops_ex rfl (guard_none rfl) rfl rfl (ex_move rfl rfl) ?_
      refine ops_ex rfl (guard_none rfl) rfl rfl (ex_move rfl rfl) ?_
      refine ops_ex rfl (guard_none rfl) rfl rfl (ex_lss rfl rfl rfl) ?_
      refine ops_ex rfl (guard_none rfl) rfl rfl (ex_move rfl rfl) ?_
      refine bool_cases (decide (a1291 < (x0.length : Int))) (fun hg1325 => ?_) (fun hg1325 => ?_)
      · skip
        refine ops_ex rfl (guard_on rfl rfl rfl hg1325) rfl rfl (ex_move rfl rfl) ?_
        refine ops_ex rfl (guard_on rfl rfl rfl hg1325) rfl rfl (ex_move rfl rfl) ?_
        refine ops_ex rfl (guard_on rfl rfl rfl hg1325) rfl rfl (ex_move rfl rfl) ?_
        have hc1322 : CellsAt _ (sb p0) (so p0 + (a1291).toNat * 3) [(.int .i64 ((gt x0 a1291).fKey)), (.int .i64 ((gt x0 a1291).fRef.fTx)), (.int .i64 ((gt x0 a1291).fRef.fAt))] := rd_plain hp0 (or_t e1321 hg1325)
        refine ops_ex rfl (guard_on rfl rfl rfl hg1325) rfl rfl (ex_indexAddr (d := kMember) rfl rfl rfl Try.underlying49 tsz144 hp0 (idx_lo (or_t e1321 hg1325)) (idx_hi (or_t e1321 hg1325))) ?_
        refine ops_ex rfl (guard_on rfl rfl rfl hg1325) rfl rfl (ex_loadN (cs := [(.int .i64 ((gt x0 a1291).fKey)), (.int .i64 ((gt x0 a1291).fRef.fTx)), (.int .i64 ((gt x0 a1291).fRef.fAt))]) rfl rfl Try.underlying144 rfl tsz144 rfl ((HM.at_ hc1322).sub 0 3 rfl)) ?_
        refine ops_ex rfl (guard_on rfl rfl rfl hg1325) rfl rfl (ex_move rfl rfl) ?_
        refine ops_does rfl (guard_on rfl rfl rfl hg1325) rfl rfl (does_callvk rfl callok155 rfl rfl rfl (impl_findMember_1.calls (x0 := (gt x0 a1291)) (x1 := x1) (cond_t hg1325 h1324))) ?_
        rintro _ w1326 ⟨rfl, hn⟩
        replace HM : Mem w [] w1326 [] := HM.call hn
        refine ops_ex rfl (guard_on rfl rfl rfl hg1325) rfl rfl (ex_eql rfl rfl rfl) ?_
        refine ops_ex (v := .bool ((decide (a1291 < (x0.length : Int))) && (t1323 == 0))) rfl (guard_none rfl) rfl rfl (ex_pand_t rfl rfl hg1325 rfl) ?_
        refine ops_ex rfl (guard_none rfl) rfl rfl (ex_assign rfl rfl) ?_
        refine ops_ex rfl (guard_none rfl) rfl rfl (ex_assign rfl rfl) ?_
        refine ops_nil ?_
        exact at_meet [(6, .int .i64 a1291), (7, .bool ((decide (a1291 < (x0.length : Int))) && (t1323 == 0)))] ⟨rfl, HM⟩ (Sub.cons rfl (Sub.cons rfl Sub.nil))
      · skip
        refine ops_off rfl (guard_off rfl rfl rfl hg1325) rfl rfl ?_
        refine ops_off rfl (guard_off rfl rfl rfl hg1325) rfl rfl ?_
        refine ops_off rfl (guard_off rfl rfl rfl hg1325) rfl rfl ?_
        refine ops_off rfl (guard_off rfl rfl rfl hg1325) rfl rfl ?_
        refine ops_off rfl (guard_off rfl rfl rfl hg1325) rfl rfl ?_
        refine ops_off rfl (guard_off rfl rfl rfl hg1325) rfl rfl ?_
        refine ops_off rfl (guard_off rfl rfl rfl hg1325) rfl rfl ?_
        refine ops_off rfl (guard_off rfl rfl rfl hg1325) rfl rfl ?_
        have hg1327 : ((decide (a1291 < (x0.length : Int))) && (t1323 == 0)) = false := by simp only [hg1325, Bool.and_true, Bool.true_and, Bool.and_false, Bool.false_and, Bool.or_true, Bool.true_or, Bool.or_false, Bool.false_or, Bool.not_true, Bool.not_false, Bool.not_not]
        refine ops_ex (v := .bool ((decide (a1291 < (x0.length : Int))) && (t1323 == 0))) rfl (guard_none rfl) rfl rfl (ex_pand_f rfl rfl hg1325) ?_
        refine ops_ex rfl (guard_none rfl) rfl rfl (ex_assign rfl rfl) ?_
        refine ops_ex rfl (guard_none rfl) rfl rfl (ex_assign rfl rfl) ?_
        refine ops_nil ?_
        exact at_meet [(6, .int .i64 a1291), (7, .bool ((decide (a1291 < (x0.length : Int))) && (t1323 == 0)))] ⟨rfl, HM⟩ (Sub.cons rfl (Sub.cons rfl Sub.nil))
    · rintro _ w1328 ⟨rfl, HM⟩
      refine at_then ?_
      refine run_ret ?_
      have hR := Option.some.inj H
      subst hR
      exact at_ret2 rfl rfl rfl ⟨_, rfl, rfl, HM⟩
end Go.Proofs.Ytoiacoiccpiciaa.Zk
