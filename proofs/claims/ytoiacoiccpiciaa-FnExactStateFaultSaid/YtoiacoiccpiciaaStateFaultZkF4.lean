/- What functions of the program compute, each as a plain function, and that they do. Conditions: as each theorem states them. -/
import Derived.Test.YtoiacoiccpiciaaStateFaultZkF3
namespace Go.Proofs.Ytoiacoiccpiciaa.Zk
open Go Go.RowKit Go.IntWalk Go.Proofs
set_option linter.unusedVariables false
set_option linter.unusedSimpArgs false
set_option maxRecDepth 100000
set_option maxHeartbeats 4000000
def impl_MembersFault_1.f (k : Nat) (x0 : Member) (x1 : Member) : Option Bool := some ((x0.fRef.fTx == x1.fRef.fTx) && (x0.fRef.fAt == x1.fRef.fAt))
theorem impl_MembersFault_1.calls {k : Nat} {x0 : Member} {x1 : Member} {b1 f1 : Nat} {w : World} (hc1 : CellsAt w b1 f1 [.int .i64 x1.fKey, .int .i64 x1.fRef.fTx, .int .i64 x1.fRef.fAt]) {r : Bool} (H : impl_MembersFault_1.f k x0 x1 = some r) :
    Calls Try.prog 146 ([.agg #[(.int .i64 x0.fKey), (.int .i64 x0.fRef.fTx), (.int .i64 x0.fRef.fAt)], .pointer (some ⟨b1, f1, none⟩)] : List Value).toArray w (fun e w_ => ∃ v, e = .returned v ∧ v = (.bool r) ∧ Mem w [] w_ []) := by
  have HM := Mem.start w
  refine calls_run (N := 9) Try.func146 rfl rfl rfl rfl ?_
  unfold impl_MembersFault_1.f at H
  refine run_seq ?_
  refine run_region rfl ?_
  refine ops_does rfl (guard_none rfl) rfl rfl (does_box (cs := [.int .i64 x0.fKey, .int .i64 x0.fRef.fTx, .int .i64 x0.fRef.fAt]) rfl rfl rfl HM) ?_
  rintro _ w2718 ⟨b2715, rfl, HM⟩
  refine ops_ex rfl (guard_none rfl) rfl rfl (ex_assign rfl rfl) ?_
  refine ops_nil ?_
  refine at_then ?_
  refine run_seq ?_
  refine run_region rfl ?_
  refine ops_ex rfl (guard_none rfl) rfl rfl (ex_fieldAddr (off' := 1) rfl rfl Try.underlying144 rfl tsz99 rfl) ?_
  refine ops_ex rfl (guard_none rfl) rfl rfl (ex_loadN (cs := [(.int .i64 x0.fRef.fTx), (.int .i64 x0.fRef.fAt)]) rfl rfl Try.underlying99 rfl tsz99 rfl ((HM.box_at 0 rfl).sub 1 2 rfl)) ?_
  refine ops_ex rfl (guard_none rfl) rfl rfl (ex_fieldAddr (off' := f1 + 1) rfl rfl Try.underlying144 rfl tsz99 rfl) ?_
  refine ops_ex rfl (guard_none rfl) rfl rfl (ex_loadN (cs := [(.int .i64 x1.fRef.fTx), (.int .i64 x1.fRef.fAt)]) rfl rfl Try.underlying99 rfl tsz99 rfl ((HM.at_ hc1).sub 1 2 rfl)) ?_
  refine ops_ex rfl (guard_none rfl) rfl rfl (ex_aeql rfl rfl rfl (by kernel_rfl) (eqs99 _ _ _ _ _)) ?_
  refine ops_ex rfl (guard_none rfl) rfl rfl (ex_assign rfl rfl) ?_
  refine ops_nil ?_
  refine at_then ?_
  refine run_ret ?_
  replace HM := (HM.front 0 rfl rfl).drop
  have hR := Option.some.inj H
  subst hR
  exact at_ret1 rfl rfl ⟨_, rfl, rfl, HM⟩

def slices_IndexFunc_impl_Member.l0 (x0 : List Member) (x1_0 : Member) : Nat → Int → Option (Int ⊕ Unit)
  | 0, _ => none
  | k + 1, a2764 => (bif (decide (a2764 < (x0.length : Int))) then (chk (idxOk a2764 x0.length) ((impl_MembersFault_1.f k (gt x0 a2764) x1_0).bind fun t2776 => (bif t2776 then some (.inl a2764) else slices_IndexFunc_impl_Member.l0 x0 x1_0 k (wrap64 (a2764 + 1))))) else some (.inr ()))
theorem slices_IndexFunc_impl_Member.l0_z (x0 : List Member) (x1_0 : Member) (a2764 : Int) : slices_IndexFunc_impl_Member.l0 x0 x1_0 0 a2764 = none := rfl
theorem slices_IndexFunc_impl_Member.l0_s (x0 : List Member) (x1_0 : Member) (k : Nat) (a2764 : Int) : slices_IndexFunc_impl_Member.l0 x0 x1_0 (k + 1) a2764 = (bif (decide (a2764 < (x0.length : Int))) then (chk (idxOk a2764 x0.length) ((impl_MembersFault_1.f k (gt x0 a2764) x1_0).bind fun t2776 => (bif t2776 then some (.inl a2764) else slices_IndexFunc_impl_Member.l0 x0 x1_0 k (wrap64 (a2764 + 1))))) else some (.inr ())) := rfl
def slices_IndexFunc_impl_Member.f (k : Nat) (x0 : List Member) (x1_0 : Member) : Option Int := ((slices_IndexFunc_impl_Member.l0 x0 x1_0 k 0).bind fun o2756 => thn o2756 (fun r => some r) (fun _ => some (-1)))
theorem slices_IndexFunc_impl_Member.calls {k : Nat} {x0 : List Member} {x1_0 : Member} {p0 : Value} {b1_0 f1_0 : Nat} {w : World} (hp0 : RdS kMember w p0 x0) (hc1_0 : CellsAt w b1_0 f1_0 [.int .i64 x1_0.fKey, .int .i64 x1_0.fRef.fTx, .int .i64 x1_0.fRef.fAt]) {r : Int} (H : slices_IndexFunc_impl_Member.f k x0 x1_0 = some r) :
    Calls Try.prog 166 ([p0, .func (.func 146) #[] #[(.pointer (some ⟨b1_0, f1_0, none⟩))]] : List Value).toArray w (fun e w_ => ∃ v, e = .returned v ∧ v = (.int .i64 r) ∧ Mem w [] w_ []) := by
  have HM := Mem.start w
  refine calls_run (N := 19) Try.func166 rfl rfl rfl rfl ?_
  unfold slices_IndexFunc_impl_Member.f at H
  refine run_seq ?_
  refine run_region rfl ?_
  refine ops_ex rfl (guard_none rfl) rfl rfl (ex_assign rfl rfl) ?_
  refine ops_nil ?_
  refine at_then ?_
  obtain ⟨o2756, ho2757, H⟩ := bind_some H
  refine run_mid (fun ρ_ w_ => Sum.inr () = o2756 ∧ ρ_ = [] ∧ Mem w [] w_ []) ?_ ?_
  · skip
    refine run_seq ?_
    refine run_region rfl ?_
    refine ops_ex rfl (guard_none rfl) rfl rfl (ex_move rfl rfl) ?_
    refine ops_ex rfl (guard_none rfl) rfl rfl (ex_len (d := kMember) (xs := x0) rfl rfl Try.underlying49 hp0) ?_
    refine ops_ex rfl (guard_none rfl) rfl rfl (ex_move rfl rfl) ?_
    refine ops_nil ?_
    refine at_then ?_
    refine run_block ?_
    refine run_loop (fun k_ ρ_ w_ => ∃ a2764 : Int, slices_IndexFunc_impl_Member.l0 x0 x1_0 k_ a2764 = some o2756 ∧ ρ_ = [(0, p0), (1, .func (.func 146) #[] #[(.pointer (some ⟨b1_0, f1_0, none⟩))]), (7, .int .i64 (x0.length : Int)), (8, .int .i64 a2764)] ∧ Mem w [] w_ []) k (ρ1 := [(0, p0), (1, .func (.func 146) #[] #[(.pointer (some ⟨b1_0, f1_0, none⟩))]), (7, .int .i64 (x0.length : Int)), (8, .int .i64 0)]) ⟨_, ho2757, rfl, HM⟩ (Sub.cons rfl (Sub.cons rfl (Sub.cons rfl (Sub.cons rfl Sub.nil)))) ?_
    clear HM ho2757
    rintro k2771 _ w2772 ⟨a2764, ho2757, rfl, HM⟩
    obtain _ | k2771 := k2771
    · exact nomatch ((slices_IndexFunc_impl_Member.l0_z x0 x1_0 a2764).symm.trans ho2757)
    replace ho2757 := (slices_IndexFunc_impl_Member.l0_s x0 x1_0 k2771 a2764).symm.trans ho2757
    refine run_seq ?_
    refine run_region rfl ?_
    refine ops_ex rfl (guard_none rfl) rfl rfl (ex_lss rfl rfl rfl) ?_
    refine ops_nil ?_
    refine at_then ?_
    refine run_seq ?_
    refine run_cond (b := (decide (a2764 < (x0.length : Int)))) rfl (fun hb2773 => ?_) (fun hb2773 => ?_)
    · replace ho2757 := cond_t hb2773 ho2757
      refine run_skip ?_
      refine at_then ?_
      refine run_seq ?_
      refine run_block ?_
      refine run_seq ?_
      refine run_region rfl ?_
      refine ops_ex rfl (guard_none rfl) rfl rfl (ex_move rfl rfl) ?_
      refine ops_ex rfl (guard_none rfl) rfl rfl (ex_assign rfl rfl) ?_
      refine ops_nil ?_
      refine at_then ?_
      refine run_seq ?_
      obtain ⟨e2774, ho2757⟩ := chk_some ho2757
      obtain ⟨t2776, h2777, ho2757⟩ := bind_some ho2757
      refine run_region rfl ?_
      refine ops_ex rfl (guard_none rfl) rfl rfl (ex_move rfl rfl) ?_
      refine ops_ex rfl (guard_none rfl) rfl rfl (ex_move rfl rfl) ?_
      refine ops_ex rfl (guard_none rfl) rfl rfl (ex_move rfl rfl) ?_
      have hc2775 : CellsAt _ (sb p0) (so p0 + (a2764).toNat * 3) [(.int .i64 ((gt x0 a2764).fKey)), (.int .i64 ((gt x0 a2764).fRef.fTx)), (.int .i64 ((gt x0 a2764).fRef.fAt))] := rd_plain hp0 e2774
      refine ops_ex rfl (guard_none rfl) rfl rfl (ex_indexAddr (d := kMember) rfl rfl rfl Try.underlying49 tsz144 hp0 (idx_lo e2774) (idx_hi e2774)) ?_
      refine ops_ex rfl (guard_none rfl) rfl rfl (ex_loadN (cs := [(.int .i64 ((gt x0 a2764).fKey)), (.int .i64 ((gt x0 a2764).fRef.fTx)), (.int .i64 ((gt x0 a2764).fRef.fAt))]) rfl rfl Try.underlying144 rfl tsz144 rfl ((HM.at_ hc2775).sub 0 3 rfl)) ?_
      refine ops_does rfl (guard_none rfl) rfl rfl (does_callvk rfl callok146 rfl rfl rfl (impl_MembersFault_1.calls (x0 := (gt x0 a2764)) (x1 := x1_0) (HM.at_ hc1_0) h2777)) ?_
      rintro _ w2778 ⟨rfl, hn⟩
      replace HM : Mem w [] w2778 [] := HM.call hn
      refine ops_nil ?_
      refine at_then ?_
      refine run_cond (b := t2776) rfl (fun hb2779 => ?_) (fun hb2779 => ?_)
      · replace ho2757 := cond_t hb2779 ho2757
        refine run_seq ?_
        refine run_region rfl ?_
        refine ops_ex rfl (guard_none rfl) rfl rfl (ex_move rfl rfl) ?_
        refine ops_ex rfl (guard_none rfl) rfl rfl (ex_assign rfl rfl) ?_
        refine ops_nil ?_
        refine at_then ?_
        refine run_ret ?_
        refine at_block_ret ?_
        refine at_then_ret ?_
        refine at_then_ret ?_
        refine at_block_ret ?_
        refine at_then_ret ?_
        have hR := Option.some.inj ho2757
        subst hR
        have hT := thn_inl H
        have hR := Option.some.inj hT
        subst hR
        exact at_ret1 rfl rfl ⟨_, rfl, rfl, HM⟩
      · replace ho2757 := cond_f hb2779 ho2757
        refine run_skip ?_
        refine at_block ?_
        refine at_then ?_
        refine run_region rfl ?_
        refine ops_ex rfl (guard_none rfl) rfl rfl (ex_add rfl rfl rfl) ?_
        refine ops_ex rfl (guard_none rfl) rfl rfl (ex_move rfl rfl) ?_
        refine ops_nil ?_
        exact at_again k2771 (ρ1 := [(0, p0), (1, .func (.func 146) #[] #[(.pointer (some ⟨b1_0, f1_0, none⟩))]), (7, .int .i64 (x0.length : Int)), (8, .int .i64 (wrap64 (a2764 + 1)))]) (Nat.lt_succ_self _) ⟨_, ho2757, rfl, HM⟩ (Sub.cons rfl (Sub.cons rfl (Sub.cons rfl (Sub.cons rfl Sub.nil))))
    · replace ho2757 := cond_f hb2773 ho2757
      refine run_exit ?_
      refine at_then_exit ?_
      refine at_then_exit ?_
      refine at_block_exit ?_
      exact at_mid (ρ' := []) ⟨(Option.some.inj ho2757), rfl, HM⟩ Sub.nil
  · rintro _ w2780 ⟨rfl, rfl, HM⟩
    replace H := (thn_inr H)
    refine run_seq ?_
    refine run_region rfl ?_
    refine ops_ex rfl (guard_none rfl) rfl rfl (ex_assign rfl rfl) ?_
    refine ops_nil ?_
    refine at_then ?_
    refine run_ret ?_
    have hR := Option.some.inj H
    subst hR
    exact at_ret1 rfl rfl ⟨_, rfl, rfl, HM⟩

def slices_ContainsFunc_impl_Member.f (k : Nat) (x0 : List Member) (x1_0 : Member) : Option Bool := ((slices_IndexFunc_impl_Member.f k x0 x1_0).bind fun t2783 => some (decide (0 ≤ t2783)))
theorem slices_ContainsFunc_impl_Member.calls {k : Nat} {x0 : List Member} {x1_0 : Member} {p0 : Value} {b1_0 f1_0 : Nat} {w : World} (hp0 : RdS kMember w p0 x0) (hc1_0 : CellsAt w b1_0 f1_0 [.int .i64 x1_0.fKey, .int .i64 x1_0.fRef.fTx, .int .i64 x1_0.fRef.fAt]) {r : Bool} (H : slices_ContainsFunc_impl_Member.f k x0 x1_0 = some r) :
    Calls Try.prog 145 ([p0, .func (.func 146) #[] #[(.pointer (some ⟨b1_0, f1_0, none⟩))]] : List Value).toArray w (fun e w_ => ∃ v, e = .returned v ∧ v = (.bool r) ∧ Mem w [] w_ []) := by
  have HM := Mem.start w
  refine calls_run (N := 9) Try.func145 rfl rfl rfl rfl ?_
  unfold slices_ContainsFunc_impl_Member.f at H
  refine run_seq ?_
  refine run_region rfl ?_
  refine ops_ex rfl (guard_none rfl) rfl rfl (ex_assign rfl rfl) ?_
  refine ops_nil ?_
  refine at_then ?_
  refine run_seq ?_
  obtain ⟨t2783, h2784, H⟩ := bind_some H
  refine run_region rfl ?_
  refine ops_ex rfl (guard_none rfl) rfl rfl (ex_move rfl rfl) ?_
  refine ops_ex rfl (guard_none rfl) rfl rfl (ex_move rfl rfl) ?_
  refine ops_does rfl (guard_none rfl) rfl rfl (does_callk rfl callok166 rfl (slices_IndexFunc_impl_Member.calls (x0 := x0) (x1_0 := x1_0) (HM.rd hp0) (HM.at_ hc1_0) h2784)) ?_
  rintro _ w2785 ⟨rfl, hn⟩
  replace HM : Mem w [] w2785 [] := HM.call hn
  refine ops_ex rfl (guard_none rfl) rfl rfl (ex_geq rfl rfl rfl) ?_
  refine ops_ex rfl (guard_none rfl) rfl rfl (ex_assign rfl rfl) ?_
  refine ops_nil ?_
  refine at_then ?_
  refine run_ret ?_
  have hR := Option.some.inj H
  subst hR
  exact at_ret1 rfl rfl ⟨_, rfl, rfl, HM⟩

def impl_MembersFault.l0 (x0 : List Member) : Nat → Int → Option (Int ⊕ Unit)
  | 0, _ => none
  | k + 1, a2899 => (bif (decide (a2899 < (x0.length : Int))) then (chk (idxOk a2899 x0.length) ((impl_isKey.f k ((gt x0 a2899).fKey)).bind fun t2934 => ((bif (!(!t2934)) then impl_isRef.f k ((gt x0 a2899).fRef) else some default).bind fun t2936 => (bif ((!t2934) || (!t2936)) then some (.inl 3) else (chk (!(decide (0 < a2899)) || (idxOk (wrap64 (a2899 - 1)) x0.length)) (bif ((decide (0 < a2899)) && (decide (((gt x0 a2899).fKey) ≤ ((gt x0 (wrap64 (a2899 - 1))).fKey)))) then some (.inl 1) else impl_MembersFault.l0 x0 k (wrap64 (a2899 + 1)))))))) else some (.inr ()))
theorem impl_MembersFault.l0_z (x0 : List Member) (a2899 : Int) : impl_MembersFault.l0 x0 0 a2899 = none := rfl
theorem impl_MembersFault.l0_s (x0 : List Member) (k : Nat) (a2899 : Int) : impl_MembersFault.l0 x0 (k + 1) a2899 = (bif (decide (a2899 < (x0.length : Int))) then (chk (idxOk a2899 x0.length) ((impl_isKey.f k ((gt x0 a2899).fKey)).bind fun t2934 => ((bif (!(!t2934)) then impl_isRef.f k ((gt x0 a2899).fRef) else some default).bind fun t2936 => (bif ((!t2934) || (!t2936)) then some (.inl 3) else (chk (!(decide (0 < a2899)) || (idxOk (wrap64 (a2899 - 1)) x0.length)) (bif ((decide (0 < a2899)) && (decide (((gt x0 a2899).fKey) ≤ ((gt x0 (wrap64 (a2899 - 1))).fKey)))) then some (.inl 1) else impl_MembersFault.l0 x0 k (wrap64 (a2899 + 1)))))))) else some (.inr ())) := rfl
def impl_MembersFault.l1 (x0 : List Member) : Nat → Int → Option (Int ⊕ Unit)
  | 0, _ => none
  | k + 1, a3006 => (bif (decide (a3006 < (x0.length : Int))) then (chk (idxOk a3006 x0.length) (chk (cutOk a3006 x0.length) ((slices_ContainsFunc_impl_Member.f k (x0.take (a3006).toNat) (gt x0 a3006)).bind fun t3034 => (bif t3034 then some (.inl 7) else impl_MembersFault.l1 x0 k (wrap64 (a3006 + 1)))))) else some (.inr ()))
theorem impl_MembersFault.l1_z (x0 : List Member) (a3006 : Int) : impl_MembersFault.l1 x0 0 a3006 = none := rfl
theorem impl_MembersFault.l1_s (x0 : List Member) (k : Nat) (a3006 : Int) : impl_MembersFault.l1 x0 (k + 1) a3006 = (bif (decide (a3006 < (x0.length : Int))) then (chk (idxOk a3006 x0.length) (chk (cutOk a3006 x0.length) ((slices_ContainsFunc_impl_Member.f k (x0.take (a3006).toNat) (gt x0 a3006)).bind fun t3034 => (bif t3034 then some (.inl 7) else impl_MembersFault.l1 x0 k (wrap64 (a3006 + 1)))))) else some (.inr ())) := rfl
def impl_MembersFault.f (k : Nat) (x0 : List Member) : Option Int := (bif (decide (8 < (x0.length : Int))) then some 2 else ((impl_MembersFault.l0 x0 k 0).bind fun o2878 => thn o2878 (fun r => some r) (fun _ => ((impl_MembersFault.l1 x0 k 0).bind fun o2991 => thn o2991 (fun r => some r) (fun _ => some 0)))))
theorem impl_MembersFault.calls {k : Nat} {x0 : List Member} {p0 : Value} {w : World} (hp0 : RdS kMember w p0 x0) {r : Int} (H : impl_MembersFault.f k x0 = some r) :
    Calls Try.prog 98 ([p0] : List Value).toArray w (fun e w_ => ∃ v, e = .returned v ∧ v = (.int .i64 r) ∧ Mem w [] w_ []) := by
  have HM := Mem.start w
  refine calls_run (N := 54) Try.func98 rfl rfl rfl rfl ?_
  unfold impl_MembersFault.f at H
  refine run_seq ?_
  refine run_region rfl ?_
  refine ops_ex rfl (guard_none rfl) rfl rfl (ex_assign rfl rfl) ?_
  refine ops_nil ?_
  refine at_then ?_
  refine run_seq ?_
  refine run_seq ?_
  refine run_region rfl ?_
  refine ops_ex rfl (guard_none rfl) rfl rfl (ex_move rfl rfl) ?_
  refine ops_ex rfl (guard_none rfl) rfl rfl (ex_len (d := kMember) (xs := x0) rfl rfl Try.underlying49 hp0) ?_
  refine ops_ex rfl (guard_none rfl) rfl rfl (ex_gtr rfl rfl rfl) ?_
  refine ops_nil ?_
  refine at_then ?_
  refine run_cond (b := (decide (8 < (x0.length : Int)))) rfl (fun hb2819 => ?_) (fun hb2819 => ?_)
  · replace H := cond_t hb2819 H
    refine run_seq ?_
    refine run_region rfl ?_
    refine ops_ex rfl (guard_none rfl) rfl rfl (ex_assign rfl rfl) ?_
    refine ops_nil ?_
    refine at_then ?_
    refine run_ret ?_
    refine at_then_ret ?_
    have hR := Option.some.inj H
    subst hR
    exact at_ret1 rfl rfl ⟨_, rfl, rfl, HM⟩
  · replace H := cond_f hb2819 H
    refine run_skip ?_
    refine at_then ?_
    obtain ⟨o2878, ho2879, H⟩ := bind_some H
    refine run_mid (fun ρ_ w_ => Sum.inr () = o2878 ∧ ρ_ = [(0, p0)] ∧ Mem w [] w_ []) ?_ ?_
    · skip
      refine run_seq ?_
      refine run_region rfl ?_
      refine ops_ex rfl (guard_none rfl) rfl rfl (ex_move rfl rfl) ?_
      refine ops_ex rfl (guard_none rfl) rfl rfl (ex_len (d := kMember) (xs := x0) rfl rfl Try.underlying49 hp0) ?_
      refine ops_ex rfl (guard_none rfl) rfl rfl (ex_move rfl rfl) ?_
      refine ops_nil ?_
      refine at_then ?_
      refine run_block ?_
      refine run_loop (fun k_ ρ_ w_ => ∃ a2899 : Int, impl_MembersFault.l0 x0 k_ a2899 = some o2878 ∧ ρ_ = [(0, p0), (10, p0), (11, .int .i64 (x0.length : Int)), (12, .int .i64 a2899)] ∧ Mem w [] w_ []) k (ρ1 := [(0, p0), (10, p0), (11, .int .i64 (x0.length : Int)), (12, .int .i64 0)]) ⟨_, ho2879, rfl, HM⟩ (Sub.cons rfl (Sub.cons rfl (Sub.cons rfl (Sub.cons rfl Sub.nil)))) ?_
      clear HM ho2879
      rintro k2919 _ w2920 ⟨a2899, ho2879, rfl, HM⟩
      obtain _ | k2919 := k2919
      · exact nomatch ((impl_MembersFault.l0_z x0 a2899).symm.trans ho2879)
      replace ho2879 := (impl_MembersFault.l0_s x0 k2919 a2899).symm.trans ho2879
      refine run_seq ?_
      refine run_region rfl ?_
      refine ops_ex rfl (guard_none rfl) rfl rfl (ex_lss rfl rfl rfl) ?_
      refine ops_nil ?_
      refine at_then ?_
      refine run_seq ?_
      refine run_cond (b := (decide (a2899 < (x0.length : Int)))) rfl (fun hb2921 => ?_) (fun hb2921 => ?_)
      · replace ho2879 := cond_t hb2921 ho2879
        refine run_skip ?_
        refine at_then ?_
        refine run_seq ?_
        refine run_block ?_
        refine run_seq ?_
        obtain ⟨e2922, ho2879⟩ := chk_some ho2879
        refine run_region rfl ?_
        refine ops_ex rfl (guard_none rfl) rfl rfl (ex_move rfl rfl) ?_
        have hc2923 : CellsAt _ (sb p0) (so p0 + (a2899).toNat * 3) [(.int .i64 ((gt x0 a2899).fKey)), (.int .i64 ((gt x0 a2899).fRef.fTx)), (.int .i64 ((gt x0 a2899).fRef.fAt))] := rd_plain hp0 e2922
        refine ops_ex rfl (guard_none rfl) rfl rfl (ex_indexAddr (d := kMember) rfl rfl rfl Try.underlying49 tsz144 hp0 (idx_lo e2922) (idx_hi e2922)) ?_
        refine ops_ex rfl (guard_none rfl) rfl rfl (ex_loadN (cs := [(.int .i64 ((gt x0 a2899).fKey)), (.int .i64 ((gt x0 a2899).fRef.fTx)), (.int .i64 ((gt x0 a2899).fRef.fAt))]) rfl rfl Try.underlying144 rfl tsz144 rfl ((HM.at_ hc2923).sub 0 3 rfl)) ?_
        refine ops_does rfl (guard_none rfl) rfl rfl (does_alloc (cs := [.int .i64 0, .int .i64 0, .int .i64 0]) rfl tz144 rfl HM) ?_
        rintro _ w2927 ⟨b2924, rfl, HM⟩
        refine ops_ex rfl (guard_none rfl) rfl rfl (ex_assign rfl rfl) ?_
        refine ops_doesS rfl (guard_none rfl) rfl (does_store (vs := [.int .i64 ((gt x0 a2899).fKey), .int .i64 ((gt x0 a2899).fRef.fTx), .int .i64 ((gt x0 a2899).fRef.fAt)]) (cs' := [.int .i64 ((gt x0 a2899).fKey), .int .i64 ((gt x0 a2899).fRef.fTx), .int .i64 ((gt x0 a2899).fRef.fAt)]) rfl rfl rfl rfl tsz144 (Ones.int (Ones.int (Ones.int Ones.nil))) rfl rfl HM) ?_
        rintro w2928 HM
        refine ops_nil ?_
        refine at_then ?_
        refine run_seq ?_
        refine run_seq ?_
        obtain ⟨t2934, h2935, ho2879⟩ := bind_some ho2879
        obtain ⟨t2936, h2937, ho2879⟩ := bind_some ho2879
        refine run_meet (fun ρ_ w_ => ρ_ = [(0, p0), (10, p0), (11, .int .i64 (x0.length : Int)), (12, .int .i64 a2899), (4, .pointer (some ⟨b2924, 0, none⟩)), (3, .int .i64 a2899), (26, .bool ((!t2934) || (!t2936)))] ∧ Mem w [] w_ [box b2924 144 [.int .i64 ((gt x0 a2899).fKey), .int .i64 ((gt x0 a2899).fRef.fTx), .int .i64 ((gt x0 a2899).fRef.fAt)]]) ?_ ?_
        · skip
          refine run_region rfl ?_
          refine ops_ex rfl (guard_none rfl) rfl rfl (ex_fieldAddr (off' := 0) rfl rfl Try.underlying144 rfl tsz2 rfl) ?_
          refine ops_ex rfl (guard_none rfl) rfl rfl (ex_load1 rfl rfl Try.underlying2 rfl ((HM.box_at 0 rfl) 0 _ rfl)) ?_
          refine ops_does rfl (guard_none rfl) rfl rfl (does_callk rfl callok86 rfl (impl_isKey.calls (x0 := (gt x0 a2899).fKey) h2935)) ?_
          rintro _ w2938 ⟨rfl, hn⟩
          replace HM : Mem w [] w2938 [box b2924 144 [.int .i64 ((gt x0 a2899).fKey), .int .i64 ((gt x0 a2899).fRef.fTx), .int .i64 ((gt x0 a2899).fRef.fAt)]] := HM.call hn
          refine ops_ex rfl (guard_none rfl) rfl rfl (ex_not rfl rfl) ?_
          refine ops_ex rfl (guard_none rfl) rfl rfl (ex_move rfl rfl) ?_
          refine bool_cases (!t2934) (fun hg2939 => ?_) (fun hg2939 => ?_)
          · skip
            refine ops_off rfl (guard_off rfl rfl rfl hg2939) rfl rfl ?_
            refine ops_off rfl (guard_off rfl rfl rfl hg2939) rfl rfl ?_
            refine ops_off rfl (guard_off rfl rfl rfl hg2939) rfl rfl ?_
            refine ops_off rfl (guard_off rfl rfl rfl hg2939) rfl rfl ?_
            have hg2940 : ((!t2934) || (!t2936)) = true := by simp only [hg2939, Bool.and_true, Bool.true_and, Bool.and_false, Bool.false_and, Bool.or_true, Bool.true_or, Bool.or_false, Bool.false_or, Bool.not_true, Bool.not_false, Bool.not_not]
            refine ops_ex (v := .bool ((!t2934) || (!t2936))) rfl (guard_none rfl) rfl rfl (ex_por_t rfl rfl hg2939) ?_
            refine ops_nil ?_
            exact at_meet [(0, p0), (10, p0), (11, .int .i64 (x0.length : Int)), (12, .int .i64 a2899), (4, .pointer (some ⟨b2924, 0, none⟩)), (3, .int .i64 a2899), (26, .bool ((!t2934) || (!t2936)))] ⟨rfl, HM⟩ (Sub.cons rfl (Sub.cons rfl (Sub.cons rfl (Sub.cons rfl (Sub.cons rfl (Sub.cons rfl (Sub.cons rfl Sub.nil)))))))
          · skip
            refine ops_ex rfl (guard_on rfl rfl rfl hg2939) rfl rfl (ex_fieldAddr (off' := 1) rfl rfl Try.underlying144 rfl tsz99 rfl) ?_
            refine ops_ex rfl (guard_on rfl rfl rfl hg2939) rfl rfl (ex_loadN (cs := [(.int .i64 ((gt x0 a2899).fRef.fTx)), (.int .i64 ((gt x0 a2899).fRef.fAt))]) rfl rfl Try.underlying99 rfl tsz99 rfl ((HM.box_at 0 rfl).sub 1 2 rfl)) ?_
            refine ops_does rfl (guard_on rfl rfl rfl hg2939) rfl rfl (does_callk rfl callok79 rfl (impl_isRef.calls (x0 := (gt x0 a2899).fRef) (cond_t (not_mk hg2939) h2937))) ?_
            rintro _ w2941 ⟨rfl, hn⟩
            replace HM : Mem w [] w2941 [box b2924 144 [.int .i64 ((gt x0 a2899).fKey), .int .i64 ((gt x0 a2899).fRef.fTx), .int .i64 ((gt x0 a2899).fRef.fAt)]] := HM.call hn
            refine ops_ex rfl (guard_on rfl rfl rfl hg2939) rfl rfl (ex_not rfl rfl) ?_
            refine ops_ex (v := .bool ((!t2934) || (!t2936))) rfl (guard_none rfl) rfl rfl (ex_por_f rfl rfl hg2939 rfl) ?_
            refine ops_nil ?_
            exact at_meet [(0, p0), (10, p0), (11, .int .i64 (x0.length : Int)), (12, .int .i64 a2899), (4, .pointer (some ⟨b2924, 0, none⟩)), (3, .int .i64 a2899), (26, .bool ((!t2934) || (!t2936)))] ⟨rfl, HM⟩ (Sub.cons rfl (Sub.cons rfl (Sub.cons rfl (Sub.cons rfl (Sub.cons rfl (Sub.cons rfl (Sub.cons rfl Sub.nil)))))))
        · rintro _ w2942 ⟨rfl, HM⟩
          refine at_then ?_
          refine run_cond (b := ((!t2934) || (!t2936))) rfl (fun hb2943 => ?_) (fun hb2943 => ?_)
          · replace ho2879 := cond_t hb2943 ho2879
            refine run_seq ?_
            refine run_region rfl ?_
            refine ops_ex rfl (guard_none rfl) rfl rfl (ex_assign rfl rfl) ?_
            refine ops_nil ?_
            refine at_then ?_
            refine run_ret ?_
            refine at_then_ret ?_
            refine at_block_ret ?_
            refine at_then_ret ?_
            refine at_then_ret ?_
            refine at_block_ret ?_
            refine at_then_ret ?_
            replace HM := (HM.front 0 rfl rfl).drop
            have hR := Option.some.inj ho2879
            subst hR
            have hT := thn_inl H
            have hR := Option.some.inj hT
            subst hR
            exact at_ret1 rfl rfl ⟨_, rfl, rfl, HM⟩
          · replace ho2879 := cond_f hb2943 ho2879
            refine run_skip ?_
            refine at_then ?_
            refine run_seq ?_
            obtain ⟨e2944, ho2879⟩ := chk_some ho2879
            refine run_meet (fun ρ_ w_ => ρ_ = [(0, p0), (10, p0), (11, .int .i64 (x0.length : Int)), (12, .int .i64 a2899), (39, .bool ((decide (0 < a2899)) && (decide (((gt x0 a2899).fKey) ≤ ((gt x0 (wrap64 (a2899 - 1))).fKey)))))] ∧ Mem w [] w_ []) ?_ ?_
            · skip
              refine run_drawf (fun w_ => Mem w [] w_ [box b2924 144 [.int .i64 ((gt x0 a2899).fKey), .int .i64 ((gt x0 a2899).fRef.fTx), .int .i64 ((gt x0 a2899).fRef.fAt)]]) [(0, true), (1, true), (2, true), (3, true), (4, true), (5, true), (6, true), (7, true), (8, true), (9, true), (10, true), (11, true), (12, true)] mixed rfl rfl (by kernel_rfl) ?_
              replace HM := HM.grow (fr_drew _)
              have hS := Mem.suf (M := []) HM
              refine drwp_take rfl (guard_none rfl) rfl rfl (fun w_ hS_ => (ex_move rfl rfl)) hS ?_
              refine drwp_take rfl (guard_none rfl) rfl rfl (fun w_ hS_ => (ex_gtr rfl rfl rfl)) hS ?_
              refine drwp_take rfl (guard_none rfl) rfl rfl (fun w_ hS_ => (ex_move rfl rfl)) hS ?_
              refine bool_cases (decide (0 < a2899)) (fun hg2946 => ?_) (fun hg2946 => ?_)
              · skip
                refine drwp_take rfl (guard_on rfl rfl rfl hg2946) rfl rfl (fun w_ hS_ => (ex_fieldAddr (off' := 0) rfl rfl Try.underlying144 rfl tsz2 rfl)) hS ?_
                refine drwp_take rfl (guard_on rfl rfl rfl hg2946) rfl rfl (fun w_ hS_ => (ex_load1 rfl rfl Try.underlying2 rfl ((hS_.box_at 0 rfl) 0 _ rfl))) hS ?_
                refine drwp_take rfl (guard_on rfl rfl rfl hg2946) rfl rfl (fun w_ hS_ => (ex_move rfl rfl)) hS ?_
                refine drwp_take rfl (guard_on rfl rfl rfl hg2946) rfl rfl (fun w_ hS_ => (ex_move rfl rfl)) hS ?_
                refine drwp_take rfl (guard_on rfl rfl rfl hg2946) rfl rfl (fun w_ hS_ => (ex_sub rfl rfl rfl)) hS ?_
                have hc2945 : CellsAt _ (sb p0) (so p0 + (wrap64 (a2899 - 1)).toNat * 3) [(.int .i64 ((gt x0 (wrap64 (a2899 - 1))).fKey)), (.int .i64 ((gt x0 (wrap64 (a2899 - 1))).fRef.fTx)), (.int .i64 ((gt x0 (wrap64 (a2899 - 1))).fRef.fAt))] := rd_plain hp0 (or_t e2944 hg2946)
                refine drwp_take rfl (guard_on rfl rfl rfl hg2946) rfl rfl (fun w_ hS_ => (ex_indexAddr (d := kMember) rfl rfl rfl Try.underlying49 tsz144 hp0 (idx_lo (or_t e2944 hg2946)) (idx_hi (or_t e2944 hg2946)))) hS ?_
                refine drwp_take rfl (guard_on rfl rfl rfl hg2946) rfl rfl (fun w_ hS_ => (ex_fieldAddr (off' := so p0 + (wrap64 (a2899 - 1)).toNat * 3) rfl rfl Try.underlying144 rfl tsz2 rfl)) hS ?_
                refine drwp_take rfl (guard_on rfl rfl rfl hg2946) rfl rfl (fun w_ hS_ => (ex_load1 rfl rfl Try.underlying2 rfl ((hS_.at_ hc2945) 0 _ rfl))) hS ?_
                refine drwp_take rfl (guard_on rfl rfl rfl hg2946) rfl rfl (fun w_ hS_ => (ex_leq rfl rfl rfl)) hS ?_
                refine drwp_take (v := .bool ((decide (0 < a2899)) && (decide (((gt x0 a2899).fKey) ≤ ((gt x0 (wrap64 (a2899 - 1))).fKey))))) rfl (guard_none rfl) rfl rfl (fun w_ hS_ => (ex_pand_t rfl rfl hg2946 rfl)) hS ?_
                refine drwp_done ?_
                replace HM := (HM.front 0 rfl rfl).drop
                exact at_meet [(0, p0), (10, p0), (11, .int .i64 (x0.length : Int)), (12, .int .i64 a2899), (39, .bool ((decide (0 < a2899)) && (decide (((gt x0 a2899).fKey) ≤ ((gt x0 (wrap64 (a2899 - 1))).fKey)))))] ⟨rfl, HM⟩ (Sub.cons rfl (Sub.cons rfl (Sub.cons rfl (Sub.cons rfl (Sub.cons rfl Sub.nil)))))
              · skip
                refine drwp_off rfl (guard_off rfl rfl rfl hg2946) rfl rfl hS ?_
                refine drwp_off rfl (guard_off rfl rfl rfl hg2946) rfl rfl hS ?_
                refine drwp_off rfl (guard_off rfl rfl rfl hg2946) rfl rfl hS ?_
                refine drwp_off rfl (guard_off rfl rfl rfl hg2946) rfl rfl hS ?_
                refine drwp_off rfl (guard_off rfl rfl rfl hg2946) rfl rfl hS ?_
                refine drwp_off rfl (guard_off rfl rfl rfl hg2946) rfl rfl hS ?_
                refine drwp_off rfl (guard_off rfl rfl rfl hg2946) rfl rfl hS ?_
                refine drwp_off rfl (guard_off rfl rfl rfl hg2946) rfl rfl hS ?_
                refine drwp_off rfl (guard_off rfl rfl rfl hg2946) rfl rfl hS ?_
                have hg2947 : ((decide (0 < a2899)) && (decide (((gt x0 a2899).fKey) ≤ ((gt x0 (wrap64 (a2899 - 1))).fKey)))) = false := by simp only [hg2946, Bool.and_true, Bool.true_and, Bool.and_false, Bool.false_and, Bool.or_true, Bool.true_or, Bool.or_false, Bool.false_or, Bool.not_true, Bool.not_false, Bool.not_not]
                refine drwp_take (v := .bool ((decide (0 < a2899)) && (decide (((gt x0 a2899).fKey) ≤ ((gt x0 (wrap64 (a2899 - 1))).fKey))))) rfl (guard_none rfl) rfl rfl (fun w_ hS_ => (ex_pand_f rfl rfl hg2946)) hS ?_
                refine drwp_done ?_
                replace HM := (HM.front 0 rfl rfl).drop
                exact at_meet [(0, p0), (10, p0), (11, .int .i64 (x0.length : Int)), (12, .int .i64 a2899), (39, .bool ((decide (0 < a2899)) && (decide (((gt x0 a2899).fKey) ≤ ((gt x0 (wrap64 (a2899 - 1))).fKey)))))] ⟨rfl, HM⟩ (Sub.cons rfl (Sub.cons rfl (Sub.cons rfl (Sub.cons rfl (Sub.cons rfl Sub.nil)))))
            · rintro _ w2948 ⟨rfl, HM⟩
              refine at_then ?_
              refine run_cond (b := ((decide (0 < a2899)) && (decide (((gt x0 a2899).fKey) ≤ ((gt x0 (wrap64 (a2899 - 1))).fKey))))) rfl (fun hb2949 => ?_) (fun hb2949 => ?_)
              · replace ho2879 := cond_t hb2949 ho2879
                refine run_seq ?_
                refine run_region rfl ?_
                refine ops_ex rfl (guard_none rfl) rfl rfl (ex_assign rfl rfl) ?_
                refine ops_nil ?_
                refine at_then ?_
                refine run_ret ?_
                refine at_block_ret ?_
                refine at_then_ret ?_
                refine at_then_ret ?_
                refine at_block_ret ?_
                refine at_then_ret ?_
                have hR := Option.some.inj ho2879
                subst hR
                have hT := thn_inl H
                have hR := Option.some.inj hT
                subst hR
                exact at_ret1 rfl rfl ⟨_, rfl, rfl, HM⟩
              · replace ho2879 := cond_f hb2949 ho2879
                refine run_skip ?_
                refine at_block ?_
                refine at_then ?_
                refine run_region rfl ?_
                refine ops_ex rfl (guard_none rfl) rfl rfl (ex_add rfl rfl rfl) ?_
                refine ops_ex rfl (guard_none rfl) rfl rfl (ex_move rfl rfl) ?_
                refine ops_nil ?_
                exact at_again k2919 (ρ1 := [(0, p0), (10, p0), (11, .int .i64 (x0.length : Int)), (12, .int .i64 (wrap64 (a2899 + 1)))]) (Nat.lt_succ_self _) ⟨_, ho2879, rfl, HM⟩ (Sub.cons rfl (Sub.cons rfl (Sub.cons rfl (Sub.cons rfl Sub.nil))))
      · replace ho2879 := cond_f hb2921 ho2879
        refine run_exit ?_
        refine at_then_exit ?_
        refine at_then_exit ?_
        refine at_block_exit ?_
        exact at_mid (ρ' := [(0, p0)]) ⟨(Option.some.inj ho2879), rfl, HM⟩ (Sub.cons rfl Sub.nil)
    · rintro _ w2950 ⟨rfl, rfl, HM⟩
      replace H := (thn_inr H)
      obtain ⟨o2991, ho2992, H⟩ := bind_some H
      refine run_mid (fun ρ_ w_ => Sum.inr () = o2991 ∧ ρ_ = [] ∧ Mem w [] w_ []) ?_ ?_
      · skip
        refine run_seq ?_
        refine run_region rfl ?_
        refine ops_ex rfl (guard_none rfl) rfl rfl (ex_move rfl rfl) ?_
        refine ops_ex rfl (guard_none rfl) rfl rfl (ex_len (d := kMember) (xs := x0) rfl rfl Try.underlying49 hp0) ?_
        refine ops_ex rfl (guard_none rfl) rfl rfl (ex_move rfl rfl) ?_
        refine ops_nil ?_
        refine at_then ?_
        refine run_block ?_
        refine run_loop (fun k_ ρ_ w_ => ∃ a3006 : Int, impl_MembersFault.l1 x0 k_ a3006 = some o2991 ∧ ρ_ = [(0, p0), (41, p0), (42, .int .i64 (x0.length : Int)), (43, .int .i64 a3006)] ∧ Mem w [] w_ []) k (ρ1 := [(0, p0), (41, p0), (42, .int .i64 (x0.length : Int)), (43, .int .i64 0)]) ⟨_, ho2992, rfl, HM⟩ (Sub.cons rfl (Sub.cons rfl (Sub.cons rfl (Sub.cons rfl Sub.nil)))) ?_
        clear HM ho2992
        rintro k3020 _ w3021 ⟨a3006, ho2992, rfl, HM⟩
        obtain _ | k3020 := k3020
        · exact nomatch ((impl_MembersFault.l1_z x0 a3006).symm.trans ho2992)
        replace ho2992 := (impl_MembersFault.l1_s x0 k3020 a3006).symm.trans ho2992
        refine run_seq ?_
        refine run_region rfl ?_
        refine ops_ex rfl (guard_none rfl) rfl rfl (ex_lss rfl rfl rfl) ?_
        refine ops_nil ?_
        refine at_then ?_
        refine run_seq ?_
        refine run_cond (b := (decide (a3006 < (x0.length : Int)))) rfl (fun hb3022 => ?_) (fun hb3022 => ?_)
        · replace ho2992 := cond_t hb3022 ho2992
          refine run_skip ?_
          refine at_then ?_
          refine run_seq ?_
          refine run_block ?_
          refine run_seq ?_
          obtain ⟨e3023, ho2992⟩ := chk_some ho2992
          refine run_region rfl ?_
          refine ops_ex rfl (guard_none rfl) rfl rfl (ex_move rfl rfl) ?_
          have hc3024 : CellsAt _ (sb p0) (so p0 + (a3006).toNat * 3) [(.int .i64 ((gt x0 a3006).fKey)), (.int .i64 ((gt x0 a3006).fRef.fTx)), (.int .i64 ((gt x0 a3006).fRef.fAt))] := rd_plain hp0 e3023
          refine ops_ex rfl (guard_none rfl) rfl rfl (ex_indexAddr (d := kMember) rfl rfl rfl Try.underlying49 tsz144 hp0 (idx_lo e3023) (idx_hi e3023)) ?_
          refine ops_ex rfl (guard_none rfl) rfl rfl (ex_loadN (cs := [(.int .i64 ((gt x0 a3006).fKey)), (.int .i64 ((gt x0 a3006).fRef.fTx)), (.int .i64 ((gt x0 a3006).fRef.fAt))]) rfl rfl Try.underlying144 rfl tsz144 rfl ((HM.at_ hc3024).sub 0 3 rfl)) ?_
          refine ops_does rfl (guard_none rfl) rfl rfl (does_alloc (cs := [.int .i64 0, .int .i64 0, .int .i64 0]) rfl tz144 rfl HM) ?_
          rintro _ w3028 ⟨b3025, rfl, HM⟩
          refine ops_ex rfl (guard_none rfl) rfl rfl (ex_assign rfl rfl) ?_
          refine ops_doesS rfl (guard_none rfl) rfl (does_store (vs := [.int .i64 ((gt x0 a3006).fKey), .int .i64 ((gt x0 a3006).fRef.fTx), .int .i64 ((gt x0 a3006).fRef.fAt)]) (cs' := [.int .i64 ((gt x0 a3006).fKey), .int .i64 ((gt x0 a3006).fRef.fTx), .int .i64 ((gt x0 a3006).fRef.fAt)]) rfl rfl rfl rfl tsz144 (Ones.int (Ones.int (Ones.int Ones.nil))) rfl rfl HM) ?_
          rintro w3029 HM
          refine ops_nil ?_
          refine at_then ?_
          refine run_seq ?_
          obtain ⟨e3030, ho2992⟩ := chk_some ho2992
          obtain ⟨t3034, h3035, ho2992⟩ := bind_some ho2992
          refine run_region rfl ?_
          refine ops_ex rfl (guard_none rfl) rfl rfl (ex_move rfl rfl) ?_
          refine ops_ex rfl (guard_none rfl) rfl rfl (ex_move rfl rfl) ?_
          refine ops_exE rfl (guard_none rfl) rfl rfl (ex_cutH kMember rfl rfl rfl Try.underlying49 tsz144 hp0 e3030) ?_
          intro u3031 hr3033
          refine ops_ex rfl (guard_none rfl) rfl rfl (ex_func rfl rfl) ?_
          refine ops_does rfl (guard_none rfl) rfl rfl (does_callk rfl callok145 rfl (slices_ContainsFunc_impl_Member.calls (x0 := x0.take (a3006).toNat) (x1_0 := (gt x0 a3006)) (HM.rd hr3033) (HM.box_at 0 rfl) h3035)) ?_
          rintro _ w3036 ⟨rfl, hn⟩
          replace HM : Mem w [] w3036 [box b3025 144 [.int .i64 ((gt x0 a3006).fKey), .int .i64 ((gt x0 a3006).fRef.fTx), .int .i64 ((gt x0 a3006).fRef.fAt)]] := HM.call hn
          refine ops_nil ?_
          refine at_then ?_
          refine run_cond (b := t3034) rfl (fun hb3037 => ?_) (fun hb3037 => ?_)
          · replace ho2992 := cond_t hb3037 ho2992
            refine run_seq ?_
            refine run_region rfl ?_
            refine ops_ex rfl (guard_none rfl) rfl rfl (ex_assign rfl rfl) ?_
            refine ops_nil ?_
            refine at_then ?_
            refine run_ret ?_
            refine at_block_ret ?_
            refine at_then_ret ?_
            refine at_then_ret ?_
            refine at_block_ret ?_
            refine at_then_ret ?_
            replace HM := (HM.front 0 rfl rfl).drop
            have hR := Option.some.inj ho2992
            subst hR
            have hT := thn_inl H
            have hR := Option.some.inj hT
            subst hR
            exact at_ret1 rfl rfl ⟨_, rfl, rfl, HM⟩
          · replace ho2992 := cond_f hb3037 ho2992
            refine run_skip ?_
            refine at_block ?_
            refine at_then ?_
            refine run_region rfl ?_
            refine ops_ex rfl (guard_none rfl) rfl rfl (ex_add rfl rfl rfl) ?_
            refine ops_ex rfl (guard_none rfl) rfl rfl (ex_move rfl rfl) ?_
            refine ops_nil ?_
            replace HM := (HM.front 0 rfl rfl).drop
            exact at_again k3020 (ρ1 := [(0, p0), (41, p0), (42, .int .i64 (x0.length : Int)), (43, .int .i64 (wrap64 (a3006 + 1)))]) (Nat.lt_succ_self _) ⟨_, ho2992, rfl, HM⟩ (Sub.cons rfl (Sub.cons rfl (Sub.cons rfl (Sub.cons rfl Sub.nil))))
        · replace ho2992 := cond_f hb3022 ho2992
          refine run_exit ?_
          refine at_then_exit ?_
          refine at_then_exit ?_
          refine at_block_exit ?_
          exact at_mid (ρ' := []) ⟨(Option.some.inj ho2992), rfl, HM⟩ Sub.nil
      · rintro _ w3038 ⟨rfl, rfl, HM⟩
        replace H := (thn_inr H)
        refine run_seq ?_
        refine run_region rfl ?_
        refine ops_ex rfl (guard_none rfl) rfl rfl (ex_assign rfl rfl) ?_
        refine ops_nil ?_
        refine at_then ?_
        refine run_ret ?_
        have hR := Option.some.inj H
        subst hR
        exact at_ret1 rfl rfl ⟨_, rfl, rfl, HM⟩

def impl_StateFault.f (k : Nat) (x0 : State) : Option Int := ((impl_within.f k x0.fTip 0 60).bind fun t3051 => ((bif (!(!t3051)) then impl_within.f k x0.fHeight 0 40 else some default).bind fun t3053 => (bif ((!t3051) || (!t3053)) then some 3 else (bif ((x0.fTip == 0) != (x0.fHeight == 0)) then some 1 else ((impl_CoinsFault.f k x0.fCoins).bind fun t3062 => (bif (t3062 != 0) then some t3062 else ((impl_MembersFault.f k x0.fMembers).bind fun t3066 => some t3066)))))))
theorem impl_StateFault.calls {k : Nat} {x0 : State} {p0_0 : Value} {p0_1 : Value} {w : World} (hp0_0 : RdS kCoin w p0_0 x0.fCoins) (hp0_1 : RdS kMember w p0_1 x0.fMembers) {r : Int} (H : impl_StateFault.f k x0 = some r) :
    Calls Try.prog 42 ([.agg #[(.int .i64 x0.fTip), (.int .i64 x0.fHeight), p0_0, p0_1]] : List Value).toArray w (fun e w_ => ∃ v, e = .returned v ∧ v = (.int .i64 r) ∧ Mem w [] w_ []) := by
  have HM := Mem.start w
  refine calls_run (N := 32) Try.func42 rfl rfl rfl rfl ?_
  unfold impl_StateFault.f at H
  refine run_seq ?_
  refine run_region rfl ?_
  refine ops_does rfl (guard_none rfl) rfl rfl (does_box (cs := [.int .i64 x0.fTip, .int .i64 x0.fHeight, p0_0, p0_1]) rfl rfl rfl HM) ?_
  rintro _ w3044 ⟨b3041, rfl, HM⟩
  refine ops_ex rfl (guard_none rfl) rfl rfl (ex_assign rfl rfl) ?_
  refine ops_nil ?_
  refine at_then ?_
  refine run_seq ?_
  refine run_block ?_
  refine run_seq ?_
  obtain ⟨t3051, h3052, H⟩ := bind_some H
  obtain ⟨t3053, h3054, H⟩ := bind_some H
  refine run_meet (fun ρ_ w_ => ρ_ = [(1, .pointer (some ⟨b3041, 0, none⟩)), (4, .bool ((!t3051) || (!t3053)))] ∧ Mem w [] w_ [box b3041 51 [.int .i64 x0.fTip, .int .i64 x0.fHeight, p0_0, p0_1]]) ?_ ?_
  · skip
    refine run_region rfl ?_
    refine ops_ex rfl (guard_none rfl) rfl rfl (ex_fieldAddr (off' := 0) rfl rfl Try.underlying51 rfl tsz2 rfl) ?_
    refine ops_ex rfl (guard_none rfl) rfl rfl (ex_load1 rfl rfl Try.underlying2 rfl ((HM.box_at 0 rfl) 0 _ rfl)) ?_
    refine ops_does rfl (guard_none rfl) rfl rfl (does_callk rfl callok81 rfl (impl_within.calls (x0 := x0.fTip) (x1 := 0) (x2 := 60) h3052)) ?_
    rintro _ w3055 ⟨rfl, hn⟩
    replace HM : Mem w [] w3055 [box b3041 51 [.int .i64 x0.fTip, .int .i64 x0.fHeight, p0_0, p0_1]] := HM.call hn
    refine ops_ex rfl (guard_none rfl) rfl rfl (ex_not rfl rfl) ?_
    refine ops_ex rfl (guard_none rfl) rfl rfl (ex_move rfl rfl) ?_
    refine bool_cases (!t3051) (fun hg3056 => ?_) (fun hg3056 => ?_)
    · skip
      refine ops_off rfl (guard_off rfl rfl rfl hg3056) rfl rfl ?_
      refine ops_off rfl (guard_off rfl rfl rfl hg3056) rfl rfl ?_
      refine ops_off rfl (guard_off rfl rfl rfl hg3056) rfl rfl ?_
      refine ops_off rfl (guard_off rfl rfl rfl hg3056) rfl rfl ?_
      have hg3057 : ((!t3051) || (!t3053)) = true := by simp only [hg3056, Bool.and_true, Bool.true_and, Bool.and_false, Bool.false_and, Bool.or_true, Bool.true_or, Bool.or_false, Bool.false_or, Bool.not_true, Bool.not_false, Bool.not_not]
      refine ops_ex (v := .bool ((!t3051) || (!t3053))) rfl (guard_none rfl) rfl rfl (ex_por_t rfl rfl hg3056) ?_
      refine ops_ex rfl (guard_none rfl) rfl rfl (ex_assign rfl rfl) ?_
      refine ops_nil ?_
      exact at_meet [(1, .pointer (some ⟨b3041, 0, none⟩)), (4, .bool ((!t3051) || (!t3053)))] ⟨rfl, HM⟩ (Sub.cons rfl (Sub.cons rfl Sub.nil))
    · skip
      refine ops_ex rfl (guard_on rfl rfl rfl hg3056) rfl rfl (ex_fieldAddr (off' := 1) rfl rfl Try.underlying51 rfl tsz2 rfl) ?_
      refine ops_ex rfl (guard_on rfl rfl rfl hg3056) rfl rfl (ex_load1 rfl rfl Try.underlying2 rfl ((HM.box_at 0 rfl) 1 _ rfl)) ?_
      refine ops_does rfl (guard_on rfl rfl rfl hg3056) rfl rfl (does_callk rfl callok81 rfl (impl_within.calls (x0 := x0.fHeight) (x1 := 0) (x2 := 40) (cond_t (not_mk hg3056) h3054))) ?_
      rintro _ w3058 ⟨rfl, hn⟩
      replace HM : Mem w [] w3058 [box b3041 51 [.int .i64 x0.fTip, .int .i64 x0.fHeight, p0_0, p0_1]] := HM.call hn
      refine ops_ex rfl (guard_on rfl rfl rfl hg3056) rfl rfl (ex_not rfl rfl) ?_
      refine ops_ex (v := .bool ((!t3051) || (!t3053))) rfl (guard_none rfl) rfl rfl (ex_por_f rfl rfl hg3056 rfl) ?_
      refine ops_ex rfl (guard_none rfl) rfl rfl (ex_assign rfl rfl) ?_
      refine ops_nil ?_
      exact at_meet [(1, .pointer (some ⟨b3041, 0, none⟩)), (4, .bool ((!t3051) || (!t3053)))] ⟨rfl, HM⟩ (Sub.cons rfl (Sub.cons rfl Sub.nil))
  · rintro _ w3059 ⟨rfl, HM⟩
    refine at_then ?_
    refine run_cond (b := ((!t3051) || (!t3053))) rfl (fun hb3060 => ?_) (fun hb3060 => ?_)
    · replace H := cond_t hb3060 H
      refine run_seq ?_
      refine run_region rfl ?_
      refine ops_ex rfl (guard_none rfl) rfl rfl (ex_assign rfl rfl) ?_
      refine ops_nil ?_
      refine at_then ?_
      refine run_ret ?_
      refine at_block_ret ?_
      refine at_then_ret ?_
      replace HM := (HM.front 0 rfl rfl).drop
      have hR := Option.some.inj H
      subst hR
      exact at_ret1 rfl rfl ⟨_, rfl, rfl, HM⟩
    · replace H := cond_f hb3060 H
      refine run_seq ?_
      refine run_region rfl ?_
      refine ops_ex rfl (guard_none rfl) rfl rfl (ex_fieldAddr (off' := 0) rfl rfl Try.underlying51 rfl tsz2 rfl) ?_
      refine ops_ex rfl (guard_none rfl) rfl rfl (ex_load1 rfl rfl Try.underlying2 rfl ((HM.box_at 0 rfl) 0 _ rfl)) ?_
      refine ops_ex rfl (guard_none rfl) rfl rfl (ex_eql rfl rfl rfl) ?_
      refine ops_ex rfl (guard_none rfl) rfl rfl (ex_fieldAddr (off' := 1) rfl rfl Try.underlying51 rfl tsz2 rfl) ?_
      refine ops_ex rfl (guard_none rfl) rfl rfl (ex_load1 rfl rfl Try.underlying2 rfl ((HM.box_at 0 rfl) 1 _ rfl)) ?_
      refine ops_ex rfl (guard_none rfl) rfl rfl (ex_eql rfl rfl rfl) ?_
      refine ops_ex rfl (guard_none rfl) rfl rfl (ex_bneq rfl rfl rfl Try.underlying4) ?_
      refine ops_ex rfl (guard_none rfl) rfl rfl (ex_assign rfl rfl) ?_
      refine ops_nil ?_
      refine at_then ?_
      refine run_cond (b := ((x0.fTip == 0) != (x0.fHeight == 0))) rfl (fun hb3061 => ?_) (fun hb3061 => ?_)
      · replace H := cond_t hb3061 H
        refine run_seq ?_
        refine run_region rfl ?_
        refine ops_ex rfl (guard_none rfl) rfl rfl (ex_assign rfl rfl) ?_
        refine ops_nil ?_
        refine at_then ?_
        refine run_ret ?_
        refine at_block_ret ?_
        refine at_then_ret ?_
        replace HM := (HM.front 0 rfl rfl).drop
        have hR := Option.some.inj H
        subst hR
        exact at_ret1 rfl rfl ⟨_, rfl, rfl, HM⟩
      · replace H := cond_f hb3061 H
        refine run_skip ?_
        refine at_block ?_
        refine at_then ?_
        refine run_seq ?_
        refine run_seq ?_
        obtain ⟨t3062, h3063, H⟩ := bind_some H
        refine run_region rfl ?_
        refine ops_ex rfl (guard_none rfl) rfl rfl (ex_fieldAddr (off' := 2) rfl rfl Try.underlying51 rfl tsz25 rfl) ?_
        refine ops_ex rfl (guard_none rfl) rfl rfl (ex_load1 rfl rfl Try.underlying25 rfl ((HM.box_at 0 rfl) 2 _ rfl)) ?_
        refine ops_does rfl (guard_none rfl) rfl rfl (does_callk rfl callok26 rfl (impl_CoinsFault.calls (x0 := x0.fCoins) (HM.rd hp0_0) h3063)) ?_
        rintro _ w3064 ⟨rfl, hn⟩
        replace HM : Mem w [] w3064 [box b3041 51 [.int .i64 x0.fTip, .int .i64 x0.fHeight, p0_0, p0_1]] := HM.call hn
        refine ops_ex rfl (guard_none rfl) rfl rfl (ex_assign rfl rfl) ?_
        refine ops_nil ?_
        refine at_then ?_
        refine run_seq ?_
        refine run_region rfl ?_
        refine ops_ex rfl (guard_none rfl) rfl rfl (ex_move rfl rfl) ?_
        refine ops_ex rfl (guard_none rfl) rfl rfl (ex_neq rfl rfl rfl) ?_
        refine ops_nil ?_
        refine at_then ?_
        refine run_cond (b := (t3062 != 0)) rfl (fun hb3065 => ?_) (fun hb3065 => ?_)
        · replace H := cond_t hb3065 H
          refine run_seq ?_
          refine run_region rfl ?_
          refine ops_ex rfl (guard_none rfl) rfl rfl (ex_move rfl rfl) ?_
          refine ops_ex rfl (guard_none rfl) rfl rfl (ex_assign rfl rfl) ?_
          refine ops_nil ?_
          refine at_then ?_
          refine run_ret ?_
          refine at_then_ret ?_
          replace HM := (HM.front 0 rfl rfl).drop
          have hR := Option.some.inj H
          subst hR
          exact at_ret1 rfl rfl ⟨_, rfl, rfl, HM⟩
        · replace H := cond_f hb3065 H
          refine run_skip ?_
          refine at_then ?_
          refine run_seq ?_
          obtain ⟨t3066, h3067, H⟩ := bind_some H
          refine run_region rfl ?_
          refine ops_ex rfl (guard_none rfl) rfl rfl (ex_fieldAddr (off' := 3) rfl rfl Try.underlying51 rfl tsz49 rfl) ?_
          refine ops_ex rfl (guard_none rfl) rfl rfl (ex_load1 rfl rfl Try.underlying49 rfl ((HM.box_at 0 rfl) 3 _ rfl)) ?_
          refine ops_does rfl (guard_none rfl) rfl rfl (does_callk rfl callok98 rfl (impl_MembersFault.calls (x0 := x0.fMembers) (HM.rd hp0_1) h3067)) ?_
          rintro _ w3068 ⟨rfl, hn⟩
          replace HM : Mem w [] w3068 [box b3041 51 [.int .i64 x0.fTip, .int .i64 x0.fHeight, p0_0, p0_1]] := HM.call hn
          refine ops_ex rfl (guard_none rfl) rfl rfl (ex_assign rfl rfl) ?_
          refine ops_nil ?_
          refine at_then ?_
          refine run_ret ?_
          replace HM := (HM.front 0 rfl rfl).drop
          have hR := Option.some.inj H
          subst hR
          exact at_ret1 rfl rfl ⟨_, rfl, rfl, HM⟩

def laws_eqRef.f (k : Nat) (x0 : Ref) (x1 : Ref) : Option Bool := (bif (x0.fTx != x1.fTx) then some false else (bif (x0.fAt != x1.fAt) then some false else some true))
theorem laws_eqRef.calls {k : Nat} {x0 : Ref} {x1 : Ref}  {w : World}  {r : Bool} (H : laws_eqRef.f k x0 x1 = some r) :
    Calls Try.prog 124 ([.agg #[(.int .i64 x0.fTx), (.int .i64 x0.fAt)], .agg #[(.int .i64 x1.fTx), (.int .i64 x1.fAt)]] : List Value).toArray w (fun e w_ => ∃ v, e = .returned v ∧ v = (.bool r) ∧ Mem w [] w_ []) := by
  have HM := Mem.start w
  refine calls_run (N := 15) Try.func124 rfl rfl rfl rfl ?_
  unfold laws_eqRef.f at H
  refine run_seq ?_
  refine run_region rfl ?_
  refine ops_does rfl (guard_none rfl) rfl rfl (does_box (cs := [.int .i64 x0.fTx, .int .i64 x0.fAt]) rfl rfl rfl HM) ?_
  rintro _ w3121 ⟨b3115, rfl, HM⟩
  refine ops_does rfl (guard_none rfl) rfl rfl (does_box (cs := [.int .i64 x1.fTx, .int .i64 x1.fAt]) rfl rfl rfl HM) ?_
  rintro _ w3122 ⟨b3118, rfl, HM⟩
  refine ops_ex rfl (guard_none rfl) rfl rfl (ex_assign rfl rfl) ?_
  refine ops_nil ?_
  refine at_then ?_
  refine run_seq ?_
  refine run_seq ?_
  refine run_region rfl ?_
  refine ops_ex rfl (guard_none rfl) rfl rfl (ex_fieldAddr (off' := 0) rfl rfl Try.underlying99 rfl tsz2 rfl) ?_
  refine ops_ex rfl (guard_none rfl) rfl rfl (ex_load1 rfl rfl Try.underlying2 rfl ((HM.box_at 1 rfl) 0 _ rfl)) ?_
  refine ops_ex rfl (guard_none rfl) rfl rfl (ex_fieldAddr (off' := 0) rfl rfl Try.underlying99 rfl tsz2 rfl) ?_
  refine ops_ex rfl (guard_none rfl) rfl rfl (ex_load1 rfl rfl Try.underlying2 rfl ((HM.box_at 0 rfl) 0 _ rfl)) ?_
  refine ops_ex rfl (guard_none rfl) rfl rfl (ex_neq rfl rfl rfl) ?_
  refine ops_nil ?_
  refine at_then ?_
  refine run_cond (b := (x0.fTx != x1.fTx)) rfl (fun hb3124 => ?_) (fun hb3124 => ?_)
  · replace H := cond_t hb3124 H
    refine run_seq ?_
    refine run_region rfl ?_
    refine ops_ex rfl (guard_none rfl) rfl rfl (ex_assign rfl rfl) ?_
    refine ops_nil ?_
    refine at_then ?_
    refine run_ret ?_
    refine at_then_ret ?_
    replace HM := (HM.front 0 rfl rfl).drop
    replace HM := (HM.front 0 rfl rfl).drop
    have hR := Option.some.inj H
    subst hR
    exact at_ret1 rfl rfl ⟨_, rfl, rfl, HM⟩
  · replace H := cond_f hb3124 H
    refine run_skip ?_
    refine at_then ?_
    refine run_seq ?_
    refine run_seq ?_
    refine run_region rfl ?_
    refine ops_ex rfl (guard_none rfl) rfl rfl (ex_fieldAddr (off' := 1) rfl rfl Try.underlying99 rfl tsz2 rfl) ?_
    refine ops_ex rfl (guard_none rfl) rfl rfl (ex_load1 rfl rfl Try.underlying2 rfl ((HM.box_at 1 rfl) 1 _ rfl)) ?_
    refine ops_ex rfl (guard_none rfl) rfl rfl (ex_fieldAddr (off' := 1) rfl rfl Try.underlying99 rfl tsz2 rfl) ?_
    refine ops_ex rfl (guard_none rfl) rfl rfl (ex_load1 rfl rfl Try.underlying2 rfl ((HM.box_at 0 rfl) 1 _ rfl)) ?_
    refine ops_ex rfl (guard_none rfl) rfl rfl (ex_neq rfl rfl rfl) ?_
    refine ops_nil ?_
    refine at_then ?_
    refine run_cond (b := (x0.fAt != x1.fAt)) rfl (fun hb3125 => ?_) (fun hb3125 => ?_)
    · replace H := cond_t hb3125 H
      refine run_seq ?_
      refine run_region rfl ?_
      refine ops_ex rfl (guard_none rfl) rfl rfl (ex_assign rfl rfl) ?_
      refine ops_nil ?_
      refine at_then ?_
      refine run_ret ?_
      refine at_then_ret ?_
      replace HM := (HM.front 0 rfl rfl).drop
      replace HM := (HM.front 0 rfl rfl).drop
      have hR := Option.some.inj H
      subst hR
      exact at_ret1 rfl rfl ⟨_, rfl, rfl, HM⟩
    · replace H := cond_f hb3125 H
      refine run_skip ?_
      refine at_then ?_
      refine run_seq ?_
      refine run_region rfl ?_
      refine ops_ex rfl (guard_none rfl) rfl rfl (ex_assign rfl rfl) ?_
      refine ops_nil ?_
      refine at_then ?_
      refine run_ret ?_
      replace HM := (HM.front 0 rfl rfl).drop
      replace HM := (HM.front 0 rfl rfl).drop
      have hR := Option.some.inj H
      subst hR
      exact at_ret1 rfl rfl ⟨_, rfl, rfl, HM⟩

def laws_eqInt64S.l0 (x0 : List Int) (x1 : List Int) : Nat → Int → Option (Bool ⊕ Unit)
  | 0, _ => none
  | k + 1, a3198 => (bif (decide (a3198 < (x0.length : Int))) then (chk (idxOk a3198 x0.length) (chk (idxOk a3198 x1.length) (bif ((gt x0 a3198) != (gt x1 a3198)) then some (.inl false) else laws_eqInt64S.l0 x0 x1 k (wrap64 (a3198 + 1))))) else some (.inr ()))
theorem laws_eqInt64S.l0_z (x0 : List Int) (x1 : List Int) (a3198 : Int) : laws_eqInt64S.l0 x0 x1 0 a3198 = none := rfl
theorem laws_eqInt64S.l0_s (x0 : List Int) (x1 : List Int) (k : Nat) (a3198 : Int) : laws_eqInt64S.l0 x0 x1 (k + 1) a3198 = (bif (decide (a3198 < (x0.length : Int))) then (chk (idxOk a3198 x0.length) (chk (idxOk a3198 x1.length) (bif ((gt x0 a3198) != (gt x1 a3198)) then some (.inl false) else laws_eqInt64S.l0 x0 x1 k (wrap64 (a3198 + 1))))) else some (.inr ())) := rfl
def laws_eqInt64S.f (k : Nat) (x0 : List Int) (x1 : List Int) : Option Bool := (bif ((x0.length : Int) != (x1.length : Int)) then some false else ((laws_eqInt64S.l0 x0 x1 k 0).bind fun o3190 => thn o3190 (fun r => some r) (fun _ => some true)))
theorem laws_eqInt64S.calls {k : Nat} {x0 : List Int} {x1 : List Int} {p0 : Value} {p1 : Value} {w : World} (hp0 : RdS kInt w p0 x0) (hp1 : RdS kInt w p1 x1) {r : Bool} (H : laws_eqInt64S.f k x0 x1 = some r) :
    Calls Try.prog 113 ([p0, p1] : List Value).toArray w (fun e w_ => ∃ v, e = .returned v ∧ v = (.bool r) ∧ Mem w [] w_ []) := by
  have HM := Mem.start w
  refine calls_run (N := 26) Try.func113 rfl rfl rfl rfl ?_
  unfold laws_eqInt64S.f at H
  refine run_seq ?_
  refine run_region rfl ?_
  refine ops_ex rfl (guard_none rfl) rfl rfl (ex_assign rfl rfl) ?_
  refine ops_nil ?_
  refine at_then ?_
  refine run_seq ?_
  refine run_seq ?_
  refine run_region rfl ?_
  refine ops_ex rfl (guard_none rfl) rfl rfl (ex_move rfl rfl) ?_
  refine ops_ex rfl (guard_none rfl) rfl rfl (ex_len (d := kInt) (xs := x0) rfl rfl Try.underlying74 hp0) ?_
  refine ops_ex rfl (guard_none rfl) rfl rfl (ex_move rfl rfl) ?_
  refine ops_ex rfl (guard_none rfl) rfl rfl (ex_len (d := kInt) (xs := x1) rfl rfl Try.underlying74 hp1) ?_
  refine ops_ex rfl (guard_none rfl) rfl rfl (ex_neq rfl rfl rfl) ?_
  refine ops_nil ?_
  refine at_then ?_
  refine run_cond (b := ((x0.length : Int) != (x1.length : Int))) rfl (fun hb3170 => ?_) (fun hb3170 => ?_)
  · replace H := cond_t hb3170 H
    refine run_seq ?_
    refine run_region rfl ?_
    refine ops_ex rfl (guard_none rfl) rfl rfl (ex_assign rfl rfl) ?_
    refine ops_nil ?_
    refine at_then ?_
    refine run_ret ?_
    refine at_then_ret ?_
    have hR := Option.some.inj H
    subst hR
    exact at_ret1 rfl rfl ⟨_, rfl, rfl, HM⟩
  · replace H := cond_f hb3170 H
    refine run_skip ?_
    refine at_then ?_
    obtain ⟨o3190, ho3191, H⟩ := bind_some H
    refine run_mid (fun ρ_ w_ => Sum.inr () = o3190 ∧ ρ_ = [] ∧ Mem w [] w_ []) ?_ ?_
    · skip
      refine run_seq ?_
      refine run_region rfl ?_
      refine ops_ex rfl (guard_none rfl) rfl rfl (ex_assign rfl rfl) ?_
      refine ops_nil ?_
      refine at_then ?_
      refine run_block ?_
      refine run_loop (fun k_ ρ_ w_ => ∃ a3198 : Int, laws_eqInt64S.l0 x0 x1 k_ a3198 = some o3190 ∧ ρ_ = [(0, p0), (1, p1), (5, .int .i64 a3198)] ∧ Mem w [] w_ []) k (ρ1 := [(0, p0), (1, p1), (5, .int .i64 0)]) ⟨_, ho3191, rfl, HM⟩ (Sub.cons rfl (Sub.cons rfl (Sub.cons rfl Sub.nil))) ?_
      clear HM ho3191
      rintro k3205 _ w3206 ⟨a3198, ho3191, rfl, HM⟩
      obtain _ | k3205 := k3205
      · exact nomatch ((laws_eqInt64S.l0_z x0 x1 a3198).symm.trans ho3191)
      replace ho3191 := (laws_eqInt64S.l0_s x0 x1 k3205 a3198).symm.trans ho3191
      refine run_seq ?_
      refine run_seq ?_
      refine run_region rfl ?_
      refine ops_ex rfl (guard_none rfl) rfl rfl (ex_move rfl rfl) ?_
      refine ops_ex rfl (guard_none rfl) rfl rfl (ex_move rfl rfl) ?_
      refine ops_ex rfl (guard_none rfl) rfl rfl (ex_len (d := kInt) (xs := x0) rfl rfl Try.underlying74 hp0) ?_
      refine ops_ex rfl (guard_none rfl) rfl rfl (ex_lss rfl rfl rfl) ?_
      refine ops_nil ?_
      refine at_then ?_
      refine run_cond (b := (decide (a3198 < (x0.length : Int)))) rfl (fun hb3207 => ?_) (fun hb3207 => ?_)
      · replace ho3191 := cond_t hb3207 ho3191
        refine run_skip ?_
        refine at_then ?_
        refine run_seq ?_
        refine run_block ?_
        refine run_seq ?_
        obtain ⟨e3208, ho3191⟩ := chk_some ho3191
        obtain ⟨e3210, ho3191⟩ := chk_some ho3191
        refine run_drawf (fun w_ => Mem w [] w_ []) [(0, true), (1, true), (2, true), (3, true), (4, true), (5, true), (6, true), (7, true), (8, true)] mixed rfl rfl (by kernel_rfl) ?_
        replace HM := HM.grow (fr_drew _)
        have hS := Mem.suf (M := []) HM
        refine drwp_take rfl (guard_none rfl) rfl rfl (fun w_ hS_ => (ex_move rfl rfl)) hS ?_
        refine drwp_take rfl (guard_none rfl) rfl rfl (fun w_ hS_ => (ex_move rfl rfl)) hS ?_
        have hc3209 : CellsAt _ (sb p0) (so p0 + (a3198).toNat * 1) [(.int .i64 (gt x0 a3198))] := rd_plain hp0 e3208
        refine drwp_take rfl (guard_none rfl) rfl rfl (fun w_ hS_ => (ex_indexAddr (d := kInt) rfl rfl rfl Try.underlying74 tsz2 hp0 (idx_lo e3208) (idx_hi e3208))) hS ?_
        refine drwp_take rfl (guard_none rfl) rfl rfl (fun w_ hS_ => (ex_load1 rfl rfl Try.underlying2 rfl ((hS_.at_ hc3209) 0 _ rfl))) hS ?_
        refine drwp_take rfl (guard_none rfl) rfl rfl (fun w_ hS_ => (ex_move rfl rfl)) hS ?_
        refine drwp_take rfl (guard_none rfl) rfl rfl (fun w_ hS_ => (ex_move rfl rfl)) hS ?_
        have hc3211 : CellsAt _ (sb p1) (so p1 + (a3198).toNat * 1) [(.int .i64 (gt x1 a3198))] := rd_plain hp1 e3210
        refine drwp_take rfl (guard_none rfl) rfl rfl (fun w_ hS_ => (ex_indexAddr (d := kInt) rfl rfl rfl Try.underlying74 tsz2 hp1 (idx_lo e3210) (idx_hi e3210))) hS ?_
        refine drwp_take rfl (guard_none rfl) rfl rfl (fun w_ hS_ => (ex_load1 rfl rfl Try.underlying2 rfl ((hS_.at_ hc3211) 0 _ rfl))) hS ?_
        refine drwp_take rfl (guard_none rfl) rfl rfl (fun w_ hS_ => (ex_neq rfl rfl rfl)) hS ?_
        refine drwp_done ?_
        refine at_then ?_
        refine run_cond (b := ((gt x0 a3198) != (gt x1 a3198))) rfl (fun hb3212 => ?_) (fun hb3212 => ?_)
        · replace ho3191 := cond_t hb3212 ho3191
          refine run_seq ?_
          refine run_region rfl ?_
          refine ops_ex rfl (guard_none rfl) rfl rfl (ex_assign rfl rfl) ?_
          refine ops_nil ?_
          refine at_then ?_
          refine run_ret ?_
          refine at_block_ret ?_
          refine at_then_ret ?_
          refine at_then_ret ?_
          refine at_block_ret ?_
          refine at_then_ret ?_
          have hR := Option.some.inj ho3191
          subst hR
          have hT := thn_inl H
          have hR := Option.some.inj hT
          subst hR
          exact at_ret1 rfl rfl ⟨_, rfl, rfl, HM⟩
        · replace ho3191 := cond_f hb3212 ho3191
          refine run_skip ?_
          refine at_block ?_
          refine at_then ?_
          refine run_region rfl ?_
          refine ops_ex rfl (guard_none rfl) rfl rfl (ex_move rfl rfl) ?_
          refine ops_ex rfl (guard_none rfl) rfl rfl (ex_add rfl rfl rfl) ?_
          refine ops_ex rfl (guard_none rfl) rfl rfl (ex_assign rfl rfl) ?_
          refine ops_nil ?_
          exact at_again k3205 (ρ1 := [(0, p0), (1, p1), (5, .int .i64 (wrap64 (a3198 + 1)))]) (Nat.lt_succ_self _) ⟨_, ho3191, rfl, HM⟩ (Sub.cons rfl (Sub.cons rfl (Sub.cons rfl Sub.nil)))
      · replace ho3191 := cond_f hb3207 ho3191
        refine run_exit ?_
        refine at_then_exit ?_
        refine at_then_exit ?_
        refine at_block_exit ?_
        exact at_mid (ρ' := []) ⟨(Option.some.inj ho3191), rfl, HM⟩ Sub.nil
    · rintro _ w3213 ⟨rfl, rfl, HM⟩
      replace H := (thn_inr H)
      refine run_seq ?_
      refine run_region rfl ?_
      refine ops_ex rfl (guard_none rfl) rfl rfl (ex_assign rfl rfl) ?_
      refine ops_nil ?_
      refine at_then ?_
      refine run_ret ?_
      have hR := Option.some.inj H
      subst hR
      exact at_ret1 rfl rfl ⟨_, rfl, rfl, HM⟩

def laws_eqRule.f (k : Nat) (x0 : Rule) (x1 : Rule) : Option Bool := ((laws_eqInt64S.f k x0.fKeys x1.fKeys).bind fun t3234 => (bif !t3234 then some false else (bif (x0.fNeed != x1.fNeed) then some false else (bif (x0.fAfter != x1.fAfter) then some false else some true))))
theorem laws_eqRule.calls {k : Nat} {x0 : Rule} {x1 : Rule} {p0_0 : Value} {p1_0 : Value} {w : World} (hp0_0 : RdS kInt w p0_0 x0.fKeys) (hp1_0 : RdS kInt w p1_0 x1.fKeys) {r : Bool} (H : laws_eqRule.f k x0 x1 = some r) :
    Calls Try.prog 159 ([.agg #[p0_0, (.int .i64 x0.fNeed), (.int .i64 x0.fAfter)], .agg #[p1_0, (.int .i64 x1.fNeed), (.int .i64 x1.fAfter)]] : List Value).toArray w (fun e w_ => ∃ v, e = .returned v ∧ v = (.bool r) ∧ Mem w [] w_ []) := by
  have HM := Mem.start w
  refine calls_run (N := 21) Try.func159 rfl rfl rfl rfl ?_
  unfold laws_eqRule.f at H
  refine run_seq ?_
  refine run_region rfl ?_
  refine ops_does rfl (guard_none rfl) rfl rfl (does_box (cs := [p0_0, .int .i64 x0.fNeed, .int .i64 x0.fAfter]) rfl rfl rfl HM) ?_
  rintro _ w3229 ⟨b3223, rfl, HM⟩
  refine ops_does rfl (guard_none rfl) rfl rfl (does_box (cs := [p1_0, .int .i64 x1.fNeed, .int .i64 x1.fAfter]) rfl rfl rfl HM) ?_
  rintro _ w3230 ⟨b3226, rfl, HM⟩
  refine ops_ex rfl (guard_none rfl) rfl rfl (ex_assign rfl rfl) ?_
  refine ops_nil ?_
  refine at_then ?_
  refine run_seq ?_
  refine run_seq ?_
  obtain ⟨t3234, h3235, H⟩ := bind_some H
  refine run_region rfl ?_
  refine ops_ex rfl (guard_none rfl) rfl rfl (ex_fieldAddr (off' := 0) rfl rfl Try.underlying100 rfl tsz74 rfl) ?_
  refine ops_ex rfl (guard_none rfl) rfl rfl (ex_load1 rfl rfl Try.underlying74 rfl ((HM.box_at 1 rfl) 0 _ rfl)) ?_
  refine ops_ex rfl (guard_none rfl) rfl rfl (ex_fieldAddr (off' := 0) rfl rfl Try.underlying100 rfl tsz74 rfl) ?_
  refine ops_ex rfl (guard_none rfl) rfl rfl (ex_load1 rfl rfl Try.underlying74 rfl ((HM.box_at 0 rfl) 0 _ rfl)) ?_
  refine ops_does rfl (guard_none rfl) rfl rfl (does_callk rfl callok113 rfl (laws_eqInt64S.calls (x0 := x0.fKeys) (x1 := x1.fKeys) (HM.rd hp0_0) (HM.rd hp1_0) h3235)) ?_
  rintro _ w3236 ⟨rfl, hn⟩
  replace HM : Mem w [] w3236 [box b3226 100 [p1_0, .int .i64 x1.fNeed, .int .i64 x1.fAfter], box b3223 100 [p0_0, .int .i64 x0.fNeed, .int .i64 x0.fAfter]] := HM.call hn
  refine ops_ex rfl (guard_none rfl) rfl rfl (ex_not rfl rfl) ?_
  refine ops_nil ?_
  refine at_then ?_
  refine run_cond (b := !t3234) rfl (fun hb3237 => ?_) (fun hb3237 => ?_)
  · replace H := cond_t hb3237 H
    refine run_seq ?_
    refine run_region rfl ?_
    refine ops_ex rfl (guard_none rfl) rfl rfl (ex_assign rfl rfl) ?_
    refine ops_nil ?_
    refine at_then ?_
    refine run_ret ?_
    refine at_then_ret ?_
    replace HM := (HM.front 0 rfl rfl).drop
    replace HM := (HM.front 0 rfl rfl).drop
    have hR := Option.some.inj H
    subst hR
    exact at_ret1 rfl rfl ⟨_, rfl, rfl, HM⟩
  · replace H := cond_f hb3237 H
    refine run_skip ?_
    refine at_then ?_
    refine run_seq ?_
    refine run_seq ?_
    refine run_region rfl ?_
    refine ops_ex rfl (guard_none rfl) rfl rfl (ex_fieldAddr (off' := 1) rfl rfl Try.underlying100 rfl tsz2 rfl) ?_
    refine ops_ex rfl (guard_none rfl) rfl rfl (ex_load1 rfl rfl Try.underlying2 rfl ((HM.box_at 1 rfl) 1 _ rfl)) ?_
    refine ops_ex rfl (guard_none rfl) rfl rfl (ex_fieldAddr (off' := 1) rfl rfl Try.underlying100 rfl tsz2 rfl) ?_
    refine ops_ex rfl (guard_none rfl) rfl rfl (ex_load1 rfl rfl Try.underlying2 rfl ((HM.box_at 0 rfl) 1 _ rfl)) ?_
    refine ops_ex rfl (guard_none rfl) rfl rfl (ex_neq rfl rfl rfl) ?_
    refine ops_nil ?_
    refine at_then ?_
    refine run_cond (b := (x0.fNeed != x1.fNeed)) rfl (fun hb3239 => ?_) (fun hb3239 => ?_)
    · replace H := cond_t hb3239 H
      refine run_seq ?_
      refine run_region rfl ?_
      refine ops_ex rfl (guard_none rfl) rfl rfl (ex_assign rfl rfl) ?_
      refine ops_nil ?_
      refine at_then ?_
      refine run_ret ?_
      refine at_then_ret ?_
      replace HM := (HM.front 0 rfl rfl).drop
      replace HM := (HM.front 0 rfl rfl).drop
      have hR := Option.some.inj H
      subst hR
      exact at_ret1 rfl rfl ⟨_, rfl, rfl, HM⟩
    · replace H := cond_f hb3239 H
      refine run_skip ?_
      refine at_then ?_
      refine run_seq ?_
      refine run_seq ?_
      refine run_region rfl ?_
      refine ops_ex rfl (guard_none rfl) rfl rfl (ex_fieldAddr (off' := 2) rfl rfl Try.underlying100 rfl tsz2 rfl) ?_
      refine ops_ex rfl (guard_none rfl) rfl rfl (ex_load1 rfl rfl Try.underlying2 rfl ((HM.box_at 1 rfl) 2 _ rfl)) ?_
      refine ops_ex rfl (guard_none rfl) rfl rfl (ex_fieldAddr (off' := 2) rfl rfl Try.underlying100 rfl tsz2 rfl) ?_
      refine ops_ex rfl (guard_none rfl) rfl rfl (ex_load1 rfl rfl Try.underlying2 rfl ((HM.box_at 0 rfl) 2 _ rfl)) ?_
      refine ops_ex rfl (guard_none rfl) rfl rfl (ex_neq rfl rfl rfl) ?_
      refine ops_nil ?_
      refine at_then ?_
      refine run_cond (b := (x0.fAfter != x1.fAfter)) rfl (fun hb3240 => ?_) (fun hb3240 => ?_)
      · replace H := cond_t hb3240 H
        refine run_seq ?_
        refine run_region rfl ?_
        refine ops_ex rfl (guard_none rfl) rfl rfl (ex_assign rfl rfl) ?_
        refine ops_nil ?_
        refine at_then ?_
        refine run_ret ?_
        refine at_then_ret ?_
        replace HM := (HM.front 0 rfl rfl).drop
        replace HM := (HM.front 0 rfl rfl).drop
        have hR := Option.some.inj H
        subst hR
        exact at_ret1 rfl rfl ⟨_, rfl, rfl, HM⟩
      · replace H := cond_f hb3240 H
        refine run_skip ?_
        refine at_then ?_
        refine run_seq ?_
        refine run_region rfl ?_
        refine ops_ex rfl (guard_none rfl) rfl rfl (ex_assign rfl rfl) ?_
        refine ops_nil ?_
        refine at_then ?_
        refine run_ret ?_
        replace HM := (HM.front 0 rfl rfl).drop
        replace HM := (HM.front 0 rfl rfl).drop
        have hR := Option.some.inj H
        subst hR
        exact at_ret1 rfl rfl ⟨_, rfl, rfl, HM⟩
end Go.Proofs.Ytoiacoiccpiciaa.Zk
