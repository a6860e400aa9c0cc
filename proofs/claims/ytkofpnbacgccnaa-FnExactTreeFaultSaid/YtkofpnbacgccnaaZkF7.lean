/- What functions of the program compute, each as a plain function, and that they do. Conditions: as each theorem states them. -/
import Derived.Test.YtkofpnbacgccnaaZkF6
namespace Go.Proofs.Ytkofpnbacgccnaa.Zk
open Go Go.RowKit Go.IntWalk Go.Proofs
set_option linter.unusedVariables false
set_option linter.unusedSimpArgs false
set_option maxRecDepth 100000
def spec_TreeFault.f (k : Nat) (x0 : List Node) : Option Int := ((spec_l9Fault.f k x0).bind fun t3635 => some t3635)
theorem spec_TreeFault.calls {k : Nat} {x0 : List Node} {p0 : Value} {w : World} (hp0 : RdS kNode w p0 x0) {r : Int} (H : spec_TreeFault.f k x0 = some r) :
    Calls Try.prog 40 ([p0] : List Value).toArray w (fun e w_ => ∃ v, e = .returned v ∧ v = (.int .i64 r) ∧ Mem w [] w_ []) := by
  have HM := Mem.start w
  refine calls_run (N := 5) Try.func40 rfl rfl rfl rfl ?_
  unfold spec_TreeFault.f at H
  refine run_seq ?_
  refine run_region rfl ?_
  refine ops_ex rfl (guard_none rfl) rfl rfl (ex_assign rfl rfl) ?_
  refine ops_nil ?_
  refine at_then ?_
  refine run_seq ?_
  obtain ⟨t3635, h3636, H⟩ := bind_some H
  refine run_region rfl ?_
  refine ops_ex rfl (guard_none rfl) rfl rfl (ex_move rfl rfl) ?_
  refine ops_does rfl (guard_none rfl) rfl rfl (does_callk rfl callok81 rfl (spec_l9Fault.calls (x0 := x0) (HM.rd hp0) h3636)) ?_
  rintro _ w3637 ⟨rfl, hn⟩
  replace HM : Mem w [] w3637 [] := HM.call hn
  refine ops_ex rfl (guard_none rfl) rfl rfl (ex_assign rfl rfl) ?_
  refine ops_nil ?_
  refine at_then ?_
  refine run_ret ?_
  have hR := Option.some.inj H
  subst hR
  exact at_ret1 rfl rfl ⟨_, rfl, rfl, HM⟩

def impl_findNode_1.f (k : Nat) (x0 : Node) (x1 : Int) : Option Bool := some (x0.fId == x1)
theorem impl_findNode_1.calls {k : Nat} {x0 : Node} {x1 : Int} {b1 f1 : Nat} {w : World} (hc1 : CellsAt w b1 f1 [.int .i64 x1]) {r : Bool} (H : impl_findNode_1.f k x0 x1 = some r) :
    Calls Try.prog 123 ([.agg #[(.int .i64 x0.fId), (.int .i64 x0.fPrev), (.int .i64 x0.fHeight)], .pointer (some ⟨b1, f1, none⟩)] : List Value).toArray w (fun e w_ => ∃ v, e = .returned v ∧ v = (.bool r) ∧ Mem w [] w_ []) := by
  have HM := Mem.start w
  refine calls_run (N := 8) Try.func123 rfl rfl rfl rfl ?_
  unfold impl_findNode_1.f at H
  refine run_seq ?_
  refine run_region rfl ?_
  refine ops_does rfl (guard_none rfl) rfl rfl (does_box (cs := [.int .i64 x0.fId, .int .i64 x0.fPrev, .int .i64 x0.fHeight]) rfl rfl rfl HM) ?_
  rintro _ w3671 ⟨b3668, rfl, HM⟩
  refine ops_ex rfl (guard_none rfl) rfl rfl (ex_assign rfl rfl) ?_
  refine ops_nil ?_
  refine at_then ?_
  refine run_seq ?_
  refine run_region rfl ?_
  refine ops_ex rfl (guard_none rfl) rfl rfl (ex_fieldAddr (off' := 0) rfl rfl Try.underlying113 rfl tsz2 rfl) ?_
  refine ops_ex rfl (guard_none rfl) rfl rfl (ex_load1 rfl rfl Try.underlying2 rfl ((HM.box_at 0 rfl) 0 _ rfl)) ?_
  refine ops_ex rfl (guard_none rfl) rfl rfl (ex_load1 rfl rfl Try.underlying2 rfl ((HM.at_ hc1) 0 _ rfl)) ?_
  refine ops_ex rfl (guard_none rfl) rfl rfl (ex_eql rfl rfl rfl) ?_
  refine ops_ex rfl (guard_none rfl) rfl rfl (ex_assign rfl rfl) ?_
  refine ops_nil ?_
  refine at_then ?_
  refine run_ret ?_
  replace HM := (HM.front 0 rfl rfl).drop
  have hR := Option.some.inj H
  subst hR
  exact at_ret1 rfl rfl ⟨_, rfl, rfl, HM⟩

def slices_IndexFunc_impl_Node.l0 (x0 : List Node) (x1_0 : Int) : Nat → Int → Option (Int ⊕ Unit)
  | 0, _ => none
  | k + 1, a3717 => (bif (decide (a3717 < (x0.length : Int))) then (chk (idxOk a3717 x0.length) ((impl_findNode_1.f k (gt x0 a3717) x1_0).bind fun t3729 => (bif t3729 then some (.inl a3717) else slices_IndexFunc_impl_Node.l0 x0 x1_0 k (wrap64 (a3717 + 1))))) else some (.inr ()))
theorem slices_IndexFunc_impl_Node.l0_z (x0 : List Node) (x1_0 : Int) (a3717 : Int) : slices_IndexFunc_impl_Node.l0 x0 x1_0 0 a3717 = none := rfl
theorem slices_IndexFunc_impl_Node.l0_s (x0 : List Node) (x1_0 : Int) (k : Nat) (a3717 : Int) : slices_IndexFunc_impl_Node.l0 x0 x1_0 (k + 1) a3717 = (bif (decide (a3717 < (x0.length : Int))) then (chk (idxOk a3717 x0.length) ((impl_findNode_1.f k (gt x0 a3717) x1_0).bind fun t3729 => (bif t3729 then some (.inl a3717) else slices_IndexFunc_impl_Node.l0 x0 x1_0 k (wrap64 (a3717 + 1))))) else some (.inr ())) := rfl
def slices_IndexFunc_impl_Node.f (k : Nat) (x0 : List Node) (x1_0 : Int) : Option Int := ((slices_IndexFunc_impl_Node.l0 x0 x1_0 k 0).bind fun o3709 => thn o3709 (fun r => some r) (fun _ => some (-1)))
theorem slices_IndexFunc_impl_Node.calls {k : Nat} {x0 : List Node} {x1_0 : Int} {p0 : Value} {b1_0 f1_0 : Nat} {w : World} (hp0 : RdS kNode w p0 x0) (hc1_0 : CellsAt w b1_0 f1_0 [.int .i64 x1_0]) {r : Int} (H : slices_IndexFunc_impl_Node.f k x0 x1_0 = some r) :
    Calls Try.prog 122 ([p0, .func (.func 123) #[] #[(.pointer (some ⟨b1_0, f1_0, none⟩))]] : List Value).toArray w (fun e w_ => ∃ v, e = .returned v ∧ v = (.int .i64 r) ∧ Mem w [] w_ []) := by
  have HM := Mem.start w
  refine calls_run (N := 19) Try.func122 rfl rfl rfl rfl ?_
  unfold slices_IndexFunc_impl_Node.f at H
  refine run_seq ?_
  refine run_region rfl ?_
  refine ops_ex rfl (guard_none rfl) rfl rfl (ex_assign rfl rfl) ?_
  refine ops_nil ?_
  refine at_then ?_
  obtain ⟨o3709, ho3710, H⟩ := bind_some H
  refine run_mid (fun ρ_ w_ => Sum.inr () = o3709 ∧ ρ_ = [] ∧ Mem w [] w_ []) ?_ ?_
  · skip
    refine run_seq ?_
    refine run_region rfl ?_
    refine ops_ex rfl (guard_none rfl) rfl rfl (ex_move rfl rfl) ?_
    refine ops_ex rfl (guard_none rfl) rfl rfl (ex_len (d := kNode) (xs := x0) rfl rfl Try.underlying57 hp0) ?_
    refine ops_ex rfl (guard_none rfl) rfl rfl (ex_move rfl rfl) ?_
    refine ops_nil ?_
    refine at_then ?_
    refine run_block ?_
    refine run_loop (fun k_ ρ_ w_ => ∃ a3717 : Int, slices_IndexFunc_impl_Node.l0 x0 x1_0 k_ a3717 = some o3709 ∧ ρ_ = [(0, p0), (1, .func (.func 123) #[] #[(.pointer (some ⟨b1_0, f1_0, none⟩))]), (7, .int .i64 (x0.length : Int)), (8, .int .i64 a3717)] ∧ Mem w [] w_ []) k (ρ1 := [(0, p0), (1, .func (.func 123) #[] #[(.pointer (some ⟨b1_0, f1_0, none⟩))]), (7, .int .i64 (x0.length : Int)), (8, .int .i64 0)]) ⟨_, ho3710, rfl, HM⟩ (Sub.cons rfl (Sub.cons rfl (Sub.cons rfl (Sub.cons rfl Sub.nil)))) ?_
    clear HM ho3710
    rintro k3724 _ w3725 ⟨a3717, ho3710, rfl, HM⟩
    obtain _ | k3724 := k3724
    · exact nomatch ((slices_IndexFunc_impl_Node.l0_z x0 x1_0 a3717).symm.trans ho3710)
    replace ho3710 := (slices_IndexFunc_impl_Node.l0_s x0 x1_0 k3724 a3717).symm.trans ho3710
    refine run_seq ?_
    refine run_region rfl ?_
    refine ops_ex rfl (guard_none rfl) rfl rfl (ex_lss rfl rfl rfl) ?_
    refine ops_nil ?_
    refine at_then ?_
    refine run_seq ?_
    refine run_cond (b := (decide (a3717 < (x0.length : Int)))) rfl (fun hb3726 => ?_) (fun hb3726 => ?_)
    · replace ho3710 := cond_t hb3726 ho3710
      refine run_skip ?_
      refine at_then ?_
      refine run_seq ?_
      refine run_block ?_
      refine run_seq ?_
      refine run_region rfl ?_
      refine ops_ex rfl (guard_none rfl) rfl rfl (ex_move rfl rfl) ?_
      refine ops_ex rfl (guard_none rfl) rfl rfl (ex_assign rfl rfl) ?_
      refine ops_nil ?_
      refine at_then ?_
      refine run_seq ?_
      obtain ⟨e3727, ho3710⟩ := chk_some ho3710
      obtain ⟨t3729, h3730, ho3710⟩ := bind_some ho3710
      refine run_region rfl ?_
      refine ops_ex rfl (guard_none rfl) rfl rfl (ex_move rfl rfl) ?_
      refine ops_ex rfl (guard_none rfl) rfl rfl (ex_move rfl rfl) ?_
      refine ops_ex rfl (guard_none rfl) rfl rfl (ex_move rfl rfl) ?_
      have hc3728 : CellsAt _ (sb p0) (so p0 + (a3717).toNat * 3) [(.int .i64 ((gt x0 a3717).fId)), (.int .i64 ((gt x0 a3717).fPrev)), (.int .i64 ((gt x0 a3717).fHeight))] := rd_plain hp0 e3727
      refine ops_ex rfl (guard_none rfl) rfl rfl (ex_indexAddr (d := kNode) rfl rfl rfl Try.underlying57 tsz113 hp0 (idx_lo e3727) (idx_hi e3727)) ?_
      refine ops_ex rfl (guard_none rfl) rfl rfl (ex_loadN (cs := [(.int .i64 ((gt x0 a3717).fId)), (.int .i64 ((gt x0 a3717).fPrev)), (.int .i64 ((gt x0 a3717).fHeight))]) rfl rfl Try.underlying113 rfl tsz113 rfl ((HM.at_ hc3728).sub 0 3 rfl)) ?_
      refine ops_does rfl (guard_none rfl) rfl rfl (does_callvk rfl callok123 rfl rfl rfl (impl_findNode_1.calls (x0 := (gt x0 a3717)) (x1 := x1_0) (HM.at_ hc1_0) h3730)) ?_
      rintro _ w3731 ⟨rfl, hn⟩
      replace HM : Mem w [] w3731 [] := HM.call hn
      refine ops_nil ?_
      refine at_then ?_
      refine run_cond (b := t3729) rfl (fun hb3732 => ?_) (fun hb3732 => ?_)
      · replace ho3710 := cond_t hb3732 ho3710
        refine run_seq ?_
        refine run_region rfl ?_
        refine ops_ex rfl (guard_none rfl) rfl rfl (ex_move rfl rfl) ?_
        refine ops_ex rfl (guard_none rfl) rfl rfl (ex_assign rfl rfl) ?_
        refine ops_nil ?_
        refine at_then ?_
        refine run_ret ?_
        refine at_block_ret ?_
        refine at_then_ret ?_
        refine at_then_ret ?_
        refine at_block_ret ?_
        refine at_then_ret ?_
        have hR := Option.some.inj ho3710
        subst hR
        have hT := thn_inl H
        have hR := Option.some.inj hT
        subst hR
        exact at_ret1 rfl rfl ⟨_, rfl, rfl, HM⟩
      · replace ho3710 := cond_f hb3732 ho3710
        refine run_skip ?_
        refine at_block ?_
        refine at_then ?_
        refine run_region rfl ?_
        refine ops_ex rfl (guard_none rfl) rfl rfl (ex_add rfl rfl rfl) ?_
        refine ops_ex rfl (guard_none rfl) rfl rfl (ex_move rfl rfl) ?_
        refine ops_nil ?_
        exact at_again k3724 (ρ1 := [(0, p0), (1, .func (.func 123) #[] #[(.pointer (some ⟨b1_0, f1_0, none⟩))]), (7, .int .i64 (x0.length : Int)), (8, .int .i64 (wrap64 (a3717 + 1)))]) (Nat.lt_succ_self _) ⟨_, ho3710, rfl, HM⟩ (Sub.cons rfl (Sub.cons rfl (Sub.cons rfl (Sub.cons rfl Sub.nil))))
    · replace ho3710 := cond_f hb3726 ho3710
      refine run_exit ?_
      refine at_then_exit ?_
      refine at_then_exit ?_
      refine at_block_exit ?_
      exact at_mid (ρ' := []) ⟨(Option.some.inj ho3710), rfl, HM⟩ Sub.nil
  · rintro _ w3733 ⟨rfl, rfl, HM⟩
    replace H := (thn_inr H)
    refine run_seq ?_
    refine run_region rfl ?_
    refine ops_ex rfl (guard_none rfl) rfl rfl (ex_assign rfl rfl) ?_
    refine ops_nil ?_
    refine at_then ?_
    refine run_ret ?_
    have hR := Option.some.inj H
    subst hR
    exact at_ret1 rfl rfl ⟨_, rfl, rfl, HM⟩

def impl_findNode.f (k : Nat) (x0 : List Node) (x1 : Int) : Option Int := ((slices_IndexFunc_impl_Node.f k x0 x1).bind fun t3740 => some t3740)
theorem impl_findNode.calls {k : Nat} {x0 : List Node} {x1 : Int} {p0 : Value} {w : World} (hp0 : RdS kNode w p0 x0) {r : Int} (H : impl_findNode.f k x0 x1 = some r) :
    Calls Try.prog 113 ([p0, .int .i64 x1] : List Value).toArray w (fun e w_ => ∃ v, e = .returned v ∧ v = (.int .i64 r) ∧ Mem w [] w_ []) := by
  have HM := Mem.start w
  refine calls_run (N := 8) Try.func113 rfl rfl rfl rfl ?_
  unfold impl_findNode.f at H
  refine run_seq ?_
  refine run_region rfl ?_
  refine ops_does rfl (guard_none rfl) rfl rfl (does_box (cs := [.int .i64 x1]) rfl rfl rfl HM) ?_
  rintro _ w3739 ⟨b3736, rfl, HM⟩
  refine ops_ex rfl (guard_none rfl) rfl rfl (ex_assign rfl rfl) ?_
  refine ops_nil ?_
  refine at_then ?_
  refine run_seq ?_
  obtain ⟨t3740, h3741, H⟩ := bind_some H
  refine run_region rfl ?_
  refine ops_ex rfl (guard_none rfl) rfl rfl (ex_move rfl rfl) ?_
  refine ops_ex rfl (guard_none rfl) rfl rfl (ex_func rfl rfl) ?_
  refine ops_does rfl (guard_none rfl) rfl rfl (does_callk rfl callok122 rfl (slices_IndexFunc_impl_Node.calls (x0 := x0) (x1_0 := x1) (HM.rd hp0) (HM.box_at 0 rfl) h3741)) ?_
  rintro _ w3742 ⟨rfl, hn⟩
  replace HM : Mem w [] w3742 [box b3736 2 [.int .i64 x1]] := HM.call hn
  refine ops_ex rfl (guard_none rfl) rfl rfl (ex_assign rfl rfl) ?_
  refine ops_nil ?_
  refine at_then ?_
  refine run_ret ?_
  replace HM := (HM.front 0 rfl rfl).drop
  have hR := Option.some.inj H
  subst hR
  exact at_ret1 rfl rfl ⟨_, rfl, rfl, HM⟩

def impl_nodeFault.f (k : Nat) (x0 : List Node) (x1 : Node) : Option Int := ((impl_findNode.f k x0 x1.fPrev).bind fun t3768 => ((bif ((x1.fPrev != 0) && (decide (0 ≤ t3768))) then (chk (idxOk t3768 x0.length) (some (wrap64 (((gt x0 t3768).fHeight) + 1)))) else some 1).bind (fun a3777 => ((impl_isId.f k x1.fId).bind fun t3787 => ((bif (!(!t3787)) then impl_within.f k x1.fHeight 1 40 else some default).bind fun t3789 => (bif ((!t3787) || (!t3789)) then some 3 else ((impl_findNode.f k x0 x1.fId).bind fun t3797 => (bif (decide (0 ≤ t3797)) then some 7 else (bif ((x1.fPrev != 0) && (decide (t3768 < 0))) then some 4 else (bif (x1.fHeight != a3777) then some 1 else some 0))))))))))
theorem impl_nodeFault.calls {k : Nat} {x0 : List Node} {x1 : Node} {p0 : Value} {w : World} (hp0 : RdS kNode w p0 x0) {r : Int} (H : impl_nodeFault.f k x0 x1 = some r) :
    Calls Try.prog 83 ([p0, .agg #[(.int .i64 x1.fId), (.int .i64 x1.fPrev), (.int .i64 x1.fHeight)]] : List Value).toArray w (fun e w_ => ∃ v, e = .returned v ∧ v = (.int .i64 r) ∧ Mem w [] w_ []) := by
  have HM := Mem.start w
  refine calls_run (N := 54) Try.func83 rfl rfl rfl rfl ?_
  unfold impl_nodeFault.f at H
  refine run_seq ?_
  refine run_region rfl ?_
  refine ops_does rfl (guard_none rfl) rfl rfl (does_box (cs := [.int .i64 x1.fId, .int .i64 x1.fPrev, .int .i64 x1.fHeight]) rfl rfl rfl HM) ?_
  rintro _ w3767 ⟨b3764, rfl, HM⟩
  refine ops_ex rfl (guard_none rfl) rfl rfl (ex_assign rfl rfl) ?_
  refine ops_nil ?_
  refine at_then ?_
  refine run_seq ?_
  refine run_region rfl ?_
  refine ops_ex rfl (guard_none rfl) rfl rfl (ex_assign rfl rfl) ?_
  refine ops_nil ?_
  refine at_then ?_
  refine run_seq ?_
  obtain ⟨t3768, h3769, H⟩ := bind_some H
  refine run_region rfl ?_
  refine ops_ex rfl (guard_none rfl) rfl rfl (ex_move rfl rfl) ?_
  refine ops_ex rfl (guard_none rfl) rfl rfl (ex_fieldAddr (off' := 1) rfl rfl Try.underlying113 rfl tsz2 rfl) ?_
  refine ops_ex rfl (guard_none rfl) rfl rfl (ex_load1 rfl rfl Try.underlying2 rfl ((HM.box_at 0 rfl) 1 _ rfl)) ?_
  refine ops_does rfl (guard_none rfl) rfl rfl (does_callk rfl callok113 rfl (impl_findNode.calls (x0 := x0) (x1 := x1.fPrev) (HM.rd hp0) h3769)) ?_
  rintro _ w3770 ⟨rfl, hn⟩
  replace HM : Mem w [] w3770 [box b3764 113 [.int .i64 x1.fId, .int .i64 x1.fPrev, .int .i64 x1.fHeight]] := HM.call hn
  refine ops_ex rfl (guard_none rfl) rfl rfl (ex_assign rfl rfl) ?_
  refine ops_nil ?_
  refine at_then ?_
  obtain ⟨o3778, ho3779, H⟩ := bind_some H
  refine run_mid (fun ρ_ w_ => ∃ a3777 : Int, a3777 = o3778 ∧ ρ_ = [(0, p0), (3, .pointer (some ⟨b3764, 0, none⟩)), (5, .int .i64 a3777), (6, .int .i64 t3768)] ∧ Mem w [] w_ [box b3764 113 [.int .i64 x1.fId, .int .i64 x1.fPrev, .int .i64 x1.fHeight]]) ?_ ?_
  · clear H
    refine run_seq ?_
    refine run_meet (fun ρ_ w_ => ρ_ = [(0, p0), (3, .pointer (some ⟨b3764, 0, none⟩)), (5, .int .i64 1), (6, .int .i64 t3768), (17, .bool ((x1.fPrev != 0) && (decide (0 ≤ t3768))))] ∧ Mem w [] w_ [box b3764 113 [.int .i64 x1.fId, .int .i64 x1.fPrev, .int .i64 x1.fHeight]]) ?_ ?_
    · skip
      refine run_region rfl ?_
      refine ops_ex rfl (guard_none rfl) rfl rfl (ex_fieldAddr (off' := 1) rfl rfl Try.underlying113 rfl tsz2 rfl) ?_
      refine ops_ex rfl (guard_none rfl) rfl rfl (ex_load1 rfl rfl Try.underlying2 rfl ((HM.box_at 0 rfl) 1 _ rfl)) ?_
      refine ops_ex rfl (guard_none rfl) rfl rfl (ex_neq rfl rfl rfl) ?_
      refine ops_ex rfl (guard_none rfl) rfl rfl (ex_move rfl rfl) ?_
      refine bool_cases (x1.fPrev != 0) (fun hg3780 => ?_) (fun hg3780 => ?_)
      · skip
        refine ops_ex rfl (guard_on rfl rfl rfl hg3780) rfl rfl (ex_move rfl rfl) ?_
        refine ops_ex rfl (guard_on rfl rfl rfl hg3780) rfl rfl (ex_geq rfl rfl rfl) ?_
        refine ops_ex (v := .bool ((x1.fPrev != 0) && (decide (0 ≤ t3768)))) rfl (guard_none rfl) rfl rfl (ex_pand_t rfl rfl hg3780 rfl) ?_
        refine ops_nil ?_
        exact at_meet [(0, p0), (3, .pointer (some ⟨b3764, 0, none⟩)), (5, .int .i64 1), (6, .int .i64 t3768), (17, .bool ((x1.fPrev != 0) && (decide (0 ≤ t3768))))] ⟨rfl, HM⟩ (Sub.cons rfl (Sub.cons rfl (Sub.cons rfl (Sub.cons rfl (Sub.cons rfl Sub.nil)))))
      · skip
        refine ops_off rfl (guard_off rfl rfl rfl hg3780) rfl rfl ?_
        refine ops_off rfl (guard_off rfl rfl rfl hg3780) rfl rfl ?_
        have hg3781 : ((x1.fPrev != 0) && (decide (0 ≤ t3768))) = false := by simp only [hg3780, Bool.and_true, Bool.true_and, Bool.and_false, Bool.false_and, Bool.or_true, Bool.true_or, Bool.or_false, Bool.false_or, Bool.not_true, Bool.not_false, Bool.not_not]
        refine ops_ex (v := .bool ((x1.fPrev != 0) && (decide (0 ≤ t3768)))) rfl (guard_none rfl) rfl rfl (ex_pand_f rfl rfl hg3780) ?_
        refine ops_nil ?_
        exact at_meet [(0, p0), (3, .pointer (some ⟨b3764, 0, none⟩)), (5, .int .i64 1), (6, .int .i64 t3768), (17, .bool ((x1.fPrev != 0) && (decide (0 ≤ t3768))))] ⟨rfl, HM⟩ (Sub.cons rfl (Sub.cons rfl (Sub.cons rfl (Sub.cons rfl (Sub.cons rfl Sub.nil)))))
    · rintro _ w3782 ⟨rfl, HM⟩
      refine at_then ?_
      refine run_cond (b := ((x1.fPrev != 0) && (decide (0 ≤ t3768)))) rfl (fun hb3783 => ?_) (fun hb3783 => ?_)
      · replace ho3779 := cond_t hb3783 ho3779
        obtain ⟨e3784, ho3779⟩ := chk_some ho3779
        refine run_region rfl ?_
        refine ops_ex rfl (guard_none rfl) rfl rfl (ex_move rfl rfl) ?_
        refine ops_ex rfl (guard_none rfl) rfl rfl (ex_move rfl rfl) ?_
        have hc3785 : CellsAt _ (sb p0) (so p0 + (t3768).toNat * 3) [(.int .i64 ((gt x0 t3768).fId)), (.int .i64 ((gt x0 t3768).fPrev)), (.int .i64 ((gt x0 t3768).fHeight))] := rd_plain hp0 e3784
        refine ops_ex rfl (guard_none rfl) rfl rfl (ex_indexAddr (d := kNode) rfl rfl rfl Try.underlying57 tsz113 hp0 (idx_lo e3784) (idx_hi e3784)) ?_
        refine ops_ex rfl (guard_none rfl) rfl rfl (ex_fieldAddr (off' := so p0 + (t3768).toNat * 3 + 2) rfl rfl Try.underlying113 rfl tsz2 rfl) ?_
        refine ops_ex rfl (guard_none rfl) rfl rfl (ex_load1 rfl rfl Try.underlying2 rfl ((HM.at_ hc3785) 2 _ rfl)) ?_
        refine ops_ex rfl (guard_none rfl) rfl rfl (ex_add rfl rfl rfl) ?_
        refine ops_ex rfl (guard_none rfl) rfl rfl (ex_assign rfl rfl) ?_
        refine ops_nil ?_
        exact at_mid (ρ' := [(0, p0), (3, .pointer (some ⟨b3764, 0, none⟩)), (5, .int .i64 (wrap64 (((gt x0 t3768).fHeight) + 1))), (6, .int .i64 t3768)]) ⟨_, (Option.some.inj ho3779), rfl, HM⟩ (Sub.cons rfl (Sub.cons rfl (Sub.cons rfl (Sub.cons rfl Sub.nil))))
      · replace ho3779 := cond_f hb3783 ho3779
        refine run_skip ?_
        exact at_mid (ρ' := [(0, p0), (3, .pointer (some ⟨b3764, 0, none⟩)), (5, .int .i64 1), (6, .int .i64 t3768)]) ⟨_, (Option.some.inj ho3779), rfl, HM⟩ (Sub.cons rfl (Sub.cons rfl (Sub.cons rfl (Sub.cons rfl Sub.nil))))
  · rintro _ w3786 ⟨a3777, rfl, rfl, HM⟩
    refine run_seq ?_
    refine run_block ?_
    refine run_seq ?_
    obtain ⟨t3787, h3788, H⟩ := bind_some H
    obtain ⟨t3789, h3790, H⟩ := bind_some H
    refine run_meet (fun ρ_ w_ => ρ_ = [(0, p0), (3, .pointer (some ⟨b3764, 0, none⟩)), (5, .int .i64 a3777), (6, .int .i64 t3768), (24, .bool ((!t3787) || (!t3789)))] ∧ Mem w [] w_ [box b3764 113 [.int .i64 x1.fId, .int .i64 x1.fPrev, .int .i64 x1.fHeight]]) ?_ ?_
    · skip
      refine run_region rfl ?_
      refine ops_ex rfl (guard_none rfl) rfl rfl (ex_fieldAddr (off' := 0) rfl rfl Try.underlying113 rfl tsz2 rfl) ?_
      refine ops_ex rfl (guard_none rfl) rfl rfl (ex_load1 rfl rfl Try.underlying2 rfl ((HM.box_at 0 rfl) 0 _ rfl)) ?_
      refine ops_does rfl (guard_none rfl) rfl rfl (does_callk rfl callok79 rfl (impl_isId.calls (x0 := x1.fId) h3788)) ?_
      rintro _ w3791 ⟨rfl, hn⟩
      replace HM : Mem w [] w3791 [box b3764 113 [.int .i64 x1.fId, .int .i64 x1.fPrev, .int .i64 x1.fHeight]] := HM.call hn
      refine ops_ex rfl (guard_none rfl) rfl rfl (ex_not rfl rfl) ?_
      refine ops_ex rfl (guard_none rfl) rfl rfl (ex_move rfl rfl) ?_
      refine bool_cases (!t3787) (fun hg3792 => ?_) (fun hg3792 => ?_)
      · skip
        refine ops_off rfl (guard_off rfl rfl rfl hg3792) rfl rfl ?_
        refine ops_off rfl (guard_off rfl rfl rfl hg3792) rfl rfl ?_
        refine ops_off rfl (guard_off rfl rfl rfl hg3792) rfl rfl ?_
        refine ops_off rfl (guard_off rfl rfl rfl hg3792) rfl rfl ?_
        have hg3793 : ((!t3787) || (!t3789)) = true := by simp only [hg3792, Bool.and_true, Bool.true_and, Bool.and_false, Bool.false_and, Bool.or_true, Bool.true_or, Bool.or_false, Bool.false_or, Bool.not_true, Bool.not_false, Bool.not_not]
        refine ops_ex (v := .bool ((!t3787) || (!t3789))) rfl (guard_none rfl) rfl rfl (ex_por_t rfl rfl hg3792) ?_
        refine ops_ex rfl (guard_none rfl) rfl rfl (ex_assign rfl rfl) ?_
        refine ops_nil ?_
        exact at_meet [(0, p0), (3, .pointer (some ⟨b3764, 0, none⟩)), (5, .int .i64 a3777), (6, .int .i64 t3768), (24, .bool ((!t3787) || (!t3789)))] ⟨rfl, HM⟩ (Sub.cons rfl (Sub.cons rfl (Sub.cons rfl (Sub.cons rfl (Sub.cons rfl Sub.nil)))))
      · skip
        refine ops_ex rfl (guard_on rfl rfl rfl hg3792) rfl rfl (ex_fieldAddr (off' := 2) rfl rfl Try.underlying113 rfl tsz2 rfl) ?_
        refine ops_ex rfl (guard_on rfl rfl rfl hg3792) rfl rfl (ex_load1 rfl rfl Try.underlying2 rfl ((HM.box_at 0 rfl) 2 _ rfl)) ?_
        refine ops_does rfl (guard_on rfl rfl rfl hg3792) rfl rfl (does_callk rfl callok58 rfl (impl_within.calls (x0 := x1.fHeight) (x1 := 1) (x2 := 40) (cond_t (not_mk hg3792) h3790))) ?_
        rintro _ w3794 ⟨rfl, hn⟩
        replace HM : Mem w [] w3794 [box b3764 113 [.int .i64 x1.fId, .int .i64 x1.fPrev, .int .i64 x1.fHeight]] := HM.call hn
        refine ops_ex rfl (guard_on rfl rfl rfl hg3792) rfl rfl (ex_not rfl rfl) ?_
        refine ops_ex (v := .bool ((!t3787) || (!t3789))) rfl (guard_none rfl) rfl rfl (ex_por_f rfl rfl hg3792 rfl) ?_
        refine ops_ex rfl (guard_none rfl) rfl rfl (ex_assign rfl rfl) ?_
        refine ops_nil ?_
        exact at_meet [(0, p0), (3, .pointer (some ⟨b3764, 0, none⟩)), (5, .int .i64 a3777), (6, .int .i64 t3768), (24, .bool ((!t3787) || (!t3789)))] ⟨rfl, HM⟩ (Sub.cons rfl (Sub.cons rfl (Sub.cons rfl (Sub.cons rfl (Sub.cons rfl Sub.nil)))))
    · rintro _ w3795 ⟨rfl, HM⟩
      refine at_then ?_
      refine run_cond (b := ((!t3787) || (!t3789))) rfl (fun hb3796 => ?_) (fun hb3796 => ?_)
      · replace H := cond_t hb3796 H
        refine run_seq ?_
        refine run_region rfl ?_
        refine ops_ex rfl (guard_none rfl) rfl rfl (ex_assign rfl rfl) ?_
        refine ops_nil ?_
        refine at_then ?_
        refine run_ret ?_
        refine at_block_ret ?_
        refine at_then_ret ?_
        replace HM := (HM.front 0 rfl rfl).drop
        have hR := Option.some.inj H
        subst hR
        exact at_ret1 rfl rfl ⟨_, rfl, rfl, HM⟩
      · replace H := cond_f hb3796 H
        refine run_seq ?_
        obtain ⟨t3797, h3798, H⟩ := bind_some H
        refine run_region rfl ?_
        refine ops_ex rfl (guard_none rfl) rfl rfl (ex_move rfl rfl) ?_
        refine ops_ex rfl (guard_none rfl) rfl rfl (ex_fieldAddr (off' := 0) rfl rfl Try.underlying113 rfl tsz2 rfl) ?_
        refine ops_ex rfl (guard_none rfl) rfl rfl (ex_load1 rfl rfl Try.underlying2 rfl ((HM.box_at 0 rfl) 0 _ rfl)) ?_
        refine ops_does rfl (guard_none rfl) rfl rfl (does_callk rfl callok113 rfl (impl_findNode.calls (x0 := x0) (x1 := x1.fId) (HM.rd hp0) h3798)) ?_
        rintro _ w3799 ⟨rfl, hn⟩
        replace HM : Mem w [] w3799 [box b3764 113 [.int .i64 x1.fId, .int .i64 x1.fPrev, .int .i64 x1.fHeight]] := HM.call hn
        refine ops_ex rfl (guard_none rfl) rfl rfl (ex_geq rfl rfl rfl) ?_
        refine ops_ex rfl (guard_none rfl) rfl rfl (ex_assign rfl rfl) ?_
        refine ops_nil ?_
        refine at_then ?_
        refine run_cond (b := (decide (0 ≤ t3797))) rfl (fun hb3800 => ?_) (fun hb3800 => ?_)
        · replace H := cond_t hb3800 H
          refine run_seq ?_
          refine run_region rfl ?_
          refine ops_ex rfl (guard_none rfl) rfl rfl (ex_assign rfl rfl) ?_
          refine ops_nil ?_
          refine at_then ?_
          refine run_ret ?_
          refine at_block_ret ?_
          refine at_then_ret ?_
          replace HM := (HM.front 0 rfl rfl).drop
          have hR := Option.some.inj H
          subst hR
          exact at_ret1 rfl rfl ⟨_, rfl, rfl, HM⟩
        · replace H := cond_f hb3800 H
          refine run_seq ?_
          refine run_meet (fun ρ_ w_ => ρ_ = [(3, .pointer (some ⟨b3764, 0, none⟩)), (5, .int .i64 a3777), (41, .bool ((x1.fPrev != 0) && (decide (t3768 < 0))))] ∧ Mem w [] w_ [box b3764 113 [.int .i64 x1.fId, .int .i64 x1.fPrev, .int .i64 x1.fHeight]]) ?_ ?_
          · skip
            refine run_region rfl ?_
            refine ops_ex rfl (guard_none rfl) rfl rfl (ex_fieldAddr (off' := 1) rfl rfl Try.underlying113 rfl tsz2 rfl) ?_
            refine ops_ex rfl (guard_none rfl) rfl rfl (ex_load1 rfl rfl Try.underlying2 rfl ((HM.box_at 0 rfl) 1 _ rfl)) ?_
            refine ops_ex rfl (guard_none rfl) rfl rfl (ex_neq rfl rfl rfl) ?_
            refine ops_ex rfl (guard_none rfl) rfl rfl (ex_move rfl rfl) ?_
            refine bool_cases (x1.fPrev != 0) (fun hg3801 => ?_) (fun hg3801 => ?_)
            · skip
              refine ops_ex rfl (guard_on rfl rfl rfl hg3801) rfl rfl (ex_move rfl rfl) ?_
              refine ops_ex rfl (guard_on rfl rfl rfl hg3801) rfl rfl (ex_lss rfl rfl rfl) ?_
              refine ops_ex (v := .bool ((x1.fPrev != 0) && (decide (t3768 < 0)))) rfl (guard_none rfl) rfl rfl (ex_pand_t rfl rfl hg3801 rfl) ?_
              refine ops_ex rfl (guard_none rfl) rfl rfl (ex_assign rfl rfl) ?_
              refine ops_nil ?_
              exact at_meet [(3, .pointer (some ⟨b3764, 0, none⟩)), (5, .int .i64 a3777), (41, .bool ((x1.fPrev != 0) && (decide (t3768 < 0))))] ⟨rfl, HM⟩ (Sub.cons rfl (Sub.cons rfl (Sub.cons rfl Sub.nil)))
            · skip
              refine ops_off rfl (guard_off rfl rfl rfl hg3801) rfl rfl ?_
              refine ops_off rfl (guard_off rfl rfl rfl hg3801) rfl rfl ?_
              have hg3802 : ((x1.fPrev != 0) && (decide (t3768 < 0))) = false := by simp only [hg3801, Bool.and_true, Bool.true_and, Bool.and_false, Bool.false_and, Bool.or_true, Bool.true_or, Bool.or_false, Bool.false_or, Bool.not_true, Bool.not_false, Bool.not_not]
              refine ops_ex (v := .bool ((x1.fPrev != 0) && (decide (t3768 < 0)))) rfl (guard_none rfl) rfl rfl (ex_pand_f rfl rfl hg3801) ?_
              refine ops_ex rfl (guard_none rfl) rfl rfl (ex_assign rfl rfl) ?_
              refine ops_nil ?_
              exact at_meet [(3, .pointer (some ⟨b3764, 0, none⟩)), (5, .int .i64 a3777), (41, .bool ((x1.fPrev != 0) && (decide (t3768 < 0))))] ⟨rfl, HM⟩ (Sub.cons rfl (Sub.cons rfl (Sub.cons rfl Sub.nil)))
          · rintro _ w3803 ⟨rfl, HM⟩
            refine at_then ?_
            refine run_cond (b := ((x1.fPrev != 0) && (decide (t3768 < 0)))) rfl (fun hb3804 => ?_) (fun hb3804 => ?_)
            · replace H := cond_t hb3804 H
              refine run_seq ?_
              refine run_region rfl ?_
              refine ops_ex rfl (guard_none rfl) rfl rfl (ex_assign rfl rfl) ?_
              refine ops_nil ?_
              refine at_then ?_
              refine run_ret ?_
              refine at_block_ret ?_
              refine at_then_ret ?_
              replace HM := (HM.front 0 rfl rfl).drop
              have hR := Option.some.inj H
              subst hR
              exact at_ret1 rfl rfl ⟨_, rfl, rfl, HM⟩
            · replace H := cond_f hb3804 H
              refine run_seq ?_
              refine run_region rfl ?_
              refine ops_ex rfl (guard_none rfl) rfl rfl (ex_fieldAddr (off' := 2) rfl rfl Try.underlying113 rfl tsz2 rfl) ?_
              refine ops_ex rfl (guard_none rfl) rfl rfl (ex_load1 rfl rfl Try.underlying2 rfl ((HM.box_at 0 rfl) 2 _ rfl)) ?_
              refine ops_ex rfl (guard_none rfl) rfl rfl (ex_move rfl rfl) ?_
              refine ops_ex rfl (guard_none rfl) rfl rfl (ex_neq rfl rfl rfl) ?_
              refine ops_ex rfl (guard_none rfl) rfl rfl (ex_assign rfl rfl) ?_
              refine ops_nil ?_
              refine at_then ?_
              refine run_cond (b := (x1.fHeight != a3777)) rfl (fun hb3805 => ?_) (fun hb3805 => ?_)
              · replace H := cond_t hb3805 H
                refine run_seq ?_
                refine run_region rfl ?_
                refine ops_ex rfl (guard_none rfl) rfl rfl (ex_assign rfl rfl) ?_
                refine ops_nil ?_
                refine at_then ?_
                refine run_ret ?_
                refine at_block_ret ?_
                refine at_then_ret ?_
                replace HM := (HM.front 0 rfl rfl).drop
                have hR := Option.some.inj H
                subst hR
                exact at_ret1 rfl rfl ⟨_, rfl, rfl, HM⟩
              · replace H := cond_f hb3805 H
                refine run_skip ?_
                refine at_block ?_
                refine at_then ?_
                refine run_seq ?_
                refine run_region rfl ?_
                refine ops_ex rfl (guard_none rfl) rfl rfl (ex_assign rfl rfl) ?_
                refine ops_nil ?_
                refine at_then ?_
                refine run_ret ?_
                replace HM := (HM.front 0 rfl rfl).drop
                have hR := Option.some.inj H
                subst hR
                exact at_ret1 rfl rfl ⟨_, rfl, rfl, HM⟩

def impl_TreeFault.l0 (x0 : List Node) : Nat → Int → Option (Int ⊕ Unit)
  | 0, _ => none
  | k + 1, a3895 => (bif (decide (a3895 < (x0.length : Int))) then (chk (idxOk a3895 x0.length) (chk (cutOk a3895 x0.length) ((impl_nodeFault.f k (x0.take (a3895).toNat) (gt x0 a3895)).bind fun t3923 => (bif (t3923 != 0) then some (.inl t3923) else impl_TreeFault.l0 x0 k (wrap64 (a3895 + 1)))))) else some (.inr ()))
theorem impl_TreeFault.l0_z (x0 : List Node) (a3895 : Int) : impl_TreeFault.l0 x0 0 a3895 = none := rfl
theorem impl_TreeFault.l0_s (x0 : List Node) (k : Nat) (a3895 : Int) : impl_TreeFault.l0 x0 (k + 1) a3895 = (bif (decide (a3895 < (x0.length : Int))) then (chk (idxOk a3895 x0.length) (chk (cutOk a3895 x0.length) ((impl_nodeFault.f k (x0.take (a3895).toNat) (gt x0 a3895)).bind fun t3923 => (bif (t3923 != 0) then some (.inl t3923) else impl_TreeFault.l0 x0 k (wrap64 (a3895 + 1)))))) else some (.inr ())) := rfl
def impl_TreeFault.f (k : Nat) (x0 : List Node) : Option Int := (bif (decide (60 < (x0.length : Int))) then some 2 else ((impl_TreeFault.l0 x0 k 0).bind fun o3880 => thn o3880 (fun r => some r) (fun _ => some 0)))
theorem impl_TreeFault.calls {k : Nat} {x0 : List Node} {p0 : Value} {w : World} (hp0 : RdS kNode w p0 x0) {r : Int} (H : impl_TreeFault.f k x0 = some r) :
    Calls Try.prog 42 ([p0] : List Value).toArray w (fun e w_ => ∃ v, e = .returned v ∧ v = (.int .i64 r) ∧ Mem w [] w_ []) := by
  have HM := Mem.start w
  refine calls_run (N := 25) Try.func42 rfl rfl rfl rfl ?_
  unfold impl_TreeFault.f at H
  refine run_seq ?_
  refine run_region rfl ?_
  refine ops_ex rfl (guard_none rfl) rfl rfl (ex_assign rfl rfl) ?_
  refine ops_nil ?_
  refine at_then ?_
  refine run_seq ?_
  refine run_seq ?_
  refine run_region rfl ?_
  refine ops_ex rfl (guard_none rfl) rfl rfl (ex_move rfl rfl) ?_
  refine ops_ex rfl (guard_none rfl) rfl rfl (ex_len (d := kNode) (xs := x0) rfl rfl Try.underlying57 hp0) ?_
  refine ops_ex rfl (guard_none rfl) rfl rfl (ex_gtr rfl rfl rfl) ?_
  refine ops_nil ?_
  refine at_then ?_
  refine run_cond (b := (decide (60 < (x0.length : Int)))) rfl (fun hb3839 => ?_) (fun hb3839 => ?_)
  · replace H := cond_t hb3839 H
    refine run_seq ?_
    refine run_region rfl ?_
    refine ops_ex rfl (guard_none rfl) rfl rfl (ex_assign rfl rfl) ?_
    refine ops_nil ?_
    refine at_then ?_
    refine run_ret ?_
    refine at_then_ret ?_
    have hR := Option.some.inj H
    subst hR
    exact at_ret1 rfl rfl ⟨_, rfl, rfl, HM⟩
  · replace H := cond_f hb3839 H
    refine run_skip ?_
    refine at_then ?_
    obtain ⟨o3880, ho3881, H⟩ := bind_some H
    refine run_mid (fun ρ_ w_ => Sum.inr () = o3880 ∧ ρ_ = [] ∧ Mem w [] w_ []) ?_ ?_
    · skip
      refine run_seq ?_
      refine run_region rfl ?_
      refine ops_ex rfl (guard_none rfl) rfl rfl (ex_move rfl rfl) ?_
      refine ops_ex rfl (guard_none rfl) rfl rfl (ex_len (d := kNode) (xs := x0) rfl rfl Try.underlying57 hp0) ?_
      refine ops_ex rfl (guard_none rfl) rfl rfl (ex_move rfl rfl) ?_
      refine ops_nil ?_
      refine at_then ?_
      refine run_block ?_
      refine run_loop (fun k_ ρ_ w_ => ∃ a3895 : Int, impl_TreeFault.l0 x0 k_ a3895 = some o3880 ∧ ρ_ = [(0, p0), (9, p0), (10, .int .i64 (x0.length : Int)), (11, .int .i64 a3895)] ∧ Mem w [] w_ []) k (ρ1 := [(0, p0), (9, p0), (10, .int .i64 (x0.length : Int)), (11, .int .i64 0)]) ⟨_, ho3881, rfl, HM⟩ (Sub.cons rfl (Sub.cons rfl (Sub.cons rfl (Sub.cons rfl Sub.nil)))) ?_
      clear HM ho3881
      rintro k3909 _ w3910 ⟨a3895, ho3881, rfl, HM⟩
      obtain _ | k3909 := k3909
      · exact nomatch ((impl_TreeFault.l0_z x0 a3895).symm.trans ho3881)
      replace ho3881 := (impl_TreeFault.l0_s x0 k3909 a3895).symm.trans ho3881
      refine run_seq ?_
      refine run_region rfl ?_
      refine ops_ex rfl (guard_none rfl) rfl rfl (ex_lss rfl rfl rfl) ?_
      refine ops_nil ?_
      refine at_then ?_
      refine run_seq ?_
      refine run_cond (b := (decide (a3895 < (x0.length : Int)))) rfl (fun hb3911 => ?_) (fun hb3911 => ?_)
      · replace ho3881 := cond_t hb3911 ho3881
        refine run_skip ?_
        refine at_then ?_
        refine run_seq ?_
        refine run_block ?_
        refine run_seq ?_
        obtain ⟨e3912, ho3881⟩ := chk_some ho3881
        refine run_region rfl ?_
        refine ops_ex rfl (guard_none rfl) rfl rfl (ex_move rfl rfl) ?_
        have hc3913 : CellsAt _ (sb p0) (so p0 + (a3895).toNat * 3) [(.int .i64 ((gt x0 a3895).fId)), (.int .i64 ((gt x0 a3895).fPrev)), (.int .i64 ((gt x0 a3895).fHeight))] := rd_plain hp0 e3912
        refine ops_ex rfl (guard_none rfl) rfl rfl (ex_indexAddr (d := kNode) rfl rfl rfl Try.underlying57 tsz113 hp0 (idx_lo e3912) (idx_hi e3912)) ?_
        refine ops_ex rfl (guard_none rfl) rfl rfl (ex_loadN (cs := [(.int .i64 ((gt x0 a3895).fId)), (.int .i64 ((gt x0 a3895).fPrev)), (.int .i64 ((gt x0 a3895).fHeight))]) rfl rfl Try.underlying113 rfl tsz113 rfl ((HM.at_ hc3913).sub 0 3 rfl)) ?_
        refine ops_does rfl (guard_none rfl) rfl rfl (does_alloc (cs := [.int .i64 0, .int .i64 0, .int .i64 0]) rfl tz113 rfl HM) ?_
        rintro _ w3917 ⟨b3914, rfl, HM⟩
        refine ops_ex rfl (guard_none rfl) rfl rfl (ex_assign rfl rfl) ?_
        refine ops_doesS rfl (guard_none rfl) rfl (does_store (vs := [.int .i64 ((gt x0 a3895).fId), .int .i64 ((gt x0 a3895).fPrev), .int .i64 ((gt x0 a3895).fHeight)]) (cs' := [.int .i64 ((gt x0 a3895).fId), .int .i64 ((gt x0 a3895).fPrev), .int .i64 ((gt x0 a3895).fHeight)]) rfl rfl rfl rfl tsz113 (Ones.int (Ones.int (Ones.int Ones.nil))) rfl rfl HM) ?_
        rintro w3918 HM
        refine ops_nil ?_
        refine at_then ?_
        refine run_seq ?_
        obtain ⟨e3919, ho3881⟩ := chk_some ho3881
        obtain ⟨t3923, h3924, ho3881⟩ := bind_some ho3881
        refine run_draw (fun w_ => Mem w [] w_ [box b3914 113 [.int .i64 ((gt x0 a3895).fId), .int .i64 ((gt x0 a3895).fPrev), .int .i64 ((gt x0 a3895).fHeight)]]) mixed rfl rfl ?_
        replace HM := HM.grow (fr_drew _)
        have hS := Mem.suf (M := []) HM
        refine drw_take (i := 0) (l' := #[true, false, false, false, false, false]) rfl (guard_none rfl) rfl rfl (by kernel_rfl) (fun w_ hS_ => (ex_move rfl rfl)) hS ?_
        refine drw_take (i := 1) (l' := #[true, true, false, false, false, false]) rfl (guard_none rfl) rfl rfl (by kernel_rfl) (fun w_ hS_ => (ex_move rfl rfl)) hS ?_
        refine drw_takeE (i := 2) (l' := #[true, true, true, false, false, false]) rfl (guard_none rfl) rfl rfl (by kernel_rfl) (ex_cutH kNode rfl rfl rfl Try.underlying57 tsz113 hp0 e3919) hS ?_
        intro u3920 hr3922
        refine drw_take (i := 3) (l' := #[true, true, true, true, false, false]) rfl (guard_none rfl) rfl rfl (by kernel_rfl) (fun w_ hS_ => (ex_loadN (cs := [(.int .i64 ((gt x0 a3895).fId)), (.int .i64 ((gt x0 a3895).fPrev)), (.int .i64 ((gt x0 a3895).fHeight))]) rfl rfl Try.underlying113 rfl tsz113 rfl ((hS_.box_at 0 rfl).sub 0 3 rfl))) hS ?_
        refine drw_one (i := 4) (l' := #[true, true, true, true, true, false]) rfl (guard_none rfl) rfl rfl (by kernel_rfl) (does_callk rfl callok83 rfl (impl_nodeFault.calls (x0 := x0.take (a3895).toNat) (x1 := (gt x0 a3895)) (HM.rd hr3922) h3924)) ?_
        rintro _ w3925 ⟨rfl, hn⟩
        replace HM : Mem w [] w3925 [box b3914 113 [.int .i64 ((gt x0 a3895).fId), .int .i64 ((gt x0 a3895).fPrev), .int .i64 ((gt x0 a3895).fHeight)]] := HM.call hn
        refine ⟨Mem.suf (M := []) HM, ?_⟩
        have hS := Mem.suf (M := []) HM
        refine drw_take (i := 5) (l' := #[true, true, true, true, true, true]) rfl (guard_none rfl) rfl rfl (by kernel_rfl) (fun w_ hS_ => (ex_assign rfl rfl)) hS ?_
        refine drw_done (by kernel_rfl) ?_
        refine at_then ?_
        refine run_seq ?_
        refine run_region rfl ?_
        refine ops_ex rfl (guard_none rfl) rfl rfl (ex_move rfl rfl) ?_
        refine ops_ex rfl (guard_none rfl) rfl rfl (ex_neq rfl rfl rfl) ?_
        refine ops_nil ?_
        refine at_then ?_
        refine run_cond (b := (t3923 != 0)) rfl (fun hb3926 => ?_) (fun hb3926 => ?_)
        · replace ho3881 := cond_t hb3926 ho3881
          refine run_seq ?_
          refine run_region rfl ?_
          refine ops_ex rfl (guard_none rfl) rfl rfl (ex_move rfl rfl) ?_
          refine ops_ex rfl (guard_none rfl) rfl rfl (ex_assign rfl rfl) ?_
          refine ops_nil ?_
          refine at_then ?_
          refine run_ret ?_
          refine at_block_ret ?_
          refine at_then_ret ?_
          refine at_then_ret ?_
          refine at_block_ret ?_
          refine at_then_ret ?_
          replace HM := (HM.front 0 rfl rfl).drop
          have hR := Option.some.inj ho3881
          subst hR
          have hT := thn_inl H
          have hR := Option.some.inj hT
          subst hR
          exact at_ret1 rfl rfl ⟨_, rfl, rfl, HM⟩
        · replace ho3881 := cond_f hb3926 ho3881
          refine run_skip ?_
          refine at_block ?_
          refine at_then ?_
          refine run_region rfl ?_
          refine ops_ex rfl (guard_none rfl) rfl rfl (ex_add rfl rfl rfl) ?_
          refine ops_ex rfl (guard_none rfl) rfl rfl (ex_move rfl rfl) ?_
          refine ops_nil ?_
          replace HM := (HM.front 0 rfl rfl).drop
          exact at_again k3909 (ρ1 := [(0, p0), (9, p0), (10, .int .i64 (x0.length : Int)), (11, .int .i64 (wrap64 (a3895 + 1)))]) (Nat.lt_succ_self _) ⟨_, ho3881, rfl, HM⟩ (Sub.cons rfl (Sub.cons rfl (Sub.cons rfl (Sub.cons rfl Sub.nil))))
      · replace ho3881 := cond_f hb3911 ho3881
        refine run_exit ?_
        refine at_then_exit ?_
        refine at_then_exit ?_
        refine at_block_exit ?_
        exact at_mid (ρ' := []) ⟨(Option.some.inj ho3881), rfl, HM⟩ Sub.nil
    · rintro _ w3927 ⟨rfl, rfl, HM⟩
      replace H := (thn_inr H)
      refine run_seq ?_
      refine run_region rfl ?_
      refine ops_ex rfl (guard_none rfl) rfl rfl (ex_assign rfl rfl) ?_
      refine ops_nil ?_
      refine at_then ?_
      refine run_ret ?_
      have hR := Option.some.inj H
      subst hR
      exact at_ret1 rfl rfl ⟨_, rfl, rfl, HM⟩

def laws_eqNode.f (k : Nat) (x0 : Node) (x1 : Node) : Option Bool := (bif (x0.fId != x1.fId) then some false else (bif (x0.fPrev != x1.fPrev) then some false else (bif (x0.fHeight != x1.fHeight) then some false else some true)))
theorem laws_eqNode.calls {k : Nat} {x0 : Node} {x1 : Node}  {w : World}  {r : Bool} (H : laws_eqNode.f k x0 x1 = some r) :
    Calls Try.prog 84 ([.agg #[(.int .i64 x0.fId), (.int .i64 x0.fPrev), (.int .i64 x0.fHeight)], .agg #[(.int .i64 x1.fId), (.int .i64 x1.fPrev), (.int .i64 x1.fHeight)]] : List Value).toArray w (fun e w_ => ∃ v, e = .returned v ∧ v = (.bool r) ∧ Mem w [] w_ []) := by
  have HM := Mem.start w
  refine calls_run (N := 20) Try.func84 rfl rfl rfl rfl ?_
  unfold laws_eqNode.f at H
  refine run_seq ?_
  refine run_region rfl ?_
  refine ops_does rfl (guard_none rfl) rfl rfl (does_box (cs := [.int .i64 x0.fId, .int .i64 x0.fPrev, .int .i64 x0.fHeight]) rfl rfl rfl HM) ?_
  rintro _ w3960 ⟨b3954, rfl, HM⟩
  refine ops_does rfl (guard_none rfl) rfl rfl (does_box (cs := [.int .i64 x1.fId, .int .i64 x1.fPrev, .int .i64 x1.fHeight]) rfl rfl rfl HM) ?_
  rintro _ w3961 ⟨b3957, rfl, HM⟩
  refine ops_ex rfl (guard_none rfl) rfl rfl (ex_assign rfl rfl) ?_
  refine ops_nil ?_
  refine at_then ?_
  refine run_seq ?_
  refine run_seq ?_
  refine run_region rfl ?_
  refine ops_ex rfl (guard_none rfl) rfl rfl (ex_fieldAddr (off' := 0) rfl rfl Try.underlying113 rfl tsz2 rfl) ?_
  refine ops_ex rfl (guard_none rfl) rfl rfl (ex_load1 rfl rfl Try.underlying2 rfl ((HM.box_at 1 rfl) 0 _ rfl)) ?_
  refine ops_ex rfl (guard_none rfl) rfl rfl (ex_fieldAddr (off' := 0) rfl rfl Try.underlying113 rfl tsz2 rfl) ?_
  refine ops_ex rfl (guard_none rfl) rfl rfl (ex_load1 rfl rfl Try.underlying2 rfl ((HM.box_at 0 rfl) 0 _ rfl)) ?_
  refine ops_ex rfl (guard_none rfl) rfl rfl (ex_neq rfl rfl rfl) ?_
  refine ops_nil ?_
  refine at_then ?_
  refine run_cond (b := (x0.fId != x1.fId)) rfl (fun hb3963 => ?_) (fun hb3963 => ?_)
  · replace H := cond_t hb3963 H
    refine run_seq ?_
    refine run_region rfl ?_
    refine ops_ex rfl (guard_none rfl) rfl rfl (ex_assign rfl rfl) ?_
    refine ops_nil ?_
    refine at_then ?_
    refine run_ret ?_
    refine at_then_ret ?_
    replace HM := (HM.front 0 rfl rfl).drop
    replace HM := (HM.front 0 rfl rfl).drop
    have hR := Option.some.inj H
    subst hR
    exact at_ret1 rfl rfl ⟨_, rfl, rfl, HM⟩
  · replace H := cond_f hb3963 H
    refine run_skip ?_
    refine at_then ?_
    refine run_seq ?_
    refine run_seq ?_
    refine run_region rfl ?_
    refine ops_ex rfl (guard_none rfl) rfl rfl (ex_fieldAddr (off' := 1) rfl rfl Try.underlying113 rfl tsz2 rfl) ?_
    refine ops_ex rfl (guard_none rfl) rfl rfl (ex_load1 rfl rfl Try.underlying2 rfl ((HM.box_at 1 rfl) 1 _ rfl)) ?_
    refine ops_ex rfl (guard_none rfl) rfl rfl (ex_fieldAddr (off' := 1) rfl rfl Try.underlying113 rfl tsz2 rfl) ?_
    refine ops_ex rfl (guard_none rfl) rfl rfl (ex_load1 rfl rfl Try.underlying2 rfl ((HM.box_at 0 rfl) 1 _ rfl)) ?_
    refine ops_ex rfl (guard_none rfl) rfl rfl (ex_neq rfl rfl rfl) ?_
    refine ops_nil ?_
    refine at_then ?_
    refine run_cond (b := (x0.fPrev != x1.fPrev)) rfl (fun hb3965 => ?_) (fun hb3965 => ?_)
    · replace H := cond_t hb3965 H
      refine run_seq ?_
      refine run_region rfl ?_
      refine ops_ex rfl (guard_none rfl) rfl rfl (ex_assign rfl rfl) ?_
      refine ops_nil ?_
      refine at_then ?_
      refine run_ret ?_
      refine at_then_ret ?_
      replace HM := (HM.front 0 rfl rfl).drop
      replace HM := (HM.front 0 rfl rfl).drop
      have hR := Option.some.inj H
      subst hR
      exact at_ret1 rfl rfl ⟨_, rfl, rfl, HM⟩
    · replace H := cond_f hb3965 H
      refine run_skip ?_
      refine at_then ?_
      refine run_seq ?_
      refine run_seq ?_
      refine run_region rfl ?_
      refine ops_ex rfl (guard_none rfl) rfl rfl (ex_fieldAddr (off' := 2) rfl rfl Try.underlying113 rfl tsz2 rfl) ?_
      refine ops_ex rfl (guard_none rfl) rfl rfl (ex_load1 rfl rfl Try.underlying2 rfl ((HM.box_at 1 rfl) 2 _ rfl)) ?_
      refine ops_ex rfl (guard_none rfl) rfl rfl (ex_fieldAddr (off' := 2) rfl rfl Try.underlying113 rfl tsz2 rfl) ?_
      refine ops_ex rfl (guard_none rfl) rfl rfl (ex_load1 rfl rfl Try.underlying2 rfl ((HM.box_at 0 rfl) 2 _ rfl)) ?_
      refine ops_ex rfl (guard_none rfl) rfl rfl (ex_neq rfl rfl rfl) ?_
      refine ops_nil ?_
      refine at_then ?_
      refine run_cond (b := (x0.fHeight != x1.fHeight)) rfl (fun hb3966 => ?_) (fun hb3966 => ?_)
      · replace H := cond_t hb3966 H
        refine run_seq ?_
        refine run_region rfl ?_
        refine ops_ex rfl (guard_none rfl) rfl rfl (ex_assign rfl rfl) ?_
        refine ops_nil ?_
        refine at_then ?_
        refine run_ret ?_
        refine at_then_ret ?_
        replace HM := (HM.front 0 rfl rfl).drop
        replace HM := (HM.front 0 rfl rfl).drop
        have hR := Option.some.inj H
        subst hR
        exact at_ret1 rfl rfl ⟨_, rfl, rfl, HM⟩
      · replace H := cond_f hb3966 H
        refine run_skip ?_
        refine at_then ?_
        refine run_seq ?_
        refine run_region rfl ?_
        refine ops_ex rfl (guard_none rfl) rfl rfl (ex_assign rfl rfl) ?_
        refine ops_nil ?_
        refine at_then ?_
        refine run_ret ?_
        replace HM := (HM.front 0 rfl rfl).drop
        replace HM := (HM.front 0 rfl rfl).drop
        have hR := Option.some.inj H
        subst hR
        exact at_ret1 rfl rfl ⟨_, rfl, rfl, HM⟩

def laws_eqNodeS.l0 (x0 : List Node) (x1 : List Node) : Nat → Int → Option (Bool ⊕ Unit)
  | 0, _ => none
  | k + 1, a4026 => (bif (decide (a4026 < (x0.length : Int))) then (chk (idxOk a4026 x0.length) (chk (idxOk a4026 x1.length) ((laws_eqNode.f k (gt x0 a4026) (gt x1 a4026)).bind fun t4042 => (bif !t4042 then some (.inl false) else laws_eqNodeS.l0 x0 x1 k (wrap64 (a4026 + 1)))))) else some (.inr ()))
theorem laws_eqNodeS.l0_z (x0 : List Node) (x1 : List Node) (a4026 : Int) : laws_eqNodeS.l0 x0 x1 0 a4026 = none := rfl
theorem laws_eqNodeS.l0_s (x0 : List Node) (x1 : List Node) (k : Nat) (a4026 : Int) : laws_eqNodeS.l0 x0 x1 (k + 1) a4026 = (bif (decide (a4026 < (x0.length : Int))) then (chk (idxOk a4026 x0.length) (chk (idxOk a4026 x1.length) ((laws_eqNode.f k (gt x0 a4026) (gt x1 a4026)).bind fun t4042 => (bif !t4042 then some (.inl false) else laws_eqNodeS.l0 x0 x1 k (wrap64 (a4026 + 1)))))) else some (.inr ())) := rfl
def laws_eqNodeS.f (k : Nat) (x0 : List Node) (x1 : List Node) : Option Bool := (bif ((x0.length : Int) != (x1.length : Int)) then some false else ((laws_eqNodeS.l0 x0 x1 k 0).bind fun o4016 => thn o4016 (fun r => some r) (fun _ => some true)))
theorem laws_eqNodeS.calls {k : Nat} {x0 : List Node} {x1 : List Node} {p0 : Value} {p1 : Value} {w : World} (hp0 : RdS kNode w p0 x0) (hp1 : RdS kNode w p1 x1) {r : Bool} (H : laws_eqNodeS.f k x0 x1 = some r) :
    Calls Try.prog 43 ([p0, p1] : List Value).toArray w (fun e w_ => ∃ v, e = .returned v ∧ v = (.bool r) ∧ Mem w [] w_ []) := by
  have HM := Mem.start w
  refine calls_run (N := 27) Try.func43 rfl rfl rfl rfl ?_
  unfold laws_eqNodeS.f at H
  refine run_seq ?_
  refine run_region rfl ?_
  refine ops_ex rfl (guard_none rfl) rfl rfl (ex_assign rfl rfl) ?_
  refine ops_nil ?_
  refine at_then ?_
  refine run_seq ?_
  refine run_seq ?_
  refine run_region rfl ?_
  refine ops_ex rfl (guard_none rfl) rfl rfl (ex_move rfl rfl) ?_
  refine ops_ex rfl (guard_none rfl) rfl rfl (ex_len (d := kNode) (xs := x0) rfl rfl Try.underlying57 hp0) ?_
  refine ops_ex rfl (guard_none rfl) rfl rfl (ex_move rfl rfl) ?_
  refine ops_ex rfl (guard_none rfl) rfl rfl (ex_len (d := kNode) (xs := x1) rfl rfl Try.underlying57 hp1) ?_
  refine ops_ex rfl (guard_none rfl) rfl rfl (ex_neq rfl rfl rfl) ?_
  refine ops_nil ?_
  refine at_then ?_
  refine run_cond (b := ((x0.length : Int) != (x1.length : Int))) rfl (fun hb3990 => ?_) (fun hb3990 => ?_)
  · replace H := cond_t hb3990 H
    refine run_seq ?_
    refine run_region rfl ?_
    refine ops_ex rfl (guard_none rfl) rfl rfl (ex_assign rfl rfl) ?_
    refine ops_nil ?_
    refine at_then ?_
    refine run_ret ?_
    refine at_then_ret ?_
    have hR := Option.some.inj H
    subst hR
    exact at_ret1 rfl rfl ⟨_, rfl, rfl, HM⟩
  · replace H := cond_f hb3990 H
    refine run_skip ?_
    refine at_then ?_
    obtain ⟨o4016, ho4017, H⟩ := bind_some H
    refine run_mid (fun ρ_ w_ => Sum.inr () = o4016 ∧ ρ_ = [] ∧ Mem w [] w_ []) ?_ ?_
    · skip
      refine run_seq ?_
      refine run_region rfl ?_
      refine ops_ex rfl (guard_none rfl) rfl rfl (ex_assign rfl rfl) ?_
      refine ops_nil ?_
      refine at_then ?_
      refine run_block ?_
      refine run_loop (fun k_ ρ_ w_ => ∃ a4026 : Int, laws_eqNodeS.l0 x0 x1 k_ a4026 = some o4016 ∧ ρ_ = [(0, p0), (1, p1), (5, .int .i64 a4026)] ∧ Mem w [] w_ []) k (ρ1 := [(0, p0), (1, p1), (5, .int .i64 0)]) ⟨_, ho4017, rfl, HM⟩ (Sub.cons rfl (Sub.cons rfl (Sub.cons rfl Sub.nil))) ?_
      clear HM ho4017
      rintro k4035 _ w4036 ⟨a4026, ho4017, rfl, HM⟩
      obtain _ | k4035 := k4035
      · exact nomatch ((laws_eqNodeS.l0_z x0 x1 a4026).symm.trans ho4017)
      replace ho4017 := (laws_eqNodeS.l0_s x0 x1 k4035 a4026).symm.trans ho4017
      refine run_seq ?_
      refine run_seq ?_
      refine run_region rfl ?_
      refine ops_ex rfl (guard_none rfl) rfl rfl (ex_move rfl rfl) ?_
      refine ops_ex rfl (guard_none rfl) rfl rfl (ex_move rfl rfl) ?_
      refine ops_ex rfl (guard_none rfl) rfl rfl (ex_len (d := kNode) (xs := x0) rfl rfl Try.underlying57 hp0) ?_
      refine ops_ex rfl (guard_none rfl) rfl rfl (ex_lss rfl rfl rfl) ?_
      refine ops_nil ?_
      refine at_then ?_
      refine run_cond (b := (decide (a4026 < (x0.length : Int)))) rfl (fun hb4037 => ?_) (fun hb4037 => ?_)
      · replace ho4017 := cond_t hb4037 ho4017
        refine run_skip ?_
        refine at_then ?_
        refine run_seq ?_
        refine run_block ?_
        refine run_seq ?_
        obtain ⟨e4038, ho4017⟩ := chk_some ho4017
        obtain ⟨e4040, ho4017⟩ := chk_some ho4017
        obtain ⟨t4042, h4043, ho4017⟩ := bind_some ho4017
        refine run_draw (fun w_ => Mem w [] w_ []) mixed rfl rfl ?_
        replace HM := HM.grow (fr_drew _)
        have hS := Mem.suf (M := []) HM
        refine drw_take (i := 0) (l' := #[true, false, false, false, false, false, false, false, false, false]) rfl (guard_none rfl) rfl rfl (by kernel_rfl) (fun w_ hS_ => (ex_move rfl rfl)) hS ?_
        refine drw_take (i := 1) (l' := #[true, true, false, false, false, false, false, false, false, false]) rfl (guard_none rfl) rfl rfl (by kernel_rfl) (fun w_ hS_ => (ex_move rfl rfl)) hS ?_
        have hc4039 : CellsAt _ (sb p0) (so p0 + (a4026).toNat * 3) [(.int .i64 ((gt x0 a4026).fId)), (.int .i64 ((gt x0 a4026).fPrev)), (.int .i64 ((gt x0 a4026).fHeight))] := rd_plain hp0 e4038
        refine drw_take (i := 2) (l' := #[true, true, true, false, false, false, false, false, false, false]) rfl (guard_none rfl) rfl rfl (by kernel_rfl) (fun w_ hS_ => (ex_indexAddr (d := kNode) rfl rfl rfl Try.underlying57 tsz113 hp0 (idx_lo e4038) (idx_hi e4038))) hS ?_
        refine drw_take (i := 3) (l' := #[true, true, true, true, false, false, false, false, false, false]) rfl (guard_none rfl) rfl rfl (by kernel_rfl) (fun w_ hS_ => (ex_loadN (cs := [(.int .i64 ((gt x0 a4026).fId)), (.int .i64 ((gt x0 a4026).fPrev)), (.int .i64 ((gt x0 a4026).fHeight))]) rfl rfl Try.underlying113 rfl tsz113 rfl ((hS_.at_ hc4039).sub 0 3 rfl))) hS ?_
        refine drw_take (i := 4) (l' := #[true, true, true, true, true, false, false, false, false, false]) rfl (guard_none rfl) rfl rfl (by kernel_rfl) (fun w_ hS_ => (ex_move rfl rfl)) hS ?_
        refine drw_take (i := 5) (l' := #[true, true, true, true, true, true, false, false, false, false]) rfl (guard_none rfl) rfl rfl (by kernel_rfl) (fun w_ hS_ => (ex_move rfl rfl)) hS ?_
        have hc4041 : CellsAt _ (sb p1) (so p1 + (a4026).toNat * 3) [(.int .i64 ((gt x1 a4026).fId)), (.int .i64 ((gt x1 a4026).fPrev)), (.int .i64 ((gt x1 a4026).fHeight))] := rd_plain hp1 e4040
        refine drw_take (i := 6) (l' := #[true, true, true, true, true, true, true, false, false, false]) rfl (guard_none rfl) rfl rfl (by kernel_rfl) (fun w_ hS_ => (ex_indexAddr (d := kNode) rfl rfl rfl Try.underlying57 tsz113 hp1 (idx_lo e4040) (idx_hi e4040))) hS ?_
        refine drw_take (i := 7) (l' := #[true, true, true, true, true, true, true, true, false, false]) rfl (guard_none rfl) rfl rfl (by kernel_rfl) (fun w_ hS_ => (ex_loadN (cs := [(.int .i64 ((gt x1 a4026).fId)), (.int .i64 ((gt x1 a4026).fPrev)), (.int .i64 ((gt x1 a4026).fHeight))]) rfl rfl Try.underlying113 rfl tsz113 rfl ((hS_.at_ hc4041).sub 0 3 rfl))) hS ?_
        refine drw_one (i := 8) (l' := #[true, true, true, true, true, true, true, true, true, false]) rfl (guard_none rfl) rfl rfl (by kernel_rfl) (does_callk rfl callok84 rfl (laws_eqNode.calls (x0 := (gt x0 a4026)) (x1 := (gt x1 a4026)) h4043)) ?_
        rintro _ w4044 ⟨rfl, hn⟩
        replace HM : Mem w [] w4044 [] := HM.call hn
        refine ⟨Mem.suf (M := []) HM, ?_⟩
        have hS := Mem.suf (M := []) HM
        refine drw_take (i := 9) (l' := #[true, true, true, true, true, true, true, true, true, true]) rfl (guard_none rfl) rfl rfl (by kernel_rfl) (fun w_ hS_ => (ex_not rfl rfl)) hS ?_
        refine drw_done (by kernel_rfl) ?_
        refine at_then ?_
        refine run_cond (b := !t4042) rfl (fun hb4045 => ?_) (fun hb4045 => ?_)
        · replace ho4017 := cond_t hb4045 ho4017
          refine run_seq ?_
          refine run_region rfl ?_
          refine ops_ex rfl (guard_none rfl) rfl rfl (ex_assign rfl rfl) ?_
          refine ops_nil ?_
          refine at_then ?_
          refine run_ret ?_
          refine at_block_ret ?_
          refine at_then_ret ?_
          refine at_then_ret ?_
          refine at_block_ret ?_
          refine at_then_ret ?_
          have hR := Option.some.inj ho4017
          subst hR
          have hT := thn_inl H
          have hR := Option.some.inj hT
          subst hR
          exact at_ret1 rfl rfl ⟨_, rfl, rfl, HM⟩
        · replace ho4017 := cond_f hb4045 ho4017
          refine run_skip ?_
          refine at_block ?_
          refine at_then ?_
          refine run_region rfl ?_
          refine ops_ex rfl (guard_none rfl) rfl rfl (ex_move rfl rfl) ?_
          refine ops_ex rfl (guard_none rfl) rfl rfl (ex_add rfl rfl rfl) ?_
          refine ops_ex rfl (guard_none rfl) rfl rfl (ex_assign rfl rfl) ?_
          refine ops_nil ?_
          exact at_again k4035 (ρ1 := [(0, p0), (1, p1), (5, .int .i64 (wrap64 (a4026 + 1)))]) (Nat.lt_succ_self _) ⟨_, ho4017, rfl, HM⟩ (Sub.cons rfl (Sub.cons rfl (Sub.cons rfl Sub.nil)))
      · replace ho4017 := cond_f hb4037 ho4017
        refine run_exit ?_
        refine at_then_exit ?_
        refine at_then_exit ?_
        refine at_block_exit ?_
        exact at_mid (ρ' := []) ⟨(Option.some.inj ho4017), rfl, HM⟩ Sub.nil
    · rintro _ w4046 ⟨rfl, rfl, HM⟩
      replace H := (thn_inr H)
      refine run_seq ?_
      refine run_region rfl ?_
      refine ops_ex rfl (guard_none rfl) rfl rfl (ex_assign rfl rfl) ?_
      refine ops_nil ?_
      refine at_then ?_
      refine run_ret ?_
      have hR := Option.some.inj H
      subst hR
      exact at_ret1 rfl rfl ⟨_, rfl, rfl, HM⟩

def laws_FnExactTreeFault.f (k : Nat) (x0 : List Node) : Option Bool := ((laws_szNodeS.f k x0 1048576).bind fun t4050 => (bif (decide (t4050 < 0)) then some true else ((laws_toNodeS.f k x0).bind fun t4055 => ((spec_TreeFault.f k t4055).bind fun t4059 => ((laws_toNodeS.f k x0).bind fun t4063 => ((impl_TreeFault.f k t4063).bind fun t4068 => (bif (t4068 != t4059) then some false else ((laws_toNodeS.f k x0).bind fun t4073 => ((laws_eqNodeS.f k t4063 t4073).bind fun t4077 => (bif !t4077 then some false else some true))))))))))
theorem laws_FnExactTreeFault.calls {k : Nat} {x0 : List Node} {p0 : Value} {w : World} (hp0 : RdS kNode w p0 x0) {r : Bool} (H : laws_FnExactTreeFault.f k x0 = some r) :
    Calls Try.prog 11 ([p0] : List Value).toArray w (fun e w_ => ∃ v, e = .returned v ∧ v = (.bool r) ∧ Mem w [] w_ []) := by
  have HM := Mem.start w
  refine calls_run (N := 27) Try.func11 rfl rfl rfl rfl ?_
  unfold laws_FnExactTreeFault.f at H
  refine run_seq ?_
  refine run_region rfl ?_
  refine ops_ex rfl (guard_none rfl) rfl rfl (ex_assign rfl rfl) ?_
  refine ops_nil ?_
  refine at_then ?_
  refine run_seq ?_
  refine run_region rfl ?_
  refine ops_ex rfl (guard_none rfl) rfl rfl (ex_assign rfl rfl) ?_
  refine ops_nil ?_
  refine at_then ?_
  refine run_seq ?_
  obtain ⟨t4050, h4051, H⟩ := bind_some H
  refine run_region rfl ?_
  refine ops_ex rfl (guard_none rfl) rfl rfl (ex_move rfl rfl) ?_
  refine ops_ex rfl (guard_none rfl) rfl rfl (ex_move rfl rfl) ?_
  refine ops_does rfl (guard_none rfl) rfl rfl (does_callk rfl callok39 rfl (laws_szNodeS.calls (x0 := x0) (x1 := 1048576) (HM.rd hp0) h4051)) ?_
  rintro _ w4052 ⟨rfl, hn⟩
  replace HM : Mem w [] w4052 [] := HM.call hn
  refine ops_ex rfl (guard_none rfl) rfl rfl (ex_assign rfl rfl) ?_
  refine ops_nil ?_
  refine at_then ?_
  refine run_seq ?_
  refine run_seq ?_
  refine run_region rfl ?_
  refine ops_ex rfl (guard_none rfl) rfl rfl (ex_move rfl rfl) ?_
  refine ops_ex rfl (guard_none rfl) rfl rfl (ex_lss rfl rfl rfl) ?_
  refine ops_nil ?_
  refine at_then ?_
  refine run_cond (b := (decide (t4050 < 0))) rfl (fun hb4054 => ?_) (fun hb4054 => ?_)
  · replace H := cond_t hb4054 H
    refine run_seq ?_
    refine run_region rfl ?_
    refine ops_ex rfl (guard_none rfl) rfl rfl (ex_assign rfl rfl) ?_
    refine ops_nil ?_
    refine at_then ?_
    refine run_ret ?_
    refine at_then_ret ?_
    have hR := Option.some.inj H
    subst hR
    exact at_ret1 rfl rfl ⟨_, rfl, rfl, HM⟩
  · replace H := cond_f hb4054 H
    refine run_skip ?_
    refine at_then ?_
    refine run_seq ?_
    obtain ⟨t4055, h4056, H⟩ := bind_some H
    obtain ⟨t4059, h4060, H⟩ := bind_some H
    refine run_region rfl ?_
    refine ops_ex rfl (guard_none rfl) rfl rfl (ex_move rfl rfl) ?_
    refine ops_does rfl (guard_none rfl) rfl rfl (does_callk rfl callok41 rfl (laws_toNodeS.calls (x0 := x0) (HM.rd hp0) h4056)) ?_
    rintro u4057 w4061 ⟨_, rfl, hn⟩
    replace HM : Mem w [] w4061 [own kNode 113 u4057 t4055] := HM.call hn
    refine ops_does rfl (guard_none rfl) rfl rfl (does_callk rfl callok40 rfl (spec_TreeFault.calls (x0 := t4055) (HM.own_rd 0 rfl) h4060)) ?_
    rintro _ w4062 ⟨rfl, hn⟩
    replace HM : Mem w [] w4062 [own kNode 113 u4057 t4055] := HM.call hn
    refine ops_ex rfl (guard_none rfl) rfl rfl (ex_assign rfl rfl) ?_
    refine ops_nil ?_
    refine at_then ?_
    refine run_seq ?_
    obtain ⟨t4063, h4064, H⟩ := bind_some H
    refine run_region rfl ?_
    refine ops_ex rfl (guard_none rfl) rfl rfl (ex_move rfl rfl) ?_
    refine ops_does rfl (guard_none rfl) rfl rfl (does_callk rfl callok41 rfl (laws_toNodeS.calls (x0 := x0) (HM.rd hp0) h4064)) ?_
    rintro u4065 w4067 ⟨_, rfl, hn⟩
    replace HM : Mem w [] w4067 [own kNode 113 u4065 t4063, own kNode 113 u4057 t4055] := HM.call hn
    refine ops_ex rfl (guard_none rfl) rfl rfl (ex_assign rfl rfl) ?_
    refine ops_nil ?_
    refine at_then ?_
    refine run_seq ?_
    obtain ⟨t4068, h4069, H⟩ := bind_some H
    refine run_region rfl ?_
    refine ops_ex rfl (guard_none rfl) rfl rfl (ex_move rfl rfl) ?_
    refine ops_does rfl (guard_none rfl) rfl rfl (does_callk rfl callok42 rfl (impl_TreeFault.calls (x0 := t4063) (HM.own_rd 0 rfl) h4069)) ?_
    rintro _ w4070 ⟨rfl, hn⟩
    replace HM : Mem w [] w4070 [own kNode 113 u4065 t4063, own kNode 113 u4057 t4055] := HM.call hn
    refine ops_ex rfl (guard_none rfl) rfl rfl (ex_assign rfl rfl) ?_
    refine ops_nil ?_
    refine at_then ?_
    refine run_seq ?_
    refine run_seq ?_
    refine run_region rfl ?_
    refine ops_ex rfl (guard_none rfl) rfl rfl (ex_move rfl rfl) ?_
    refine ops_ex rfl (guard_none rfl) rfl rfl (ex_move rfl rfl) ?_
    refine ops_ex rfl (guard_none rfl) rfl rfl (ex_neq rfl rfl rfl) ?_
    refine ops_nil ?_
    refine at_then ?_
    refine run_cond (b := (t4068 != t4059)) rfl (fun hb4072 => ?_) (fun hb4072 => ?_)
    · replace H := cond_t hb4072 H
      refine run_seq ?_
      refine run_region rfl ?_
      refine ops_ex rfl (guard_none rfl) rfl rfl (ex_assign rfl rfl) ?_
      refine ops_nil ?_
      refine at_then ?_
      refine run_ret ?_
      refine at_then_ret ?_
      replace HM := (HM.front 0 rfl rfl).drop
      replace HM := (HM.front 0 rfl rfl).drop
      have hR := Option.some.inj H
      subst hR
      exact at_ret1 rfl rfl ⟨_, rfl, rfl, HM⟩
    · replace H := cond_f hb4072 H
      refine run_skip ?_
      refine at_then ?_
      refine run_seq ?_
      refine run_seq ?_
      obtain ⟨t4073, h4074, H⟩ := bind_some H
      obtain ⟨t4077, h4078, H⟩ := bind_some H
      refine run_region rfl ?_
      refine ops_ex rfl (guard_none rfl) rfl rfl (ex_move rfl rfl) ?_
      refine ops_ex rfl (guard_none rfl) rfl rfl (ex_move rfl rfl) ?_
      refine ops_does rfl (guard_none rfl) rfl rfl (does_callk rfl callok41 rfl (laws_toNodeS.calls (x0 := x0) (HM.rd hp0) h4074)) ?_
      rintro u4075 w4079 ⟨_, rfl, hn⟩
      replace HM : Mem w [] w4079 [own kNode 113 u4075 t4073, own kNode 113 u4065 t4063, own kNode 113 u4057 t4055] := HM.call hn
      refine ops_does rfl (guard_none rfl) rfl rfl (does_callk rfl callok43 rfl (laws_eqNodeS.calls (x0 := t4063) (x1 := t4073) (HM.own_rd 1 rfl) (HM.own_rd 0 rfl) h4078)) ?_
      rintro _ w4080 ⟨rfl, hn⟩
      replace HM : Mem w [] w4080 [own kNode 113 u4075 t4073, own kNode 113 u4065 t4063, own kNode 113 u4057 t4055] := HM.call hn
      refine ops_ex rfl (guard_none rfl) rfl rfl (ex_not rfl rfl) ?_
      refine ops_nil ?_
      refine at_then ?_
      refine run_cond (b := !t4077) rfl (fun hb4081 => ?_) (fun hb4081 => ?_)
      · replace H := cond_t hb4081 H
        refine run_seq ?_
        refine run_region rfl ?_
        refine ops_ex rfl (guard_none rfl) rfl rfl (ex_assign rfl rfl) ?_
        refine ops_nil ?_
        refine at_then ?_
        refine run_ret ?_
        refine at_then_ret ?_
        replace HM := (HM.front 0 rfl rfl).drop
        replace HM := (HM.front 0 rfl rfl).drop
        replace HM := (HM.front 0 rfl rfl).drop
        have hR := Option.some.inj H
        subst hR
        exact at_ret1 rfl rfl ⟨_, rfl, rfl, HM⟩
      · replace H := cond_f hb4081 H
        refine run_skip ?_
        refine at_then ?_
        refine run_seq ?_
        refine run_region rfl ?_
        refine ops_ex rfl (guard_none rfl) rfl rfl (ex_assign rfl rfl) ?_
        refine ops_nil ?_
        refine at_then ?_
        refine run_ret ?_
        replace HM := (HM.front 0 rfl rfl).drop
        replace HM := (HM.front 0 rfl rfl).drop
        replace HM := (HM.front 0 rfl rfl).drop
        have hR := Option.some.inj H
        subst hR
        exact at_ret1 rfl rfl ⟨_, rfl, rfl, HM⟩
end Go.Proofs.Ytkofpnbacgccnaa.Zk
