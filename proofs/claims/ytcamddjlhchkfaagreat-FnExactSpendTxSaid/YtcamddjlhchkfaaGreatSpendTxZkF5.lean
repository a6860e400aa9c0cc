/- What functions of the program compute, each as a plain function, and that they do. Conditions: as each theorem states them. -/
import Derived.Test.YtcamddjlhchkfaaGreatSpendTxZkF4
namespace Go.Proofs.YtcamddjlhchkfaaGreat.Zk
open Go Go.RowKit Go.IntWalk Go.Proofs
set_option linter.unusedVariables false
set_option linter.unusedSimpArgs false
set_option maxRecDepth 100000
set_option maxHeartbeats 4000000
def impl_within.f (k : Nat) (x0 : Int) (x1 : Int) (x2 : Int) : Option Bool := some ((decide (x1 ≤ x0)) && (decide (x0 ≤ x2)))
theorem impl_within.calls {k : Nat} {x0 : Int} {x1 : Int} {x2 : Int}  {w : World}  {r : Bool} (H : impl_within.f k x0 x1 x2 = some r) :
    Calls Tryz.prog 66 ([.int .i64 x0, .int .i64 x1, .int .i64 x2] : List Value).toArray w (fun e w_ => ∃ v, e = .returned v ∧ v = (.bool r) ∧ Mem w [] w_ []) := by
  have HM := Mem.start w
  refine calls_run (N := 15) Tryz.func66 rfl rfl rfl rfl ?_
  unfold impl_within.f at H
  refine run_seq ?_
  refine run_region rfl ?_
  refine ops_ex rfl (guard_none rfl) rfl rfl (ex_assign rfl rfl) ?_
  refine ops_nil ?_
  refine at_then ?_
  refine run_seq ?_
  refine run_meet (fun ρ_ w_ => ρ_ = [(6, .bool ((decide (x1 ≤ x0)) && (decide (x0 ≤ x2))))] ∧ Mem w [] w_ []) ?_ ?_
  · skip
    refine run_region rfl ?_
    refine ops_ex rfl (guard_none rfl) rfl rfl (ex_move rfl rfl) ?_
    refine ops_ex rfl (guard_none rfl) rfl rfl (ex_move rfl rfl) ?_
    refine ops_ex rfl (guard_none rfl) rfl rfl (ex_geq rfl rfl rfl) ?_
    refine ops_ex rfl (guard_none rfl) rfl rfl (ex_move rfl rfl) ?_
    refine bool_cases (decide (x1 ≤ x0)) (fun hg3681 => ?_) (fun hg3681 => ?_)
    · skip
      refine ops_ex rfl (guard_on rfl rfl rfl hg3681) rfl rfl (ex_move rfl rfl) ?_
      refine ops_ex rfl (guard_on rfl rfl rfl hg3681) rfl rfl (ex_move rfl rfl) ?_
      refine ops_ex rfl (guard_on rfl rfl rfl hg3681) rfl rfl (ex_leq rfl rfl rfl) ?_
      refine ops_ex (v := .bool ((decide (x1 ≤ x0)) && (decide (x0 ≤ x2)))) rfl (guard_none rfl) rfl rfl (ex_pand_t rfl rfl hg3681 rfl) ?_
      refine ops_ex rfl (guard_none rfl) rfl rfl (ex_assign rfl rfl) ?_
      refine ops_nil ?_
      exact at_meet [(6, .bool ((decide (x1 ≤ x0)) && (decide (x0 ≤ x2))))] ⟨rfl, HM⟩ (Sub.cons rfl Sub.nil)
    · skip
      refine ops_off rfl (guard_off rfl rfl rfl hg3681) rfl rfl ?_
      refine ops_off rfl (guard_off rfl rfl rfl hg3681) rfl rfl ?_
      refine ops_off rfl (guard_off rfl rfl rfl hg3681) rfl rfl ?_
      have hg3682 : ((decide (x1 ≤ x0)) && (decide (x0 ≤ x2))) = false := by simp only [hg3681, Bool.and_true, Bool.true_and, Bool.and_false, Bool.false_and, Bool.or_true, Bool.true_or, Bool.or_false, Bool.false_or, Bool.not_true, Bool.not_false, Bool.not_not]
      refine ops_ex (v := .bool ((decide (x1 ≤ x0)) && (decide (x0 ≤ x2)))) rfl (guard_none rfl) rfl rfl (ex_pand_f rfl rfl hg3681) ?_
      refine ops_ex rfl (guard_none rfl) rfl rfl (ex_assign rfl rfl) ?_
      refine ops_nil ?_
      exact at_meet [(6, .bool ((decide (x1 ≤ x0)) && (decide (x0 ≤ x2))))] ⟨rfl, HM⟩ (Sub.cons rfl Sub.nil)
  · rintro _ w3683 ⟨rfl, HM⟩
    refine at_then ?_
    refine run_ret ?_
    have hR := Option.some.inj H
    subst hR
    exact at_ret1 rfl rfl ⟨_, rfl, rfl, HM⟩

def impl_isId.f (k : Nat) (x0 : Int) : Option Bool := ((impl_within.f k x0 1 60).bind fun t3686 => some t3686)
theorem impl_isId.calls {k : Nat} {x0 : Int}  {w : World}  {r : Bool} (H : impl_isId.f k x0 = some r) :
    Calls Tryz.prog 90 ([.int .i64 x0] : List Value).toArray w (fun e w_ => ∃ v, e = .returned v ∧ v = (.bool r) ∧ Mem w [] w_ []) := by
  have HM := Mem.start w
  refine calls_run (N := 5) Tryz.func90 rfl rfl rfl rfl ?_
  unfold impl_isId.f at H
  refine run_seq ?_
  refine run_region rfl ?_
  refine ops_ex rfl (guard_none rfl) rfl rfl (ex_assign rfl rfl) ?_
  refine ops_nil ?_
  refine at_then ?_
  refine run_seq ?_
  obtain ⟨t3686, h3687, H⟩ := bind_some H
  refine run_region rfl ?_
  refine ops_ex rfl (guard_none rfl) rfl rfl (ex_move rfl rfl) ?_
  refine ops_does rfl (guard_none rfl) rfl rfl (does_callk rfl callok66 rfl (impl_within.calls (x0 := x0) (x1 := 1) (x2 := 60) h3687)) ?_
  rintro _ w3688 ⟨rfl, hn⟩
  replace HM : Mem w [] w3688 [] := HM.call hn
  refine ops_ex rfl (guard_none rfl) rfl rfl (ex_assign rfl rfl) ?_
  refine ops_nil ?_
  refine at_then ?_
  refine run_ret ?_
  have hR := Option.some.inj H
  subst hR
  exact at_ret1 rfl rfl ⟨_, rfl, rfl, HM⟩

def impl_isRef.f (k : Nat) (x0 : Ref) : Option Bool := ((impl_isId.f k x0.fTx).bind fun t3697 => ((bif t3697 then impl_within.f k x0.fAt 0 3 else some default).bind fun t3699 => some (t3697 && t3699)))
theorem impl_isRef.calls {k : Nat} {x0 : Ref}  {w : World}  {r : Bool} (H : impl_isRef.f k x0 = some r) :
    Calls Tryz.prog 64 ([.agg #[(.int .i64 x0.fTx), (.int .i64 x0.fAt)]] : List Value).toArray w (fun e w_ => ∃ v, e = .returned v ∧ v = (.bool r) ∧ Mem w [] w_ []) := by
  have HM := Mem.start w
  refine calls_run (N := 11) Tryz.func64 rfl rfl rfl rfl ?_
  unfold impl_isRef.f at H
  refine run_seq ?_
  refine run_region rfl ?_
  refine ops_does rfl (guard_none rfl) rfl rfl (does_box (cs := [.int .i64 x0.fTx, .int .i64 x0.fAt]) rfl rfl rfl HM) ?_
  rintro _ w3696 ⟨b3693, rfl, HM⟩
  refine ops_ex rfl (guard_none rfl) rfl rfl (ex_assign rfl rfl) ?_
  refine ops_nil ?_
  refine at_then ?_
  refine run_seq ?_
  obtain ⟨t3697, h3698, H⟩ := bind_some H
  obtain ⟨t3699, h3700, H⟩ := bind_some H
  refine run_meet (fun ρ_ w_ => ρ_ = [(2, .bool (t3697 && t3699))] ∧ Mem w [] w_ []) ?_ ?_
  · skip
    refine run_region rfl ?_
    refine ops_ex rfl (guard_none rfl) rfl rfl (ex_fieldAddr (off' := 0) rfl rfl Tryz.underlying56 rfl tsz2 rfl) ?_
    refine ops_ex rfl (guard_none rfl) rfl rfl (ex_load1 rfl rfl Tryz.underlying2 rfl ((HM.box_at 0 rfl) 0 _ rfl)) ?_
    refine ops_does rfl (guard_none rfl) rfl rfl (does_callk rfl callok90 rfl (impl_isId.calls (x0 := x0.fTx) h3698)) ?_
    rintro _ w3701 ⟨rfl, hn⟩
    replace HM : Mem w [] w3701 [box b3693 56 [.int .i64 x0.fTx, .int .i64 x0.fAt]] := HM.call hn
    refine ops_ex rfl (guard_none rfl) rfl rfl (ex_move rfl rfl) ?_
    refine bool_cases t3697 (fun hg3702 => ?_) (fun hg3702 => ?_)
    · skip
      refine ops_ex rfl (guard_on rfl rfl rfl hg3702) rfl rfl (ex_fieldAddr (off' := 1) rfl rfl Tryz.underlying56 rfl tsz2 rfl) ?_
      refine ops_ex rfl (guard_on rfl rfl rfl hg3702) rfl rfl (ex_load1 rfl rfl Tryz.underlying2 rfl ((HM.box_at 0 rfl) 1 _ rfl)) ?_
      refine ops_does rfl (guard_on rfl rfl rfl hg3702) rfl rfl (does_callk rfl callok66 rfl (impl_within.calls (x0 := x0.fAt) (x1 := 0) (x2 := 3) (cond_t hg3702 h3700))) ?_
      rintro _ w3703 ⟨rfl, hn⟩
      replace HM : Mem w [] w3703 [box b3693 56 [.int .i64 x0.fTx, .int .i64 x0.fAt]] := HM.call hn
      refine ops_ex (v := .bool (t3697 && t3699)) rfl (guard_none rfl) rfl rfl (ex_pand_t rfl rfl hg3702 rfl) ?_
      refine ops_ex rfl (guard_none rfl) rfl rfl (ex_assign rfl rfl) ?_
      refine ops_nil ?_
      replace HM := (HM.front 0 rfl rfl).drop
      exact at_meet [(2, .bool (t3697 && t3699))] ⟨rfl, HM⟩ (Sub.cons rfl Sub.nil)
    · skip
      refine ops_off rfl (guard_off rfl rfl rfl hg3702) rfl rfl ?_
      refine ops_off rfl (guard_off rfl rfl rfl hg3702) rfl rfl ?_
      refine ops_off rfl (guard_off rfl rfl rfl hg3702) rfl rfl ?_
      have hg3704 : (t3697 && t3699) = false := by simp only [hg3702, Bool.and_true, Bool.true_and, Bool.and_false, Bool.false_and, Bool.or_true, Bool.true_or, Bool.or_false, Bool.false_or, Bool.not_true, Bool.not_false, Bool.not_not]
      refine ops_ex (v := .bool (t3697 && t3699)) rfl (guard_none rfl) rfl rfl (ex_pand_f rfl rfl hg3702) ?_
      refine ops_ex rfl (guard_none rfl) rfl rfl (ex_assign rfl rfl) ?_
      refine ops_nil ?_
      replace HM := (HM.front 0 rfl rfl).drop
      exact at_meet [(2, .bool (t3697 && t3699))] ⟨rfl, HM⟩ (Sub.cons rfl Sub.nil)
  · rintro _ w3705 ⟨rfl, HM⟩
    refine at_then ?_
    refine run_ret ?_
    have hR := Option.some.inj H
    subst hR
    exact at_ret1 rfl rfl ⟨_, rfl, rfl, HM⟩

def impl_isHeight.f (k : Nat) (x0 : Int) : Option Bool := ((impl_within.f k x0 0 999).bind fun t3710 => some t3710)
theorem impl_isHeight.calls {k : Nat} {x0 : Int}  {w : World}  {r : Bool} (H : impl_isHeight.f k x0 = some r) :
    Calls Tryz.prog 65 ([.int .i64 x0] : List Value).toArray w (fun e w_ => ∃ v, e = .returned v ∧ v = (.bool r) ∧ Mem w [] w_ []) := by
  have HM := Mem.start w
  refine calls_run (N := 5) Tryz.func65 rfl rfl rfl rfl ?_
  unfold impl_isHeight.f at H
  refine run_seq ?_
  refine run_region rfl ?_
  refine ops_ex rfl (guard_none rfl) rfl rfl (ex_assign rfl rfl) ?_
  refine ops_nil ?_
  refine at_then ?_
  refine run_seq ?_
  obtain ⟨t3710, h3711, H⟩ := bind_some H
  refine run_region rfl ?_
  refine ops_ex rfl (guard_none rfl) rfl rfl (ex_move rfl rfl) ?_
  refine ops_does rfl (guard_none rfl) rfl rfl (does_callk rfl callok66 rfl (impl_within.calls (x0 := x0) (x1 := 0) (x2 := 999) h3711)) ?_
  rintro _ w3712 ⟨rfl, hn⟩
  replace HM : Mem w [] w3712 [] := HM.call hn
  refine ops_ex rfl (guard_none rfl) rfl rfl (ex_assign rfl rfl) ?_
  refine ops_nil ?_
  refine at_then ?_
  refine run_ret ?_
  have hR := Option.some.inj H
  subst hR
  exact at_ret1 rfl rfl ⟨_, rfl, rfl, HM⟩

def impl_isKey.f (k : Nat) (x0 : Int) : Option Bool := ((impl_within.f k x0 1 999).bind fun t3736 => some t3736)
theorem impl_isKey.calls {k : Nat} {x0 : Int}  {w : World}  {r : Bool} (H : impl_isKey.f k x0 = some r) :
    Calls Tryz.prog 81 ([.int .i64 x0] : List Value).toArray w (fun e w_ => ∃ v, e = .returned v ∧ v = (.bool r) ∧ Mem w [] w_ []) := by
  have HM := Mem.start w
  refine calls_run (N := 5) Tryz.func81 rfl rfl rfl rfl ?_
  unfold impl_isKey.f at H
  refine run_seq ?_
  refine run_region rfl ?_
  refine ops_ex rfl (guard_none rfl) rfl rfl (ex_assign rfl rfl) ?_
  refine ops_nil ?_
  refine at_then ?_
  refine run_seq ?_
  obtain ⟨t3736, h3737, H⟩ := bind_some H
  refine run_region rfl ?_
  refine ops_ex rfl (guard_none rfl) rfl rfl (ex_move rfl rfl) ?_
  refine ops_does rfl (guard_none rfl) rfl rfl (does_callk rfl callok66 rfl (impl_within.calls (x0 := x0) (x1 := 1) (x2 := 999) h3737)) ?_
  rintro _ w3738 ⟨rfl, hn⟩
  replace HM : Mem w [] w3738 [] := HM.call hn
  refine ops_ex rfl (guard_none rfl) rfl rfl (ex_assign rfl rfl) ?_
  refine ops_nil ?_
  refine at_then ?_
  refine run_ret ?_
  have hR := Option.some.inj H
  subst hR
  exact at_ret1 rfl rfl ⟨_, rfl, rfl, HM⟩

def impl_areKeys_1.f (k : Nat) (x0 : Int) : Option Bool := ((impl_isKey.f k x0).bind fun t3741 => some (!t3741))
theorem impl_areKeys_1.calls {k : Nat} {x0 : Int}  {w : World}  {r : Bool} (H : impl_areKeys_1.f k x0 = some r) :
    Calls Tryz.prog 143 ([.int .i64 x0] : List Value).toArray w (fun e w_ => ∃ v, e = .returned v ∧ v = (.bool r) ∧ Mem w [] w_ []) := by
  have HM := Mem.start w
  refine calls_run (N := 6) Tryz.func143 rfl rfl rfl rfl ?_
  unfold impl_areKeys_1.f at H
  refine run_seq ?_
  refine run_region rfl ?_
  refine ops_ex rfl (guard_none rfl) rfl rfl (ex_assign rfl rfl) ?_
  refine ops_nil ?_
  refine at_then ?_
  refine run_seq ?_
  obtain ⟨t3741, h3742, H⟩ := bind_some H
  refine run_region rfl ?_
  refine ops_ex rfl (guard_none rfl) rfl rfl (ex_move rfl rfl) ?_
  refine ops_does rfl (guard_none rfl) rfl rfl (does_callk rfl callok81 rfl (impl_isKey.calls (x0 := x0) h3742)) ?_
  rintro _ w3743 ⟨rfl, hn⟩
  replace HM : Mem w [] w3743 [] := HM.call hn
  refine ops_ex rfl (guard_none rfl) rfl rfl (ex_not rfl rfl) ?_
  refine ops_ex rfl (guard_none rfl) rfl rfl (ex_assign rfl rfl) ?_
  refine ops_nil ?_
  refine at_then ?_
  refine run_ret ?_
  have hR := Option.some.inj H
  subst hR
  exact at_ret1 rfl rfl ⟨_, rfl, rfl, HM⟩

def slices_IndexFunc_int64.l0 (x0 : List Int) : Nat → Int → Option (Int ⊕ Unit)
  | 0, _ => none
  | k + 1, a3789 => (bif (decide (a3789 < (x0.length : Int))) then (chk (idxOk a3789 x0.length) ((impl_areKeys_1.f k (gt x0 a3789)).bind fun t3801 => (bif t3801 then some (.inl a3789) else slices_IndexFunc_int64.l0 x0 k (wrap64 (a3789 + 1))))) else some (.inr ()))
theorem slices_IndexFunc_int64.l0_z (x0 : List Int) (a3789 : Int) : slices_IndexFunc_int64.l0 x0 0 a3789 = none := rfl
theorem slices_IndexFunc_int64.l0_s (x0 : List Int) (k : Nat) (a3789 : Int) : slices_IndexFunc_int64.l0 x0 (k + 1) a3789 = (bif (decide (a3789 < (x0.length : Int))) then (chk (idxOk a3789 x0.length) ((impl_areKeys_1.f k (gt x0 a3789)).bind fun t3801 => (bif t3801 then some (.inl a3789) else slices_IndexFunc_int64.l0 x0 k (wrap64 (a3789 + 1))))) else some (.inr ())) := rfl
def slices_IndexFunc_int64.f (k : Nat) (x0 : List Int) : Option Int := ((slices_IndexFunc_int64.l0 x0 k 0).bind fun o3781 => thn o3781 (fun r => some r) (fun _ => some (-1)))
theorem slices_IndexFunc_int64.calls {k : Nat} {x0 : List Int} {p0 : Value} {w : World} (hp0 : RdS kInt w p0 x0) {r : Int} (H : slices_IndexFunc_int64.f k x0 = some r) :
    Calls Tryz.prog 161 ([p0, .func (.func 143) #[] #[]] : List Value).toArray w (fun e w_ => ∃ v, e = .returned v ∧ v = (.int .i64 r) ∧ Mem w [] w_ []) := by
  have HM := Mem.start w
  refine calls_run (N := 19) Tryz.func161 rfl rfl rfl rfl ?_
  unfold slices_IndexFunc_int64.f at H
  refine run_seq ?_
  refine run_region rfl ?_
  refine ops_ex rfl (guard_none rfl) rfl rfl (ex_assign rfl rfl) ?_
  refine ops_nil ?_
  refine at_then ?_
  obtain ⟨o3781, ho3782, H⟩ := bind_some H
  refine run_mid (fun ρ_ w_ => Sum.inr () = o3781 ∧ ρ_ = [] ∧ Mem w [] w_ []) ?_ ?_
  · skip
    refine run_seq ?_
    refine run_region rfl ?_
    refine ops_ex rfl (guard_none rfl) rfl rfl (ex_move rfl rfl) ?_
    refine ops_ex rfl (guard_none rfl) rfl rfl (ex_len (d := kInt) (xs := x0) rfl rfl Tryz.underlying60 hp0) ?_
    refine ops_ex rfl (guard_none rfl) rfl rfl (ex_move rfl rfl) ?_
    refine ops_nil ?_
    refine at_then ?_
    refine run_block ?_
    refine run_loop (fun k_ ρ_ w_ => ∃ a3789 : Int, slices_IndexFunc_int64.l0 x0 k_ a3789 = some o3781 ∧ ρ_ = [(0, p0), (1, .func (.func 143) #[] #[]), (7, .int .i64 (x0.length : Int)), (8, .int .i64 a3789)] ∧ Mem w [] w_ []) k (ρ1 := [(0, p0), (1, .func (.func 143) #[] #[]), (7, .int .i64 (x0.length : Int)), (8, .int .i64 0)]) ⟨_, ho3782, rfl, HM⟩ (Sub.cons rfl (Sub.cons rfl (Sub.cons rfl (Sub.cons rfl Sub.nil)))) ?_
    clear HM ho3782
    rintro k3796 _ w3797 ⟨a3789, ho3782, rfl, HM⟩
    obtain _ | k3796 := k3796
    · exact nomatch ((slices_IndexFunc_int64.l0_z x0 a3789).symm.trans ho3782)
    replace ho3782 := (slices_IndexFunc_int64.l0_s x0 k3796 a3789).symm.trans ho3782
    refine run_seq ?_
    refine run_region rfl ?_
    refine ops_ex rfl (guard_none rfl) rfl rfl (ex_lss rfl rfl rfl) ?_
    refine ops_nil ?_
    refine at_then ?_
    refine run_seq ?_
    refine run_cond (b := (decide (a3789 < (x0.length : Int)))) rfl (fun hb3798 => ?_) (fun hb3798 => ?_)
    · replace ho3782 := cond_t hb3798 ho3782
      refine run_skip ?_
      refine at_then ?_
      refine run_seq ?_
      refine run_block ?_
      refine run_seq ?_
      refine run_region rfl ?_
      refine ops_ex rfl (guard_none rfl) rfl rfl (ex_move rfl rfl) ?_
      refine ops_ex rfl (guard_none rfl) rfl rfl (ex_assign rfl rfl) ?_
      refine ops_nil ?_
      refine at_then ?_
      refine run_seq ?_
      obtain ⟨e3799, ho3782⟩ := chk_some ho3782
      obtain ⟨t3801, h3802, ho3782⟩ := bind_some ho3782
      refine run_region rfl ?_
      refine ops_ex rfl (guard_none rfl) rfl rfl (ex_move rfl rfl) ?_
      refine ops_ex rfl (guard_none rfl) rfl rfl (ex_move rfl rfl) ?_
      refine ops_ex rfl (guard_none rfl) rfl rfl (ex_move rfl rfl) ?_
      have hc3800 : CellsAt _ (sb p0) (so p0 + (a3789).toNat * 1) [(.int .i64 (gt x0 a3789))] := rd_plain hp0 e3799
      refine ops_ex rfl (guard_none rfl) rfl rfl (ex_indexAddr (d := kInt) rfl rfl rfl Tryz.underlying60 tsz2 hp0 (idx_lo e3799) (idx_hi e3799)) ?_
      refine ops_ex rfl (guard_none rfl) rfl rfl (ex_load1 rfl rfl Tryz.underlying2 rfl ((HM.at_ hc3800) 0 _ rfl)) ?_
      refine ops_does rfl (guard_none rfl) rfl rfl (does_callvk rfl callok143 rfl rfl rfl (impl_areKeys_1.calls (x0 := (gt x0 a3789)) h3802)) ?_
      rintro _ w3803 ⟨rfl, hn⟩
      replace HM : Mem w [] w3803 [] := HM.call hn
      refine ops_nil ?_
      refine at_then ?_
      refine run_cond (b := t3801) rfl (fun hb3804 => ?_) (fun hb3804 => ?_)
      · replace ho3782 := cond_t hb3804 ho3782
        refine run_seq ?_
        refine run_region rfl ?_
        refine ops_ex rfl (guard_none rfl) rfl rfl (ex_move rfl rfl) ?_
        refine ops_ex rfl (guard_none rfl) rfl rfl (ex_assign rfl rfl) ?_
        refine ops_nil ?_
        refine at_then ?_
        refine run_ret ?_
        refine at_block_ret ?_
        refine at_then_ret ?_
        refine at_then_ret ?_
        refine at_block_ret ?_
        refine at_then_ret ?_
        have hR := Option.some.inj ho3782
        subst hR
        have hT := thn_inl H
        have hR := Option.some.inj hT
        subst hR
        exact at_ret1 rfl rfl ⟨_, rfl, rfl, HM⟩
      · replace ho3782 := cond_f hb3804 ho3782
        refine run_skip ?_
        refine at_block ?_
        refine at_then ?_
        refine run_region rfl ?_
        refine ops_ex rfl (guard_none rfl) rfl rfl (ex_add rfl rfl rfl) ?_
        refine ops_ex rfl (guard_none rfl) rfl rfl (ex_move rfl rfl) ?_
        refine ops_nil ?_
        exact at_again k3796 (ρ1 := [(0, p0), (1, .func (.func 143) #[] #[]), (7, .int .i64 (x0.length : Int)), (8, .int .i64 (wrap64 (a3789 + 1)))]) (Nat.lt_succ_self _) ⟨_, ho3782, rfl, HM⟩ (Sub.cons rfl (Sub.cons rfl (Sub.cons rfl (Sub.cons rfl Sub.nil))))
    · replace ho3782 := cond_f hb3798 ho3782
      refine run_exit ?_
      refine at_then_exit ?_
      refine at_then_exit ?_
      refine at_block_exit ?_
      exact at_mid (ρ' := []) ⟨(Option.some.inj ho3782), rfl, HM⟩ Sub.nil
  · rintro _ w3805 ⟨rfl, rfl, HM⟩
    replace H := (thn_inr H)
    refine run_seq ?_
    refine run_region rfl ?_
    refine ops_ex rfl (guard_none rfl) rfl rfl (ex_assign rfl rfl) ?_
    refine ops_nil ?_
    refine at_then ?_
    refine run_ret ?_
    have hR := Option.some.inj H
    subst hR
    exact at_ret1 rfl rfl ⟨_, rfl, rfl, HM⟩

def slices_ContainsFunc_int64.f (k : Nat) (x0 : List Int) : Option Bool := ((slices_IndexFunc_int64.f k x0).bind fun t3808 => some (decide (0 ≤ t3808)))
theorem slices_ContainsFunc_int64.calls {k : Nat} {x0 : List Int} {p0 : Value} {w : World} (hp0 : RdS kInt w p0 x0) {r : Bool} (H : slices_ContainsFunc_int64.f k x0 = some r) :
    Calls Tryz.prog 142 ([p0, .func (.func 143) #[] #[]] : List Value).toArray w (fun e w_ => ∃ v, e = .returned v ∧ v = (.bool r) ∧ Mem w [] w_ []) := by
  have HM := Mem.start w
  refine calls_run (N := 9) Tryz.func142 rfl rfl rfl rfl ?_
  unfold slices_ContainsFunc_int64.f at H
  refine run_seq ?_
  refine run_region rfl ?_
  refine ops_ex rfl (guard_none rfl) rfl rfl (ex_assign rfl rfl) ?_
  refine ops_nil ?_
  refine at_then ?_
  refine run_seq ?_
  obtain ⟨t3808, h3809, H⟩ := bind_some H
  refine run_region rfl ?_
  refine ops_ex rfl (guard_none rfl) rfl rfl (ex_move rfl rfl) ?_
  refine ops_ex rfl (guard_none rfl) rfl rfl (ex_move rfl rfl) ?_
  refine ops_does rfl (guard_none rfl) rfl rfl (does_callk rfl callok161 rfl (slices_IndexFunc_int64.calls (x0 := x0) (HM.rd hp0) h3809)) ?_
  rintro _ w3810 ⟨rfl, hn⟩
  replace HM : Mem w [] w3810 [] := HM.call hn
  refine ops_ex rfl (guard_none rfl) rfl rfl (ex_geq rfl rfl rfl) ?_
  refine ops_ex rfl (guard_none rfl) rfl rfl (ex_assign rfl rfl) ?_
  refine ops_nil ?_
  refine at_then ?_
  refine run_ret ?_
  have hR := Option.some.inj H
  subst hR
  exact at_ret1 rfl rfl ⟨_, rfl, rfl, HM⟩

def impl_areKeys.f (k : Nat) (x0 : List Int) : Option Bool := ((slices_ContainsFunc_int64.f k x0).bind fun t3813 => some (!t3813))
theorem impl_areKeys.calls {k : Nat} {x0 : List Int} {p0 : Value} {w : World} (hp0 : RdS kInt w p0 x0) {r : Bool} (H : impl_areKeys.f k x0 = some r) :
    Calls Tryz.prog 109 ([p0] : List Value).toArray w (fun e w_ => ∃ v, e = .returned v ∧ v = (.bool r) ∧ Mem w [] w_ []) := by
  have HM := Mem.start w
  refine calls_run (N := 6) Tryz.func109 rfl rfl rfl rfl ?_
  unfold impl_areKeys.f at H
  refine run_seq ?_
  refine run_region rfl ?_
  refine ops_ex rfl (guard_none rfl) rfl rfl (ex_assign rfl rfl) ?_
  refine ops_nil ?_
  refine at_then ?_
  refine run_seq ?_
  obtain ⟨t3813, h3814, H⟩ := bind_some H
  refine run_region rfl ?_
  refine ops_ex rfl (guard_none rfl) rfl rfl (ex_move rfl rfl) ?_
  refine ops_does rfl (guard_none rfl) rfl rfl (does_callk rfl callok142 rfl (slices_ContainsFunc_int64.calls (x0 := x0) (HM.rd hp0) h3814)) ?_
  rintro _ w3815 ⟨rfl, hn⟩
  replace HM : Mem w [] w3815 [] := HM.call hn
  refine ops_ex rfl (guard_none rfl) rfl rfl (ex_not rfl rfl) ?_
  refine ops_ex rfl (guard_none rfl) rfl rfl (ex_assign rfl rfl) ?_
  refine ops_nil ?_
  refine at_then ?_
  refine run_ret ?_
  have hR := Option.some.inj H
  subst hR
  exact at_ret1 rfl rfl ⟨_, rfl, rfl, HM⟩

def impl_isRising.l0 (x0 : List Int) : Nat → Int → Option (Bool ⊕ Unit)
  | 0, _ => none
  | k + 1, a3871 => (bif (decide (a3871 < (x0.length : Int))) then (chk (idxOk a3871 x0.length) (chk (idxOk (wrap64 (a3871 - 1)) x0.length) (bif (decide ((gt x0 a3871) ≤ (gt x0 (wrap64 (a3871 - 1))))) then some (.inl false) else impl_isRising.l0 x0 k (wrap64 (a3871 + 1))))) else some (.inr ()))
theorem impl_isRising.l0_z (x0 : List Int) (a3871 : Int) : impl_isRising.l0 x0 0 a3871 = none := rfl
theorem impl_isRising.l0_s (x0 : List Int) (k : Nat) (a3871 : Int) : impl_isRising.l0 x0 (k + 1) a3871 = (bif (decide (a3871 < (x0.length : Int))) then (chk (idxOk a3871 x0.length) (chk (idxOk (wrap64 (a3871 - 1)) x0.length) (bif (decide ((gt x0 a3871) ≤ (gt x0 (wrap64 (a3871 - 1))))) then some (.inl false) else impl_isRising.l0 x0 k (wrap64 (a3871 + 1))))) else some (.inr ())) := rfl
def impl_isRising.f (k : Nat) (x0 : List Int) : Option Bool := ((impl_isRising.l0 x0 k 1).bind fun o3863 => thn o3863 (fun r => some r) (fun _ => some true))
theorem impl_isRising.calls {k : Nat} {x0 : List Int} {p0 : Value} {w : World} (hp0 : RdS kInt w p0 x0) {r : Bool} (H : impl_isRising.f k x0 = some r) :
    Calls Tryz.prog 110 ([p0] : List Value).toArray w (fun e w_ => ∃ v, e = .returned v ∧ v = (.bool r) ∧ Mem w [] w_ []) := by
  have HM := Mem.start w
  refine calls_run (N := 20) Tryz.func110 rfl rfl rfl rfl ?_
  unfold impl_isRising.f at H
  refine run_seq ?_
  refine run_region rfl ?_
  refine ops_ex rfl (guard_none rfl) rfl rfl (ex_assign rfl rfl) ?_
  refine ops_nil ?_
  refine at_then ?_
  obtain ⟨o3863, ho3864, H⟩ := bind_some H
  refine run_mid (fun ρ_ w_ => Sum.inr () = o3863 ∧ ρ_ = [] ∧ Mem w [] w_ []) ?_ ?_
  · skip
    refine run_seq ?_
    refine run_region rfl ?_
    refine ops_ex rfl (guard_none rfl) rfl rfl (ex_assign rfl rfl) ?_
    refine ops_nil ?_
    refine at_then ?_
    refine run_block ?_
    refine run_loop (fun k_ ρ_ w_ => ∃ a3871 : Int, impl_isRising.l0 x0 k_ a3871 = some o3863 ∧ ρ_ = [(0, p0), (3, .int .i64 a3871)] ∧ Mem w [] w_ []) k (ρ1 := [(0, p0), (3, .int .i64 1)]) ⟨_, ho3864, rfl, HM⟩ (Sub.cons rfl (Sub.cons rfl Sub.nil)) ?_
    clear HM ho3864
    rintro k3878 _ w3879 ⟨a3871, ho3864, rfl, HM⟩
    obtain _ | k3878 := k3878
    · exact nomatch ((impl_isRising.l0_z x0 a3871).symm.trans ho3864)
    replace ho3864 := (impl_isRising.l0_s x0 k3878 a3871).symm.trans ho3864
    refine run_seq ?_
    refine run_seq ?_
    refine run_region rfl ?_
    refine ops_ex rfl (guard_none rfl) rfl rfl (ex_move rfl rfl) ?_
    refine ops_ex rfl (guard_none rfl) rfl rfl (ex_move rfl rfl) ?_
    refine ops_ex rfl (guard_none rfl) rfl rfl (ex_len (d := kInt) (xs := x0) rfl rfl Tryz.underlying60 hp0) ?_
    refine ops_ex rfl (guard_none rfl) rfl rfl (ex_lss rfl rfl rfl) ?_
    refine ops_nil ?_
    refine at_then ?_
    refine run_cond (b := (decide (a3871 < (x0.length : Int)))) rfl (fun hb3880 => ?_) (fun hb3880 => ?_)
    · replace ho3864 := cond_t hb3880 ho3864
      refine run_skip ?_
      refine at_then ?_
      refine run_seq ?_
      refine run_block ?_
      refine run_seq ?_
      obtain ⟨e3881, ho3864⟩ := chk_some ho3864
      obtain ⟨e3883, ho3864⟩ := chk_some ho3864
      refine run_drawf (fun w_ => Mem w [] w_ []) [(0, true), (1, true), (2, true), (3, true), (4, true), (5, true), (6, true), (7, true), (8, true), (9, true)] mixed rfl rfl (by kernel_rfl) ?_
      replace HM := HM.grow (fr_drew _)
      have hS := Mem.suf (M := []) HM
      refine drwp_take rfl (guard_none rfl) rfl rfl (fun w_ hS_ => (ex_move rfl rfl)) hS ?_
      refine drwp_take rfl (guard_none rfl) rfl rfl (fun w_ hS_ => (ex_move rfl rfl)) hS ?_
      have hc3882 : CellsAt _ (sb p0) (so p0 + (a3871).toNat * 1) [(.int .i64 (gt x0 a3871))] := rd_plain hp0 e3881
      refine drwp_take rfl (guard_none rfl) rfl rfl (fun w_ hS_ => (ex_indexAddr (d := kInt) rfl rfl rfl Tryz.underlying60 tsz2 hp0 (idx_lo e3881) (idx_hi e3881))) hS ?_
      refine drwp_take rfl (guard_none rfl) rfl rfl (fun w_ hS_ => (ex_load1 rfl rfl Tryz.underlying2 rfl ((hS_.at_ hc3882) 0 _ rfl))) hS ?_
      refine drwp_take rfl (guard_none rfl) rfl rfl (fun w_ hS_ => (ex_move rfl rfl)) hS ?_
      refine drwp_take rfl (guard_none rfl) rfl rfl (fun w_ hS_ => (ex_move rfl rfl)) hS ?_
      refine drwp_take rfl (guard_none rfl) rfl rfl (fun w_ hS_ => (ex_sub rfl rfl rfl)) hS ?_
      have hc3884 : CellsAt _ (sb p0) (so p0 + (wrap64 (a3871 - 1)).toNat * 1) [(.int .i64 (gt x0 (wrap64 (a3871 - 1))))] := rd_plain hp0 e3883
      refine drwp_take rfl (guard_none rfl) rfl rfl (fun w_ hS_ => (ex_indexAddr (d := kInt) rfl rfl rfl Tryz.underlying60 tsz2 hp0 (idx_lo e3883) (idx_hi e3883))) hS ?_
      refine drwp_take rfl (guard_none rfl) rfl rfl (fun w_ hS_ => (ex_load1 rfl rfl Tryz.underlying2 rfl ((hS_.at_ hc3884) 0 _ rfl))) hS ?_
      refine drwp_take rfl (guard_none rfl) rfl rfl (fun w_ hS_ => (ex_leq rfl rfl rfl)) hS ?_
      refine drwp_done ?_
      refine at_then ?_
      refine run_cond (b := (decide ((gt x0 a3871) ≤ (gt x0 (wrap64 (a3871 - 1)))))) rfl (fun hb3885 => ?_) (fun hb3885 => ?_)
      · replace ho3864 := cond_t hb3885 ho3864
        refine run_seq ?_
        refine run_region rfl ?_
        refine ops_ex rfl (guard_none rfl) rfl rfl (ex_assign rfl rfl) ?_
        refine ops_nil ?_
        refine at_then ?_
        refine run_ret ?_
        refine at_block_ret ?_
        refine at_then_ret ?_
        refine at_then_ret ?_
        refine at_block_ret ?_
        refine at_then_ret ?_
        have hR := Option.some.inj ho3864
        subst hR
        have hT := thn_inl H
        have hR := Option.some.inj hT
        subst hR
        exact at_ret1 rfl rfl ⟨_, rfl, rfl, HM⟩
      · replace ho3864 := cond_f hb3885 ho3864
        refine run_skip ?_
        refine at_block ?_
        refine at_then ?_
        refine run_region rfl ?_
        refine ops_ex rfl (guard_none rfl) rfl rfl (ex_move rfl rfl) ?_
        refine ops_ex rfl (guard_none rfl) rfl rfl (ex_add rfl rfl rfl) ?_
        refine ops_ex rfl (guard_none rfl) rfl rfl (ex_assign rfl rfl) ?_
        refine ops_nil ?_
        exact at_again k3878 (ρ1 := [(0, p0), (3, .int .i64 (wrap64 (a3871 + 1)))]) (Nat.lt_succ_self _) ⟨_, ho3864, rfl, HM⟩ (Sub.cons rfl (Sub.cons rfl Sub.nil))
    · replace ho3864 := cond_f hb3880 ho3864
      refine run_exit ?_
      refine at_then_exit ?_
      refine at_then_exit ?_
      refine at_block_exit ?_
      exact at_mid (ρ' := []) ⟨(Option.some.inj ho3864), rfl, HM⟩ Sub.nil
  · rintro _ w3886 ⟨rfl, rfl, HM⟩
    replace H := (thn_inr H)
    refine run_seq ?_
    refine run_region rfl ?_
    refine ops_ex rfl (guard_none rfl) rfl rfl (ex_assign rfl rfl) ?_
    refine ops_nil ?_
    refine at_then ?_
    refine run_ret ?_
    have hR := Option.some.inj H
    subst hR
    exact at_ret1 rfl rfl ⟨_, rfl, rfl, HM⟩

def impl_RuleFault.f (k : Nat) (x0 : Rule) : Option Int := ((impl_within.f k (x0.fKeys.length : Int) 1 3).bind fun t3894 => (bif !t3894 then some 2 else ((impl_areKeys.f k x0.fKeys).bind fun t3898 => ((bif (!(!t3898)) then impl_within.f k x0.fNeed 1 (x0.fKeys.length : Int) else some default).bind fun t3900 => ((bif (!((!t3898) || (!t3900))) then impl_isHeight.f k x0.fAfter else some default).bind fun t3902 => (bif (((!t3898) || (!t3900)) || (!t3902)) then some 3 else ((impl_isRising.f k x0.fKeys).bind fun t3914 => (bif !t3914 then some 1 else some 0))))))))
theorem impl_RuleFault.calls {k : Nat} {x0 : Rule} {p0_0 : Value} {w : World} (hp0_0 : RdS kInt w p0_0 x0.fKeys) {r : Int} (H : impl_RuleFault.f k x0 = some r) :
    Calls Tryz.prog 67 ([.agg #[p0_0, (.int .i64 x0.fNeed), (.int .i64 x0.fAfter)]] : List Value).toArray w (fun e w_ => ∃ v, e = .returned v ∧ v = (.int .i64 r) ∧ Mem w [] w_ []) := by
  have HM := Mem.start w
  refine calls_run (N := 34) Tryz.func67 rfl rfl rfl rfl ?_
  unfold impl_RuleFault.f at H
  refine run_seq ?_
  refine run_region rfl ?_
  refine ops_does rfl (guard_none rfl) rfl rfl (does_box (cs := [p0_0, .int .i64 x0.fNeed, .int .i64 x0.fAfter]) rfl rfl rfl HM) ?_
  rintro _ w3893 ⟨b3890, rfl, HM⟩
  refine ops_ex rfl (guard_none rfl) rfl rfl (ex_assign rfl rfl) ?_
  refine ops_nil ?_
  refine at_then ?_
  refine run_seq ?_
  refine run_region rfl ?_
  refine ops_ex rfl (guard_none rfl) rfl rfl (ex_fieldAddr (off' := 0) rfl rfl Tryz.underlying73 rfl tsz60 rfl) ?_
  refine ops_ex rfl (guard_none rfl) rfl rfl (ex_load1 rfl rfl Tryz.underlying60 rfl ((HM.box_at 0 rfl) 0 _ rfl)) ?_
  refine ops_ex rfl (guard_none rfl) rfl rfl (ex_len (d := kInt) (xs := x0.fKeys) rfl rfl Tryz.underlying60 hp0_0) ?_
  refine ops_ex rfl (guard_none rfl) rfl rfl (ex_assign rfl rfl) ?_
  refine ops_nil ?_
  refine at_then ?_
  refine run_seq ?_
  refine run_block ?_
  refine run_seq ?_
  obtain ⟨t3894, h3895, H⟩ := bind_some H
  refine run_region rfl ?_
  refine ops_ex rfl (guard_none rfl) rfl rfl (ex_move rfl rfl) ?_
  refine ops_does rfl (guard_none rfl) rfl rfl (does_callk rfl callok66 rfl (impl_within.calls (x0 := (x0.fKeys.length : Int)) (x1 := 1) (x2 := 3) h3895)) ?_
  rintro _ w3896 ⟨rfl, hn⟩
  replace HM : Mem w [] w3896 [box b3890 73 [p0_0, .int .i64 x0.fNeed, .int .i64 x0.fAfter]] := HM.call hn
  refine ops_ex rfl (guard_none rfl) rfl rfl (ex_not rfl rfl) ?_
  refine ops_ex rfl (guard_none rfl) rfl rfl (ex_assign rfl rfl) ?_
  refine ops_nil ?_
  refine at_then ?_
  refine run_cond (b := !t3894) rfl (fun hb3897 => ?_) (fun hb3897 => ?_)
  · replace H := cond_t hb3897 H
    refine run_seq ?_
    refine run_region rfl ?_
    refine ops_ex rfl (guard_none rfl) rfl rfl (ex_assign rfl rfl) ?_
    refine ops_nil ?_
    refine at_then ?_
    refine run_ret ?_
    refine at_block_ret ?_
    refine at_then_ret ?_
    replace HM := (HM.front 0 rfl rfl).drop
    have hR := Option.some.inj H
    subst hR
    exact at_ret1 rfl rfl ⟨_, rfl, rfl, HM⟩
  · replace H := cond_f hb3897 H
    refine run_seq ?_
    obtain ⟨t3898, h3899, H⟩ := bind_some H
    obtain ⟨t3900, h3901, H⟩ := bind_some H
    obtain ⟨t3902, h3903, H⟩ := bind_some H
    refine run_meet (fun ρ_ w_ => ρ_ = [(1, .pointer (some ⟨b3890, 0, none⟩)), (11, .bool (((!t3898) || (!t3900)) || (!t3902)))] ∧ Mem w [] w_ [box b3890 73 [p0_0, .int .i64 x0.fNeed, .int .i64 x0.fAfter]]) ?_ ?_
    · skip
      refine run_region rfl ?_
      refine ops_ex rfl (guard_none rfl) rfl rfl (ex_fieldAddr (off' := 0) rfl rfl Tryz.underlying73 rfl tsz60 rfl) ?_
      refine ops_ex rfl (guard_none rfl) rfl rfl (ex_load1 rfl rfl Tryz.underlying60 rfl ((HM.box_at 0 rfl) 0 _ rfl)) ?_
      refine ops_does rfl (guard_none rfl) rfl rfl (does_callk rfl callok109 rfl (impl_areKeys.calls (x0 := x0.fKeys) (HM.rd hp0_0) h3899)) ?_
      rintro _ w3904 ⟨rfl, hn⟩
      replace HM : Mem w [] w3904 [box b3890 73 [p0_0, .int .i64 x0.fNeed, .int .i64 x0.fAfter]] := HM.call hn
      refine ops_ex rfl (guard_none rfl) rfl rfl (ex_not rfl rfl) ?_
      refine ops_ex rfl (guard_none rfl) rfl rfl (ex_move rfl rfl) ?_
      refine bool_cases (!t3898) (fun hg3905 => ?_) (fun hg3905 => ?_)
      · skip
        refine ops_off rfl (guard_off rfl rfl rfl hg3905) rfl rfl ?_
        refine ops_off rfl (guard_off rfl rfl rfl hg3905) rfl rfl ?_
        refine ops_off rfl (guard_off rfl rfl rfl hg3905) rfl rfl ?_
        refine ops_off rfl (guard_off rfl rfl rfl hg3905) rfl rfl ?_
        refine ops_off rfl (guard_off rfl rfl rfl hg3905) rfl rfl ?_
        have hg3906 : ((!t3898) || (!t3900)) = true := by simp only [hg3905, Bool.and_true, Bool.true_and, Bool.and_false, Bool.false_and, Bool.or_true, Bool.true_or, Bool.or_false, Bool.false_or, Bool.not_true, Bool.not_false, Bool.not_not]
        refine ops_ex (v := .bool ((!t3898) || (!t3900))) rfl (guard_none rfl) rfl rfl (ex_por_t rfl rfl hg3905) ?_
        refine ops_ex rfl (guard_none rfl) rfl rfl (ex_move rfl rfl) ?_
        refine ops_off rfl (guard_off rfl rfl rfl hg3906) rfl rfl ?_
        refine ops_off rfl (guard_off rfl rfl rfl hg3906) rfl rfl ?_
        refine ops_off rfl (guard_off rfl rfl rfl hg3906) rfl rfl ?_
        refine ops_off rfl (guard_off rfl rfl rfl hg3906) rfl rfl ?_
        have hg3907 : (((!t3898) || (!t3900)) || (!t3902)) = true := by simp only [hg3906, Bool.and_true, Bool.true_and, Bool.and_false, Bool.false_and, Bool.or_true, Bool.true_or, Bool.or_false, Bool.false_or, Bool.not_true, Bool.not_false, Bool.not_not]
        refine ops_ex (v := .bool (((!t3898) || (!t3900)) || (!t3902))) rfl (guard_none rfl) rfl rfl (ex_por_t rfl rfl hg3906) ?_
        refine ops_ex rfl (guard_none rfl) rfl rfl (ex_assign rfl rfl) ?_
        refine ops_nil ?_
        exact at_meet [(1, .pointer (some ⟨b3890, 0, none⟩)), (11, .bool (((!t3898) || (!t3900)) || (!t3902)))] ⟨rfl, HM⟩ (Sub.cons rfl (Sub.cons rfl Sub.nil))
      · skip
        refine ops_ex rfl (guard_on rfl rfl rfl hg3905) rfl rfl (ex_fieldAddr (off' := 1) rfl rfl Tryz.underlying73 rfl tsz2 rfl) ?_
        refine ops_ex rfl (guard_on rfl rfl rfl hg3905) rfl rfl (ex_load1 rfl rfl Tryz.underlying2 rfl ((HM.box_at 0 rfl) 1 _ rfl)) ?_
        refine ops_ex rfl (guard_on rfl rfl rfl hg3905) rfl rfl (ex_move rfl rfl) ?_
        refine ops_does rfl (guard_on rfl rfl rfl hg3905) rfl rfl (does_callk rfl callok66 rfl (impl_within.calls (x0 := x0.fNeed) (x1 := 1) (x2 := (x0.fKeys.length : Int)) (cond_t (not_mk hg3905) h3901))) ?_
        rintro _ w3908 ⟨rfl, hn⟩
        replace HM : Mem w [] w3908 [box b3890 73 [p0_0, .int .i64 x0.fNeed, .int .i64 x0.fAfter]] := HM.call hn
        refine ops_ex rfl (guard_on rfl rfl rfl hg3905) rfl rfl (ex_not rfl rfl) ?_
        refine ops_ex (v := .bool ((!t3898) || (!t3900))) rfl (guard_none rfl) rfl rfl (ex_por_f rfl rfl hg3905 rfl) ?_
        refine ops_ex rfl (guard_none rfl) rfl rfl (ex_move rfl rfl) ?_
        refine bool_cases ((!t3898) || (!t3900)) (fun hg3909 => ?_) (fun hg3909 => ?_)
        · skip
          refine ops_off rfl (guard_off rfl rfl rfl hg3909) rfl rfl ?_
          refine ops_off rfl (guard_off rfl rfl rfl hg3909) rfl rfl ?_
          refine ops_off rfl (guard_off rfl rfl rfl hg3909) rfl rfl ?_
          refine ops_off rfl (guard_off rfl rfl rfl hg3909) rfl rfl ?_
          have hg3910 : (((!t3898) || (!t3900)) || (!t3902)) = true := by simp only [hg3909, Bool.and_true, Bool.true_and, Bool.and_false, Bool.false_and, Bool.or_true, Bool.true_or, Bool.or_false, Bool.false_or, Bool.not_true, Bool.not_false, Bool.not_not]
          refine ops_ex (v := .bool (((!t3898) || (!t3900)) || (!t3902))) rfl (guard_none rfl) rfl rfl (ex_por_t rfl rfl hg3909) ?_
          refine ops_ex rfl (guard_none rfl) rfl rfl (ex_assign rfl rfl) ?_
          refine ops_nil ?_
          exact at_meet [(1, .pointer (some ⟨b3890, 0, none⟩)), (11, .bool (((!t3898) || (!t3900)) || (!t3902)))] ⟨rfl, HM⟩ (Sub.cons rfl (Sub.cons rfl Sub.nil))
        · skip
          refine ops_ex rfl (guard_on rfl rfl rfl hg3909) rfl rfl (ex_fieldAddr (off' := 2) rfl rfl Tryz.underlying73 rfl tsz2 rfl) ?_
          refine ops_ex rfl (guard_on rfl rfl rfl hg3909) rfl rfl (ex_load1 rfl rfl Tryz.underlying2 rfl ((HM.box_at 0 rfl) 2 _ rfl)) ?_
          refine ops_does rfl (guard_on rfl rfl rfl hg3909) rfl rfl (does_callk rfl callok65 rfl (impl_isHeight.calls (x0 := x0.fAfter) (cond_t (not_mk hg3909) h3903))) ?_
          rintro _ w3911 ⟨rfl, hn⟩
          replace HM : Mem w [] w3911 [box b3890 73 [p0_0, .int .i64 x0.fNeed, .int .i64 x0.fAfter]] := HM.call hn
          refine ops_ex rfl (guard_on rfl rfl rfl hg3909) rfl rfl (ex_not rfl rfl) ?_
          refine ops_ex (v := .bool (((!t3898) || (!t3900)) || (!t3902))) rfl (guard_none rfl) rfl rfl (ex_por_f rfl rfl hg3909 rfl) ?_
          refine ops_ex rfl (guard_none rfl) rfl rfl (ex_assign rfl rfl) ?_
          refine ops_nil ?_
          exact at_meet [(1, .pointer (some ⟨b3890, 0, none⟩)), (11, .bool (((!t3898) || (!t3900)) || (!t3902)))] ⟨rfl, HM⟩ (Sub.cons rfl (Sub.cons rfl Sub.nil))
    · rintro _ w3912 ⟨rfl, HM⟩
      refine at_then ?_
      refine run_cond (b := (((!t3898) || (!t3900)) || (!t3902))) rfl (fun hb3913 => ?_) (fun hb3913 => ?_)
      · replace H := cond_t hb3913 H
        refine run_seq ?_
        refine run_region rfl ?_
        refine ops_ex rfl (guard_none rfl) rfl rfl (ex_assign rfl rfl) ?_
        refine ops_nil ?_
        refine at_then ?_
        refine run_ret ?_
        refine at_block_ret ?_
        refine at_then_ret ?_
        replace HM := (HM.front 0 rfl rfl).drop
        have hR := Option.some.inj H
        subst hR
        exact at_ret1 rfl rfl ⟨_, rfl, rfl, HM⟩
      · replace H := cond_f hb3913 H
        refine run_seq ?_
        obtain ⟨t3914, h3915, H⟩ := bind_some H
        refine run_region rfl ?_
        refine ops_ex rfl (guard_none rfl) rfl rfl (ex_fieldAddr (off' := 0) rfl rfl Tryz.underlying73 rfl tsz60 rfl) ?_
        refine ops_ex rfl (guard_none rfl) rfl rfl (ex_load1 rfl rfl Tryz.underlying60 rfl ((HM.box_at 0 rfl) 0 _ rfl)) ?_
        refine ops_does rfl (guard_none rfl) rfl rfl (does_callk rfl callok110 rfl (impl_isRising.calls (x0 := x0.fKeys) (HM.rd hp0_0) h3915)) ?_
        rintro _ w3916 ⟨rfl, hn⟩
        replace HM : Mem w [] w3916 [box b3890 73 [p0_0, .int .i64 x0.fNeed, .int .i64 x0.fAfter]] := HM.call hn
        refine ops_ex rfl (guard_none rfl) rfl rfl (ex_not rfl rfl) ?_
        refine ops_ex rfl (guard_none rfl) rfl rfl (ex_assign rfl rfl) ?_
        refine ops_nil ?_
        refine at_then ?_
        refine run_cond (b := !t3914) rfl (fun hb3917 => ?_) (fun hb3917 => ?_)
        · replace H := cond_t hb3917 H
          refine run_seq ?_
          refine run_region rfl ?_
          refine ops_ex rfl (guard_none rfl) rfl rfl (ex_assign rfl rfl) ?_
          refine ops_nil ?_
          refine at_then ?_
          refine run_ret ?_
          refine at_block_ret ?_
          refine at_then_ret ?_
          replace HM := (HM.front 0 rfl rfl).drop
          have hR := Option.some.inj H
          subst hR
          exact at_ret1 rfl rfl ⟨_, rfl, rfl, HM⟩
        · replace H := cond_f hb3917 H
          refine run_skip ?_
          refine at_block ?_
          refine at_then ?_
          refine run_seq ?_
          refine run_region rfl ?_
          refine ops_ex rfl (guard_none rfl) rfl rfl (ex_assign rfl rfl) ?_
          refine ops_nil ?_
          refine at_then ?_
          refine run_ret ?_
          replace HM := (HM.front 0 rfl rfl).drop
          have hR := Option.some.inj H
          subst hR
          exact at_ret1 rfl rfl ⟨_, rfl, rfl, HM⟩

def cmp_isNaN_int64.f (k : Nat) (x0 : Int) : Option Bool := some (x0 != x0)
theorem cmp_isNaN_int64.calls {k : Nat} {x0 : Int}  {w : World}  {r : Bool} (H : cmp_isNaN_int64.f k x0 = some r) :
    Calls Tryz.prog 144 ([.int .i64 x0] : List Value).toArray w (fun e w_ => ∃ v, e = .returned v ∧ v = (.bool r) ∧ Mem w [] w_ []) := by
  have HM := Mem.start w
  refine calls_run (N := 6) Tryz.func144 rfl rfl rfl rfl ?_
  unfold cmp_isNaN_int64.f at H
  refine run_seq ?_
  refine run_region rfl ?_
  refine ops_ex rfl (guard_none rfl) rfl rfl (ex_assign rfl rfl) ?_
  refine ops_nil ?_
  refine at_then ?_
  refine run_seq ?_
  refine run_region rfl ?_
  refine ops_ex rfl (guard_none rfl) rfl rfl (ex_move rfl rfl) ?_
  refine ops_ex rfl (guard_none rfl) rfl rfl (ex_move rfl rfl) ?_
  refine ops_ex rfl (guard_none rfl) rfl rfl (ex_neq rfl rfl rfl) ?_
  refine ops_ex rfl (guard_none rfl) rfl rfl (ex_assign rfl rfl) ?_
  refine ops_nil ?_
  refine at_then ?_
  refine run_ret ?_
  have hR := Option.some.inj H
  subst hR
  exact at_ret1 rfl rfl ⟨_, rfl, rfl, HM⟩

def cmp_Compare_int64.f (k : Nat) (x0 : Int) (x1 : Int) : Option Int := ((cmp_isNaN_int64.f k x0).bind fun t3947 => ((cmp_isNaN_int64.f k x1).bind fun t3950 => (bif t3947 then (bif t3950 then some 0 else some (-1)) else (bif t3950 then some 1 else (bif (decide (x0 < x1)) then some (-1) else (bif (decide (x1 < x0)) then some 1 else some 0))))))
theorem cmp_Compare_int64.calls {k : Nat} {x0 : Int} {x1 : Int}  {w : World}  {r : Int} (H : cmp_Compare_int64.f k x0 x1 = some r) :
    Calls Tryz.prog 112 ([.int .i64 x0, .int .i64 x1] : List Value).toArray w (fun e w_ => ∃ v, e = .returned v ∧ v = (.int .i64 r) ∧ Mem w [] w_ []) := by
  have HM := Mem.start w
  refine calls_run (N := 20) Tryz.func112 rfl rfl rfl rfl ?_
  unfold cmp_Compare_int64.f at H
  refine run_seq ?_
  refine run_region rfl ?_
  refine ops_ex rfl (guard_none rfl) rfl rfl (ex_assign rfl rfl) ?_
  refine ops_nil ?_
  refine at_then ?_
  refine run_seq ?_
  obtain ⟨t3947, h3948, H⟩ := bind_some H
  refine run_region rfl ?_
  refine ops_ex rfl (guard_none rfl) rfl rfl (ex_move rfl rfl) ?_
  refine ops_does rfl (guard_none rfl) rfl rfl (does_callk rfl callok144 rfl (cmp_isNaN_int64.calls (x0 := x0) h3948)) ?_
  rintro _ w3949 ⟨rfl, hn⟩
  replace HM : Mem w [] w3949 [] := HM.call hn
  refine ops_ex rfl (guard_none rfl) rfl rfl (ex_assign rfl rfl) ?_
  refine ops_nil ?_
  refine at_then ?_
  refine run_seq ?_
  obtain ⟨t3950, h3951, H⟩ := bind_some H
  refine run_region rfl ?_
  refine ops_ex rfl (guard_none rfl) rfl rfl (ex_move rfl rfl) ?_
  refine ops_does rfl (guard_none rfl) rfl rfl (does_callk rfl callok144 rfl (cmp_isNaN_int64.calls (x0 := x1) h3951)) ?_
  rintro _ w3952 ⟨rfl, hn⟩
  replace HM : Mem w [] w3952 [] := HM.call hn
  refine ops_ex rfl (guard_none rfl) rfl rfl (ex_assign rfl rfl) ?_
  refine ops_nil ?_
  refine at_then ?_
  refine run_seq ?_
  refine run_seq ?_
  refine run_region rfl ?_
  refine ops_ex rfl (guard_none rfl) rfl rfl (ex_move rfl rfl) ?_
  refine ops_nil ?_
  refine at_then ?_
  refine run_cond (b := t3947) rfl (fun hb3955 => ?_) (fun hb3955 => ?_)
  · replace H := cond_t hb3955 H
    refine run_seq ?_
    refine run_seq ?_
    refine run_region rfl ?_
    refine ops_ex rfl (guard_none rfl) rfl rfl (ex_move rfl rfl) ?_
    refine ops_nil ?_
    refine at_then ?_
    refine run_cond (b := t3950) rfl (fun hb3956 => ?_) (fun hb3956 => ?_)
    · replace H := cond_t hb3956 H
      refine run_seq ?_
      refine run_region rfl ?_
      refine ops_ex rfl (guard_none rfl) rfl rfl (ex_assign rfl rfl) ?_
      refine ops_nil ?_
      refine at_then ?_
      refine run_ret ?_
      refine at_then_ret ?_
      refine at_then_ret ?_
      have hR := Option.some.inj H
      subst hR
      exact at_ret1 rfl rfl ⟨_, rfl, rfl, HM⟩
    · replace H := cond_f hb3956 H
      refine run_skip ?_
      refine at_then ?_
      refine run_seq ?_
      refine run_region rfl ?_
      refine ops_ex rfl (guard_none rfl) rfl rfl (ex_assign rfl rfl) ?_
      refine ops_nil ?_
      refine at_then ?_
      refine run_ret ?_
      refine at_then_ret ?_
      have hR := Option.some.inj H
      subst hR
      exact at_ret1 rfl rfl ⟨_, rfl, rfl, HM⟩
  · replace H := cond_f hb3955 H
    refine run_skip ?_
    refine at_then ?_
    refine run_seq ?_
    refine run_seq ?_
    refine run_region rfl ?_
    refine ops_ex rfl (guard_none rfl) rfl rfl (ex_move rfl rfl) ?_
    refine ops_nil ?_
    refine at_then ?_
    refine run_cond (b := t3950) rfl (fun hb3958 => ?_) (fun hb3958 => ?_)
    · replace H := cond_t hb3958 H
      refine run_seq ?_
      refine run_region rfl ?_
      refine ops_ex rfl (guard_none rfl) rfl rfl (ex_assign rfl rfl) ?_
      refine ops_nil ?_
      refine at_then ?_
      refine run_ret ?_
      refine at_then_ret ?_
      have hR := Option.some.inj H
      subst hR
      exact at_ret1 rfl rfl ⟨_, rfl, rfl, HM⟩
    · replace H := cond_f hb3958 H
      refine run_skip ?_
      refine at_then ?_
      refine run_seq ?_
      refine run_seq ?_
      refine run_region rfl ?_
      refine ops_ex rfl (guard_none rfl) rfl rfl (ex_move rfl rfl) ?_
      refine ops_ex rfl (guard_none rfl) rfl rfl (ex_move rfl rfl) ?_
      refine ops_ex rfl (guard_none rfl) rfl rfl (ex_lss rfl rfl rfl) ?_
      refine ops_nil ?_
      refine at_then ?_
      refine run_cond (b := (decide (x0 < x1))) rfl (fun hb3960 => ?_) (fun hb3960 => ?_)
      · replace H := cond_t hb3960 H
        refine run_seq ?_
        refine run_region rfl ?_
        refine ops_ex rfl (guard_none rfl) rfl rfl (ex_assign rfl rfl) ?_
        refine ops_nil ?_
        refine at_then ?_
        refine run_ret ?_
        refine at_then_ret ?_
        have hR := Option.some.inj H
        subst hR
        exact at_ret1 rfl rfl ⟨_, rfl, rfl, HM⟩
      · replace H := cond_f hb3960 H
        refine run_skip ?_
        refine at_then ?_
        refine run_seq ?_
        refine run_seq ?_
        refine run_region rfl ?_
        refine ops_ex rfl (guard_none rfl) rfl rfl (ex_move rfl rfl) ?_
        refine ops_ex rfl (guard_none rfl) rfl rfl (ex_move rfl rfl) ?_
        refine ops_ex rfl (guard_none rfl) rfl rfl (ex_gtr rfl rfl rfl) ?_
        refine ops_nil ?_
        refine at_then ?_
        refine run_cond (b := (decide (x1 < x0))) rfl (fun hb3961 => ?_) (fun hb3961 => ?_)
        · replace H := cond_t hb3961 H
          refine run_seq ?_
          refine run_region rfl ?_
          refine ops_ex rfl (guard_none rfl) rfl rfl (ex_assign rfl rfl) ?_
          refine ops_nil ?_
          refine at_then ?_
          refine run_ret ?_
          refine at_then_ret ?_
          have hR := Option.some.inj H
          subst hR
          exact at_ret1 rfl rfl ⟨_, rfl, rfl, HM⟩
        · replace H := cond_f hb3961 H
          refine run_skip ?_
          refine at_then ?_
          refine run_seq ?_
          refine run_region rfl ?_
          refine ops_ex rfl (guard_none rfl) rfl rfl (ex_assign rfl rfl) ?_
          refine ops_nil ?_
          refine at_then ?_
          refine run_ret ?_
          have hR := Option.some.inj H
          subst hR
          exact at_ret1 rfl rfl ⟨_, rfl, rfl, HM⟩

def cmp_Or_int.l0 (x0 : List Int) : Nat → Int → Option (Int ⊕ Unit)
  | 0, _ => none
  | k + 1, a4003 => (bif (decide (a4003 < (x0.length : Int))) then (chk (idxOk a4003 x0.length) (bif ((gt x0 a4003) != 0) then some (.inl (gt x0 a4003)) else cmp_Or_int.l0 x0 k (wrap64 (a4003 + 1)))) else some (.inr ()))
theorem cmp_Or_int.l0_z (x0 : List Int) (a4003 : Int) : cmp_Or_int.l0 x0 0 a4003 = none := rfl
theorem cmp_Or_int.l0_s (x0 : List Int) (k : Nat) (a4003 : Int) : cmp_Or_int.l0 x0 (k + 1) a4003 = (bif (decide (a4003 < (x0.length : Int))) then (chk (idxOk a4003 x0.length) (bif ((gt x0 a4003) != 0) then some (.inl (gt x0 a4003)) else cmp_Or_int.l0 x0 k (wrap64 (a4003 + 1)))) else some (.inr ())) := rfl
def cmp_Or_int.f (k : Nat) (x0 : List Int) : Option Int := ((cmp_Or_int.l0 x0 k 0).bind fun o3997 => thn o3997 (fun r => some r) (fun _ => some 0))
theorem cmp_Or_int.calls {k : Nat} {x0 : List Int} {p0 : Value} {w : World} (hp0 : RdS kInt w p0 x0) {r : Int} (H : cmp_Or_int.f k x0 = some r) :
    Calls Tryz.prog 111 ([p0] : List Value).toArray w (fun e w_ => ∃ v, e = .returned v ∧ v = (.int .i64 r) ∧ Mem w [] w_ []) := by
  have HM := Mem.start w
  refine calls_run (N := 18) Tryz.func111 rfl rfl rfl rfl ?_
  unfold cmp_Or_int.f at H
  refine run_seq ?_
  refine run_region rfl ?_
  refine ops_ex rfl (guard_none rfl) rfl rfl (ex_assign rfl rfl) ?_
  refine ops_nil ?_
  refine at_then ?_
  refine run_seq ?_
  refine run_region rfl ?_
  refine ops_ex rfl (guard_none rfl) rfl rfl (ex_assign rfl rfl) ?_
  refine ops_nil ?_
  refine at_then ?_
  obtain ⟨o3997, ho3998, H⟩ := bind_some H
  refine run_mid (fun ρ_ w_ => Sum.inr () = o3997 ∧ ρ_ = [(3, .int .i64 0)] ∧ Mem w [] w_ []) ?_ ?_
  · skip
    refine run_seq ?_
    refine run_region rfl ?_
    refine ops_ex rfl (guard_none rfl) rfl rfl (ex_move rfl rfl) ?_
    refine ops_ex rfl (guard_none rfl) rfl rfl (ex_len (d := kInt) (xs := x0) rfl rfl Tryz.underlying179 hp0) ?_
    refine ops_ex rfl (guard_none rfl) rfl rfl (ex_move rfl rfl) ?_
    refine ops_nil ?_
    refine at_then ?_
    refine run_block ?_
    refine run_loop (fun k_ ρ_ w_ => ∃ a4003 : Int, cmp_Or_int.l0 x0 k_ a4003 = some o3997 ∧ ρ_ = [(3, .int .i64 0), (6, p0), (7, .int .i64 (x0.length : Int)), (8, .int .i64 a4003)] ∧ Mem w [] w_ []) k (ρ1 := [(3, .int .i64 0), (6, p0), (7, .int .i64 (x0.length : Int)), (8, .int .i64 0)]) ⟨_, ho3998, rfl, HM⟩ (Sub.cons rfl (Sub.cons rfl (Sub.cons rfl (Sub.cons rfl Sub.nil)))) ?_
    clear HM ho3998
    rintro k4008 _ w4009 ⟨a4003, ho3998, rfl, HM⟩
    obtain _ | k4008 := k4008
    · exact nomatch ((cmp_Or_int.l0_z x0 a4003).symm.trans ho3998)
    replace ho3998 := (cmp_Or_int.l0_s x0 k4008 a4003).symm.trans ho3998
    refine run_seq ?_
    refine run_region rfl ?_
    refine ops_ex rfl (guard_none rfl) rfl rfl (ex_lss rfl rfl rfl) ?_
    refine ops_nil ?_
    refine at_then ?_
    refine run_seq ?_
    refine run_cond (b := (decide (a4003 < (x0.length : Int)))) rfl (fun hb4010 => ?_) (fun hb4010 => ?_)
    · replace ho3998 := cond_t hb4010 ho3998
      refine run_skip ?_
      refine at_then ?_
      refine run_seq ?_
      refine run_block ?_
      refine run_seq ?_
      obtain ⟨e4011, ho3998⟩ := chk_some ho3998
      refine run_region rfl ?_
      have hc4012 : CellsAt _ (sb p0) (so p0 + (a4003).toNat * 1) [(.int .i64 (gt x0 a4003))] := rd_plain hp0 e4011
      refine ops_ex rfl (guard_none rfl) rfl rfl (ex_indexAddr (d := kInt) rfl rfl rfl Tryz.underlying179 tsz3 hp0 (idx_lo e4011) (idx_hi e4011)) ?_
      refine ops_ex rfl (guard_none rfl) rfl rfl (ex_load1 rfl rfl Tryz.underlying3 rfl ((HM.at_ hc4012) 0 _ rfl)) ?_
      refine ops_ex rfl (guard_none rfl) rfl rfl (ex_assign rfl rfl) ?_
      refine ops_nil ?_
      refine at_then ?_
      refine run_seq ?_
      refine run_region rfl ?_
      refine ops_ex rfl (guard_none rfl) rfl rfl (ex_move rfl rfl) ?_
      refine ops_ex rfl (guard_none rfl) rfl rfl (ex_move rfl rfl) ?_
      refine ops_ex rfl (guard_none rfl) rfl rfl (ex_neq rfl rfl rfl) ?_
      refine ops_nil ?_
      refine at_then ?_
      refine run_cond (b := ((gt x0 a4003) != 0)) rfl (fun hb4013 => ?_) (fun hb4013 => ?_)
      · replace ho3998 := cond_t hb4013 ho3998
        refine run_seq ?_
        refine run_region rfl ?_
        refine ops_ex rfl (guard_none rfl) rfl rfl (ex_move rfl rfl) ?_
        refine ops_ex rfl (guard_none rfl) rfl rfl (ex_assign rfl rfl) ?_
        refine ops_nil ?_
        refine at_then ?_
        refine run_ret ?_
        refine at_block_ret ?_
        refine at_then_ret ?_
        refine at_then_ret ?_
        refine at_block_ret ?_
        refine at_then_ret ?_
        have hR := Option.some.inj ho3998
        subst hR
        have hT := thn_inl H
        have hR := Option.some.inj hT
        subst hR
        exact at_ret1 rfl rfl ⟨_, rfl, rfl, HM⟩
      · replace ho3998 := cond_f hb4013 ho3998
        refine run_skip ?_
        refine at_block ?_
        refine at_then ?_
        refine run_region rfl ?_
        refine ops_ex rfl (guard_none rfl) rfl rfl (ex_add rfl rfl rfl) ?_
        refine ops_ex rfl (guard_none rfl) rfl rfl (ex_move rfl rfl) ?_
        refine ops_nil ?_
        exact at_again k4008 (ρ1 := [(3, .int .i64 0), (6, p0), (7, .int .i64 (x0.length : Int)), (8, .int .i64 (wrap64 (a4003 + 1)))]) (Nat.lt_succ_self _) ⟨_, ho3998, rfl, HM⟩ (Sub.cons rfl (Sub.cons rfl (Sub.cons rfl (Sub.cons rfl Sub.nil))))
    · replace ho3998 := cond_f hb4010 ho3998
      refine run_exit ?_
      refine at_then_exit ?_
      refine at_then_exit ?_
      refine at_block_exit ?_
      exact at_mid (ρ' := [(3, .int .i64 0)]) ⟨(Option.some.inj ho3998), rfl, HM⟩ (Sub.cons rfl Sub.nil)
  · rintro _ w4014 ⟨rfl, rfl, HM⟩
    replace H := (thn_inr H)
    refine run_seq ?_
    refine run_region rfl ?_
    refine ops_ex rfl (guard_none rfl) rfl rfl (ex_move rfl rfl) ?_
    refine ops_ex rfl (guard_none rfl) rfl rfl (ex_assign rfl rfl) ?_
    refine ops_nil ?_
    refine at_then ?_
    refine run_ret ?_
    have hR := Option.some.inj H
    subst hR
    exact at_ret1 rfl rfl ⟨_, rfl, rfl, HM⟩

def impl_compareRefs.f (k : Nat) (x0 : Ref) (x1 : Ref) : Option Int := ((cmp_Compare_int64.f k x0.fTx x1.fTx).bind fun t4025 => ((cmp_Compare_int64.f k x0.fAt x1.fAt).bind fun t4027 => ((cmp_Or_int.f k ([t4025, t4027] : List Int)).bind fun t4032 => some t4032)))
theorem impl_compareRefs.calls {k : Nat} {x0 : Ref} {x1 : Ref}  {w : World}  {r : Int} (H : impl_compareRefs.f k x0 x1 = some r) :
    Calls Tryz.prog 68 ([.agg #[(.int .i64 x0.fTx), (.int .i64 x0.fAt)], .agg #[(.int .i64 x1.fTx), (.int .i64 x1.fAt)]] : List Value).toArray w (fun e w_ => ∃ v, e = .returned v ∧ v = (.int .i64 r) ∧ Mem w [] w_ []) := by
  have HM := Mem.start w
  refine calls_run (N := 17) Tryz.func68 rfl rfl rfl rfl ?_
  unfold impl_compareRefs.f at H
  refine run_seq ?_
  refine run_region rfl ?_
  refine ops_does rfl (guard_none rfl) rfl rfl (does_box (cs := [.int .i64 x0.fTx, .int .i64 x0.fAt]) rfl rfl rfl HM) ?_
  rintro _ w4023 ⟨b4017, rfl, HM⟩
  refine ops_does rfl (guard_none rfl) rfl rfl (does_box (cs := [.int .i64 x1.fTx, .int .i64 x1.fAt]) rfl rfl rfl HM) ?_
  rintro _ w4024 ⟨b4020, rfl, HM⟩
  refine ops_ex rfl (guard_none rfl) rfl rfl (ex_assign rfl rfl) ?_
  refine ops_nil ?_
  refine at_then ?_
  refine run_seq ?_
  obtain ⟨t4025, h4026, H⟩ := bind_some H
  obtain ⟨t4027, h4028, H⟩ := bind_some H
  obtain ⟨t4032, h4033, H⟩ := bind_some H
  refine run_drawf (fun w_ => Mem w [] w_ [box b4020 56 [.int .i64 x1.fTx, .int .i64 x1.fAt], box b4017 56 [.int .i64 x0.fTx, .int .i64 x0.fAt]]) [(0, true), (1, true), (2, true), (3, true), (5, true), (6, true), (7, true), (8, true), (4, false), (9, false), (10, false), (11, false), (12, true)] mixed rfl rfl (by kernel_rfl) ?_
  replace HM := HM.grow (fr_drew _)
  have hS := Mem.suf (M := []) HM
  refine drwp_take rfl (guard_none rfl) rfl rfl (fun w_ hS_ => (ex_fieldAddr (off' := 0) rfl rfl Tryz.underlying56 rfl tsz2 rfl)) hS ?_
  refine drwp_take rfl (guard_none rfl) rfl rfl (fun w_ hS_ => (ex_load1 rfl rfl Tryz.underlying2 rfl ((hS_.box_at 1 rfl) 0 _ rfl))) hS ?_
  refine drwp_take rfl (guard_none rfl) rfl rfl (fun w_ hS_ => (ex_fieldAddr (off' := 0) rfl rfl Tryz.underlying56 rfl tsz2 rfl)) hS ?_
  refine drwp_take rfl (guard_none rfl) rfl rfl (fun w_ hS_ => (ex_load1 rfl rfl Tryz.underlying2 rfl ((hS_.box_at 0 rfl) 0 _ rfl))) hS ?_
  refine drwp_take rfl (guard_none rfl) rfl rfl (fun w_ hS_ => (ex_fieldAddr (off' := 1) rfl rfl Tryz.underlying56 rfl tsz2 rfl)) hS ?_
  refine drwp_take rfl (guard_none rfl) rfl rfl (fun w_ hS_ => (ex_load1 rfl rfl Tryz.underlying2 rfl ((hS_.box_at 1 rfl) 1 _ rfl))) hS ?_
  refine drwp_take rfl (guard_none rfl) rfl rfl (fun w_ hS_ => (ex_fieldAddr (off' := 1) rfl rfl Tryz.underlying56 rfl tsz2 rfl)) hS ?_
  refine drwp_take rfl (guard_none rfl) rfl rfl (fun w_ hS_ => (ex_load1 rfl rfl Tryz.underlying2 rfl ((hS_.box_at 0 rfl) 1 _ rfl))) hS ?_
  refine drwp_one rfl (guard_none rfl) rfl rfl (does_callk rfl callok112 rfl (cmp_Compare_int64.calls (x0 := x0.fTx) (x1 := x1.fTx) h4026)) ?_
  rintro _ w4034 ⟨rfl, hn⟩
  replace HM : Mem w [] w4034 [box b4020 56 [.int .i64 x1.fTx, .int .i64 x1.fAt], box b4017 56 [.int .i64 x0.fTx, .int .i64 x0.fAt]] := HM.call hn
  refine ⟨Mem.suf (M := []) HM, ?_⟩
  have hS := Mem.suf (M := []) HM
  refine drwp_one rfl (guard_none rfl) rfl rfl (does_callk rfl callok112 rfl (cmp_Compare_int64.calls (x0 := x0.fAt) (x1 := x1.fAt) h4028)) ?_
  rintro _ w4035 ⟨rfl, hn⟩
  replace HM : Mem w [] w4035 [box b4020 56 [.int .i64 x1.fTx, .int .i64 x1.fAt], box b4017 56 [.int .i64 x0.fTx, .int .i64 x0.fAt]] := HM.call hn
  refine ⟨Mem.suf (M := []) HM, ?_⟩
  have hS := Mem.suf (M := []) HM
  refine drwp_one rfl (guard_none rfl) rfl rfl (does_lit (e := 3) (cs := [.int .i64 t4025, .int .i64 t4027]) (xs := ([t4025, t4027] : List Int)) kInt rfl rfl (fun _ => by kernel_rfl) rfl rfl (fun _ _ h => by have h' : _ = [] := h; subst h'; exact (Elems.cons (d := kInt) (x := t4025) (f := []) ⟨rfl, rfl⟩ (Elems.cons (d := kInt) (x := t4027) (f := []) ⟨rfl, rfl⟩ .nil))) HM.emp) ?_
  rintro v4029 w4036 HM
  refine ⟨Mem.suf (M := [own kInt 3 v4029 ([t4025, t4027] : List Int)]) HM, ?_⟩
  have hS := Mem.suf (M := [own kInt 3 v4029 ([t4025, t4027] : List Int)]) HM
  refine drwp_one rfl (guard_none rfl) rfl rfl (does_callk rfl callok111 rfl (cmp_Or_int.calls (x0 := ([t4025, t4027] : List Int)) (HM.own_rd 0 rfl) h4033)) ?_
  rintro _ w4037 ⟨rfl, hn⟩
  replace HM : Mem w [] w4037 [own kInt 3 v4029 ([t4025, t4027] : List Int), box b4020 56 [.int .i64 x1.fTx, .int .i64 x1.fAt], box b4017 56 [.int .i64 x0.fTx, .int .i64 x0.fAt]] := HM.call hn
  refine ⟨Mem.suf (M := [own kInt 3 v4029 ([t4025, t4027] : List Int)]) HM, ?_⟩
  have hS := Mem.suf (M := [own kInt 3 v4029 ([t4025, t4027] : List Int)]) HM
  refine drwp_take rfl (guard_none rfl) rfl rfl (fun w_ hS_ => (ex_assign rfl rfl)) hS ?_
  refine drwp_done ?_
  refine at_then ?_
  refine run_ret ?_
  replace HM := (HM.front 0 rfl rfl).drop
  replace HM := (HM.front 0 rfl rfl).drop
  replace HM := (HM.front 0 rfl rfl).drop
  have hR := Option.some.inj H
  subst hR
  exact at_ret1 rfl rfl ⟨_, rfl, rfl, HM⟩

def impl_CoinsFault.l0 (x0 : List Coin) : Nat → Int → Option (Int ⊕ Unit)
  | 0, _ => none
  | k + 1, a4259 => (bif (decide (a4259 < (x0.length : Int))) then (chk (idxOk a4259 x0.length) ((impl_isRef.f k ((gt x0 a4259).fRef)).bind fun t4314 => ((bif (!(!t4314)) then impl_isHeight.f k ((gt x0 a4259).fHeight) else some default).bind fun t4316 => ((bif (!((!t4314) || (!t4316))) then impl_within.f k ((gt x0 a4259).fOut.fValue) 1 1000000 else some default).bind fun t4318 => (bif (((!t4314) || (!t4316)) || (!t4318)) then some (.inl 3) else ((impl_RuleFault.f k ((gt x0 a4259).fOut.fRule)).bind fun t4333 => (bif (t4333 != 0) then some (.inl t4333) else (chk (!(decide (0 < a4259)) || (idxOk (wrap64 (a4259 - 1)) x0.length)) ((bif (decide (0 < a4259)) then impl_compareRefs.f k ((gt x0 (wrap64 (a4259 - 1))).fRef) ((gt x0 a4259).fRef) else some default).bind fun t4341 => (bif ((decide (0 < a4259)) && (decide (0 ≤ t4341))) then some (.inl 1) else impl_CoinsFault.l0 x0 k (wrap64 (a4259 + 1)))))))))))) else some (.inr ()))
theorem impl_CoinsFault.l0_z (x0 : List Coin) (a4259 : Int) : impl_CoinsFault.l0 x0 0 a4259 = none := rfl
theorem impl_CoinsFault.l0_s (x0 : List Coin) (k : Nat) (a4259 : Int) : impl_CoinsFault.l0 x0 (k + 1) a4259 = (bif (decide (a4259 < (x0.length : Int))) then (chk (idxOk a4259 x0.length) ((impl_isRef.f k ((gt x0 a4259).fRef)).bind fun t4314 => ((bif (!(!t4314)) then impl_isHeight.f k ((gt x0 a4259).fHeight) else some default).bind fun t4316 => ((bif (!((!t4314) || (!t4316))) then impl_within.f k ((gt x0 a4259).fOut.fValue) 1 1000000 else some default).bind fun t4318 => (bif (((!t4314) || (!t4316)) || (!t4318)) then some (.inl 3) else ((impl_RuleFault.f k ((gt x0 a4259).fOut.fRule)).bind fun t4333 => (bif (t4333 != 0) then some (.inl t4333) else (chk (!(decide (0 < a4259)) || (idxOk (wrap64 (a4259 - 1)) x0.length)) ((bif (decide (0 < a4259)) then impl_compareRefs.f k ((gt x0 (wrap64 (a4259 - 1))).fRef) ((gt x0 a4259).fRef) else some default).bind fun t4341 => (bif ((decide (0 < a4259)) && (decide (0 ≤ t4341))) then some (.inl 1) else impl_CoinsFault.l0 x0 k (wrap64 (a4259 + 1)))))))))))) else some (.inr ())) := rfl
def impl_CoinsFault.f (k : Nat) (x0 : List Coin) : Option Int := (bif (decide (40 < (x0.length : Int))) then some 2 else ((impl_CoinsFault.l0 x0 k 0).bind fun o4222 => thn o4222 (fun r => some r) (fun _ => some 0)))
theorem impl_CoinsFault.calls {k : Nat} {x0 : List Coin} {p0 : Value} {w : World} (hp0 : RdS kCoin w p0 x0) {r : Int} (H : impl_CoinsFault.f k x0 = some r) :
    Calls Tryz.prog 28 ([p0] : List Value).toArray w (fun e w_ => ∃ v, e = .returned v ∧ v = (.int .i64 r) ∧ Mem w [] w_ []) := by
  have HM := Mem.start w
  refine calls_run (N := 55) Tryz.func28 rfl rfl rfl rfl ?_
  unfold impl_CoinsFault.f at H
  refine run_seq ?_
  refine run_region rfl ?_
  refine ops_ex rfl (guard_none rfl) rfl rfl (ex_assign rfl rfl) ?_
  refine ops_nil ?_
  refine at_then ?_
  refine run_seq ?_
  refine run_seq ?_
  refine run_region rfl ?_
  refine ops_ex rfl (guard_none rfl) rfl rfl (ex_move rfl rfl) ?_
  refine ops_ex rfl (guard_none rfl) rfl rfl (ex_len (d := kCoin) (xs := x0) rfl rfl Tryz.underlying29 hp0) ?_
  refine ops_ex rfl (guard_none rfl) rfl rfl (ex_gtr rfl rfl rfl) ?_
  refine ops_nil ?_
  refine at_then ?_
  refine run_cond (b := (decide (40 < (x0.length : Int)))) rfl (fun hb4115 => ?_) (fun hb4115 => ?_)
  · replace H := cond_t hb4115 H
    refine run_seq ?_
    refine run_region rfl ?_
    refine ops_ex rfl (guard_none rfl) rfl rfl (ex_assign rfl rfl) ?_
    refine ops_nil ?_
    refine at_then ?_
    refine run_ret ?_
    refine at_then_ret ?_
    have hR := Option.some.inj H
    subst hR
    exact at_ret1 rfl rfl ⟨_, rfl, rfl, HM⟩
  · replace H := cond_f hb4115 H
    refine run_skip ?_
    refine at_then ?_
    obtain ⟨o4222, ho4223, H⟩ := bind_some H
    refine run_mid (fun ρ_ w_ => Sum.inr () = o4222 ∧ ρ_ = [] ∧ Mem w [] w_ []) ?_ ?_
    · skip
      refine run_seq ?_
      refine run_region rfl ?_
      refine ops_ex rfl (guard_none rfl) rfl rfl (ex_move rfl rfl) ?_
      refine ops_ex rfl (guard_none rfl) rfl rfl (ex_len (d := kCoin) (xs := x0) rfl rfl Tryz.underlying29 hp0) ?_
      refine ops_ex rfl (guard_none rfl) rfl rfl (ex_move rfl rfl) ?_
      refine ops_nil ?_
      refine at_then ?_
      refine run_block ?_
      refine run_loop (fun k_ ρ_ w_ => ∃ a4259 : Int, impl_CoinsFault.l0 x0 k_ a4259 = some o4222 ∧ ρ_ = [(0, p0), (9, p0), (10, .int .i64 (x0.length : Int)), (11, .int .i64 a4259)] ∧ Mem w [] w_ []) k (ρ1 := [(0, p0), (9, p0), (10, .int .i64 (x0.length : Int)), (11, .int .i64 0)]) ⟨_, ho4223, rfl, HM⟩ (Sub.cons rfl (Sub.cons rfl (Sub.cons rfl (Sub.cons rfl Sub.nil)))) ?_
      clear HM ho4223
      rintro k4295 _ w4296 ⟨a4259, ho4223, rfl, HM⟩
      obtain _ | k4295 := k4295
      · exact nomatch ((impl_CoinsFault.l0_z x0 a4259).symm.trans ho4223)
      replace ho4223 := (impl_CoinsFault.l0_s x0 k4295 a4259).symm.trans ho4223
      refine run_seq ?_
      refine run_region rfl ?_
      refine ops_ex rfl (guard_none rfl) rfl rfl (ex_lss rfl rfl rfl) ?_
      refine ops_nil ?_
      refine at_then ?_
      refine run_seq ?_
      refine run_cond (b := (decide (a4259 < (x0.length : Int)))) rfl (fun hb4297 => ?_) (fun hb4297 => ?_)
      · replace ho4223 := cond_t hb4297 ho4223
        refine run_skip ?_
        refine at_then ?_
        refine run_seq ?_
        refine run_block ?_
        refine run_seq ?_
        obtain ⟨e4298, ho4223⟩ := chk_some ho4223
        refine run_region rfl ?_
        refine ops_ex rfl (guard_none rfl) rfl rfl (ex_move rfl rfl) ?_
        obtain ⟨kv4300, hc4299, hk4301⟩ : ∃ u, CellsAt _ (sb p0) (so p0 + (a4259).toNat * 8) [(.int .i64 ((gt x0 a4259).fRef.fTx)), (.int .i64 ((gt x0 a4259).fRef.fAt)), (.int .i64 ((gt x0 a4259).fOut.fValue)), u, (.int .i64 ((gt x0 a4259).fOut.fRule.fNeed)), (.int .i64 ((gt x0 a4259).fOut.fRule.fAfter)), (.int .i64 ((gt x0 a4259).fHeight)), (.bool ((gt x0 a4259).fMined))] ∧ RdS kInt _ u ((gt x0 a4259).fOut.fRule.fKeys) := rd_with1 hp0 e4298
        refine ops_ex rfl (guard_none rfl) rfl rfl (ex_indexAddr (d := kCoin) rfl rfl rfl Tryz.underlying29 tsz77 hp0 (idx_lo e4298) (idx_hi e4298)) ?_
        refine ops_ex rfl (guard_none rfl) rfl rfl (ex_loadN (cs := [(.int .i64 ((gt x0 a4259).fRef.fTx)), (.int .i64 ((gt x0 a4259).fRef.fAt)), (.int .i64 ((gt x0 a4259).fOut.fValue)), kv4300, (.int .i64 ((gt x0 a4259).fOut.fRule.fNeed)), (.int .i64 ((gt x0 a4259).fOut.fRule.fAfter)), (.int .i64 ((gt x0 a4259).fHeight)), (.bool ((gt x0 a4259).fMined))]) rfl rfl Tryz.underlying77 rfl tsz77 rfl ((HM.at_ hc4299).sub 0 8 rfl)) ?_
        refine ops_does rfl (guard_none rfl) rfl rfl (does_alloc (cs := [.int .i64 0, .int .i64 0, .int .i64 0, .slice none 0 0, .int .i64 0, .int .i64 0, .int .i64 0, .bool false]) rfl tz77 rfl HM) ?_
        rintro _ w4305 ⟨b4302, rfl, HM⟩
        refine ops_ex rfl (guard_none rfl) rfl rfl (ex_assign rfl rfl) ?_
        refine ops_doesS rfl (guard_none rfl) rfl (does_store (vs := [.int .i64 ((gt x0 a4259).fRef.fTx), .int .i64 ((gt x0 a4259).fRef.fAt), .int .i64 ((gt x0 a4259).fOut.fValue), kv4300, .int .i64 ((gt x0 a4259).fOut.fRule.fNeed), .int .i64 ((gt x0 a4259).fOut.fRule.fAfter), .int .i64 ((gt x0 a4259).fHeight), .bool ((gt x0 a4259).fMined)]) (cs' := [.int .i64 ((gt x0 a4259).fRef.fTx), .int .i64 ((gt x0 a4259).fRef.fAt), .int .i64 ((gt x0 a4259).fOut.fValue), kv4300, .int .i64 ((gt x0 a4259).fOut.fRule.fNeed), .int .i64 ((gt x0 a4259).fOut.fRule.fAfter), .int .i64 ((gt x0 a4259).fHeight), .bool ((gt x0 a4259).fMined)]) rfl rfl rfl rfl tsz77 (Ones.int (Ones.int (Ones.int (Ones.rd hk4301 (Ones.int (Ones.int (Ones.int (Ones.bool Ones.nil)))))))) rfl rfl HM) ?_
        rintro w4306 HM
        refine ops_nil ?_
        refine at_then ?_
        refine run_seq ?_
        refine run_seq ?_
        obtain ⟨t4314, h4315, ho4223⟩ := bind_some ho4223
        obtain ⟨t4316, h4317, ho4223⟩ := bind_some ho4223
        obtain ⟨t4318, h4319, ho4223⟩ := bind_some ho4223
        refine run_meet (fun ρ_ w_ => ρ_ = [(0, p0), (9, p0), (10, .int .i64 (x0.length : Int)), (11, .int .i64 a4259), (4, .pointer (some ⟨b4302, 0, none⟩)), (3, .int .i64 a4259), (32, .bool (((!t4314) || (!t4316)) || (!t4318)))] ∧ Mem w [] w_ [box b4302 77 [.int .i64 ((gt x0 a4259).fRef.fTx), .int .i64 ((gt x0 a4259).fRef.fAt), .int .i64 ((gt x0 a4259).fOut.fValue), kv4300, .int .i64 ((gt x0 a4259).fOut.fRule.fNeed), .int .i64 ((gt x0 a4259).fOut.fRule.fAfter), .int .i64 ((gt x0 a4259).fHeight), .bool ((gt x0 a4259).fMined)]]) ?_ ?_
        · skip
          refine run_region rfl ?_
          refine ops_ex rfl (guard_none rfl) rfl rfl (ex_fieldAddr (off' := 0) rfl rfl Tryz.underlying77 rfl tsz56 rfl) ?_
          refine ops_ex rfl (guard_none rfl) rfl rfl (ex_loadN (cs := [(.int .i64 ((gt x0 a4259).fRef.fTx)), (.int .i64 ((gt x0 a4259).fRef.fAt))]) rfl rfl Tryz.underlying56 rfl tsz56 rfl ((HM.box_at 0 rfl).sub 0 2 rfl)) ?_
          refine ops_does rfl (guard_none rfl) rfl rfl (does_callk rfl callok64 rfl (impl_isRef.calls (x0 := (gt x0 a4259).fRef) h4315)) ?_
          rintro _ w4320 ⟨rfl, hn⟩
          replace HM : Mem w [] w4320 [box b4302 77 [.int .i64 ((gt x0 a4259).fRef.fTx), .int .i64 ((gt x0 a4259).fRef.fAt), .int .i64 ((gt x0 a4259).fOut.fValue), kv4300, .int .i64 ((gt x0 a4259).fOut.fRule.fNeed), .int .i64 ((gt x0 a4259).fOut.fRule.fAfter), .int .i64 ((gt x0 a4259).fHeight), .bool ((gt x0 a4259).fMined)]] := HM.call hn
          refine ops_ex rfl (guard_none rfl) rfl rfl (ex_not rfl rfl) ?_
          refine ops_ex rfl (guard_none rfl) rfl rfl (ex_move rfl rfl) ?_
          refine bool_cases (!t4314) (fun hg4321 => ?_) (fun hg4321 => ?_)
          · skip
            refine ops_off rfl (guard_off rfl rfl rfl hg4321) rfl rfl ?_
            refine ops_off rfl (guard_off rfl rfl rfl hg4321) rfl rfl ?_
            refine ops_off rfl (guard_off rfl rfl rfl hg4321) rfl rfl ?_
            refine ops_off rfl (guard_off rfl rfl rfl hg4321) rfl rfl ?_
            have hg4322 : ((!t4314) || (!t4316)) = true := by simp only [hg4321, Bool.and_true, Bool.true_and, Bool.and_false, Bool.false_and, Bool.or_true, Bool.true_or, Bool.or_false, Bool.false_or, Bool.not_true, Bool.not_false, Bool.not_not]
            refine ops_ex (v := .bool ((!t4314) || (!t4316))) rfl (guard_none rfl) rfl rfl (ex_por_t rfl rfl hg4321) ?_
            refine ops_ex rfl (guard_none rfl) rfl rfl (ex_move rfl rfl) ?_
            refine ops_off rfl (guard_off rfl rfl rfl hg4322) rfl rfl ?_
            refine ops_off rfl (guard_off rfl rfl rfl hg4322) rfl rfl ?_
            refine ops_off rfl (guard_off rfl rfl rfl hg4322) rfl rfl ?_
            refine ops_off rfl (guard_off rfl rfl rfl hg4322) rfl rfl ?_
            refine ops_off rfl (guard_off rfl rfl rfl hg4322) rfl rfl ?_
            have hg4323 : (((!t4314) || (!t4316)) || (!t4318)) = true := by simp only [hg4322, Bool.and_true, Bool.true_and, Bool.and_false, Bool.false_and, Bool.or_true, Bool.true_or, Bool.or_false, Bool.false_or, Bool.not_true, Bool.not_false, Bool.not_not]
            refine ops_ex (v := .bool (((!t4314) || (!t4316)) || (!t4318))) rfl (guard_none rfl) rfl rfl (ex_por_t rfl rfl hg4322) ?_
            refine ops_nil ?_
            exact at_meet [(0, p0), (9, p0), (10, .int .i64 (x0.length : Int)), (11, .int .i64 a4259), (4, .pointer (some ⟨b4302, 0, none⟩)), (3, .int .i64 a4259), (32, .bool (((!t4314) || (!t4316)) || (!t4318)))] ⟨rfl, HM⟩ (Sub.cons rfl (Sub.cons rfl (Sub.cons rfl (Sub.cons rfl (Sub.cons rfl (Sub.cons rfl (Sub.cons rfl Sub.nil)))))))
          · skip
            refine ops_ex rfl (guard_on rfl rfl rfl hg4321) rfl rfl (ex_fieldAddr (off' := 6) rfl rfl Tryz.underlying77 rfl tsz2 rfl) ?_
            refine ops_ex rfl (guard_on rfl rfl rfl hg4321) rfl rfl (ex_load1 rfl rfl Tryz.underlying2 rfl ((HM.box_at 0 rfl) 6 _ rfl)) ?_
            refine ops_does rfl (guard_on rfl rfl rfl hg4321) rfl rfl (does_callk rfl callok65 rfl (impl_isHeight.calls (x0 := (gt x0 a4259).fHeight) (cond_t (not_mk hg4321) h4317))) ?_
            rintro _ w4324 ⟨rfl, hn⟩
            replace HM : Mem w [] w4324 [box b4302 77 [.int .i64 ((gt x0 a4259).fRef.fTx), .int .i64 ((gt x0 a4259).fRef.fAt), .int .i64 ((gt x0 a4259).fOut.fValue), kv4300, .int .i64 ((gt x0 a4259).fOut.fRule.fNeed), .int .i64 ((gt x0 a4259).fOut.fRule.fAfter), .int .i64 ((gt x0 a4259).fHeight), .bool ((gt x0 a4259).fMined)]] := HM.call hn
            refine ops_ex rfl (guard_on rfl rfl rfl hg4321) rfl rfl (ex_not rfl rfl) ?_
            refine ops_ex (v := .bool ((!t4314) || (!t4316))) rfl (guard_none rfl) rfl rfl (ex_por_f rfl rfl hg4321 rfl) ?_
            refine ops_ex rfl (guard_none rfl) rfl rfl (ex_move rfl rfl) ?_
            refine bool_cases ((!t4314) || (!t4316)) (fun hg4325 => ?_) (fun hg4325 => ?_)
            · skip
              refine ops_off rfl (guard_off rfl rfl rfl hg4325) rfl rfl ?_
              refine ops_off rfl (guard_off rfl rfl rfl hg4325) rfl rfl ?_
              refine ops_off rfl (guard_off rfl rfl rfl hg4325) rfl rfl ?_
              refine ops_off rfl (guard_off rfl rfl rfl hg4325) rfl rfl ?_
              refine ops_off rfl (guard_off rfl rfl rfl hg4325) rfl rfl ?_
              have hg4326 : (((!t4314) || (!t4316)) || (!t4318)) = true := by simp only [hg4325, Bool.and_true, Bool.true_and, Bool.and_false, Bool.false_and, Bool.or_true, Bool.true_or, Bool.or_false, Bool.false_or, Bool.not_true, Bool.not_false, Bool.not_not]
              refine ops_ex (v := .bool (((!t4314) || (!t4316)) || (!t4318))) rfl (guard_none rfl) rfl rfl (ex_por_t rfl rfl hg4325) ?_
              refine ops_nil ?_
              exact at_meet [(0, p0), (9, p0), (10, .int .i64 (x0.length : Int)), (11, .int .i64 a4259), (4, .pointer (some ⟨b4302, 0, none⟩)), (3, .int .i64 a4259), (32, .bool (((!t4314) || (!t4316)) || (!t4318)))] ⟨rfl, HM⟩ (Sub.cons rfl (Sub.cons rfl (Sub.cons rfl (Sub.cons rfl (Sub.cons rfl (Sub.cons rfl (Sub.cons rfl Sub.nil)))))))
            · skip
              refine ops_ex rfl (guard_on rfl rfl rfl hg4325) rfl rfl (ex_fieldAddr (off' := 2) rfl rfl Tryz.underlying77 rfl tsz75 rfl) ?_
              refine ops_ex rfl (guard_on rfl rfl rfl hg4325) rfl rfl (ex_fieldAddr (off' := 2) rfl rfl Tryz.underlying75 rfl tsz2 rfl) ?_
              refine ops_ex rfl (guard_on rfl rfl rfl hg4325) rfl rfl (ex_load1 rfl rfl Tryz.underlying2 rfl ((HM.box_at 0 rfl) 2 _ rfl)) ?_
              refine ops_does rfl (guard_on rfl rfl rfl hg4325) rfl rfl (does_callk rfl callok66 rfl (impl_within.calls (x0 := (gt x0 a4259).fOut.fValue) (x1 := 1) (x2 := 1000000) (cond_t (not_mk hg4325) h4319))) ?_
              rintro _ w4327 ⟨rfl, hn⟩
              replace HM : Mem w [] w4327 [box b4302 77 [.int .i64 ((gt x0 a4259).fRef.fTx), .int .i64 ((gt x0 a4259).fRef.fAt), .int .i64 ((gt x0 a4259).fOut.fValue), kv4300, .int .i64 ((gt x0 a4259).fOut.fRule.fNeed), .int .i64 ((gt x0 a4259).fOut.fRule.fAfter), .int .i64 ((gt x0 a4259).fHeight), .bool ((gt x0 a4259).fMined)]] := HM.call hn
              refine ops_ex rfl (guard_on rfl rfl rfl hg4325) rfl rfl (ex_not rfl rfl) ?_
              refine ops_ex (v := .bool (((!t4314) || (!t4316)) || (!t4318))) rfl (guard_none rfl) rfl rfl (ex_por_f rfl rfl hg4325 rfl) ?_
              refine ops_nil ?_
              exact at_meet [(0, p0), (9, p0), (10, .int .i64 (x0.length : Int)), (11, .int .i64 a4259), (4, .pointer (some ⟨b4302, 0, none⟩)), (3, .int .i64 a4259), (32, .bool (((!t4314) || (!t4316)) || (!t4318)))] ⟨rfl, HM⟩ (Sub.cons rfl (Sub.cons rfl (Sub.cons rfl (Sub.cons rfl (Sub.cons rfl (Sub.cons rfl (Sub.cons rfl Sub.nil)))))))
        · rintro _ w4328 ⟨rfl, HM⟩
          refine at_then ?_
          refine run_cond (b := (((!t4314) || (!t4316)) || (!t4318))) rfl (fun hb4329 => ?_) (fun hb4329 => ?_)
          · replace ho4223 := cond_t hb4329 ho4223
            refine run_seq ?_
            refine run_region rfl ?_
            refine ops_ex rfl (guard_none rfl) rfl rfl (ex_assign rfl rfl) ?_
            refine ops_nil ?_
            refine at_then ?_
            refine run_ret ?_
            refine at_then_ret ?_
            refine at_block_ret ?_
            refine at_then_ret ?_
            refine at_then_ret ?_
            refine at_block_ret ?_
            refine at_then_ret ?_
            replace HM := (HM.front 0 rfl rfl).drop
            have hR := Option.some.inj ho4223
            subst hR
            have hT := thn_inl H
            have hR := Option.some.inj hT
            subst hR
            exact at_ret1 rfl rfl ⟨_, rfl, rfl, HM⟩
          · replace ho4223 := cond_f hb4329 ho4223
            refine run_skip ?_
            refine at_then ?_
            refine run_seq ?_
            refine run_seq ?_
            obtain ⟨t4333, h4334, ho4223⟩ := bind_some ho4223
            refine run_region rfl ?_
            refine ops_ex rfl (guard_none rfl) rfl rfl (ex_fieldAddr (off' := 2) rfl rfl Tryz.underlying77 rfl tsz75 rfl) ?_
            refine ops_ex rfl (guard_none rfl) rfl rfl (ex_fieldAddr (off' := 3) rfl rfl Tryz.underlying75 rfl tsz73 rfl) ?_
            refine ops_ex rfl (guard_none rfl) rfl rfl (ex_loadN (cs := [kv4300, (.int .i64 ((gt x0 a4259).fOut.fRule.fNeed)), (.int .i64 ((gt x0 a4259).fOut.fRule.fAfter))]) rfl rfl Tryz.underlying73 rfl tsz73 rfl ((HM.box_at 0 rfl).sub 3 3 rfl)) ?_
            refine ops_does rfl (guard_none rfl) rfl rfl (does_callk rfl callok67 rfl (impl_RuleFault.calls (x0 := (gt x0 a4259).fOut.fRule) (HM.rd hk4301) h4334)) ?_
            rintro _ w4335 ⟨rfl, hn⟩
            replace HM : Mem w [] w4335 [box b4302 77 [.int .i64 ((gt x0 a4259).fRef.fTx), .int .i64 ((gt x0 a4259).fRef.fAt), .int .i64 ((gt x0 a4259).fOut.fValue), kv4300, .int .i64 ((gt x0 a4259).fOut.fRule.fNeed), .int .i64 ((gt x0 a4259).fOut.fRule.fAfter), .int .i64 ((gt x0 a4259).fHeight), .bool ((gt x0 a4259).fMined)]] := HM.call hn
            refine ops_ex rfl (guard_none rfl) rfl rfl (ex_assign rfl rfl) ?_
            refine ops_nil ?_
            refine at_then ?_
            refine run_seq ?_
            refine run_region rfl ?_
            refine ops_ex rfl (guard_none rfl) rfl rfl (ex_move rfl rfl) ?_
            refine ops_ex rfl (guard_none rfl) rfl rfl (ex_neq rfl rfl rfl) ?_
            refine ops_nil ?_
            refine at_then ?_
            refine run_cond (b := (t4333 != 0)) rfl (fun hb4336 => ?_) (fun hb4336 => ?_)
            · replace ho4223 := cond_t hb4336 ho4223
              refine run_seq ?_
              refine run_region rfl ?_
              refine ops_ex rfl (guard_none rfl) rfl rfl (ex_move rfl rfl) ?_
              refine ops_ex rfl (guard_none rfl) rfl rfl (ex_assign rfl rfl) ?_
              refine ops_nil ?_
              refine at_then ?_
              refine run_ret ?_
              refine at_then_ret ?_
              refine at_block_ret ?_
              refine at_then_ret ?_
              refine at_then_ret ?_
              refine at_block_ret ?_
              refine at_then_ret ?_
              replace HM := (HM.front 0 rfl rfl).drop
              have hR := Option.some.inj ho4223
              subst hR
              have hT := thn_inl H
              have hR := Option.some.inj hT
              subst hR
              exact at_ret1 rfl rfl ⟨_, rfl, rfl, HM⟩
            · replace ho4223 := cond_f hb4336 ho4223
              refine run_skip ?_
              refine at_then ?_
              refine run_seq ?_
              obtain ⟨e4337, ho4223⟩ := chk_some ho4223
              obtain ⟨t4341, h4342, ho4223⟩ := bind_some ho4223
              refine run_meet (fun ρ_ w_ => ρ_ = [(0, p0), (9, p0), (10, .int .i64 (x0.length : Int)), (11, .int .i64 a4259), (53, .bool ((decide (0 < a4259)) && (decide (0 ≤ t4341))))] ∧ Mem w [] w_ []) ?_ ?_
              · skip
                refine run_drawf (fun w_ => Mem w [] w_ [box b4302 77 [.int .i64 ((gt x0 a4259).fRef.fTx), .int .i64 ((gt x0 a4259).fRef.fAt), .int .i64 ((gt x0 a4259).fOut.fValue), kv4300, .int .i64 ((gt x0 a4259).fOut.fRule.fNeed), .int .i64 ((gt x0 a4259).fOut.fRule.fAfter), .int .i64 ((gt x0 a4259).fHeight), .bool ((gt x0 a4259).fMined)]]) [(0, true), (1, true), (2, true), (3, true), (4, true), (5, true), (6, true), (7, true), (8, true), (9, true), (10, true), (11, false), (12, true), (13, true)] mixed rfl rfl (by kernel_rfl) ?_
                replace HM := HM.grow (fr_drew _)
                have hS := Mem.suf (M := []) HM
                refine drwp_take rfl (guard_none rfl) rfl rfl (fun w_ hS_ => (ex_move rfl rfl)) hS ?_
                refine drwp_take rfl (guard_none rfl) rfl rfl (fun w_ hS_ => (ex_gtr rfl rfl rfl)) hS ?_
                refine drwp_take rfl (guard_none rfl) rfl rfl (fun w_ hS_ => (ex_move rfl rfl)) hS ?_
                refine bool_cases (decide (0 < a4259)) (fun hg4343 => ?_) (fun hg4343 => ?_)
                · skip
                  refine drwp_take rfl (guard_on rfl rfl rfl hg4343) rfl rfl (fun w_ hS_ => (ex_move rfl rfl)) hS ?_
                  refine drwp_take rfl (guard_on rfl rfl rfl hg4343) rfl rfl (fun w_ hS_ => (ex_move rfl rfl)) hS ?_
                  refine drwp_take rfl (guard_on rfl rfl rfl hg4343) rfl rfl (fun w_ hS_ => (ex_sub rfl rfl rfl)) hS ?_
                  obtain ⟨kv4339, hc4338, hk4340⟩ : ∃ u, CellsAt _ (sb p0) (so p0 + (wrap64 (a4259 - 1)).toNat * 8) [(.int .i64 ((gt x0 (wrap64 (a4259 - 1))).fRef.fTx)), (.int .i64 ((gt x0 (wrap64 (a4259 - 1))).fRef.fAt)), (.int .i64 ((gt x0 (wrap64 (a4259 - 1))).fOut.fValue)), u, (.int .i64 ((gt x0 (wrap64 (a4259 - 1))).fOut.fRule.fNeed)), (.int .i64 ((gt x0 (wrap64 (a4259 - 1))).fOut.fRule.fAfter)), (.int .i64 ((gt x0 (wrap64 (a4259 - 1))).fHeight)), (.bool ((gt x0 (wrap64 (a4259 - 1))).fMined))] ∧ RdS kInt _ u ((gt x0 (wrap64 (a4259 - 1))).fOut.fRule.fKeys) := rd_with1 hp0 (or_t e4337 hg4343)
                  refine drwp_take rfl (guard_on rfl rfl rfl hg4343) rfl rfl (fun w_ hS_ => (ex_indexAddr (d := kCoin) rfl rfl rfl Tryz.underlying29 tsz77 hp0 (idx_lo (or_t e4337 hg4343)) (idx_hi (or_t e4337 hg4343)))) hS ?_
                  refine drwp_take rfl (guard_on rfl rfl rfl hg4343) rfl rfl (fun w_ hS_ => (ex_fieldAddr (off' := so p0 + (wrap64 (a4259 - 1)).toNat * 8) rfl rfl Tryz.underlying77 rfl tsz56 rfl)) hS ?_
                  refine drwp_take rfl (guard_on rfl rfl rfl hg4343) rfl rfl (fun w_ hS_ => (ex_loadN (cs := [(.int .i64 ((gt x0 (wrap64 (a4259 - 1))).fRef.fTx)), (.int .i64 ((gt x0 (wrap64 (a4259 - 1))).fRef.fAt))]) rfl rfl Tryz.underlying56 rfl tsz56 rfl ((hS_.at_ hc4338).sub 0 2 rfl))) hS ?_
                  refine drwp_take rfl (guard_on rfl rfl rfl hg4343) rfl rfl (fun w_ hS_ => (ex_fieldAddr (off' := 0) rfl rfl Tryz.underlying77 rfl tsz56 rfl)) hS ?_
                  refine drwp_take rfl (guard_on rfl rfl rfl hg4343) rfl rfl (fun w_ hS_ => (ex_loadN (cs := [(.int .i64 ((gt x0 a4259).fRef.fTx)), (.int .i64 ((gt x0 a4259).fRef.fAt))]) rfl rfl Tryz.underlying56 rfl tsz56 rfl ((hS_.box_at 0 rfl).sub 0 2 rfl))) hS ?_
                  refine drwp_one rfl (guard_on rfl rfl rfl hg4343) rfl rfl (does_callk rfl callok68 rfl (impl_compareRefs.calls (x0 := (gt x0 (wrap64 (a4259 - 1))).fRef) (x1 := (gt x0 a4259).fRef) (cond_t hg4343 h4342))) ?_
                  rintro _ w4344 ⟨rfl, hn⟩
                  replace HM : Mem w [] w4344 [box b4302 77 [.int .i64 ((gt x0 a4259).fRef.fTx), .int .i64 ((gt x0 a4259).fRef.fAt), .int .i64 ((gt x0 a4259).fOut.fValue), kv4300, .int .i64 ((gt x0 a4259).fOut.fRule.fNeed), .int .i64 ((gt x0 a4259).fOut.fRule.fAfter), .int .i64 ((gt x0 a4259).fHeight), .bool ((gt x0 a4259).fMined)]] := HM.call hn
                  refine ⟨Mem.suf (M := []) HM, ?_⟩
                  have hS := Mem.suf (M := []) HM
                  refine drwp_take rfl (guard_on rfl rfl rfl hg4343) rfl rfl (fun w_ hS_ => (ex_geq rfl rfl rfl)) hS ?_
                  refine drwp_take (v := .bool ((decide (0 < a4259)) && (decide (0 ≤ t4341)))) rfl (guard_none rfl) rfl rfl (fun w_ hS_ => (ex_pand_t rfl rfl hg4343 rfl)) hS ?_
                  refine drwp_done ?_
                  replace HM := (HM.front 0 rfl rfl).drop
                  exact at_meet [(0, p0), (9, p0), (10, .int .i64 (x0.length : Int)), (11, .int .i64 a4259), (53, .bool ((decide (0 < a4259)) && (decide (0 ≤ t4341))))] ⟨rfl, HM⟩ (Sub.cons rfl (Sub.cons rfl (Sub.cons rfl (Sub.cons rfl (Sub.cons rfl Sub.nil)))))
                · skip
                  refine drwp_off rfl (guard_off rfl rfl rfl hg4343) rfl rfl hS ?_
                  refine drwp_off rfl (guard_off rfl rfl rfl hg4343) rfl rfl hS ?_
                  refine drwp_off rfl (guard_off rfl rfl rfl hg4343) rfl rfl hS ?_
                  refine drwp_off rfl (guard_off rfl rfl rfl hg4343) rfl rfl hS ?_
                  refine drwp_off rfl (guard_off rfl rfl rfl hg4343) rfl rfl hS ?_
                  refine drwp_off rfl (guard_off rfl rfl rfl hg4343) rfl rfl hS ?_
                  refine drwp_off rfl (guard_off rfl rfl rfl hg4343) rfl rfl hS ?_
                  refine drwp_off rfl (guard_off rfl rfl rfl hg4343) rfl rfl hS ?_
                  refine drwp_off1 rfl (guard_off rfl rfl rfl hg4343) rfl rfl ⟨hS, ?_⟩
                  refine drwp_off rfl (guard_off rfl rfl rfl hg4343) rfl rfl hS ?_
                  have hg4345 : ((decide (0 < a4259)) && (decide (0 ≤ t4341))) = false := by simp only [hg4343, Bool.and_true, Bool.true_and, Bool.and_false, Bool.false_and, Bool.or_true, Bool.true_or, Bool.or_false, Bool.false_or, Bool.not_true, Bool.not_false, Bool.not_not]
                  refine drwp_take (v := .bool ((decide (0 < a4259)) && (decide (0 ≤ t4341)))) rfl (guard_none rfl) rfl rfl (fun w_ hS_ => (ex_pand_f rfl rfl hg4343)) hS ?_
                  refine drwp_done ?_
                  replace HM := (HM.front 0 rfl rfl).drop
                  exact at_meet [(0, p0), (9, p0), (10, .int .i64 (x0.length : Int)), (11, .int .i64 a4259), (53, .bool ((decide (0 < a4259)) && (decide (0 ≤ t4341))))] ⟨rfl, HM⟩ (Sub.cons rfl (Sub.cons rfl (Sub.cons rfl (Sub.cons rfl (Sub.cons rfl Sub.nil)))))
              · rintro _ w4346 ⟨rfl, HM⟩
                refine at_then ?_
                refine run_cond (b := ((decide (0 < a4259)) && (decide (0 ≤ t4341)))) rfl (fun hb4347 => ?_) (fun hb4347 => ?_)
                · replace ho4223 := cond_t hb4347 ho4223
                  refine run_seq ?_
                  refine run_region rfl ?_
                  refine ops_ex rfl (guard_none rfl) rfl rfl (ex_assign rfl rfl) ?_
                  refine ops_nil ?_
                  refine at_then ?_
                  refine run_ret ?_
                  refine at_block_ret ?_
                  refine at_then_ret ?_
                  refine at_then_ret ?_
                  refine at_block_ret ?_
                  refine at_then_ret ?_
                  have hR := Option.some.inj ho4223
                  subst hR
                  have hT := thn_inl H
                  have hR := Option.some.inj hT
                  subst hR
                  exact at_ret1 rfl rfl ⟨_, rfl, rfl, HM⟩
                · replace ho4223 := cond_f hb4347 ho4223
                  refine run_skip ?_
                  refine at_block ?_
                  refine at_then ?_
                  refine run_region rfl ?_
                  refine ops_ex rfl (guard_none rfl) rfl rfl (ex_add rfl rfl rfl) ?_
                  refine ops_ex rfl (guard_none rfl) rfl rfl (ex_move rfl rfl) ?_
                  refine ops_nil ?_
                  exact at_again k4295 (ρ1 := [(0, p0), (9, p0), (10, .int .i64 (x0.length : Int)), (11, .int .i64 (wrap64 (a4259 + 1)))]) (Nat.lt_succ_self _) ⟨_, ho4223, rfl, HM⟩ (Sub.cons rfl (Sub.cons rfl (Sub.cons rfl (Sub.cons rfl Sub.nil))))
      · replace ho4223 := cond_f hb4297 ho4223
        refine run_exit ?_
        refine at_then_exit ?_
        refine at_then_exit ?_
        refine at_block_exit ?_
        exact at_mid (ρ' := []) ⟨(Option.some.inj ho4223), rfl, HM⟩ Sub.nil
    · rintro _ w4348 ⟨rfl, rfl, HM⟩
      replace H := (thn_inr H)
      refine run_seq ?_
      refine run_region rfl ?_
      refine ops_ex rfl (guard_none rfl) rfl rfl (ex_assign rfl rfl) ?_
      refine ops_nil ?_
      refine at_then ?_
      refine run_ret ?_
      have hR := Option.some.inj H
      subst hR
      exact at_ret1 rfl rfl ⟨_, rfl, rfl, HM⟩
end Go.Proofs.YtcamddjlhchkfaaGreat.Zk
