/- What functions of the program compute, each as a plain function, and that they do. Conditions: as each theorem states them. -/
import Derived.Test.YtecgbhfgkkpmhabGreatUndoTxZkF4
namespace Go.Proofs.YtecgbhfgkkpmhabGreat.Zk
open Go Go.RowKit Go.IntWalk Go.Proofs
set_option linter.unusedVariables false
set_option linter.unusedSimpArgs false
set_option maxRecDepth 100000
set_option maxHeartbeats 4000000
def impl_within.f (k : Nat) (x0 : Int) (x1 : Int) (x2 : Int) : Option Bool := some ((decide (x1 ≤ x0)) && (decide (x0 ≤ x2)))
theorem impl_within.calls {k : Nat} {x0 : Int} {x1 : Int} {x2 : Int}  {w : World}  {r : Bool} (H : impl_within.f k x0 x1 x2 = some r) :
    Calls Tryz.prog 55 ([.int .i64 x0, .int .i64 x1, .int .i64 x2] : List Value).toArray w (fun e w_ => ∃ v, e = .returned v ∧ v = (.bool r) ∧ Mem w [] w_ []) := by
  have HM := Mem.start w
  refine calls_run (N := 15) Tryz.func55 rfl rfl rfl rfl ?_
  unfold impl_within.f at H
  refine run_seq ?_
  refine run_region rfl ?_
  refine ox rfl rfl rfl rfl (ex_assign rfl rfl) ?_
  refine ops_nil (at_then (run_seq ?_))
  refine run_meet (fun ρ_ w_ => ρ_ = [(6, .bool ((decide (x1 ≤ x0)) && (decide (x0 ≤ x2))))] ∧ Mem w [] w_ []) ?_ ?_
  · skip
    refine run_region rfl ?_
    refine ox rfl rfl rfl rfl (ex_move rfl rfl) ?_
    refine ox rfl rfl rfl rfl (ex_move rfl rfl) ?_
    refine ox rfl rfl rfl rfl (ex_geq rfl rfl rfl) ?_
    refine ox rfl rfl rfl rfl (ex_move rfl rfl) ?_
    refine bool_cases (decide (x1 ≤ x0)) (fun hg3856 => ?_) (fun hg3856 => ?_)
    · skip
      refine ops_ex rfl (guard_on rfl rfl rfl hg3856) rfl rfl (ex_move rfl rfl) ?_
      refine ops_ex rfl (guard_on rfl rfl rfl hg3856) rfl rfl (ex_move rfl rfl) ?_
      refine ops_ex rfl (guard_on rfl rfl rfl hg3856) rfl rfl (ex_leq rfl rfl rfl) ?_
      refine ops_ex (v := .bool ((decide (x1 ≤ x0)) && (decide (x0 ≤ x2)))) rfl (guard_none rfl) rfl rfl (ex_pand_t rfl rfl hg3856 rfl) ?_
      refine ox rfl rfl rfl rfl (ex_assign rfl rfl) ?_
      refine ops_nil ?_
      exact at_meet [(6, .bool ((decide (x1 ≤ x0)) && (decide (x0 ≤ x2))))] ⟨rfl, HM⟩ (Sub.cons rfl Sub.nil)
    · skip
      refine ops_off rfl (guard_off rfl rfl rfl hg3856) rfl rfl ?_
      refine ops_off rfl (guard_off rfl rfl rfl hg3856) rfl rfl ?_
      refine ops_off rfl (guard_off rfl rfl rfl hg3856) rfl rfl ?_
      have hg3857 : ((decide (x1 ≤ x0)) && (decide (x0 ≤ x2))) = false := by simp only [hg3856, Bool.and_true, Bool.true_and, Bool.and_false, Bool.false_and, Bool.or_true, Bool.true_or, Bool.or_false, Bool.false_or, Bool.not_true, Bool.not_false, Bool.not_not]
      refine ops_ex (v := .bool ((decide (x1 ≤ x0)) && (decide (x0 ≤ x2)))) rfl (guard_none rfl) rfl rfl (ex_pand_f rfl rfl hg3856) ?_
      refine ox rfl rfl rfl rfl (ex_assign rfl rfl) ?_
      refine ops_nil ?_
      exact at_meet [(6, .bool ((decide (x1 ≤ x0)) && (decide (x0 ≤ x2))))] ⟨rfl, HM⟩ (Sub.cons rfl Sub.nil)
  · rintro _ w3858 ⟨rfl, HM⟩
    refine at_then ?_
    refine run_ret ?_
    have hR := Option.some.inj H
    subst hR
    exact at_ret1 rfl rfl ⟨_, rfl, rfl, HM⟩

def impl_isId.f (k : Nat) (x0 : Int) : Option Bool := ((impl_within.f k x0 1 60).bind fun t3861 => some t3861)
theorem impl_isId.calls {k : Nat} {x0 : Int}  {w : World}  {r : Bool} (H : impl_isId.f k x0 = some r) :
    Calls Tryz.prog 62 ([.int .i64 x0] : List Value).toArray w (fun e w_ => ∃ v, e = .returned v ∧ v = (.bool r) ∧ Mem w [] w_ []) := by
  have HM := Mem.start w
  refine calls_run (N := 5) Tryz.func62 rfl rfl rfl rfl ?_
  unfold impl_isId.f at H
  refine run_seq ?_
  refine run_region rfl ?_
  refine ox rfl rfl rfl rfl (ex_assign rfl rfl) ?_
  refine ops_nil (at_then (run_seq ?_))
  obtain ⟨t3861, h3862, H⟩ := bind_some H
  refine run_region rfl ?_
  refine ox rfl rfl rfl rfl (ex_move rfl rfl) ?_
  refine od rfl rfl rfl rfl (does_callk rfl callok55 rfl (impl_within.calls (x0 := x0) (x1 := 1) (x2 := 60) h3862)) ?_
  rintro _ w3863 ⟨rfl, hn⟩
  replace HM : Mem w [] w3863 [] := HM.call hn
  refine ox rfl rfl rfl rfl (ex_assign rfl rfl) ?_
  refine ops_nil (at_then ?_)
  refine run_ret ?_
  have hR := Option.some.inj H
  subst hR
  exact at_ret1 rfl rfl ⟨_, rfl, rfl, HM⟩

def impl_isRef.f (k : Nat) (x0 : Ref) : Option Bool := ((impl_isId.f k x0.fTx).bind fun t3872 => ((bif t3872 then impl_within.f k x0.fAt 0 3 else some default).bind fun t3874 => some (t3872 && t3874)))
theorem impl_isRef.calls {k : Nat} {x0 : Ref}  {w : World}  {r : Bool} (H : impl_isRef.f k x0 = some r) :
    Calls Tryz.prog 53 ([.agg #[(.int .i64 x0.fTx), (.int .i64 x0.fAt)]] : List Value).toArray w (fun e w_ => ∃ v, e = .returned v ∧ v = (.bool r) ∧ Mem w [] w_ []) := by
  have HM := Mem.start w
  refine calls_run (N := 11) Tryz.func53 rfl rfl rfl rfl ?_
  unfold impl_isRef.f at H
  refine run_seq ?_
  refine run_region rfl ?_
  refine od rfl rfl rfl rfl (does_box (cs := [.int .i64 x0.fTx, .int .i64 x0.fAt]) rfl rfl rfl HM) ?_
  rintro _ w3871 ⟨b3868, rfl, HM⟩
  refine ox rfl rfl rfl rfl (ex_assign rfl rfl) ?_
  refine ops_nil (at_then (run_seq ?_))
  obtain ⟨t3872, h3873, H⟩ := bind_some H
  obtain ⟨t3874, h3875, H⟩ := bind_some H
  refine run_meet (fun ρ_ w_ => ρ_ = [(2, .bool (t3872 && t3874))] ∧ Mem w [] w_ []) ?_ ?_
  · skip
    refine run_region rfl ?_
    refine ox rfl rfl rfl rfl (ex_fieldAddr (off' := 0) rfl rfl Tryz.underlying66 rfl tsz2 rfl) ?_
    refine ox rfl rfl rfl rfl (ex_load1 rfl rfl Tryz.underlying2 rfl ((HM.box_at 0 rfl) 0 _ rfl)) ?_
    refine od rfl rfl rfl rfl (does_callk rfl callok62 rfl (impl_isId.calls (x0 := x0.fTx) h3873)) ?_
    rintro _ w3876 ⟨rfl, hn⟩
    replace HM : Mem w [] w3876 [box b3868 66 [.int .i64 x0.fTx, .int .i64 x0.fAt]] := HM.call hn
    refine ox rfl rfl rfl rfl (ex_move rfl rfl) ?_
    refine bool_cases t3872 (fun hg3877 => ?_) (fun hg3877 => ?_)
    · skip
      refine ops_ex rfl (guard_on rfl rfl rfl hg3877) rfl rfl (ex_fieldAddr (off' := 1) rfl rfl Tryz.underlying66 rfl tsz2 rfl) ?_
      refine ops_ex rfl (guard_on rfl rfl rfl hg3877) rfl rfl (ex_load1 rfl rfl Tryz.underlying2 rfl ((HM.box_at 0 rfl) 1 _ rfl)) ?_
      refine ops_does rfl (guard_on rfl rfl rfl hg3877) rfl rfl (does_callk rfl callok55 rfl (impl_within.calls (x0 := x0.fAt) (x1 := 0) (x2 := 3) (cond_t hg3877 h3875))) ?_
      rintro _ w3878 ⟨rfl, hn⟩
      replace HM : Mem w [] w3878 [box b3868 66 [.int .i64 x0.fTx, .int .i64 x0.fAt]] := HM.call hn
      refine ops_ex (v := .bool (t3872 && t3874)) rfl (guard_none rfl) rfl rfl (ex_pand_t rfl rfl hg3877 rfl) ?_
      refine ox rfl rfl rfl rfl (ex_assign rfl rfl) ?_
      refine ops_nil ?_
      replace HM := (HM.front 0 rfl rfl).drop
      exact at_meet [(2, .bool (t3872 && t3874))] ⟨rfl, HM⟩ (Sub.cons rfl Sub.nil)
    · skip
      refine ops_off rfl (guard_off rfl rfl rfl hg3877) rfl rfl ?_
      refine ops_off rfl (guard_off rfl rfl rfl hg3877) rfl rfl ?_
      refine ops_off rfl (guard_off rfl rfl rfl hg3877) rfl rfl ?_
      have hg3879 : (t3872 && t3874) = false := by simp only [hg3877, Bool.and_true, Bool.true_and, Bool.and_false, Bool.false_and, Bool.or_true, Bool.true_or, Bool.or_false, Bool.false_or, Bool.not_true, Bool.not_false, Bool.not_not]
      refine ops_ex (v := .bool (t3872 && t3874)) rfl (guard_none rfl) rfl rfl (ex_pand_f rfl rfl hg3877) ?_
      refine ox rfl rfl rfl rfl (ex_assign rfl rfl) ?_
      refine ops_nil ?_
      replace HM := (HM.front 0 rfl rfl).drop
      exact at_meet [(2, .bool (t3872 && t3874))] ⟨rfl, HM⟩ (Sub.cons rfl Sub.nil)
  · rintro _ w3880 ⟨rfl, HM⟩
    refine at_then ?_
    refine run_ret ?_
    have hR := Option.some.inj H
    subst hR
    exact at_ret1 rfl rfl ⟨_, rfl, rfl, HM⟩

def impl_isHeight.f (k : Nat) (x0 : Int) : Option Bool := ((impl_within.f k x0 0 999).bind fun t3885 => some t3885)
theorem impl_isHeight.calls {k : Nat} {x0 : Int}  {w : World}  {r : Bool} (H : impl_isHeight.f k x0 = some r) :
    Calls Tryz.prog 54 ([.int .i64 x0] : List Value).toArray w (fun e w_ => ∃ v, e = .returned v ∧ v = (.bool r) ∧ Mem w [] w_ []) := by
  have HM := Mem.start w
  refine calls_run (N := 5) Tryz.func54 rfl rfl rfl rfl ?_
  unfold impl_isHeight.f at H
  refine run_seq ?_
  refine run_region rfl ?_
  refine ox rfl rfl rfl rfl (ex_assign rfl rfl) ?_
  refine ops_nil (at_then (run_seq ?_))
  obtain ⟨t3885, h3886, H⟩ := bind_some H
  refine run_region rfl ?_
  refine ox rfl rfl rfl rfl (ex_move rfl rfl) ?_
  refine od rfl rfl rfl rfl (does_callk rfl callok55 rfl (impl_within.calls (x0 := x0) (x1 := 0) (x2 := 999) h3886)) ?_
  rintro _ w3887 ⟨rfl, hn⟩
  replace HM : Mem w [] w3887 [] := HM.call hn
  refine ox rfl rfl rfl rfl (ex_assign rfl rfl) ?_
  refine ops_nil (at_then ?_)
  refine run_ret ?_
  have hR := Option.some.inj H
  subst hR
  exact at_ret1 rfl rfl ⟨_, rfl, rfl, HM⟩

def impl_isKey.f (k : Nat) (x0 : Int) : Option Bool := ((impl_within.f k x0 1 999).bind fun t3911 => some t3911)
theorem impl_isKey.calls {k : Nat} {x0 : Int}  {w : World}  {r : Bool} (H : impl_isKey.f k x0 = some r) :
    Calls Tryz.prog 59 ([.int .i64 x0] : List Value).toArray w (fun e w_ => ∃ v, e = .returned v ∧ v = (.bool r) ∧ Mem w [] w_ []) := by
  have HM := Mem.start w
  refine calls_run (N := 5) Tryz.func59 rfl rfl rfl rfl ?_
  unfold impl_isKey.f at H
  refine run_seq ?_
  refine run_region rfl ?_
  refine ox rfl rfl rfl rfl (ex_assign rfl rfl) ?_
  refine ops_nil (at_then (run_seq ?_))
  obtain ⟨t3911, h3912, H⟩ := bind_some H
  refine run_region rfl ?_
  refine ox rfl rfl rfl rfl (ex_move rfl rfl) ?_
  refine od rfl rfl rfl rfl (does_callk rfl callok55 rfl (impl_within.calls (x0 := x0) (x1 := 1) (x2 := 999) h3912)) ?_
  rintro _ w3913 ⟨rfl, hn⟩
  replace HM : Mem w [] w3913 [] := HM.call hn
  refine ox rfl rfl rfl rfl (ex_assign rfl rfl) ?_
  refine ops_nil (at_then ?_)
  refine run_ret ?_
  have hR := Option.some.inj H
  subst hR
  exact at_ret1 rfl rfl ⟨_, rfl, rfl, HM⟩

def impl_areKeys_1.f (k : Nat) (x0 : Int) : Option Bool := ((impl_isKey.f k x0).bind fun t3916 => some (!t3916))
theorem impl_areKeys_1.calls {k : Nat} {x0 : Int}  {w : World}  {r : Bool} (H : impl_areKeys_1.f k x0 = some r) :
    Calls Tryz.prog 101 ([.int .i64 x0] : List Value).toArray w (fun e w_ => ∃ v, e = .returned v ∧ v = (.bool r) ∧ Mem w [] w_ []) := by
  have HM := Mem.start w
  refine calls_run (N := 6) Tryz.func101 rfl rfl rfl rfl ?_
  unfold impl_areKeys_1.f at H
  refine run_seq ?_
  refine run_region rfl ?_
  refine ox rfl rfl rfl rfl (ex_assign rfl rfl) ?_
  refine ops_nil (at_then (run_seq ?_))
  obtain ⟨t3916, h3917, H⟩ := bind_some H
  refine run_region rfl ?_
  refine ox rfl rfl rfl rfl (ex_move rfl rfl) ?_
  refine od rfl rfl rfl rfl (does_callk rfl callok59 rfl (impl_isKey.calls (x0 := x0) h3917)) ?_
  rintro _ w3918 ⟨rfl, hn⟩
  replace HM : Mem w [] w3918 [] := HM.call hn
  refine ox rfl rfl rfl rfl (ex_not rfl rfl) ?_
  refine ox rfl rfl rfl rfl (ex_assign rfl rfl) ?_
  refine ops_nil (at_then ?_)
  refine run_ret ?_
  have hR := Option.some.inj H
  subst hR
  exact at_ret1 rfl rfl ⟨_, rfl, rfl, HM⟩

def slices_IndexFunc_int64.l0 (x0 : List Int) : Nat → Int → Option (Int ⊕ Unit)
  | 0, _ => none
  | k + 1, a3964 => (bif (decide (a3964 < (x0.length : Int))) then (chk (idxOk a3964 x0.length) ((impl_areKeys_1.f k (gt x0 a3964)).bind fun t3976 => (bif t3976 then some (.inl a3964) else slices_IndexFunc_int64.l0 x0 k (wrap64 (a3964 + 1))))) else some (.inr ()))
theorem slices_IndexFunc_int64.l0_z (x0 : List Int) (a3964 : Int) : slices_IndexFunc_int64.l0 x0 0 a3964 = none := rfl
theorem slices_IndexFunc_int64.l0_s (x0 : List Int) (k : Nat) (a3964 : Int) : slices_IndexFunc_int64.l0 x0 (k + 1) a3964 = (bif (decide (a3964 < (x0.length : Int))) then (chk (idxOk a3964 x0.length) ((impl_areKeys_1.f k (gt x0 a3964)).bind fun t3976 => (bif t3976 then some (.inl a3964) else slices_IndexFunc_int64.l0 x0 k (wrap64 (a3964 + 1))))) else some (.inr ())) := rfl
def slices_IndexFunc_int64.f (k : Nat) (x0 : List Int) : Option Int := ((slices_IndexFunc_int64.l0 x0 k 0).bind fun o3956 => thn o3956 (fun r => some r) (fun _ => some (-1)))
theorem slices_IndexFunc_int64.calls {k : Nat} {x0 : List Int} {p0 : Value} {w : World} (hp0 : RdS kInt w p0 x0) {r : Int} (H : slices_IndexFunc_int64.f k x0 = some r) :
    Calls Tryz.prog 108 ([p0, .func (.func 101) #[] #[]] : List Value).toArray w (fun e w_ => ∃ v, e = .returned v ∧ v = (.int .i64 r) ∧ Mem w [] w_ []) := by
  have HM := Mem.start w
  refine calls_run (N := 19) Tryz.func108 rfl rfl rfl rfl ?_
  unfold slices_IndexFunc_int64.f at H
  refine run_seq ?_
  refine run_region rfl ?_
  refine ox rfl rfl rfl rfl (ex_assign rfl rfl) ?_
  refine ops_nil (at_then ?_)
  obtain ⟨o3956, ho3957, H⟩ := bind_some H
  refine run_mid (fun ρ_ w_ => Sum.inr () = o3956 ∧ ρ_ = [] ∧ Mem w [] w_ []) ?_ ?_
  · skip
    refine run_seq ?_
    refine run_region rfl ?_
    refine ox rfl rfl rfl rfl (ex_move rfl rfl) ?_
    refine ox rfl rfl rfl rfl (ex_len (d := kInt) (xs := x0) rfl rfl Tryz.underlying49 hp0) ?_
    refine ox rfl rfl rfl rfl (ex_move rfl rfl) ?_
    refine ops_nil (at_then ?_)
    refine run_block ?_
    refine run_loop (fun k_ ρ_ w_ => ∃ a3964 : Int, slices_IndexFunc_int64.l0 x0 k_ a3964 = some o3956 ∧ ρ_ = [(0, p0), (1, .func (.func 101) #[] #[]), (7, .int .i64 (x0.length : Int)), (8, .int .i64 a3964)] ∧ Mem w [] w_ []) k (ρ1 := [(0, p0), (1, .func (.func 101) #[] #[]), (7, .int .i64 (x0.length : Int)), (8, .int .i64 0)]) ⟨_, ho3957, rfl, HM⟩ (Sub.cons rfl (Sub.cons rfl (Sub.cons rfl (Sub.cons rfl Sub.nil)))) ?_
    clear HM ho3957
    rintro k3971 _ w3972 ⟨a3964, ho3957, rfl, HM⟩
    obtain _ | k3971 := k3971
    · exact nomatch ((slices_IndexFunc_int64.l0_z x0 a3964).symm.trans ho3957)
    replace ho3957 := (slices_IndexFunc_int64.l0_s x0 k3971 a3964).symm.trans ho3957
    refine run_seq ?_
    refine run_region rfl ?_
    refine ox rfl rfl rfl rfl (ex_lss rfl rfl rfl) ?_
    refine ops_nil (at_then (run_seq ?_))
    refine run_cond (b := (decide (a3964 < (x0.length : Int)))) rfl (fun hb3973 => ?_) (fun hb3973 => ?_)
    · replace ho3957 := cond_t hb3973 ho3957
      refine run_skip ?_
      refine at_then ?_
      refine run_seq ?_
      refine run_block ?_
      refine run_seq ?_
      refine run_region rfl ?_
      refine ox rfl rfl rfl rfl (ex_move rfl rfl) ?_
      refine ox rfl rfl rfl rfl (ex_assign rfl rfl) ?_
      refine ops_nil (at_then (run_seq ?_))
      obtain ⟨e3974, ho3957⟩ := chk_some ho3957
      obtain ⟨t3976, h3977, ho3957⟩ := bind_some ho3957
      refine run_region rfl ?_
      refine ox rfl rfl rfl rfl (ex_move rfl rfl) ?_
      refine ox rfl rfl rfl rfl (ex_move rfl rfl) ?_
      refine ox rfl rfl rfl rfl (ex_move rfl rfl) ?_
      have hc3975 : CellsAt _ (sb p0) (so p0 + (a3964).toNat * 1) [(.int .i64 (gt x0 a3964))] := rd_plain hp0 e3974
      refine ox rfl rfl rfl rfl (ex_indexAddr (d := kInt) rfl rfl rfl Tryz.underlying49 tsz2 hp0 (idx_lo e3974) (idx_hi e3974)) ?_
      refine ox rfl rfl rfl rfl (ex_load1 rfl rfl Tryz.underlying2 rfl ((HM.at_ hc3975) 0 _ rfl)) ?_
      refine od rfl rfl rfl rfl (does_callvk rfl callok101 rfl rfl rfl (impl_areKeys_1.calls (x0 := (gt x0 a3964)) h3977)) ?_
      rintro _ w3978 ⟨rfl, hn⟩
      replace HM : Mem w [] w3978 [] := HM.call hn
      refine ops_nil (at_then ?_)
      refine run_cond (b := t3976) rfl (fun hb3979 => ?_) (fun hb3979 => ?_)
      · replace ho3957 := cond_t hb3979 ho3957
        refine run_seq ?_
        refine run_region rfl ?_
        refine ox rfl rfl rfl rfl (ex_move rfl rfl) ?_
        refine ox rfl rfl rfl rfl (ex_assign rfl rfl) ?_
        refine ops_nil (at_then ?_)
        refine run_ret ?_
        refine at_block_ret ?_
        refine at_then_ret ?_
        refine at_then_ret ?_
        refine at_block_ret ?_
        refine at_then_ret ?_
        have hR := Option.some.inj ho3957
        subst hR
        have hT := thn_inl H
        have hR := Option.some.inj hT
        subst hR
        exact at_ret1 rfl rfl ⟨_, rfl, rfl, HM⟩
      · replace ho3957 := cond_f hb3979 ho3957
        refine run_skip ?_
        refine at_block ?_
        refine at_then ?_
        refine run_region rfl ?_
        refine ox rfl rfl rfl rfl (ex_add rfl rfl rfl) ?_
        refine ox rfl rfl rfl rfl (ex_move rfl rfl) ?_
        refine ops_nil ?_
        exact at_again k3971 (ρ1 := [(0, p0), (1, .func (.func 101) #[] #[]), (7, .int .i64 (x0.length : Int)), (8, .int .i64 (wrap64 (a3964 + 1)))]) (Nat.lt_succ_self _) ⟨_, ho3957, rfl, HM⟩ (Sub.cons rfl (Sub.cons rfl (Sub.cons rfl (Sub.cons rfl Sub.nil))))
    · replace ho3957 := cond_f hb3973 ho3957
      refine run_exit ?_
      refine at_then_exit ?_
      refine at_then_exit ?_
      refine at_block_exit ?_
      exact at_mid (ρ' := []) ⟨(Option.some.inj ho3957), rfl, HM⟩ Sub.nil
  · rintro _ w3980 ⟨rfl, rfl, HM⟩
    replace H := (thn_inr H)
    refine run_seq ?_
    refine run_region rfl ?_
    refine ox rfl rfl rfl rfl (ex_assign rfl rfl) ?_
    refine ops_nil (at_then ?_)
    refine run_ret ?_
    have hR := Option.some.inj H
    subst hR
    exact at_ret1 rfl rfl ⟨_, rfl, rfl, HM⟩

def slices_ContainsFunc_int64.f (k : Nat) (x0 : List Int) : Option Bool := ((slices_IndexFunc_int64.f k x0).bind fun t3983 => some (decide (0 ≤ t3983)))
theorem slices_ContainsFunc_int64.calls {k : Nat} {x0 : List Int} {p0 : Value} {w : World} (hp0 : RdS kInt w p0 x0) {r : Bool} (H : slices_ContainsFunc_int64.f k x0 = some r) :
    Calls Tryz.prog 100 ([p0, .func (.func 101) #[] #[]] : List Value).toArray w (fun e w_ => ∃ v, e = .returned v ∧ v = (.bool r) ∧ Mem w [] w_ []) := by
  have HM := Mem.start w
  refine calls_run (N := 9) Tryz.func100 rfl rfl rfl rfl ?_
  unfold slices_ContainsFunc_int64.f at H
  refine run_seq ?_
  refine run_region rfl ?_
  refine ox rfl rfl rfl rfl (ex_assign rfl rfl) ?_
  refine ops_nil (at_then (run_seq ?_))
  obtain ⟨t3983, h3984, H⟩ := bind_some H
  refine run_region rfl ?_
  refine ox rfl rfl rfl rfl (ex_move rfl rfl) ?_
  refine ox rfl rfl rfl rfl (ex_move rfl rfl) ?_
  refine od rfl rfl rfl rfl (does_callk rfl callok108 rfl (slices_IndexFunc_int64.calls (x0 := x0) (HM.rd hp0) h3984)) ?_
  rintro _ w3985 ⟨rfl, hn⟩
  replace HM : Mem w [] w3985 [] := HM.call hn
  refine ox rfl rfl rfl rfl (ex_geq rfl rfl rfl) ?_
  refine ox rfl rfl rfl rfl (ex_assign rfl rfl) ?_
  refine ops_nil (at_then ?_)
  refine run_ret ?_
  have hR := Option.some.inj H
  subst hR
  exact at_ret1 rfl rfl ⟨_, rfl, rfl, HM⟩

def impl_areKeys.f (k : Nat) (x0 : List Int) : Option Bool := ((slices_ContainsFunc_int64.f k x0).bind fun t3988 => some (!t3988))
theorem impl_areKeys.calls {k : Nat} {x0 : List Int} {p0 : Value} {w : World} (hp0 : RdS kInt w p0 x0) {r : Bool} (H : impl_areKeys.f k x0 = some r) :
    Calls Tryz.prog 80 ([p0] : List Value).toArray w (fun e w_ => ∃ v, e = .returned v ∧ v = (.bool r) ∧ Mem w [] w_ []) := by
  have HM := Mem.start w
  refine calls_run (N := 6) Tryz.func80 rfl rfl rfl rfl ?_
  unfold impl_areKeys.f at H
  refine run_seq ?_
  refine run_region rfl ?_
  refine ox rfl rfl rfl rfl (ex_assign rfl rfl) ?_
  refine ops_nil (at_then (run_seq ?_))
  obtain ⟨t3988, h3989, H⟩ := bind_some H
  refine run_region rfl ?_
  refine ox rfl rfl rfl rfl (ex_move rfl rfl) ?_
  refine od rfl rfl rfl rfl (does_callk rfl callok100 rfl (slices_ContainsFunc_int64.calls (x0 := x0) (HM.rd hp0) h3989)) ?_
  rintro _ w3990 ⟨rfl, hn⟩
  replace HM : Mem w [] w3990 [] := HM.call hn
  refine ox rfl rfl rfl rfl (ex_not rfl rfl) ?_
  refine ox rfl rfl rfl rfl (ex_assign rfl rfl) ?_
  refine ops_nil (at_then ?_)
  refine run_ret ?_
  have hR := Option.some.inj H
  subst hR
  exact at_ret1 rfl rfl ⟨_, rfl, rfl, HM⟩

def impl_isRising.l0 (x0 : List Int) : Nat → Int → Option (Bool ⊕ Unit)
  | 0, _ => none
  | k + 1, a4046 => (bif (decide (a4046 < (x0.length : Int))) then (chk (idxOk a4046 x0.length) (chk (idxOk (wrap64 (a4046 - 1)) x0.length) (bif (decide ((gt x0 a4046) ≤ (gt x0 (wrap64 (a4046 - 1))))) then some (.inl false) else impl_isRising.l0 x0 k (wrap64 (a4046 + 1))))) else some (.inr ()))
theorem impl_isRising.l0_z (x0 : List Int) (a4046 : Int) : impl_isRising.l0 x0 0 a4046 = none := rfl
theorem impl_isRising.l0_s (x0 : List Int) (k : Nat) (a4046 : Int) : impl_isRising.l0 x0 (k + 1) a4046 = (bif (decide (a4046 < (x0.length : Int))) then (chk (idxOk a4046 x0.length) (chk (idxOk (wrap64 (a4046 - 1)) x0.length) (bif (decide ((gt x0 a4046) ≤ (gt x0 (wrap64 (a4046 - 1))))) then some (.inl false) else impl_isRising.l0 x0 k (wrap64 (a4046 + 1))))) else some (.inr ())) := rfl
def impl_isRising.f (k : Nat) (x0 : List Int) : Option Bool := ((impl_isRising.l0 x0 k 1).bind fun o4038 => thn o4038 (fun r => some r) (fun _ => some true))
theorem impl_isRising.calls {k : Nat} {x0 : List Int} {p0 : Value} {w : World} (hp0 : RdS kInt w p0 x0) {r : Bool} (H : impl_isRising.f k x0 = some r) :
    Calls Tryz.prog 81 ([p0] : List Value).toArray w (fun e w_ => ∃ v, e = .returned v ∧ v = (.bool r) ∧ Mem w [] w_ []) := by
  have HM := Mem.start w
  refine calls_run (N := 20) Tryz.func81 rfl rfl rfl rfl ?_
  unfold impl_isRising.f at H
  refine run_seq ?_
  refine run_region rfl ?_
  refine ox rfl rfl rfl rfl (ex_assign rfl rfl) ?_
  refine ops_nil (at_then ?_)
  obtain ⟨o4038, ho4039, H⟩ := bind_some H
  refine run_mid (fun ρ_ w_ => Sum.inr () = o4038 ∧ ρ_ = [] ∧ Mem w [] w_ []) ?_ ?_
  · skip
    refine run_seq ?_
    refine run_region rfl ?_
    refine ox rfl rfl rfl rfl (ex_assign rfl rfl) ?_
    refine ops_nil (at_then ?_)
    refine run_block ?_
    refine run_loop (fun k_ ρ_ w_ => ∃ a4046 : Int, impl_isRising.l0 x0 k_ a4046 = some o4038 ∧ ρ_ = [(0, p0), (3, .int .i64 a4046)] ∧ Mem w [] w_ []) k (ρ1 := [(0, p0), (3, .int .i64 1)]) ⟨_, ho4039, rfl, HM⟩ (Sub.cons rfl (Sub.cons rfl Sub.nil)) ?_
    clear HM ho4039
    rintro k4053 _ w4054 ⟨a4046, ho4039, rfl, HM⟩
    obtain _ | k4053 := k4053
    · exact nomatch ((impl_isRising.l0_z x0 a4046).symm.trans ho4039)
    replace ho4039 := (impl_isRising.l0_s x0 k4053 a4046).symm.trans ho4039
    refine run_seq ?_
    refine run_seq ?_
    refine run_region rfl ?_
    refine ox rfl rfl rfl rfl (ex_move rfl rfl) ?_
    refine ox rfl rfl rfl rfl (ex_move rfl rfl) ?_
    refine ox rfl rfl rfl rfl (ex_len (d := kInt) (xs := x0) rfl rfl Tryz.underlying49 hp0) ?_
    refine ox rfl rfl rfl rfl (ex_lss rfl rfl rfl) ?_
    refine ops_nil (at_then ?_)
    refine run_cond (b := (decide (a4046 < (x0.length : Int)))) rfl (fun hb4055 => ?_) (fun hb4055 => ?_)
    · replace ho4039 := cond_t hb4055 ho4039
      refine run_skip ?_
      refine at_then ?_
      refine run_seq ?_
      refine run_block ?_
      refine run_seq ?_
      obtain ⟨e4056, ho4039⟩ := chk_some ho4039
      obtain ⟨e4058, ho4039⟩ := chk_some ho4039
      refine run_drawf (fun w_ => Mem w [] w_ []) [(0, true), (1, true), (2, true), (3, true), (4, true), (5, true), (6, true), (7, true), (8, true), (9, true)] mixed rfl rfl (by kernel_rfl) ?_
      replace HM := HM.grow (fr_drew _)
      have hS := Mem.suf (M := []) HM
      refine dp rfl rfl rfl rfl (ex_move rfl rfl) hS ?_
      refine dp rfl rfl rfl rfl (ex_move rfl rfl) hS ?_
      have hc4057 : CellsAt _ (sb p0) (so p0 + (a4046).toNat * 1) [(.int .i64 (gt x0 a4046))] := rd_plain hp0 e4056
      refine dp rfl rfl rfl rfl (ex_indexAddr (d := kInt) rfl rfl rfl Tryz.underlying49 tsz2 hp0 (idx_lo e4056) (idx_hi e4056)) hS ?_
      refine drwp_take rfl (guard_none rfl) rfl rfl (fun w_ hS_ => (ex_load1 rfl rfl Tryz.underlying2 rfl ((hS_.at_ hc4057) 0 _ rfl))) hS ?_
      refine dp rfl rfl rfl rfl (ex_move rfl rfl) hS ?_
      refine dp rfl rfl rfl rfl (ex_move rfl rfl) hS ?_
      refine dp rfl rfl rfl rfl (ex_sub rfl rfl rfl) hS ?_
      have hc4059 : CellsAt _ (sb p0) (so p0 + (wrap64 (a4046 - 1)).toNat * 1) [(.int .i64 (gt x0 (wrap64 (a4046 - 1))))] := rd_plain hp0 e4058
      refine dp rfl rfl rfl rfl (ex_indexAddr (d := kInt) rfl rfl rfl Tryz.underlying49 tsz2 hp0 (idx_lo e4058) (idx_hi e4058)) hS ?_
      refine drwp_take rfl (guard_none rfl) rfl rfl (fun w_ hS_ => (ex_load1 rfl rfl Tryz.underlying2 rfl ((hS_.at_ hc4059) 0 _ rfl))) hS ?_
      refine dp rfl rfl rfl rfl (ex_leq rfl rfl rfl) hS ?_
      refine drwp_done ?_
      refine at_then ?_
      refine run_cond (b := (decide ((gt x0 a4046) ≤ (gt x0 (wrap64 (a4046 - 1)))))) rfl (fun hb4060 => ?_) (fun hb4060 => ?_)
      · replace ho4039 := cond_t hb4060 ho4039
        refine run_seq ?_
        refine run_region rfl ?_
        refine ox rfl rfl rfl rfl (ex_assign rfl rfl) ?_
        refine ops_nil (at_then ?_)
        refine run_ret ?_
        refine at_block_ret ?_
        refine at_then_ret ?_
        refine at_then_ret ?_
        refine at_block_ret ?_
        refine at_then_ret ?_
        have hR := Option.some.inj ho4039
        subst hR
        have hT := thn_inl H
        have hR := Option.some.inj hT
        subst hR
        exact at_ret1 rfl rfl ⟨_, rfl, rfl, HM⟩
      · replace ho4039 := cond_f hb4060 ho4039
        refine run_skip ?_
        refine at_block ?_
        refine at_then ?_
        refine run_region rfl ?_
        refine ox rfl rfl rfl rfl (ex_move rfl rfl) ?_
        refine ox rfl rfl rfl rfl (ex_add rfl rfl rfl) ?_
        refine ox rfl rfl rfl rfl (ex_assign rfl rfl) ?_
        refine ops_nil ?_
        exact at_again k4053 (ρ1 := [(0, p0), (3, .int .i64 (wrap64 (a4046 + 1)))]) (Nat.lt_succ_self _) ⟨_, ho4039, rfl, HM⟩ (Sub.cons rfl (Sub.cons rfl Sub.nil))
    · replace ho4039 := cond_f hb4055 ho4039
      refine run_exit ?_
      refine at_then_exit ?_
      refine at_then_exit ?_
      refine at_block_exit ?_
      exact at_mid (ρ' := []) ⟨(Option.some.inj ho4039), rfl, HM⟩ Sub.nil
  · rintro _ w4061 ⟨rfl, rfl, HM⟩
    replace H := (thn_inr H)
    refine run_seq ?_
    refine run_region rfl ?_
    refine ox rfl rfl rfl rfl (ex_assign rfl rfl) ?_
    refine ops_nil (at_then ?_)
    refine run_ret ?_
    have hR := Option.some.inj H
    subst hR
    exact at_ret1 rfl rfl ⟨_, rfl, rfl, HM⟩

def impl_RuleFault.f (k : Nat) (x0 : Rule) : Option Int := ((impl_within.f k (x0.fKeys.length : Int) 1 3).bind fun t4069 => (bif !t4069 then some 2 else ((impl_areKeys.f k x0.fKeys).bind fun t4073 => ((bif (!(!t4073)) then impl_within.f k x0.fNeed 1 (x0.fKeys.length : Int) else some default).bind fun t4075 => ((bif (!((!t4073) || (!t4075))) then impl_isHeight.f k x0.fAfter else some default).bind fun t4077 => (bif (((!t4073) || (!t4075)) || (!t4077)) then some 3 else ((impl_isRising.f k x0.fKeys).bind fun t4089 => (bif !t4089 then some 1 else some 0))))))))
theorem impl_RuleFault.calls {k : Nat} {x0 : Rule} {p0_0 : Value} {w : World} (hp0_0 : RdS kInt w p0_0 x0.fKeys) {r : Int} (H : impl_RuleFault.f k x0 = some r) :
    Calls Tryz.prog 56 ([.agg #[p0_0, (.int .i64 x0.fNeed), (.int .i64 x0.fAfter)]] : List Value).toArray w (fun e w_ => ∃ v, e = .returned v ∧ v = (.int .i64 r) ∧ Mem w [] w_ []) := by
  have HM := Mem.start w
  refine calls_run (N := 34) Tryz.func56 rfl rfl rfl rfl ?_
  unfold impl_RuleFault.f at H
  refine run_seq ?_
  refine run_region rfl ?_
  refine od rfl rfl rfl rfl (does_box (cs := [p0_0, .int .i64 x0.fNeed, .int .i64 x0.fAfter]) rfl rfl rfl HM) ?_
  rintro _ w4068 ⟨b4065, rfl, HM⟩
  refine ox rfl rfl rfl rfl (ex_assign rfl rfl) ?_
  refine ops_nil (at_then (run_seq ?_))
  refine run_region rfl ?_
  refine ox rfl rfl rfl rfl (ex_fieldAddr (off' := 0) rfl rfl Tryz.underlying68 rfl tsz49 rfl) ?_
  refine ox rfl rfl rfl rfl (ex_load1 rfl rfl Tryz.underlying49 rfl ((HM.box_at 0 rfl) 0 _ rfl)) ?_
  refine ox rfl rfl rfl rfl (ex_len (d := kInt) (xs := x0.fKeys) rfl rfl Tryz.underlying49 hp0_0) ?_
  refine ox rfl rfl rfl rfl (ex_assign rfl rfl) ?_
  refine ops_nil (at_then (run_seq ?_))
  refine run_block ?_
  refine run_seq ?_
  obtain ⟨t4069, h4070, H⟩ := bind_some H
  refine run_region rfl ?_
  refine ox rfl rfl rfl rfl (ex_move rfl rfl) ?_
  refine od rfl rfl rfl rfl (does_callk rfl callok55 rfl (impl_within.calls (x0 := (x0.fKeys.length : Int)) (x1 := 1) (x2 := 3) h4070)) ?_
  rintro _ w4071 ⟨rfl, hn⟩
  replace HM : Mem w [] w4071 [box b4065 68 [p0_0, .int .i64 x0.fNeed, .int .i64 x0.fAfter]] := HM.call hn
  refine ox rfl rfl rfl rfl (ex_not rfl rfl) ?_
  refine ox rfl rfl rfl rfl (ex_assign rfl rfl) ?_
  refine ops_nil (at_then ?_)
  refine run_cond (b := !t4069) rfl (fun hb4072 => ?_) (fun hb4072 => ?_)
  · replace H := cond_t hb4072 H
    refine run_seq ?_
    refine run_region rfl ?_
    refine ox rfl rfl rfl rfl (ex_assign rfl rfl) ?_
    refine ops_nil (at_then ?_)
    refine run_ret ?_
    refine at_block_ret ?_
    refine at_then_ret ?_
    replace HM := (HM.front 0 rfl rfl).drop
    have hR := Option.some.inj H
    subst hR
    exact at_ret1 rfl rfl ⟨_, rfl, rfl, HM⟩
  · replace H := cond_f hb4072 H
    refine run_seq ?_
    obtain ⟨t4073, h4074, H⟩ := bind_some H
    obtain ⟨t4075, h4076, H⟩ := bind_some H
    obtain ⟨t4077, h4078, H⟩ := bind_some H
    refine run_meet (fun ρ_ w_ => ρ_ = [(1, .pointer (some ⟨b4065, 0, none⟩)), (11, .bool (((!t4073) || (!t4075)) || (!t4077)))] ∧ Mem w [] w_ [box b4065 68 [p0_0, .int .i64 x0.fNeed, .int .i64 x0.fAfter]]) ?_ ?_
    · skip
      refine run_region rfl ?_
      refine ox rfl rfl rfl rfl (ex_fieldAddr (off' := 0) rfl rfl Tryz.underlying68 rfl tsz49 rfl) ?_
      refine ox rfl rfl rfl rfl (ex_load1 rfl rfl Tryz.underlying49 rfl ((HM.box_at 0 rfl) 0 _ rfl)) ?_
      refine od rfl rfl rfl rfl (does_callk rfl callok80 rfl (impl_areKeys.calls (x0 := x0.fKeys) (HM.rd hp0_0) h4074)) ?_
      rintro _ w4079 ⟨rfl, hn⟩
      replace HM : Mem w [] w4079 [box b4065 68 [p0_0, .int .i64 x0.fNeed, .int .i64 x0.fAfter]] := HM.call hn
      refine ox rfl rfl rfl rfl (ex_not rfl rfl) ?_
      refine ox rfl rfl rfl rfl (ex_move rfl rfl) ?_
      refine bool_cases (!t4073) (fun hg4080 => ?_) (fun hg4080 => ?_)
      · skip
        refine ops_off rfl (guard_off rfl rfl rfl hg4080) rfl rfl ?_
        refine ops_off rfl (guard_off rfl rfl rfl hg4080) rfl rfl ?_
        refine ops_off rfl (guard_off rfl rfl rfl hg4080) rfl rfl ?_
        refine ops_off rfl (guard_off rfl rfl rfl hg4080) rfl rfl ?_
        refine ops_off rfl (guard_off rfl rfl rfl hg4080) rfl rfl ?_
        have hg4081 : ((!t4073) || (!t4075)) = true := by simp only [hg4080, Bool.and_true, Bool.true_and, Bool.and_false, Bool.false_and, Bool.or_true, Bool.true_or, Bool.or_false, Bool.false_or, Bool.not_true, Bool.not_false, Bool.not_not]
        refine ops_ex (v := .bool ((!t4073) || (!t4075))) rfl (guard_none rfl) rfl rfl (ex_por_t rfl rfl hg4080) ?_
        refine ox rfl rfl rfl rfl (ex_move rfl rfl) ?_
        refine ops_off rfl (guard_off rfl rfl rfl hg4081) rfl rfl ?_
        refine ops_off rfl (guard_off rfl rfl rfl hg4081) rfl rfl ?_
        refine ops_off rfl (guard_off rfl rfl rfl hg4081) rfl rfl ?_
        refine ops_off rfl (guard_off rfl rfl rfl hg4081) rfl rfl ?_
        have hg4082 : (((!t4073) || (!t4075)) || (!t4077)) = true := by simp only [hg4081, Bool.and_true, Bool.true_and, Bool.and_false, Bool.false_and, Bool.or_true, Bool.true_or, Bool.or_false, Bool.false_or, Bool.not_true, Bool.not_false, Bool.not_not]
        refine ops_ex (v := .bool (((!t4073) || (!t4075)) || (!t4077))) rfl (guard_none rfl) rfl rfl (ex_por_t rfl rfl hg4081) ?_
        refine ox rfl rfl rfl rfl (ex_assign rfl rfl) ?_
        refine ops_nil ?_
        exact at_meet [(1, .pointer (some ⟨b4065, 0, none⟩)), (11, .bool (((!t4073) || (!t4075)) || (!t4077)))] ⟨rfl, HM⟩ (Sub.cons rfl (Sub.cons rfl Sub.nil))
      · skip
        refine ops_ex rfl (guard_on rfl rfl rfl hg4080) rfl rfl (ex_fieldAddr (off' := 1) rfl rfl Tryz.underlying68 rfl tsz2 rfl) ?_
        refine ops_ex rfl (guard_on rfl rfl rfl hg4080) rfl rfl (ex_load1 rfl rfl Tryz.underlying2 rfl ((HM.box_at 0 rfl) 1 _ rfl)) ?_
        refine ops_ex rfl (guard_on rfl rfl rfl hg4080) rfl rfl (ex_move rfl rfl) ?_
        refine ops_does rfl (guard_on rfl rfl rfl hg4080) rfl rfl (does_callk rfl callok55 rfl (impl_within.calls (x0 := x0.fNeed) (x1 := 1) (x2 := (x0.fKeys.length : Int)) (cond_t (not_mk hg4080) h4076))) ?_
        rintro _ w4083 ⟨rfl, hn⟩
        replace HM : Mem w [] w4083 [box b4065 68 [p0_0, .int .i64 x0.fNeed, .int .i64 x0.fAfter]] := HM.call hn
        refine ops_ex rfl (guard_on rfl rfl rfl hg4080) rfl rfl (ex_not rfl rfl) ?_
        refine ops_ex (v := .bool ((!t4073) || (!t4075))) rfl (guard_none rfl) rfl rfl (ex_por_f rfl rfl hg4080 rfl) ?_
        refine ox rfl rfl rfl rfl (ex_move rfl rfl) ?_
        refine bool_cases ((!t4073) || (!t4075)) (fun hg4084 => ?_) (fun hg4084 => ?_)
        · skip
          refine ops_off rfl (guard_off rfl rfl rfl hg4084) rfl rfl ?_
          refine ops_off rfl (guard_off rfl rfl rfl hg4084) rfl rfl ?_
          refine ops_off rfl (guard_off rfl rfl rfl hg4084) rfl rfl ?_
          refine ops_off rfl (guard_off rfl rfl rfl hg4084) rfl rfl ?_
          have hg4085 : (((!t4073) || (!t4075)) || (!t4077)) = true := by simp only [hg4084, Bool.and_true, Bool.true_and, Bool.and_false, Bool.false_and, Bool.or_true, Bool.true_or, Bool.or_false, Bool.false_or, Bool.not_true, Bool.not_false, Bool.not_not]
          refine ops_ex (v := .bool (((!t4073) || (!t4075)) || (!t4077))) rfl (guard_none rfl) rfl rfl (ex_por_t rfl rfl hg4084) ?_
          refine ox rfl rfl rfl rfl (ex_assign rfl rfl) ?_
          refine ops_nil ?_
          exact at_meet [(1, .pointer (some ⟨b4065, 0, none⟩)), (11, .bool (((!t4073) || (!t4075)) || (!t4077)))] ⟨rfl, HM⟩ (Sub.cons rfl (Sub.cons rfl Sub.nil))
        · skip
          refine ops_ex rfl (guard_on rfl rfl rfl hg4084) rfl rfl (ex_fieldAddr (off' := 2) rfl rfl Tryz.underlying68 rfl tsz2 rfl) ?_
          refine ops_ex rfl (guard_on rfl rfl rfl hg4084) rfl rfl (ex_load1 rfl rfl Tryz.underlying2 rfl ((HM.box_at 0 rfl) 2 _ rfl)) ?_
          refine ops_does rfl (guard_on rfl rfl rfl hg4084) rfl rfl (does_callk rfl callok54 rfl (impl_isHeight.calls (x0 := x0.fAfter) (cond_t (not_mk hg4084) h4078))) ?_
          rintro _ w4086 ⟨rfl, hn⟩
          replace HM : Mem w [] w4086 [box b4065 68 [p0_0, .int .i64 x0.fNeed, .int .i64 x0.fAfter]] := HM.call hn
          refine ops_ex rfl (guard_on rfl rfl rfl hg4084) rfl rfl (ex_not rfl rfl) ?_
          refine ops_ex (v := .bool (((!t4073) || (!t4075)) || (!t4077))) rfl (guard_none rfl) rfl rfl (ex_por_f rfl rfl hg4084 rfl) ?_
          refine ox rfl rfl rfl rfl (ex_assign rfl rfl) ?_
          refine ops_nil ?_
          exact at_meet [(1, .pointer (some ⟨b4065, 0, none⟩)), (11, .bool (((!t4073) || (!t4075)) || (!t4077)))] ⟨rfl, HM⟩ (Sub.cons rfl (Sub.cons rfl Sub.nil))
    · rintro _ w4087 ⟨rfl, HM⟩
      refine at_then ?_
      refine run_cond (b := (((!t4073) || (!t4075)) || (!t4077))) rfl (fun hb4088 => ?_) (fun hb4088 => ?_)
      · replace H := cond_t hb4088 H
        refine run_seq ?_
        refine run_region rfl ?_
        refine ox rfl rfl rfl rfl (ex_assign rfl rfl) ?_
        refine ops_nil (at_then ?_)
        refine run_ret ?_
        refine at_block_ret ?_
        refine at_then_ret ?_
        replace HM := (HM.front 0 rfl rfl).drop
        have hR := Option.some.inj H
        subst hR
        exact at_ret1 rfl rfl ⟨_, rfl, rfl, HM⟩
      · replace H := cond_f hb4088 H
        refine run_seq ?_
        obtain ⟨t4089, h4090, H⟩ := bind_some H
        refine run_region rfl ?_
        refine ox rfl rfl rfl rfl (ex_fieldAddr (off' := 0) rfl rfl Tryz.underlying68 rfl tsz49 rfl) ?_
        refine ox rfl rfl rfl rfl (ex_load1 rfl rfl Tryz.underlying49 rfl ((HM.box_at 0 rfl) 0 _ rfl)) ?_
        refine od rfl rfl rfl rfl (does_callk rfl callok81 rfl (impl_isRising.calls (x0 := x0.fKeys) (HM.rd hp0_0) h4090)) ?_
        rintro _ w4091 ⟨rfl, hn⟩
        replace HM : Mem w [] w4091 [box b4065 68 [p0_0, .int .i64 x0.fNeed, .int .i64 x0.fAfter]] := HM.call hn
        refine ox rfl rfl rfl rfl (ex_not rfl rfl) ?_
        refine ox rfl rfl rfl rfl (ex_assign rfl rfl) ?_
        refine ops_nil (at_then ?_)
        refine run_cond (b := !t4089) rfl (fun hb4092 => ?_) (fun hb4092 => ?_)
        · replace H := cond_t hb4092 H
          refine run_seq ?_
          refine run_region rfl ?_
          refine ox rfl rfl rfl rfl (ex_assign rfl rfl) ?_
          refine ops_nil (at_then ?_)
          refine run_ret ?_
          refine at_block_ret ?_
          refine at_then_ret ?_
          replace HM := (HM.front 0 rfl rfl).drop
          have hR := Option.some.inj H
          subst hR
          exact at_ret1 rfl rfl ⟨_, rfl, rfl, HM⟩
        · replace H := cond_f hb4092 H
          refine run_skip ?_
          refine at_block ?_
          refine at_then ?_
          refine run_seq ?_
          refine run_region rfl ?_
          refine ox rfl rfl rfl rfl (ex_assign rfl rfl) ?_
          refine ops_nil (at_then ?_)
          refine run_ret ?_
          replace HM := (HM.front 0 rfl rfl).drop
          have hR := Option.some.inj H
          subst hR
          exact at_ret1 rfl rfl ⟨_, rfl, rfl, HM⟩

def cmp_isNaN_int64.f (k : Nat) (x0 : Int) : Option Bool := some (x0 != x0)
theorem cmp_isNaN_int64.calls {k : Nat} {x0 : Int}  {w : World}  {r : Bool} (H : cmp_isNaN_int64.f k x0 = some r) :
    Calls Tryz.prog 102 ([.int .i64 x0] : List Value).toArray w (fun e w_ => ∃ v, e = .returned v ∧ v = (.bool r) ∧ Mem w [] w_ []) := by
  have HM := Mem.start w
  refine calls_run (N := 6) Tryz.func102 rfl rfl rfl rfl ?_
  unfold cmp_isNaN_int64.f at H
  refine run_seq ?_
  refine run_region rfl ?_
  refine ox rfl rfl rfl rfl (ex_assign rfl rfl) ?_
  refine ops_nil (at_then (run_seq ?_))
  refine run_region rfl ?_
  refine ox rfl rfl rfl rfl (ex_move rfl rfl) ?_
  refine ox rfl rfl rfl rfl (ex_move rfl rfl) ?_
  refine ox rfl rfl rfl rfl (ex_neq rfl rfl rfl) ?_
  refine ox rfl rfl rfl rfl (ex_assign rfl rfl) ?_
  refine ops_nil (at_then ?_)
  refine run_ret ?_
  have hR := Option.some.inj H
  subst hR
  exact at_ret1 rfl rfl ⟨_, rfl, rfl, HM⟩

def cmp_Compare_int64.f (k : Nat) (x0 : Int) (x1 : Int) : Option Int := ((cmp_isNaN_int64.f k x0).bind fun t4122 => ((cmp_isNaN_int64.f k x1).bind fun t4125 => (bif t4122 then (bif t4125 then some 0 else some (-1)) else (bif t4125 then some 1 else (bif (decide (x0 < x1)) then some (-1) else (bif (decide (x1 < x0)) then some 1 else some 0))))))
theorem cmp_Compare_int64.calls {k : Nat} {x0 : Int} {x1 : Int}  {w : World}  {r : Int} (H : cmp_Compare_int64.f k x0 x1 = some r) :
    Calls Tryz.prog 83 ([.int .i64 x0, .int .i64 x1] : List Value).toArray w (fun e w_ => ∃ v, e = .returned v ∧ v = (.int .i64 r) ∧ Mem w [] w_ []) := by
  have HM := Mem.start w
  refine calls_run (N := 20) Tryz.func83 rfl rfl rfl rfl ?_
  unfold cmp_Compare_int64.f at H
  refine run_seq ?_
  refine run_region rfl ?_
  refine ox rfl rfl rfl rfl (ex_assign rfl rfl) ?_
  refine ops_nil (at_then (run_seq ?_))
  obtain ⟨t4122, h4123, H⟩ := bind_some H
  refine run_region rfl ?_
  refine ox rfl rfl rfl rfl (ex_move rfl rfl) ?_
  refine od rfl rfl rfl rfl (does_callk rfl callok102 rfl (cmp_isNaN_int64.calls (x0 := x0) h4123)) ?_
  rintro _ w4124 ⟨rfl, hn⟩
  replace HM : Mem w [] w4124 [] := HM.call hn
  refine ox rfl rfl rfl rfl (ex_assign rfl rfl) ?_
  refine ops_nil (at_then (run_seq ?_))
  obtain ⟨t4125, h4126, H⟩ := bind_some H
  refine run_region rfl ?_
  refine ox rfl rfl rfl rfl (ex_move rfl rfl) ?_
  refine od rfl rfl rfl rfl (does_callk rfl callok102 rfl (cmp_isNaN_int64.calls (x0 := x1) h4126)) ?_
  rintro _ w4127 ⟨rfl, hn⟩
  replace HM : Mem w [] w4127 [] := HM.call hn
  refine ox rfl rfl rfl rfl (ex_assign rfl rfl) ?_
  refine ops_nil (at_then (run_seq ?_))
  refine run_seq ?_
  refine run_region rfl ?_
  refine ox rfl rfl rfl rfl (ex_move rfl rfl) ?_
  refine ops_nil (at_then ?_)
  refine run_cond (b := t4122) rfl (fun hb4130 => ?_) (fun hb4130 => ?_)
  · replace H := cond_t hb4130 H
    refine run_seq ?_
    refine run_seq ?_
    refine run_region rfl ?_
    refine ox rfl rfl rfl rfl (ex_move rfl rfl) ?_
    refine ops_nil (at_then ?_)
    refine run_cond (b := t4125) rfl (fun hb4131 => ?_) (fun hb4131 => ?_)
    · replace H := cond_t hb4131 H
      refine run_seq ?_
      refine run_region rfl ?_
      refine ox rfl rfl rfl rfl (ex_assign rfl rfl) ?_
      refine ops_nil (at_then ?_)
      refine run_ret ?_
      refine at_then_ret ?_
      refine at_then_ret ?_
      have hR := Option.some.inj H
      subst hR
      exact at_ret1 rfl rfl ⟨_, rfl, rfl, HM⟩
    · replace H := cond_f hb4131 H
      refine run_skip ?_
      refine at_then ?_
      refine run_seq ?_
      refine run_region rfl ?_
      refine ox rfl rfl rfl rfl (ex_assign rfl rfl) ?_
      refine ops_nil (at_then ?_)
      refine run_ret ?_
      refine at_then_ret ?_
      have hR := Option.some.inj H
      subst hR
      exact at_ret1 rfl rfl ⟨_, rfl, rfl, HM⟩
  · replace H := cond_f hb4130 H
    refine run_skip ?_
    refine at_then ?_
    refine run_seq ?_
    refine run_seq ?_
    refine run_region rfl ?_
    refine ox rfl rfl rfl rfl (ex_move rfl rfl) ?_
    refine ops_nil (at_then ?_)
    refine run_cond (b := t4125) rfl (fun hb4133 => ?_) (fun hb4133 => ?_)
    · replace H := cond_t hb4133 H
      refine run_seq ?_
      refine run_region rfl ?_
      refine ox rfl rfl rfl rfl (ex_assign rfl rfl) ?_
      refine ops_nil (at_then ?_)
      refine run_ret ?_
      refine at_then_ret ?_
      have hR := Option.some.inj H
      subst hR
      exact at_ret1 rfl rfl ⟨_, rfl, rfl, HM⟩
    · replace H := cond_f hb4133 H
      refine run_skip ?_
      refine at_then ?_
      refine run_seq ?_
      refine run_seq ?_
      refine run_region rfl ?_
      refine ox rfl rfl rfl rfl (ex_move rfl rfl) ?_
      refine ox rfl rfl rfl rfl (ex_move rfl rfl) ?_
      refine ox rfl rfl rfl rfl (ex_lss rfl rfl rfl) ?_
      refine ops_nil (at_then ?_)
      refine run_cond (b := (decide (x0 < x1))) rfl (fun hb4135 => ?_) (fun hb4135 => ?_)
      · replace H := cond_t hb4135 H
        refine run_seq ?_
        refine run_region rfl ?_
        refine ox rfl rfl rfl rfl (ex_assign rfl rfl) ?_
        refine ops_nil (at_then ?_)
        refine run_ret ?_
        refine at_then_ret ?_
        have hR := Option.some.inj H
        subst hR
        exact at_ret1 rfl rfl ⟨_, rfl, rfl, HM⟩
      · replace H := cond_f hb4135 H
        refine run_skip ?_
        refine at_then ?_
        refine run_seq ?_
        refine run_seq ?_
        refine run_region rfl ?_
        refine ox rfl rfl rfl rfl (ex_move rfl rfl) ?_
        refine ox rfl rfl rfl rfl (ex_move rfl rfl) ?_
        refine ox rfl rfl rfl rfl (ex_gtr rfl rfl rfl) ?_
        refine ops_nil (at_then ?_)
        refine run_cond (b := (decide (x1 < x0))) rfl (fun hb4136 => ?_) (fun hb4136 => ?_)
        · replace H := cond_t hb4136 H
          refine run_seq ?_
          refine run_region rfl ?_
          refine ox rfl rfl rfl rfl (ex_assign rfl rfl) ?_
          refine ops_nil (at_then ?_)
          refine run_ret ?_
          refine at_then_ret ?_
          have hR := Option.some.inj H
          subst hR
          exact at_ret1 rfl rfl ⟨_, rfl, rfl, HM⟩
        · replace H := cond_f hb4136 H
          refine run_skip ?_
          refine at_then ?_
          refine run_seq ?_
          refine run_region rfl ?_
          refine ox rfl rfl rfl rfl (ex_assign rfl rfl) ?_
          refine ops_nil (at_then ?_)
          refine run_ret ?_
          have hR := Option.some.inj H
          subst hR
          exact at_ret1 rfl rfl ⟨_, rfl, rfl, HM⟩

def cmp_Or_int.l0 (x0 : List Int) : Nat → Int → Option (Int ⊕ Unit)
  | 0, _ => none
  | k + 1, a4178 => (bif (decide (a4178 < (x0.length : Int))) then (chk (idxOk a4178 x0.length) (bif ((gt x0 a4178) != 0) then some (.inl (gt x0 a4178)) else cmp_Or_int.l0 x0 k (wrap64 (a4178 + 1)))) else some (.inr ()))
theorem cmp_Or_int.l0_z (x0 : List Int) (a4178 : Int) : cmp_Or_int.l0 x0 0 a4178 = none := rfl
theorem cmp_Or_int.l0_s (x0 : List Int) (k : Nat) (a4178 : Int) : cmp_Or_int.l0 x0 (k + 1) a4178 = (bif (decide (a4178 < (x0.length : Int))) then (chk (idxOk a4178 x0.length) (bif ((gt x0 a4178) != 0) then some (.inl (gt x0 a4178)) else cmp_Or_int.l0 x0 k (wrap64 (a4178 + 1)))) else some (.inr ())) := rfl
def cmp_Or_int.f (k : Nat) (x0 : List Int) : Option Int := ((cmp_Or_int.l0 x0 k 0).bind fun o4172 => thn o4172 (fun r => some r) (fun _ => some 0))
theorem cmp_Or_int.calls {k : Nat} {x0 : List Int} {p0 : Value} {w : World} (hp0 : RdS kInt w p0 x0) {r : Int} (H : cmp_Or_int.f k x0 = some r) :
    Calls Tryz.prog 82 ([p0] : List Value).toArray w (fun e w_ => ∃ v, e = .returned v ∧ v = (.int .i64 r) ∧ Mem w [] w_ []) := by
  have HM := Mem.start w
  refine calls_run (N := 18) Tryz.func82 rfl rfl rfl rfl ?_
  unfold cmp_Or_int.f at H
  refine run_seq ?_
  refine run_region rfl ?_
  refine ox rfl rfl rfl rfl (ex_assign rfl rfl) ?_
  refine ops_nil (at_then (run_seq ?_))
  refine run_region rfl ?_
  refine ox rfl rfl rfl rfl (ex_assign rfl rfl) ?_
  refine ops_nil (at_then ?_)
  obtain ⟨o4172, ho4173, H⟩ := bind_some H
  refine run_mid (fun ρ_ w_ => Sum.inr () = o4172 ∧ ρ_ = [(3, .int .i64 0)] ∧ Mem w [] w_ []) ?_ ?_
  · skip
    refine run_seq ?_
    refine run_region rfl ?_
    refine ox rfl rfl rfl rfl (ex_move rfl rfl) ?_
    refine ox rfl rfl rfl rfl (ex_len (d := kInt) (xs := x0) rfl rfl Tryz.underlying130 hp0) ?_
    refine ox rfl rfl rfl rfl (ex_move rfl rfl) ?_
    refine ops_nil (at_then ?_)
    refine run_block ?_
    refine run_loop (fun k_ ρ_ w_ => ∃ a4178 : Int, cmp_Or_int.l0 x0 k_ a4178 = some o4172 ∧ ρ_ = [(3, .int .i64 0), (6, p0), (7, .int .i64 (x0.length : Int)), (8, .int .i64 a4178)] ∧ Mem w [] w_ []) k (ρ1 := [(3, .int .i64 0), (6, p0), (7, .int .i64 (x0.length : Int)), (8, .int .i64 0)]) ⟨_, ho4173, rfl, HM⟩ (Sub.cons rfl (Sub.cons rfl (Sub.cons rfl (Sub.cons rfl Sub.nil)))) ?_
    clear HM ho4173
    rintro k4183 _ w4184 ⟨a4178, ho4173, rfl, HM⟩
    obtain _ | k4183 := k4183
    · exact nomatch ((cmp_Or_int.l0_z x0 a4178).symm.trans ho4173)
    replace ho4173 := (cmp_Or_int.l0_s x0 k4183 a4178).symm.trans ho4173
    refine run_seq ?_
    refine run_region rfl ?_
    refine ox rfl rfl rfl rfl (ex_lss rfl rfl rfl) ?_
    refine ops_nil (at_then (run_seq ?_))
    refine run_cond (b := (decide (a4178 < (x0.length : Int)))) rfl (fun hb4185 => ?_) (fun hb4185 => ?_)
    · replace ho4173 := cond_t hb4185 ho4173
      refine run_skip ?_
      refine at_then ?_
      refine run_seq ?_
      refine run_block ?_
      refine run_seq ?_
      obtain ⟨e4186, ho4173⟩ := chk_some ho4173
      refine run_region rfl ?_
      have hc4187 : CellsAt _ (sb p0) (so p0 + (a4178).toNat * 1) [(.int .i64 (gt x0 a4178))] := rd_plain hp0 e4186
      refine ox rfl rfl rfl rfl (ex_indexAddr (d := kInt) rfl rfl rfl Tryz.underlying130 tsz3 hp0 (idx_lo e4186) (idx_hi e4186)) ?_
      refine ox rfl rfl rfl rfl (ex_load1 rfl rfl Tryz.underlying3 rfl ((HM.at_ hc4187) 0 _ rfl)) ?_
      refine ox rfl rfl rfl rfl (ex_assign rfl rfl) ?_
      refine ops_nil (at_then (run_seq ?_))
      refine run_region rfl ?_
      refine ox rfl rfl rfl rfl (ex_move rfl rfl) ?_
      refine ox rfl rfl rfl rfl (ex_move rfl rfl) ?_
      refine ox rfl rfl rfl rfl (ex_neq rfl rfl rfl) ?_
      refine ops_nil (at_then ?_)
      refine run_cond (b := ((gt x0 a4178) != 0)) rfl (fun hb4188 => ?_) (fun hb4188 => ?_)
      · replace ho4173 := cond_t hb4188 ho4173
        refine run_seq ?_
        refine run_region rfl ?_
        refine ox rfl rfl rfl rfl (ex_move rfl rfl) ?_
        refine ox rfl rfl rfl rfl (ex_assign rfl rfl) ?_
        refine ops_nil (at_then ?_)
        refine run_ret ?_
        refine at_block_ret ?_
        refine at_then_ret ?_
        refine at_then_ret ?_
        refine at_block_ret ?_
        refine at_then_ret ?_
        have hR := Option.some.inj ho4173
        subst hR
        have hT := thn_inl H
        have hR := Option.some.inj hT
        subst hR
        exact at_ret1 rfl rfl ⟨_, rfl, rfl, HM⟩
      · replace ho4173 := cond_f hb4188 ho4173
        refine run_skip ?_
        refine at_block ?_
        refine at_then ?_
        refine run_region rfl ?_
        refine ox rfl rfl rfl rfl (ex_add rfl rfl rfl) ?_
        refine ox rfl rfl rfl rfl (ex_move rfl rfl) ?_
        refine ops_nil ?_
        exact at_again k4183 (ρ1 := [(3, .int .i64 0), (6, p0), (7, .int .i64 (x0.length : Int)), (8, .int .i64 (wrap64 (a4178 + 1)))]) (Nat.lt_succ_self _) ⟨_, ho4173, rfl, HM⟩ (Sub.cons rfl (Sub.cons rfl (Sub.cons rfl (Sub.cons rfl Sub.nil))))
    · replace ho4173 := cond_f hb4185 ho4173
      refine run_exit ?_
      refine at_then_exit ?_
      refine at_then_exit ?_
      refine at_block_exit ?_
      exact at_mid (ρ' := [(3, .int .i64 0)]) ⟨(Option.some.inj ho4173), rfl, HM⟩ (Sub.cons rfl Sub.nil)
  · rintro _ w4189 ⟨rfl, rfl, HM⟩
    replace H := (thn_inr H)
    refine run_seq ?_
    refine run_region rfl ?_
    refine ox rfl rfl rfl rfl (ex_move rfl rfl) ?_
    refine ox rfl rfl rfl rfl (ex_assign rfl rfl) ?_
    refine ops_nil (at_then ?_)
    refine run_ret ?_
    have hR := Option.some.inj H
    subst hR
    exact at_ret1 rfl rfl ⟨_, rfl, rfl, HM⟩

def impl_compareRefs.f (k : Nat) (x0 : Ref) (x1 : Ref) : Option Int := ((cmp_Compare_int64.f k x0.fTx x1.fTx).bind fun t4200 => ((cmp_Compare_int64.f k x0.fAt x1.fAt).bind fun t4202 => ((cmp_Or_int.f k ([t4200, t4202] : List Int)).bind fun t4207 => some t4207)))
theorem impl_compareRefs.calls {k : Nat} {x0 : Ref} {x1 : Ref}  {w : World}  {r : Int} (H : impl_compareRefs.f k x0 x1 = some r) :
    Calls Tryz.prog 57 ([.agg #[(.int .i64 x0.fTx), (.int .i64 x0.fAt)], .agg #[(.int .i64 x1.fTx), (.int .i64 x1.fAt)]] : List Value).toArray w (fun e w_ => ∃ v, e = .returned v ∧ v = (.int .i64 r) ∧ Mem w [] w_ []) := by
  have HM := Mem.start w
  refine calls_run (N := 17) Tryz.func57 rfl rfl rfl rfl ?_
  unfold impl_compareRefs.f at H
  refine run_seq ?_
  refine run_region rfl ?_
  refine od rfl rfl rfl rfl (does_box (cs := [.int .i64 x0.fTx, .int .i64 x0.fAt]) rfl rfl rfl HM) ?_
  rintro _ w4198 ⟨b4192, rfl, HM⟩
  refine od rfl rfl rfl rfl (does_box (cs := [.int .i64 x1.fTx, .int .i64 x1.fAt]) rfl rfl rfl HM) ?_
  rintro _ w4199 ⟨b4195, rfl, HM⟩
  refine ox rfl rfl rfl rfl (ex_assign rfl rfl) ?_
  refine ops_nil (at_then (run_seq ?_))
  obtain ⟨t4200, h4201, H⟩ := bind_some H
  obtain ⟨t4202, h4203, H⟩ := bind_some H
  obtain ⟨t4207, h4208, H⟩ := bind_some H
  refine run_drawf (fun w_ => Mem w [] w_ [box b4195 66 [.int .i64 x1.fTx, .int .i64 x1.fAt], box b4192 66 [.int .i64 x0.fTx, .int .i64 x0.fAt]]) [(0, true), (1, true), (2, true), (3, true), (5, true), (6, true), (7, true), (8, true), (4, false), (9, false), (10, false), (11, false), (12, true)] mixed rfl rfl (by kernel_rfl) ?_
  replace HM := HM.grow (fr_drew _)
  have hS := Mem.suf (M := []) HM
  refine dp rfl rfl rfl rfl (ex_fieldAddr (off' := 0) rfl rfl Tryz.underlying66 rfl tsz2 rfl) hS ?_
  refine drwp_take rfl (guard_none rfl) rfl rfl (fun w_ hS_ => (ex_load1 rfl rfl Tryz.underlying2 rfl ((hS_.box_at 1 rfl) 0 _ rfl))) hS ?_
  refine dp rfl rfl rfl rfl (ex_fieldAddr (off' := 0) rfl rfl Tryz.underlying66 rfl tsz2 rfl) hS ?_
  refine drwp_take rfl (guard_none rfl) rfl rfl (fun w_ hS_ => (ex_load1 rfl rfl Tryz.underlying2 rfl ((hS_.box_at 0 rfl) 0 _ rfl))) hS ?_
  refine dp rfl rfl rfl rfl (ex_fieldAddr (off' := 1) rfl rfl Tryz.underlying66 rfl tsz2 rfl) hS ?_
  refine drwp_take rfl (guard_none rfl) rfl rfl (fun w_ hS_ => (ex_load1 rfl rfl Tryz.underlying2 rfl ((hS_.box_at 1 rfl) 1 _ rfl))) hS ?_
  refine dp rfl rfl rfl rfl (ex_fieldAddr (off' := 1) rfl rfl Tryz.underlying66 rfl tsz2 rfl) hS ?_
  refine drwp_take rfl (guard_none rfl) rfl rfl (fun w_ hS_ => (ex_load1 rfl rfl Tryz.underlying2 rfl ((hS_.box_at 0 rfl) 1 _ rfl))) hS ?_
  refine drwp_one rfl (guard_none rfl) rfl rfl (does_callk rfl callok83 rfl (cmp_Compare_int64.calls (x0 := x0.fTx) (x1 := x1.fTx) h4201)) ?_
  rintro _ w4209 ⟨rfl, hn⟩
  replace HM : Mem w [] w4209 [box b4195 66 [.int .i64 x1.fTx, .int .i64 x1.fAt], box b4192 66 [.int .i64 x0.fTx, .int .i64 x0.fAt]] := HM.call hn
  have hS := Mem.suf (M := []) HM
  refine ⟨hS, ?_⟩
  refine drwp_one rfl (guard_none rfl) rfl rfl (does_callk rfl callok83 rfl (cmp_Compare_int64.calls (x0 := x0.fAt) (x1 := x1.fAt) h4203)) ?_
  rintro _ w4210 ⟨rfl, hn⟩
  replace HM : Mem w [] w4210 [box b4195 66 [.int .i64 x1.fTx, .int .i64 x1.fAt], box b4192 66 [.int .i64 x0.fTx, .int .i64 x0.fAt]] := HM.call hn
  have hS := Mem.suf (M := []) HM
  refine ⟨hS, ?_⟩
  refine drwp_one rfl (guard_none rfl) rfl rfl (does_lit (e := 3) (cs := [.int .i64 t4200, .int .i64 t4202]) (xs := ([t4200, t4202] : List Int)) kInt rfl rfl (fun _ => by kernel_rfl) rfl rfl (fun _ _ h => by have h' : _ = [] := h; subst h'; exact (Elems.cons (d := kInt) (x := t4200) (f := []) ⟨rfl, rfl⟩ (Elems.cons (d := kInt) (x := t4202) (f := []) ⟨rfl, rfl⟩ .nil))) HM.emp) ?_
  rintro v4204 w4211 HM
  have hS := Mem.suf (M := [own kInt 3 v4204 ([t4200, t4202] : List Int)]) HM
  refine ⟨hS, ?_⟩
  refine drwp_one rfl (guard_none rfl) rfl rfl (does_callk rfl callok82 rfl (cmp_Or_int.calls (x0 := ([t4200, t4202] : List Int)) (HM.own_rd 0 rfl) h4208)) ?_
  rintro _ w4212 ⟨rfl, hn⟩
  replace HM : Mem w [] w4212 [own kInt 3 v4204 ([t4200, t4202] : List Int), box b4195 66 [.int .i64 x1.fTx, .int .i64 x1.fAt], box b4192 66 [.int .i64 x0.fTx, .int .i64 x0.fAt]] := HM.call hn
  have hS := Mem.suf (M := [own kInt 3 v4204 ([t4200, t4202] : List Int)]) HM
  refine ⟨hS, ?_⟩
  refine dp rfl rfl rfl rfl (ex_assign rfl rfl) hS ?_
  refine drwp_done ?_
  refine at_then ?_
  refine run_ret ?_
  replace HM := (HM.front 0 rfl rfl).drop
  replace HM := (HM.front 0 rfl rfl).drop
  replace HM := (HM.front 0 rfl rfl).drop
  have hR := Option.some.inj H
  subst hR
  exact at_ret1 rfl rfl ⟨_, rfl, rfl, HM⟩

def impl_CoinsFault.l0 (x0 : List Coin) : Nat → Int → Option (Int ⊕ Unit)
  | 0, _ => none
  | k + 1, a4434 => (bif (decide (a4434 < (x0.length : Int))) then (chk (idxOk a4434 x0.length) ((impl_isRef.f k ((gt x0 a4434).fRef)).bind fun t4489 => ((bif (!(!t4489)) then impl_isHeight.f k ((gt x0 a4434).fHeight) else some default).bind fun t4491 => ((bif (!((!t4489) || (!t4491))) then impl_within.f k ((gt x0 a4434).fOut.fValue) 1 1000000 else some default).bind fun t4493 => (bif (((!t4489) || (!t4491)) || (!t4493)) then some (.inl 3) else ((impl_RuleFault.f k ((gt x0 a4434).fOut.fRule)).bind fun t4508 => (bif (t4508 != 0) then some (.inl t4508) else (chk (!(decide (0 < a4434)) || (idxOk (wrap64 (a4434 - 1)) x0.length)) ((bif (decide (0 < a4434)) then impl_compareRefs.f k ((gt x0 (wrap64 (a4434 - 1))).fRef) ((gt x0 a4434).fRef) else some default).bind fun t4516 => (bif ((decide (0 < a4434)) && (decide (0 ≤ t4516))) then some (.inl 1) else impl_CoinsFault.l0 x0 k (wrap64 (a4434 + 1)))))))))))) else some (.inr ()))
theorem impl_CoinsFault.l0_z (x0 : List Coin) (a4434 : Int) : impl_CoinsFault.l0 x0 0 a4434 = none := rfl
theorem impl_CoinsFault.l0_s (x0 : List Coin) (k : Nat) (a4434 : Int) : impl_CoinsFault.l0 x0 (k + 1) a4434 = (bif (decide (a4434 < (x0.length : Int))) then (chk (idxOk a4434 x0.length) ((impl_isRef.f k ((gt x0 a4434).fRef)).bind fun t4489 => ((bif (!(!t4489)) then impl_isHeight.f k ((gt x0 a4434).fHeight) else some default).bind fun t4491 => ((bif (!((!t4489) || (!t4491))) then impl_within.f k ((gt x0 a4434).fOut.fValue) 1 1000000 else some default).bind fun t4493 => (bif (((!t4489) || (!t4491)) || (!t4493)) then some (.inl 3) else ((impl_RuleFault.f k ((gt x0 a4434).fOut.fRule)).bind fun t4508 => (bif (t4508 != 0) then some (.inl t4508) else (chk (!(decide (0 < a4434)) || (idxOk (wrap64 (a4434 - 1)) x0.length)) ((bif (decide (0 < a4434)) then impl_compareRefs.f k ((gt x0 (wrap64 (a4434 - 1))).fRef) ((gt x0 a4434).fRef) else some default).bind fun t4516 => (bif ((decide (0 < a4434)) && (decide (0 ≤ t4516))) then some (.inl 1) else impl_CoinsFault.l0 x0 k (wrap64 (a4434 + 1)))))))))))) else some (.inr ())) := rfl
def impl_CoinsFault.f (k : Nat) (x0 : List Coin) : Option Int := (bif (decide (40 < (x0.length : Int))) then some 2 else ((impl_CoinsFault.l0 x0 k 0).bind fun o4397 => thn o4397 (fun r => some r) (fun _ => some 0)))
theorem impl_CoinsFault.calls {k : Nat} {x0 : List Coin} {p0 : Value} {w : World} (hp0 : RdS kCoin w p0 x0) {r : Int} (H : impl_CoinsFault.f k x0 = some r) :
    Calls Tryz.prog 30 ([p0] : List Value).toArray w (fun e w_ => ∃ v, e = .returned v ∧ v = (.int .i64 r) ∧ Mem w [] w_ []) := by
  have HM := Mem.start w
  refine calls_run (N := 55) Tryz.func30 rfl rfl rfl rfl ?_
  unfold impl_CoinsFault.f at H
  refine run_seq ?_
  refine run_region rfl ?_
  refine ox rfl rfl rfl rfl (ex_assign rfl rfl) ?_
  refine ops_nil (at_then (run_seq ?_))
  refine run_seq ?_
  refine run_region rfl ?_
  refine ox rfl rfl rfl rfl (ex_move rfl rfl) ?_
  refine ox rfl rfl rfl rfl (ex_len (d := kCoin) (xs := x0) rfl rfl Tryz.underlying29 hp0) ?_
  refine ox rfl rfl rfl rfl (ex_gtr rfl rfl rfl) ?_
  refine ops_nil (at_then ?_)
  refine run_cond (b := (decide (40 < (x0.length : Int)))) rfl (fun hb4290 => ?_) (fun hb4290 => ?_)
  · replace H := cond_t hb4290 H
    refine run_seq ?_
    refine run_region rfl ?_
    refine ox rfl rfl rfl rfl (ex_assign rfl rfl) ?_
    refine ops_nil (at_then ?_)
    refine run_ret ?_
    refine at_then_ret ?_
    have hR := Option.some.inj H
    subst hR
    exact at_ret1 rfl rfl ⟨_, rfl, rfl, HM⟩
  · replace H := cond_f hb4290 H
    refine run_skip ?_
    refine at_then ?_
    obtain ⟨o4397, ho4398, H⟩ := bind_some H
    refine run_mid (fun ρ_ w_ => Sum.inr () = o4397 ∧ ρ_ = [] ∧ Mem w [] w_ []) ?_ ?_
    · skip
      refine run_seq ?_
      refine run_region rfl ?_
      refine ox rfl rfl rfl rfl (ex_move rfl rfl) ?_
      refine ox rfl rfl rfl rfl (ex_len (d := kCoin) (xs := x0) rfl rfl Tryz.underlying29 hp0) ?_
      refine ox rfl rfl rfl rfl (ex_move rfl rfl) ?_
      refine ops_nil (at_then ?_)
      refine run_block ?_
      refine run_loop (fun k_ ρ_ w_ => ∃ a4434 : Int, impl_CoinsFault.l0 x0 k_ a4434 = some o4397 ∧ ρ_ = [(0, p0), (9, p0), (10, .int .i64 (x0.length : Int)), (11, .int .i64 a4434)] ∧ Mem w [] w_ []) k (ρ1 := [(0, p0), (9, p0), (10, .int .i64 (x0.length : Int)), (11, .int .i64 0)]) ⟨_, ho4398, rfl, HM⟩ (Sub.cons rfl (Sub.cons rfl (Sub.cons rfl (Sub.cons rfl Sub.nil)))) ?_
      clear HM ho4398
      rintro k4470 _ w4471 ⟨a4434, ho4398, rfl, HM⟩
      obtain _ | k4470 := k4470
      · exact nomatch ((impl_CoinsFault.l0_z x0 a4434).symm.trans ho4398)
      replace ho4398 := (impl_CoinsFault.l0_s x0 k4470 a4434).symm.trans ho4398
      refine run_seq ?_
      refine run_region rfl ?_
      refine ox rfl rfl rfl rfl (ex_lss rfl rfl rfl) ?_
      refine ops_nil (at_then (run_seq ?_))
      refine run_cond (b := (decide (a4434 < (x0.length : Int)))) rfl (fun hb4472 => ?_) (fun hb4472 => ?_)
      · replace ho4398 := cond_t hb4472 ho4398
        refine run_skip ?_
        refine at_then ?_
        refine run_seq ?_
        refine run_block ?_
        refine run_seq ?_
        obtain ⟨e4473, ho4398⟩ := chk_some ho4398
        refine run_region rfl ?_
        refine ox rfl rfl rfl rfl (ex_move rfl rfl) ?_
        obtain ⟨kv4475, hc4474, hk4476⟩ : ∃ u, CellsAt _ (sb p0) (so p0 + (a4434).toNat * 8) [(.int .i64 ((gt x0 a4434).fRef.fTx)), (.int .i64 ((gt x0 a4434).fRef.fAt)), (.int .i64 ((gt x0 a4434).fOut.fValue)), u, (.int .i64 ((gt x0 a4434).fOut.fRule.fNeed)), (.int .i64 ((gt x0 a4434).fOut.fRule.fAfter)), (.int .i64 ((gt x0 a4434).fHeight)), (.bool ((gt x0 a4434).fMined))] ∧ RdS kInt _ u ((gt x0 a4434).fOut.fRule.fKeys) := rd_with1 hp0 e4473
        refine ox rfl rfl rfl rfl (ex_indexAddr (d := kCoin) rfl rfl rfl Tryz.underlying29 tsz72 hp0 (idx_lo e4473) (idx_hi e4473)) ?_
        refine ox rfl rfl rfl rfl (ex_loadN (cs := [(.int .i64 ((gt x0 a4434).fRef.fTx)), (.int .i64 ((gt x0 a4434).fRef.fAt)), (.int .i64 ((gt x0 a4434).fOut.fValue)), kv4475, (.int .i64 ((gt x0 a4434).fOut.fRule.fNeed)), (.int .i64 ((gt x0 a4434).fOut.fRule.fAfter)), (.int .i64 ((gt x0 a4434).fHeight)), (.bool ((gt x0 a4434).fMined))]) rfl rfl Tryz.underlying72 rfl tsz72 rfl ((HM.at_ hc4474).sub 0 8 rfl)) ?_
        refine od rfl rfl rfl rfl (does_alloc (cs := [.int .i64 0, .int .i64 0, .int .i64 0, .slice none 0 0, .int .i64 0, .int .i64 0, .int .i64 0, .bool false]) rfl tz72 rfl HM) ?_
        rintro _ w4480 ⟨b4477, rfl, HM⟩
        refine ox rfl rfl rfl rfl (ex_assign rfl rfl) ?_
        refine odS rfl rfl rfl (does_store (vs := [.int .i64 ((gt x0 a4434).fRef.fTx), .int .i64 ((gt x0 a4434).fRef.fAt), .int .i64 ((gt x0 a4434).fOut.fValue), kv4475, .int .i64 ((gt x0 a4434).fOut.fRule.fNeed), .int .i64 ((gt x0 a4434).fOut.fRule.fAfter), .int .i64 ((gt x0 a4434).fHeight), .bool ((gt x0 a4434).fMined)]) (cs' := [.int .i64 ((gt x0 a4434).fRef.fTx), .int .i64 ((gt x0 a4434).fRef.fAt), .int .i64 ((gt x0 a4434).fOut.fValue), kv4475, .int .i64 ((gt x0 a4434).fOut.fRule.fNeed), .int .i64 ((gt x0 a4434).fOut.fRule.fAfter), .int .i64 ((gt x0 a4434).fHeight), .bool ((gt x0 a4434).fMined)]) rfl rfl rfl rfl tsz72 (Ones.int (Ones.int (Ones.int (Ones.rd hk4476 (Ones.int (Ones.int (Ones.int (Ones.bool Ones.nil)))))))) rfl rfl HM) ?_
        rintro w4481 HM
        refine ops_nil (at_then (run_seq ?_))
        refine run_seq ?_
        obtain ⟨t4489, h4490, ho4398⟩ := bind_some ho4398
        obtain ⟨t4491, h4492, ho4398⟩ := bind_some ho4398
        obtain ⟨t4493, h4494, ho4398⟩ := bind_some ho4398
        refine run_meet (fun ρ_ w_ => ρ_ = [(0, p0), (9, p0), (10, .int .i64 (x0.length : Int)), (11, .int .i64 a4434), (4, .pointer (some ⟨b4477, 0, none⟩)), (3, .int .i64 a4434), (32, .bool (((!t4489) || (!t4491)) || (!t4493)))] ∧ Mem w [] w_ [box b4477 72 [.int .i64 ((gt x0 a4434).fRef.fTx), .int .i64 ((gt x0 a4434).fRef.fAt), .int .i64 ((gt x0 a4434).fOut.fValue), kv4475, .int .i64 ((gt x0 a4434).fOut.fRule.fNeed), .int .i64 ((gt x0 a4434).fOut.fRule.fAfter), .int .i64 ((gt x0 a4434).fHeight), .bool ((gt x0 a4434).fMined)]]) ?_ ?_
        · skip
          refine run_region rfl ?_
          refine ox rfl rfl rfl rfl (ex_fieldAddr (off' := 0) rfl rfl Tryz.underlying72 rfl tsz66 rfl) ?_
          refine ox rfl rfl rfl rfl (ex_loadN (cs := [(.int .i64 ((gt x0 a4434).fRef.fTx)), (.int .i64 ((gt x0 a4434).fRef.fAt))]) rfl rfl Tryz.underlying66 rfl tsz66 rfl ((HM.box_at 0 rfl).sub 0 2 rfl)) ?_
          refine od rfl rfl rfl rfl (does_callk rfl callok53 rfl (impl_isRef.calls (x0 := (gt x0 a4434).fRef) h4490)) ?_
          rintro _ w4495 ⟨rfl, hn⟩
          replace HM : Mem w [] w4495 [box b4477 72 [.int .i64 ((gt x0 a4434).fRef.fTx), .int .i64 ((gt x0 a4434).fRef.fAt), .int .i64 ((gt x0 a4434).fOut.fValue), kv4475, .int .i64 ((gt x0 a4434).fOut.fRule.fNeed), .int .i64 ((gt x0 a4434).fOut.fRule.fAfter), .int .i64 ((gt x0 a4434).fHeight), .bool ((gt x0 a4434).fMined)]] := HM.call hn
          refine ox rfl rfl rfl rfl (ex_not rfl rfl) ?_
          refine ox rfl rfl rfl rfl (ex_move rfl rfl) ?_
          refine bool_cases (!t4489) (fun hg4496 => ?_) (fun hg4496 => ?_)
          · skip
            refine ops_off rfl (guard_off rfl rfl rfl hg4496) rfl rfl ?_
            refine ops_off rfl (guard_off rfl rfl rfl hg4496) rfl rfl ?_
            refine ops_off rfl (guard_off rfl rfl rfl hg4496) rfl rfl ?_
            refine ops_off rfl (guard_off rfl rfl rfl hg4496) rfl rfl ?_
            have hg4497 : ((!t4489) || (!t4491)) = true := by simp only [hg4496, Bool.and_true, Bool.true_and, Bool.and_false, Bool.false_and, Bool.or_true, Bool.true_or, Bool.or_false, Bool.false_or, Bool.not_true, Bool.not_false, Bool.not_not]
            refine ops_ex (v := .bool ((!t4489) || (!t4491))) rfl (guard_none rfl) rfl rfl (ex_por_t rfl rfl hg4496) ?_
            refine ox rfl rfl rfl rfl (ex_move rfl rfl) ?_
            refine ops_off rfl (guard_off rfl rfl rfl hg4497) rfl rfl ?_
            refine ops_off rfl (guard_off rfl rfl rfl hg4497) rfl rfl ?_
            refine ops_off rfl (guard_off rfl rfl rfl hg4497) rfl rfl ?_
            refine ops_off rfl (guard_off rfl rfl rfl hg4497) rfl rfl ?_
            refine ops_off rfl (guard_off rfl rfl rfl hg4497) rfl rfl ?_
            have hg4498 : (((!t4489) || (!t4491)) || (!t4493)) = true := by simp only [hg4497, Bool.and_true, Bool.true_and, Bool.and_false, Bool.false_and, Bool.or_true, Bool.true_or, Bool.or_false, Bool.false_or, Bool.not_true, Bool.not_false, Bool.not_not]
            refine ops_ex (v := .bool (((!t4489) || (!t4491)) || (!t4493))) rfl (guard_none rfl) rfl rfl (ex_por_t rfl rfl hg4497) ?_
            refine ops_nil ?_
            exact at_meet [(0, p0), (9, p0), (10, .int .i64 (x0.length : Int)), (11, .int .i64 a4434), (4, .pointer (some ⟨b4477, 0, none⟩)), (3, .int .i64 a4434), (32, .bool (((!t4489) || (!t4491)) || (!t4493)))] ⟨rfl, HM⟩ (Sub.cons rfl (Sub.cons rfl (Sub.cons rfl (Sub.cons rfl (Sub.cons rfl (Sub.cons rfl (Sub.cons rfl Sub.nil)))))))
          · skip
            refine ops_ex rfl (guard_on rfl rfl rfl hg4496) rfl rfl (ex_fieldAddr (off' := 6) rfl rfl Tryz.underlying72 rfl tsz2 rfl) ?_
            refine ops_ex rfl (guard_on rfl rfl rfl hg4496) rfl rfl (ex_load1 rfl rfl Tryz.underlying2 rfl ((HM.box_at 0 rfl) 6 _ rfl)) ?_
            refine ops_does rfl (guard_on rfl rfl rfl hg4496) rfl rfl (does_callk rfl callok54 rfl (impl_isHeight.calls (x0 := (gt x0 a4434).fHeight) (cond_t (not_mk hg4496) h4492))) ?_
            rintro _ w4499 ⟨rfl, hn⟩
            replace HM : Mem w [] w4499 [box b4477 72 [.int .i64 ((gt x0 a4434).fRef.fTx), .int .i64 ((gt x0 a4434).fRef.fAt), .int .i64 ((gt x0 a4434).fOut.fValue), kv4475, .int .i64 ((gt x0 a4434).fOut.fRule.fNeed), .int .i64 ((gt x0 a4434).fOut.fRule.fAfter), .int .i64 ((gt x0 a4434).fHeight), .bool ((gt x0 a4434).fMined)]] := HM.call hn
            refine ops_ex rfl (guard_on rfl rfl rfl hg4496) rfl rfl (ex_not rfl rfl) ?_
            refine ops_ex (v := .bool ((!t4489) || (!t4491))) rfl (guard_none rfl) rfl rfl (ex_por_f rfl rfl hg4496 rfl) ?_
            refine ox rfl rfl rfl rfl (ex_move rfl rfl) ?_
            refine bool_cases ((!t4489) || (!t4491)) (fun hg4500 => ?_) (fun hg4500 => ?_)
            · skip
              refine ops_off rfl (guard_off rfl rfl rfl hg4500) rfl rfl ?_
              refine ops_off rfl (guard_off rfl rfl rfl hg4500) rfl rfl ?_
              refine ops_off rfl (guard_off rfl rfl rfl hg4500) rfl rfl ?_
              refine ops_off rfl (guard_off rfl rfl rfl hg4500) rfl rfl ?_
              refine ops_off rfl (guard_off rfl rfl rfl hg4500) rfl rfl ?_
              have hg4501 : (((!t4489) || (!t4491)) || (!t4493)) = true := by simp only [hg4500, Bool.and_true, Bool.true_and, Bool.and_false, Bool.false_and, Bool.or_true, Bool.true_or, Bool.or_false, Bool.false_or, Bool.not_true, Bool.not_false, Bool.not_not]
              refine ops_ex (v := .bool (((!t4489) || (!t4491)) || (!t4493))) rfl (guard_none rfl) rfl rfl (ex_por_t rfl rfl hg4500) ?_
              refine ops_nil ?_
              exact at_meet [(0, p0), (9, p0), (10, .int .i64 (x0.length : Int)), (11, .int .i64 a4434), (4, .pointer (some ⟨b4477, 0, none⟩)), (3, .int .i64 a4434), (32, .bool (((!t4489) || (!t4491)) || (!t4493)))] ⟨rfl, HM⟩ (Sub.cons rfl (Sub.cons rfl (Sub.cons rfl (Sub.cons rfl (Sub.cons rfl (Sub.cons rfl (Sub.cons rfl Sub.nil)))))))
            · skip
              refine ops_ex rfl (guard_on rfl rfl rfl hg4500) rfl rfl (ex_fieldAddr (off' := 2) rfl rfl Tryz.underlying72 rfl tsz70 rfl) ?_
              refine ops_ex rfl (guard_on rfl rfl rfl hg4500) rfl rfl (ex_fieldAddr (off' := 2) rfl rfl Tryz.underlying70 rfl tsz2 rfl) ?_
              refine ops_ex rfl (guard_on rfl rfl rfl hg4500) rfl rfl (ex_load1 rfl rfl Tryz.underlying2 rfl ((HM.box_at 0 rfl) 2 _ rfl)) ?_
              refine ops_does rfl (guard_on rfl rfl rfl hg4500) rfl rfl (does_callk rfl callok55 rfl (impl_within.calls (x0 := (gt x0 a4434).fOut.fValue) (x1 := 1) (x2 := 1000000) (cond_t (not_mk hg4500) h4494))) ?_
              rintro _ w4502 ⟨rfl, hn⟩
              replace HM : Mem w [] w4502 [box b4477 72 [.int .i64 ((gt x0 a4434).fRef.fTx), .int .i64 ((gt x0 a4434).fRef.fAt), .int .i64 ((gt x0 a4434).fOut.fValue), kv4475, .int .i64 ((gt x0 a4434).fOut.fRule.fNeed), .int .i64 ((gt x0 a4434).fOut.fRule.fAfter), .int .i64 ((gt x0 a4434).fHeight), .bool ((gt x0 a4434).fMined)]] := HM.call hn
              refine ops_ex rfl (guard_on rfl rfl rfl hg4500) rfl rfl (ex_not rfl rfl) ?_
              refine ops_ex (v := .bool (((!t4489) || (!t4491)) || (!t4493))) rfl (guard_none rfl) rfl rfl (ex_por_f rfl rfl hg4500 rfl) ?_
              refine ops_nil ?_
              exact at_meet [(0, p0), (9, p0), (10, .int .i64 (x0.length : Int)), (11, .int .i64 a4434), (4, .pointer (some ⟨b4477, 0, none⟩)), (3, .int .i64 a4434), (32, .bool (((!t4489) || (!t4491)) || (!t4493)))] ⟨rfl, HM⟩ (Sub.cons rfl (Sub.cons rfl (Sub.cons rfl (Sub.cons rfl (Sub.cons rfl (Sub.cons rfl (Sub.cons rfl Sub.nil)))))))
        · rintro _ w4503 ⟨rfl, HM⟩
          refine at_then ?_
          refine run_cond (b := (((!t4489) || (!t4491)) || (!t4493))) rfl (fun hb4504 => ?_) (fun hb4504 => ?_)
          · replace ho4398 := cond_t hb4504 ho4398
            refine run_seq ?_
            refine run_region rfl ?_
            refine ox rfl rfl rfl rfl (ex_assign rfl rfl) ?_
            refine ops_nil (at_then ?_)
            refine run_ret ?_
            refine at_then_ret ?_
            refine at_block_ret ?_
            refine at_then_ret ?_
            refine at_then_ret ?_
            refine at_block_ret ?_
            refine at_then_ret ?_
            replace HM := (HM.front 0 rfl rfl).drop
            have hR := Option.some.inj ho4398
            subst hR
            have hT := thn_inl H
            have hR := Option.some.inj hT
            subst hR
            exact at_ret1 rfl rfl ⟨_, rfl, rfl, HM⟩
          · replace ho4398 := cond_f hb4504 ho4398
            refine run_skip ?_
            refine at_then ?_
            refine run_seq ?_
            refine run_seq ?_
            obtain ⟨t4508, h4509, ho4398⟩ := bind_some ho4398
            refine run_region rfl ?_
            refine ox rfl rfl rfl rfl (ex_fieldAddr (off' := 2) rfl rfl Tryz.underlying72 rfl tsz70 rfl) ?_
            refine ox rfl rfl rfl rfl (ex_fieldAddr (off' := 3) rfl rfl Tryz.underlying70 rfl tsz68 rfl) ?_
            refine ox rfl rfl rfl rfl (ex_loadN (cs := [kv4475, (.int .i64 ((gt x0 a4434).fOut.fRule.fNeed)), (.int .i64 ((gt x0 a4434).fOut.fRule.fAfter))]) rfl rfl Tryz.underlying68 rfl tsz68 rfl ((HM.box_at 0 rfl).sub 3 3 rfl)) ?_
            refine od rfl rfl rfl rfl (does_callk rfl callok56 rfl (impl_RuleFault.calls (x0 := (gt x0 a4434).fOut.fRule) (HM.rd hk4476) h4509)) ?_
            rintro _ w4510 ⟨rfl, hn⟩
            replace HM : Mem w [] w4510 [box b4477 72 [.int .i64 ((gt x0 a4434).fRef.fTx), .int .i64 ((gt x0 a4434).fRef.fAt), .int .i64 ((gt x0 a4434).fOut.fValue), kv4475, .int .i64 ((gt x0 a4434).fOut.fRule.fNeed), .int .i64 ((gt x0 a4434).fOut.fRule.fAfter), .int .i64 ((gt x0 a4434).fHeight), .bool ((gt x0 a4434).fMined)]] := HM.call hn
            refine ox rfl rfl rfl rfl (ex_assign rfl rfl) ?_
            refine ops_nil (at_then (run_seq ?_))
            refine run_region rfl ?_
            refine ox rfl rfl rfl rfl (ex_move rfl rfl) ?_
            refine ox rfl rfl rfl rfl (ex_neq rfl rfl rfl) ?_
            refine ops_nil (at_then ?_)
            refine run_cond (b := (t4508 != 0)) rfl (fun hb4511 => ?_) (fun hb4511 => ?_)
            · replace ho4398 := cond_t hb4511 ho4398
              refine run_seq ?_
              refine run_region rfl ?_
              refine ox rfl rfl rfl rfl (ex_move rfl rfl) ?_
              refine ox rfl rfl rfl rfl (ex_assign rfl rfl) ?_
              refine ops_nil (at_then ?_)
              refine run_ret ?_
              refine at_then_ret ?_
              refine at_block_ret ?_
              refine at_then_ret ?_
              refine at_then_ret ?_
              refine at_block_ret ?_
              refine at_then_ret ?_
              replace HM := (HM.front 0 rfl rfl).drop
              have hR := Option.some.inj ho4398
              subst hR
              have hT := thn_inl H
              have hR := Option.some.inj hT
              subst hR
              exact at_ret1 rfl rfl ⟨_, rfl, rfl, HM⟩
            · replace ho4398 := cond_f hb4511 ho4398
              refine run_skip ?_
              refine at_then ?_
              refine run_seq ?_
              obtain ⟨e4512, ho4398⟩ := chk_some ho4398
              obtain ⟨t4516, h4517, ho4398⟩ := bind_some ho4398
              refine run_meet (fun ρ_ w_ => ρ_ = [(0, p0), (9, p0), (10, .int .i64 (x0.length : Int)), (11, .int .i64 a4434), (53, .bool ((decide (0 < a4434)) && (decide (0 ≤ t4516))))] ∧ Mem w [] w_ []) ?_ ?_
              · skip
                refine run_drawf (fun w_ => Mem w [] w_ [box b4477 72 [.int .i64 ((gt x0 a4434).fRef.fTx), .int .i64 ((gt x0 a4434).fRef.fAt), .int .i64 ((gt x0 a4434).fOut.fValue), kv4475, .int .i64 ((gt x0 a4434).fOut.fRule.fNeed), .int .i64 ((gt x0 a4434).fOut.fRule.fAfter), .int .i64 ((gt x0 a4434).fHeight), .bool ((gt x0 a4434).fMined)]]) [(0, true), (1, true), (2, true), (3, true), (4, true), (5, true), (6, true), (7, true), (8, true), (9, true), (10, true), (11, false), (12, true), (13, true)] mixed rfl rfl (by kernel_rfl) ?_
                replace HM := HM.grow (fr_drew _)
                have hS := Mem.suf (M := []) HM
                refine dp rfl rfl rfl rfl (ex_move rfl rfl) hS ?_
                refine dp rfl rfl rfl rfl (ex_gtr rfl rfl rfl) hS ?_
                refine dp rfl rfl rfl rfl (ex_move rfl rfl) hS ?_
                refine bool_cases (decide (0 < a4434)) (fun hg4518 => ?_) (fun hg4518 => ?_)
                · skip
                  refine drwp_take rfl (guard_on rfl rfl rfl hg4518) rfl rfl (fun w_ hS_ => (ex_move rfl rfl)) hS ?_
                  refine drwp_take rfl (guard_on rfl rfl rfl hg4518) rfl rfl (fun w_ hS_ => (ex_move rfl rfl)) hS ?_
                  refine drwp_take rfl (guard_on rfl rfl rfl hg4518) rfl rfl (fun w_ hS_ => (ex_sub rfl rfl rfl)) hS ?_
                  obtain ⟨kv4514, hc4513, hk4515⟩ : ∃ u, CellsAt _ (sb p0) (so p0 + (wrap64 (a4434 - 1)).toNat * 8) [(.int .i64 ((gt x0 (wrap64 (a4434 - 1))).fRef.fTx)), (.int .i64 ((gt x0 (wrap64 (a4434 - 1))).fRef.fAt)), (.int .i64 ((gt x0 (wrap64 (a4434 - 1))).fOut.fValue)), u, (.int .i64 ((gt x0 (wrap64 (a4434 - 1))).fOut.fRule.fNeed)), (.int .i64 ((gt x0 (wrap64 (a4434 - 1))).fOut.fRule.fAfter)), (.int .i64 ((gt x0 (wrap64 (a4434 - 1))).fHeight)), (.bool ((gt x0 (wrap64 (a4434 - 1))).fMined))] ∧ RdS kInt _ u ((gt x0 (wrap64 (a4434 - 1))).fOut.fRule.fKeys) := rd_with1 hp0 (or_t e4512 hg4518)
                  refine drwp_take rfl (guard_on rfl rfl rfl hg4518) rfl rfl (fun w_ hS_ => (ex_indexAddr (d := kCoin) rfl rfl rfl Tryz.underlying29 tsz72 hp0 (idx_lo (or_t e4512 hg4518)) (idx_hi (or_t e4512 hg4518)))) hS ?_
                  refine drwp_take rfl (guard_on rfl rfl rfl hg4518) rfl rfl (fun w_ hS_ => (ex_fieldAddr (off' := so p0 + (wrap64 (a4434 - 1)).toNat * 8) rfl rfl Tryz.underlying72 rfl tsz66 rfl)) hS ?_
                  refine drwp_take rfl (guard_on rfl rfl rfl hg4518) rfl rfl (fun w_ hS_ => (ex_loadN (cs := [(.int .i64 ((gt x0 (wrap64 (a4434 - 1))).fRef.fTx)), (.int .i64 ((gt x0 (wrap64 (a4434 - 1))).fRef.fAt))]) rfl rfl Tryz.underlying66 rfl tsz66 rfl ((hS_.at_ hc4513).sub 0 2 rfl))) hS ?_
                  refine drwp_take rfl (guard_on rfl rfl rfl hg4518) rfl rfl (fun w_ hS_ => (ex_fieldAddr (off' := 0) rfl rfl Tryz.underlying72 rfl tsz66 rfl)) hS ?_
                  refine drwp_take rfl (guard_on rfl rfl rfl hg4518) rfl rfl (fun w_ hS_ => (ex_loadN (cs := [(.int .i64 ((gt x0 a4434).fRef.fTx)), (.int .i64 ((gt x0 a4434).fRef.fAt))]) rfl rfl Tryz.underlying66 rfl tsz66 rfl ((hS_.box_at 0 rfl).sub 0 2 rfl))) hS ?_
                  refine drwp_one rfl (guard_on rfl rfl rfl hg4518) rfl rfl (does_callk rfl callok57 rfl (impl_compareRefs.calls (x0 := (gt x0 (wrap64 (a4434 - 1))).fRef) (x1 := (gt x0 a4434).fRef) (cond_t hg4518 h4517))) ?_
                  rintro _ w4519 ⟨rfl, hn⟩
                  replace HM : Mem w [] w4519 [box b4477 72 [.int .i64 ((gt x0 a4434).fRef.fTx), .int .i64 ((gt x0 a4434).fRef.fAt), .int .i64 ((gt x0 a4434).fOut.fValue), kv4475, .int .i64 ((gt x0 a4434).fOut.fRule.fNeed), .int .i64 ((gt x0 a4434).fOut.fRule.fAfter), .int .i64 ((gt x0 a4434).fHeight), .bool ((gt x0 a4434).fMined)]] := HM.call hn
                  have hS := Mem.suf (M := []) HM
                  refine ⟨hS, ?_⟩
                  refine drwp_take rfl (guard_on rfl rfl rfl hg4518) rfl rfl (fun w_ hS_ => (ex_geq rfl rfl rfl)) hS ?_
                  refine drwp_take (v := .bool ((decide (0 < a4434)) && (decide (0 ≤ t4516)))) rfl (guard_none rfl) rfl rfl (fun w_ hS_ => (ex_pand_t rfl rfl hg4518 rfl)) hS ?_
                  refine drwp_done ?_
                  replace HM := (HM.front 0 rfl rfl).drop
                  exact at_meet [(0, p0), (9, p0), (10, .int .i64 (x0.length : Int)), (11, .int .i64 a4434), (53, .bool ((decide (0 < a4434)) && (decide (0 ≤ t4516))))] ⟨rfl, HM⟩ (Sub.cons rfl (Sub.cons rfl (Sub.cons rfl (Sub.cons rfl (Sub.cons rfl Sub.nil)))))
                · skip
                  refine drwp_off rfl (guard_off rfl rfl rfl hg4518) rfl rfl hS ?_
                  refine drwp_off rfl (guard_off rfl rfl rfl hg4518) rfl rfl hS ?_
                  refine drwp_off rfl (guard_off rfl rfl rfl hg4518) rfl rfl hS ?_
                  refine drwp_off rfl (guard_off rfl rfl rfl hg4518) rfl rfl hS ?_
                  refine drwp_off rfl (guard_off rfl rfl rfl hg4518) rfl rfl hS ?_
                  refine drwp_off rfl (guard_off rfl rfl rfl hg4518) rfl rfl hS ?_
                  refine drwp_off rfl (guard_off rfl rfl rfl hg4518) rfl rfl hS ?_
                  refine drwp_off rfl (guard_off rfl rfl rfl hg4518) rfl rfl hS ?_
                  refine drwp_off1 rfl (guard_off rfl rfl rfl hg4518) rfl rfl ⟨hS, ?_⟩
                  refine drwp_off rfl (guard_off rfl rfl rfl hg4518) rfl rfl hS ?_
                  have hg4520 : ((decide (0 < a4434)) && (decide (0 ≤ t4516))) = false := by simp only [hg4518, Bool.and_true, Bool.true_and, Bool.and_false, Bool.false_and, Bool.or_true, Bool.true_or, Bool.or_false, Bool.false_or, Bool.not_true, Bool.not_false, Bool.not_not]
                  refine drwp_take (v := .bool ((decide (0 < a4434)) && (decide (0 ≤ t4516)))) rfl (guard_none rfl) rfl rfl (fun w_ hS_ => (ex_pand_f rfl rfl hg4518)) hS ?_
                  refine drwp_done ?_
                  replace HM := (HM.front 0 rfl rfl).drop
                  exact at_meet [(0, p0), (9, p0), (10, .int .i64 (x0.length : Int)), (11, .int .i64 a4434), (53, .bool ((decide (0 < a4434)) && (decide (0 ≤ t4516))))] ⟨rfl, HM⟩ (Sub.cons rfl (Sub.cons rfl (Sub.cons rfl (Sub.cons rfl (Sub.cons rfl Sub.nil)))))
              · rintro _ w4521 ⟨rfl, HM⟩
                refine at_then ?_
                refine run_cond (b := ((decide (0 < a4434)) && (decide (0 ≤ t4516)))) rfl (fun hb4522 => ?_) (fun hb4522 => ?_)
                · replace ho4398 := cond_t hb4522 ho4398
                  refine run_seq ?_
                  refine run_region rfl ?_
                  refine ox rfl rfl rfl rfl (ex_assign rfl rfl) ?_
                  refine ops_nil (at_then ?_)
                  refine run_ret ?_
                  refine at_block_ret ?_
                  refine at_then_ret ?_
                  refine at_then_ret ?_
                  refine at_block_ret ?_
                  refine at_then_ret ?_
                  have hR := Option.some.inj ho4398
                  subst hR
                  have hT := thn_inl H
                  have hR := Option.some.inj hT
                  subst hR
                  exact at_ret1 rfl rfl ⟨_, rfl, rfl, HM⟩
                · replace ho4398 := cond_f hb4522 ho4398
                  refine run_skip ?_
                  refine at_block ?_
                  refine at_then ?_
                  refine run_region rfl ?_
                  refine ox rfl rfl rfl rfl (ex_add rfl rfl rfl) ?_
                  refine ox rfl rfl rfl rfl (ex_move rfl rfl) ?_
                  refine ops_nil ?_
                  exact at_again k4470 (ρ1 := [(0, p0), (9, p0), (10, .int .i64 (x0.length : Int)), (11, .int .i64 (wrap64 (a4434 + 1)))]) (Nat.lt_succ_self _) ⟨_, ho4398, rfl, HM⟩ (Sub.cons rfl (Sub.cons rfl (Sub.cons rfl (Sub.cons rfl Sub.nil))))
      · replace ho4398 := cond_f hb4472 ho4398
        refine run_exit ?_
        refine at_then_exit ?_
        refine at_then_exit ?_
        refine at_block_exit ?_
        exact at_mid (ρ' := []) ⟨(Option.some.inj ho4398), rfl, HM⟩ Sub.nil
    · rintro _ w4523 ⟨rfl, rfl, HM⟩
      replace H := (thn_inr H)
      refine run_seq ?_
      refine run_region rfl ?_
      refine ox rfl rfl rfl rfl (ex_assign rfl rfl) ?_
      refine ops_nil (at_then ?_)
      refine run_ret ?_
      have hR := Option.some.inj H
      subst hR
      exact at_ret1 rfl rfl ⟨_, rfl, rfl, HM⟩
end Go.Proofs.YtecgbhfgkkpmhabGreat.Zk
