/- What functions of the program compute, each as a plain function, and that they do. Conditions: as each theorem states them. -/
import Derived.Test.YtkofpnbacgccnaaZkTy
namespace Go.Proofs.Ytkofpnbacgccnaa.Zk
open Go Go.RowKit Go.IntWalk Go.Proofs
set_option linter.unusedVariables false
set_option linter.unusedSimpArgs false
set_option maxRecDepth 100000
def laws_FnExactConstants.f (k : Nat)  : Option Bool := some true
theorem laws_FnExactConstants.calls {k : Nat}   {w : World}  {r : Bool} (H : laws_FnExactConstants.f k  = some r) :
    Calls Try.prog 3 ([] : List Value).toArray w (fun e w_ => ∃ v, e = .returned v ∧ v = (.bool r) ∧ Mem w [] w_ []) := by
  have HM := Mem.start w
  refine calls_run (N := 1) Try.func3 rfl rfl rfl rfl ?_
  unfold laws_FnExactConstants.f at H
  refine run_seq ?_
  refine run_region rfl ?_
  refine ops_ex rfl (guard_none rfl) rfl rfl (ex_assign rfl rfl) ?_
  refine ops_nil ?_
  refine at_then ?_
  refine run_seq ?_
  refine run_cond (b := false) rfl (fun hb => ?_) (fun hb => ?_)
  · cases hb
  · clear hb
    refine run_skip ?_
    refine at_then ?_
    refine run_seq ?_
    refine run_cond (b := false) rfl (fun hb => ?_) (fun hb => ?_)
    · cases hb
    · clear hb
      refine run_skip ?_
      refine at_then ?_
      refine run_seq ?_
      refine run_cond (b := false) rfl (fun hb => ?_) (fun hb => ?_)
      · cases hb
      · clear hb
        refine run_skip ?_
        refine at_then ?_
        refine run_seq ?_
        refine run_cond (b := false) rfl (fun hb => ?_) (fun hb => ?_)
        · cases hb
        · clear hb
          refine run_skip ?_
          refine at_then ?_
          refine run_seq ?_
          refine run_cond (b := false) rfl (fun hb => ?_) (fun hb => ?_)
          · cases hb
          · clear hb
            refine run_skip ?_
            refine at_then ?_
            refine run_seq ?_
            refine run_cond (b := false) rfl (fun hb => ?_) (fun hb => ?_)
            · cases hb
            · clear hb
              refine run_skip ?_
              refine at_then ?_
              refine run_seq ?_
              refine run_cond (b := false) rfl (fun hb => ?_) (fun hb => ?_)
              · cases hb
              · clear hb
                refine run_skip ?_
                refine at_then ?_
                refine run_seq ?_
                refine run_cond (b := false) rfl (fun hb => ?_) (fun hb => ?_)
                · cases hb
                · clear hb
                  refine run_skip ?_
                  refine at_then ?_
                  refine run_seq ?_
                  refine run_cond (b := false) rfl (fun hb => ?_) (fun hb => ?_)
                  · cases hb
                  · clear hb
                    refine run_skip ?_
                    refine at_then ?_
                    refine run_seq ?_
                    refine run_cond (b := false) rfl (fun hb => ?_) (fun hb => ?_)
                    · cases hb
                    · clear hb
                      refine run_skip ?_
                      refine at_then ?_
                      refine run_seq ?_
                      refine run_cond (b := false) rfl (fun hb => ?_) (fun hb => ?_)
                      · cases hb
                      · clear hb
                        refine run_skip ?_
                        refine at_then ?_
                        refine run_seq ?_
                        refine run_cond (b := false) rfl (fun hb => ?_) (fun hb => ?_)
                        · cases hb
                        · clear hb
                          refine run_skip ?_
                          refine at_then ?_
                          refine run_seq ?_
                          refine run_cond (b := false) rfl (fun hb => ?_) (fun hb => ?_)
                          · cases hb
                          · clear hb
                            refine run_skip ?_
                            refine at_then ?_
                            refine run_seq ?_
                            refine run_cond (b := false) rfl (fun hb => ?_) (fun hb => ?_)
                            · cases hb
                            · clear hb
                              refine run_skip ?_
                              refine at_then ?_
                              refine run_seq ?_
                              refine run_cond (b := false) rfl (fun hb => ?_) (fun hb => ?_)
                              · cases hb
                              · clear hb
                                refine run_skip ?_
                                refine at_then ?_
                                refine run_seq ?_
                                refine run_cond (b := false) rfl (fun hb => ?_) (fun hb => ?_)
                                · cases hb
                                · clear hb
                                  refine run_skip ?_
                                  refine at_then ?_
                                  refine run_seq ?_
                                  refine run_cond (b := false) rfl (fun hb => ?_) (fun hb => ?_)
                                  · cases hb
                                  · clear hb
                                    refine run_skip ?_
                                    refine at_then ?_
                                    refine run_seq ?_
                                    refine run_cond (b := false) rfl (fun hb => ?_) (fun hb => ?_)
                                    · cases hb
                                    · clear hb
                                      refine run_skip ?_
                                      refine at_then ?_
                                      refine run_seq ?_
                                      refine run_cond (b := false) rfl (fun hb => ?_) (fun hb => ?_)
                                      · cases hb
                                      · clear hb
                                        refine run_skip ?_
                                        refine at_then ?_
                                        refine run_seq ?_
                                        refine run_cond (b := false) rfl (fun hb => ?_) (fun hb => ?_)
                                        · cases hb
                                        · clear hb
                                          refine run_skip ?_
                                          refine at_then ?_
                                          refine run_seq ?_
                                          refine run_cond (b := false) rfl (fun hb => ?_) (fun hb => ?_)
                                          · cases hb
                                          · clear hb
                                            refine run_skip ?_
                                            refine at_then ?_
                                            refine run_seq ?_
                                            refine run_cond (b := false) rfl (fun hb => ?_) (fun hb => ?_)
                                            · cases hb
                                            · clear hb
                                              refine run_skip ?_
                                              refine at_then ?_
                                              refine run_seq ?_
                                              refine run_cond (b := false) rfl (fun hb => ?_) (fun hb => ?_)
                                              · cases hb
                                              · clear hb
                                                refine run_skip ?_
                                                refine at_then ?_
                                                refine run_seq ?_
                                                refine run_cond (b := false) rfl (fun hb => ?_) (fun hb => ?_)
                                                · cases hb
                                                · clear hb
                                                  refine run_skip ?_
                                                  refine at_then ?_
                                                  refine run_seq ?_
                                                  refine run_cond (b := false) rfl (fun hb => ?_) (fun hb => ?_)
                                                  · cases hb
                                                  · clear hb
                                                    refine run_skip ?_
                                                    refine at_then ?_
                                                    refine run_seq ?_
                                                    refine run_cond (b := false) rfl (fun hb => ?_) (fun hb => ?_)
                                                    · cases hb
                                                    · clear hb
                                                      refine run_skip ?_
                                                      refine at_then ?_
                                                      refine run_seq ?_
                                                      refine run_cond (b := false) rfl (fun hb => ?_) (fun hb => ?_)
                                                      · cases hb
                                                      · clear hb
                                                        refine run_skip ?_
                                                        refine at_then ?_
                                                        refine run_seq ?_
                                                        refine run_cond (b := false) rfl (fun hb => ?_) (fun hb => ?_)
                                                        · cases hb
                                                        · clear hb
                                                          refine run_skip ?_
                                                          refine at_then ?_
                                                          refine run_seq ?_
                                                          refine run_cond (b := false) rfl (fun hb => ?_) (fun hb => ?_)
                                                          · cases hb
                                                          · clear hb
                                                            refine run_skip ?_
                                                            refine at_then ?_
                                                            refine run_seq ?_
                                                            refine run_cond (b := false) rfl (fun hb => ?_) (fun hb => ?_)
                                                            · cases hb
                                                            · clear hb
                                                              refine run_skip ?_
                                                              refine at_then ?_
                                                              refine run_seq ?_
                                                              refine run_cond (b := false) rfl (fun hb => ?_) (fun hb => ?_)
                                                              · cases hb
                                                              · clear hb
                                                                refine run_skip ?_
                                                                refine at_then ?_
                                                                refine run_seq ?_
                                                                refine run_region rfl ?_
                                                                refine ops_ex rfl (guard_none rfl) rfl rfl (ex_assign rfl rfl) ?_
                                                                refine ops_nil ?_
                                                                refine at_then ?_
                                                                refine run_ret ?_
                                                                have hR := Option.some.inj H
                                                                subst hR
                                                                exact at_ret1 rfl rfl ⟨_, rfl, rfl, HM⟩

def spec_l1In.f (k : Nat) (x0 : Int) (x1 : Int) (x2 : Int) : Option Bool := some ((decide (x1 ≤ x0)) && (decide (x0 ≤ x2)))
theorem spec_l1In.calls {k : Nat} {x0 : Int} {x1 : Int} {x2 : Int}  {w : World}  {r : Bool} (H : spec_l1In.f k x0 x1 x2 = some r) :
    Calls Try.prog 56 ([.int .i64 x0, .int .i64 x1, .int .i64 x2] : List Value).toArray w (fun e w_ => ∃ v, e = .returned v ∧ v = (.bool r) ∧ Mem w [] w_ []) := by
  have HM := Mem.start w
  refine calls_run (N := 15) Try.func56 rfl rfl rfl rfl ?_
  unfold spec_l1In.f at H
  refine run_seq ?_
  refine run_region rfl ?_
  refine ops_ex rfl (guard_none rfl) rfl rfl (ex_assign rfl rfl) ?_
  refine ops_nil ?_
  refine at_then ?_
  refine run_seq ?_
  refine run_meet (fun ρ_ w_ => ρ_ = [(6, .bool ((decide (x1 ≤ x0)) && (decide (x0 ≤ x2))))] ∧ Mem w [] w_ []) ?_ ?_
  · skip
    refine run_region rfl ?_
    refine ops_ex rfl (guard_none rfl) rfl rfl (ex_move rfl rfl) ?_
    refine ops_ex rfl (guard_none rfl) rfl rfl (ex_move rfl rfl) ?_
    refine ops_ex rfl (guard_none rfl) rfl rfl (ex_geq rfl rfl rfl) ?_
    refine ops_ex rfl (guard_none rfl) rfl rfl (ex_move rfl rfl) ?_
    refine bool_cases (decide (x1 ≤ x0)) (fun hg4 => ?_) (fun hg4 => ?_)
    · skip
      refine ops_ex rfl (guard_on rfl rfl rfl hg4) rfl rfl (ex_move rfl rfl) ?_
      refine ops_ex rfl (guard_on rfl rfl rfl hg4) rfl rfl (ex_move rfl rfl) ?_
      refine ops_ex rfl (guard_on rfl rfl rfl hg4) rfl rfl (ex_leq rfl rfl rfl) ?_
      refine ops_ex (v := .bool ((decide (x1 ≤ x0)) && (decide (x0 ≤ x2)))) rfl (guard_none rfl) rfl rfl (ex_pand_t rfl rfl hg4 rfl) ?_
      refine ops_ex rfl (guard_none rfl) rfl rfl (ex_assign rfl rfl) ?_
      refine ops_nil ?_
      exact at_meet [(6, .bool ((decide (x1 ≤ x0)) && (decide (x0 ≤ x2))))] ⟨rfl, HM⟩ (Sub.cons rfl Sub.nil)
    · skip
      refine ops_off rfl (guard_off rfl rfl rfl hg4) rfl rfl ?_
      refine ops_off rfl (guard_off rfl rfl rfl hg4) rfl rfl ?_
      refine ops_off rfl (guard_off rfl rfl rfl hg4) rfl rfl ?_
      have hg5 : ((decide (x1 ≤ x0)) && (decide (x0 ≤ x2))) = false := by simp only [hg4, Bool.and_true, Bool.true_and, Bool.and_false, Bool.false_and, Bool.or_true, Bool.true_or, Bool.or_false, Bool.false_or, Bool.not_true, Bool.not_false, Bool.not_not]
      refine ops_ex (v := .bool ((decide (x1 ≤ x0)) && (decide (x0 ≤ x2)))) rfl (guard_none rfl) rfl rfl (ex_pand_f rfl rfl hg4) ?_
      refine ops_ex rfl (guard_none rfl) rfl rfl (ex_assign rfl rfl) ?_
      refine ops_nil ?_
      exact at_meet [(6, .bool ((decide (x1 ≤ x0)) && (decide (x0 ≤ x2))))] ⟨rfl, HM⟩ (Sub.cons rfl Sub.nil)
  · rintro _ w6 ⟨rfl, HM⟩
    refine at_then ?_
    refine run_ret ?_
    have hR := Option.some.inj H
    subst hR
    exact at_ret1 rfl rfl ⟨_, rfl, rfl, HM⟩

def laws_szMemberS.f (k : Nat) (x0 : List Member) (x1 : Int) : Option Int := (bif (decide ((wrap64 (x1 - (x0.length : Int))) < 0)) then some (-1) else some (wrap64 (x1 - (x0.length : Int))))
theorem laws_szMemberS.calls {k : Nat} {x0 : List Member} {x1 : Int} {p0 : Value} {w : World} (hp0 : RdS kMember w p0 x0) {r : Int} (H : laws_szMemberS.f k x0 x1 = some r) :
    Calls Try.prog 20 ([p0, .int .i64 x1] : List Value).toArray w (fun e w_ => ∃ v, e = .returned v ∧ v = (.int .i64 r) ∧ Mem w [] w_ []) := by
  have HM := Mem.start w
  refine calls_run (N := 12) Try.func20 rfl rfl rfl rfl ?_
  unfold laws_szMemberS.f at H
  refine run_seq ?_
  refine run_region rfl ?_
  refine ops_ex rfl (guard_none rfl) rfl rfl (ex_assign rfl rfl) ?_
  refine ops_nil ?_
  refine at_then ?_
  refine run_seq ?_
  refine run_region rfl ?_
  refine ops_ex rfl (guard_none rfl) rfl rfl (ex_move rfl rfl) ?_
  refine ops_ex rfl (guard_none rfl) rfl rfl (ex_move rfl rfl) ?_
  refine ops_ex rfl (guard_none rfl) rfl rfl (ex_len (d := kMember) (xs := x0) rfl rfl Try.underlying28 hp0) ?_
  refine ops_ex rfl (guard_none rfl) rfl rfl (ex_sub rfl rfl rfl) ?_
  refine ops_ex rfl (guard_none rfl) rfl rfl (ex_assign rfl rfl) ?_
  refine ops_nil ?_
  refine at_then ?_
  refine run_seq ?_
  refine run_seq ?_
  refine run_region rfl ?_
  refine ops_ex rfl (guard_none rfl) rfl rfl (ex_move rfl rfl) ?_
  refine ops_ex rfl (guard_none rfl) rfl rfl (ex_lss rfl rfl rfl) ?_
  refine ops_nil ?_
  refine at_then ?_
  refine run_cond (b := (decide ((wrap64 (x1 - (x0.length : Int))) < 0))) rfl (fun hb21 => ?_) (fun hb21 => ?_)
  · replace H := cond_t hb21 H
    refine run_seq ?_
    refine run_region rfl ?_
    refine ops_ex rfl (guard_none rfl) rfl rfl (ex_assign rfl rfl) ?_
    refine ops_nil ?_
    refine at_then ?_
    refine run_ret ?_
    refine at_then_ret ?_
    have hR := Option.some.inj H
    subst hR
    exact at_ret1 rfl rfl ⟨_, rfl, rfl, HM⟩
  · replace H := cond_f hb21 H
    refine run_skip ?_
    refine at_then ?_
    refine run_seq ?_
    refine run_region rfl ?_
    refine ops_ex rfl (guard_none rfl) rfl rfl (ex_move rfl rfl) ?_
    refine ops_ex rfl (guard_none rfl) rfl rfl (ex_assign rfl rfl) ?_
    refine ops_nil ?_
    refine at_then ?_
    refine run_ret ?_
    have hR := Option.some.inj H
    subst hR
    exact at_ret1 rfl rfl ⟨_, rfl, rfl, HM⟩

def laws_toRef.f (k : Nat) (x0 : Ref) : Option Ref := some x0
theorem laws_toRef.calls {k : Nat} {x0 : Ref}  {w : World}  {r : Ref} (H : laws_toRef.f k x0 = some r) :
    Calls Try.prog 88 ([.agg #[(.int .i64 x0.fTx), (.int .i64 x0.fAt)]] : List Value).toArray w (fun e w_ => ∃ v, e = .returned v ∧ v = (.agg #[.int .i64 r.fTx, .int .i64 r.fAt]) ∧ Mem w [] w_ []) := by
  have HM := Mem.start w
  refine calls_run (N := 11) Try.func88 rfl rfl rfl rfl ?_
  unfold laws_toRef.f at H
  refine run_seq ?_
  refine run_region rfl ?_
  refine ops_does rfl (guard_none rfl) rfl rfl (does_box (cs := [.int .i64 x0.fTx, .int .i64 x0.fAt]) rfl rfl rfl HM) ?_
  rintro _ w62 ⟨b56, rfl, HM⟩
  refine ops_does rfl (guard_none rfl) rfl rfl (does_alloc (cs := [.int .i64 0, .int .i64 0]) rfl tz69 rfl HM) ?_
  rintro _ w63 ⟨b59, rfl, HM⟩
  refine ops_nil ?_
  refine at_then ?_
  refine run_seq ?_
  refine run_region rfl ?_
  refine ops_does rfl (guard_none rfl) rfl rfl (does_alloc (cs := [.int .i64 0, .int .i64 0]) rfl tz69 rfl HM) ?_
  rintro _ w67 ⟨b64, rfl, HM⟩
  refine ops_nil ?_
  refine at_then ?_
  refine run_seq ?_
  refine run_region rfl ?_
  refine ops_ex rfl (guard_none rfl) rfl rfl (ex_fieldAddr (off' := 0) rfl rfl Try.underlying62 rfl tsz2 rfl) ?_
  refine ops_ex rfl (guard_none rfl) rfl rfl (ex_load1 rfl rfl Try.underlying2 rfl ((HM.box_at 2 rfl) 0 _ rfl)) ?_
  refine ops_ex rfl (guard_none rfl) rfl rfl (ex_fieldAddr (off' := 0) rfl rfl Try.underlying69 rfl tsz2 rfl) ?_
  refine ops_doesS rfl (guard_none rfl) rfl (does_store (vs := [.int .i64 x0.fTx]) (cs' := [.int .i64 x0.fTx, .int .i64 0]) rfl rfl rfl rfl tsz2 (Ones.int Ones.nil) rfl rfl HM) ?_
  rintro w68 HM
  refine ops_nil ?_
  refine at_then ?_
  refine run_seq ?_
  refine run_region rfl ?_
  refine ops_ex rfl (guard_none rfl) rfl rfl (ex_fieldAddr (off' := 1) rfl rfl Try.underlying62 rfl tsz2 rfl) ?_
  refine ops_ex rfl (guard_none rfl) rfl rfl (ex_load1 rfl rfl Try.underlying2 rfl ((HM.box_at 2 rfl) 1 _ rfl)) ?_
  refine ops_ex rfl (guard_none rfl) rfl rfl (ex_fieldAddr (off' := 1) rfl rfl Try.underlying69 rfl tsz2 rfl) ?_
  refine ops_doesS rfl (guard_none rfl) rfl (does_store (vs := [.int .i64 x0.fAt]) (cs' := [.int .i64 x0.fTx, .int .i64 x0.fAt]) rfl rfl rfl rfl tsz2 (Ones.int Ones.nil) rfl rfl HM) ?_
  rintro w69 HM
  refine ops_nil ?_
  refine at_then ?_
  refine run_seq ?_
  refine run_region rfl ?_
  refine ops_ex rfl (guard_none rfl) rfl rfl (ex_loadN (cs := [(.int .i64 x0.fTx), (.int .i64 x0.fAt)]) rfl rfl Try.underlying69 rfl tsz69 rfl ((HM.box_at 0 rfl).sub 0 2 rfl)) ?_
  replace HM := HM.front 1 rfl rfl
  refine ops_doesS rfl (guard_none rfl) rfl (does_store (vs := [.int .i64 x0.fTx, .int .i64 x0.fAt]) (cs' := [.int .i64 x0.fTx, .int .i64 x0.fAt]) rfl rfl rfl rfl tsz69 (Ones.int (Ones.int Ones.nil)) rfl rfl HM) ?_
  rintro w70 HM
  refine ops_nil ?_
  refine at_then ?_
  refine run_ret ?_
  replace HM := (HM.front 1 rfl rfl).drop
  replace HM := (HM.front 1 rfl rfl).drop
  have hcb0 := HM.box_at 0 rfl
  replace HM := (HM.front 0 rfl rfl).drop
  have hR := Option.some.inj H
  subst hR
  exact at_retN rfl rfl Try.underlying69 rfl tsz69 rfl hcb0 ⟨_, rfl, rfl, HM⟩

def laws_toMember.f (k : Nat) (x0 : Member) : Option Member := ((laws_toRef.f k x0.fRef).bind fun t86 => some (⟨x0.fKey, t86⟩ : Member))
theorem laws_toMember.calls {k : Nat} {x0 : Member}  {w : World}  {r : Member} (H : laws_toMember.f k x0 = some r) :
    Calls Try.prog 61 ([.agg #[(.int .i64 x0.fKey), (.int .i64 x0.fRef.fTx), (.int .i64 x0.fRef.fAt)]] : List Value).toArray w (fun e w_ => ∃ v, e = .returned v ∧ v = (.agg #[.int .i64 r.fKey, .int .i64 r.fRef.fTx, .int .i64 r.fRef.fAt]) ∧ Mem w [] w_ []) := by
  have HM := Mem.start w
  refine calls_run (N := 12) Try.func61 rfl rfl rfl rfl ?_
  unfold laws_toMember.f at H
  refine run_seq ?_
  refine run_region rfl ?_
  refine ops_does rfl (guard_none rfl) rfl rfl (does_box (cs := [.int .i64 x0.fKey, .int .i64 x0.fRef.fTx, .int .i64 x0.fRef.fAt]) rfl rfl rfl HM) ?_
  rintro _ w79 ⟨b73, rfl, HM⟩
  refine ops_does rfl (guard_none rfl) rfl rfl (does_alloc (cs := [.int .i64 0, .int .i64 0, .int .i64 0]) rfl tz94 rfl HM) ?_
  rintro _ w80 ⟨b76, rfl, HM⟩
  refine ops_nil ?_
  refine at_then ?_
  refine run_seq ?_
  refine run_region rfl ?_
  refine ops_does rfl (guard_none rfl) rfl rfl (does_alloc (cs := [.int .i64 0, .int .i64 0, .int .i64 0]) rfl tz94 rfl HM) ?_
  rintro _ w84 ⟨b81, rfl, HM⟩
  refine ops_nil ?_
  refine at_then ?_
  refine run_seq ?_
  refine run_region rfl ?_
  refine ops_ex rfl (guard_none rfl) rfl rfl (ex_fieldAddr (off' := 0) rfl rfl Try.underlying97 rfl tsz2 rfl) ?_
  refine ops_ex rfl (guard_none rfl) rfl rfl (ex_load1 rfl rfl Try.underlying2 rfl ((HM.box_at 2 rfl) 0 _ rfl)) ?_
  refine ops_ex rfl (guard_none rfl) rfl rfl (ex_fieldAddr (off' := 0) rfl rfl Try.underlying94 rfl tsz2 rfl) ?_
  refine ops_doesS rfl (guard_none rfl) rfl (does_store (vs := [.int .i64 x0.fKey]) (cs' := [.int .i64 x0.fKey, .int .i64 0, .int .i64 0]) rfl rfl rfl rfl tsz2 (Ones.int Ones.nil) rfl rfl HM) ?_
  rintro w85 HM
  refine ops_nil ?_
  refine at_then ?_
  refine run_seq ?_
  obtain ⟨t86, h87, H⟩ := bind_some H
  refine run_region rfl ?_
  refine ops_ex rfl (guard_none rfl) rfl rfl (ex_fieldAddr (off' := 1) rfl rfl Try.underlying97 rfl tsz62 rfl) ?_
  refine ops_ex rfl (guard_none rfl) rfl rfl (ex_loadN (cs := [(.int .i64 x0.fRef.fTx), (.int .i64 x0.fRef.fAt)]) rfl rfl Try.underlying62 rfl tsz62 rfl ((HM.box_at 2 rfl).sub 1 2 rfl)) ?_
  refine ops_does rfl (guard_none rfl) rfl rfl (does_callk rfl callok88 rfl (laws_toRef.calls (x0 := x0.fRef) h87)) ?_
  rintro _ w88 ⟨rfl, hn⟩
  replace HM : Mem w [] w88 [box b81 94 [.int .i64 x0.fKey, .int .i64 0, .int .i64 0], box b76 94 [.int .i64 0, .int .i64 0, .int .i64 0], box b73 97 [.int .i64 x0.fKey, .int .i64 x0.fRef.fTx, .int .i64 x0.fRef.fAt]] := HM.call hn
  refine ops_ex rfl (guard_none rfl) rfl rfl (ex_fieldAddr (off' := 1) rfl rfl Try.underlying94 rfl tsz69 rfl) ?_
  refine ops_doesS rfl (guard_none rfl) rfl (does_store (vs := [.int .i64 t86.fTx, .int .i64 t86.fAt]) (cs' := [.int .i64 x0.fKey, .int .i64 t86.fTx, .int .i64 t86.fAt]) rfl rfl rfl rfl tsz69 (Ones.int (Ones.int Ones.nil)) rfl rfl HM) ?_
  rintro w89 HM
  refine ops_nil ?_
  refine at_then ?_
  refine run_seq ?_
  refine run_region rfl ?_
  refine ops_ex rfl (guard_none rfl) rfl rfl (ex_loadN (cs := [(.int .i64 x0.fKey), (.int .i64 t86.fTx), (.int .i64 t86.fAt)]) rfl rfl Try.underlying94 rfl tsz94 rfl ((HM.box_at 0 rfl).sub 0 3 rfl)) ?_
  replace HM := HM.front 1 rfl rfl
  refine ops_doesS rfl (guard_none rfl) rfl (does_store (vs := [.int .i64 x0.fKey, .int .i64 t86.fTx, .int .i64 t86.fAt]) (cs' := [.int .i64 x0.fKey, .int .i64 t86.fTx, .int .i64 t86.fAt]) rfl rfl rfl rfl tsz94 (Ones.int (Ones.int (Ones.int Ones.nil))) rfl rfl HM) ?_
  rintro w90 HM
  refine ops_nil ?_
  refine at_then ?_
  refine run_ret ?_
  replace HM := (HM.front 1 rfl rfl).drop
  replace HM := (HM.front 1 rfl rfl).drop
  have hcb0 := HM.box_at 0 rfl
  replace HM := (HM.front 0 rfl rfl).drop
  have hR := Option.some.inj H
  subst hR
  exact at_retN rfl rfl Try.underlying94 rfl tsz94 rfl hcb0 ⟨_, rfl, rfl, HM⟩

def laws_toMemberS.l0 (x0 : List Member) : Nat → (List Member) → Int → Option ((List Member))
  | 0, _, _ => none
  | k + 1, a155, a157 => (bif (decide (a157 < (x0.length : Int))) then (chk (idxOk a157 x0.length) ((laws_toMember.f k (gt x0 a157)).bind fun t169 => (chk (idxOk a157 a155.length) (laws_toMemberS.l0 x0 k (a155.set (a157).toNat t169) (wrap64 (a157 + 1)))))) else some a155)
theorem laws_toMemberS.l0_z (x0 : List Member) (a155 : List Member) (a157 : Int) : laws_toMemberS.l0 x0 0 a155 a157 = none := rfl
theorem laws_toMemberS.l0_s (x0 : List Member) (k : Nat) (a155 : List Member) (a157 : Int) : laws_toMemberS.l0 x0 (k + 1) a155 a157 = (bif (decide (a157 < (x0.length : Int))) then (chk (idxOk a157 x0.length) ((laws_toMember.f k (gt x0 a157)).bind fun t169 => (chk (idxOk a157 a155.length) (laws_toMemberS.l0 x0 k (a155.set (a157).toNat t169) (wrap64 (a157 + 1)))))) else some a155) := rfl
def laws_toMemberS.f (k : Nat) (x0 : List Member) : Option ((List Member)) := (chk (decide (0 ≤ (x0.length : Int))) (chk (leB (((x0.length : Int)).toNat * 24) 281474976710656) ((laws_toMemberS.l0 x0 k (List.replicate ((x0.length : Int)).toNat (⟨0, (⟨0, 0⟩ : Ref)⟩ : Member)) 0).bind (fun a144 => some a144))))
theorem laws_toMemberS.calls {k : Nat} {x0 : List Member} {p0 : Value} {w : World} (hp0 : RdS kMember w p0 x0) {r : (List Member)} (H : laws_toMemberS.f k x0 = some r) :
    Calls Try.prog 22 ([p0] : List Value).toArray w (fun e w_ => ∃ v, e = .returned v ∧ ∃ u0 : Value, v = u0 ∧ Mem w [] w_ [own kMember 94 u0 r]) := by
  have HM := Mem.start w
  refine calls_run (N := 23) Try.func22 rfl rfl rfl rfl ?_
  unfold laws_toMemberS.f at H
  refine run_seq ?_
  refine run_region rfl ?_
  refine ops_ex rfl (guard_none rfl) rfl rfl (ex_assign rfl rfl) ?_
  refine ops_nil ?_
  refine at_then ?_
  refine run_seq ?_
  obtain ⟨e118, H⟩ := chk_some H
  obtain ⟨e119, H⟩ := chk_some H
  refine run_region rfl ?_
  refine ops_ex rfl (guard_none rfl) rfl rfl (ex_move rfl rfl) ?_
  refine ops_ex rfl (guard_none rfl) rfl rfl (ex_len (d := kMember) (xs := x0) rfl rfl Try.underlying28 hp0) ?_
  refine ops_does rfl (guard_none rfl) rfl rfl (does_make (x := (⟨0, (⟨0, 0⟩ : Ref)⟩ : Member)) kMember rfl rfl rfl Try.underlying31 tsz94 tby94 tz94 rfl rfl (fun _ => ⟨rfl, rfl⟩) (of_decide_eq_true e118) rfl (leB_le e119) rfl HM) ?_
  rintro v115 w120 HM
  refine ops_ex rfl (guard_none rfl) rfl rfl (ex_assign rfl rfl) ?_
  refine ops_nil ?_
  refine at_then ?_
  obtain ⟨o146, ho147, H⟩ := bind_some H
  refine run_mid (fun ρ_ w_ => ∃ v143 : Value, ∃ a144 : List Member, a144 = o146 ∧ ρ_ = [(3, v143)] ∧ Mem w [] w_ [own kMember 94 v143 a144]) ?_ ?_
  · clear H
    refine run_seq ?_
    refine run_region rfl ?_
    refine ops_ex rfl (guard_none rfl) rfl rfl (ex_assign rfl rfl) ?_
    refine ops_nil ?_
    refine at_then ?_
    refine run_block ?_
    refine run_loop (fun k_ ρ_ w_ => ∃ v154 : Value, ∃ a155 : List Member, ∃ a157 : Int, laws_toMemberS.l0 x0 k_ a155 a157 = some o146 ∧ ρ_ = [(0, p0), (3, v154), (4, .int .i64 a157)] ∧ Mem w [] w_ [own kMember 94 v154 a155]) k (ρ1 := [(0, p0), (3, v115), (4, .int .i64 0)]) ⟨_, _, _, ho147, rfl, HM⟩ (Sub.cons rfl (Sub.cons rfl (Sub.cons rfl Sub.nil))) ?_
    clear HM ho147
    rintro k164 _ w165 ⟨v154, a155, a157, ho147, rfl, HM⟩
    obtain _ | k164 := k164
    · exact nomatch ((laws_toMemberS.l0_z x0 a155 a157).symm.trans ho147)
    replace ho147 := (laws_toMemberS.l0_s x0 k164 a155 a157).symm.trans ho147
    refine run_seq ?_
    refine run_seq ?_
    refine run_region rfl ?_
    refine ops_ex rfl (guard_none rfl) rfl rfl (ex_move rfl rfl) ?_
    refine ops_ex rfl (guard_none rfl) rfl rfl (ex_move rfl rfl) ?_
    refine ops_ex rfl (guard_none rfl) rfl rfl (ex_len (d := kMember) (xs := x0) rfl rfl Try.underlying28 hp0) ?_
    refine ops_ex rfl (guard_none rfl) rfl rfl (ex_lss rfl rfl rfl) ?_
    refine ops_nil ?_
    refine at_then ?_
    refine run_cond (b := (decide (a157 < (x0.length : Int)))) rfl (fun hb166 => ?_) (fun hb166 => ?_)
    · replace ho147 := cond_t hb166 ho147
      refine run_skip ?_
      refine at_then ?_
      refine run_seq ?_
      refine run_block ?_
      obtain ⟨e167, ho147⟩ := chk_some ho147
      obtain ⟨t169, h170, ho147⟩ := bind_some ho147
      obtain ⟨e171, ho147⟩ := chk_some ho147
      refine run_region rfl ?_
      refine ops_ex rfl (guard_none rfl) rfl rfl (ex_move rfl rfl) ?_
      refine ops_ex rfl (guard_none rfl) rfl rfl (ex_move rfl rfl) ?_
      refine ops_ex rfl (guard_none rfl) rfl rfl (ex_move rfl rfl) ?_
      refine ops_ex rfl (guard_none rfl) rfl rfl (ex_move rfl rfl) ?_
      have hc168 : CellsAt _ (sb p0) (so p0 + (a157).toNat * 3) [(.int .i64 ((gt x0 a157).fKey)), (.int .i64 ((gt x0 a157).fRef.fTx)), (.int .i64 ((gt x0 a157).fRef.fAt))] := rd_plain hp0 e167
      refine ops_ex rfl (guard_none rfl) rfl rfl (ex_indexAddr (d := kMember) rfl rfl rfl Try.underlying28 tsz97 hp0 (idx_lo e167) (idx_hi e167)) ?_
      refine ops_ex rfl (guard_none rfl) rfl rfl (ex_loadN (cs := [(.int .i64 ((gt x0 a157).fKey)), (.int .i64 ((gt x0 a157).fRef.fTx)), (.int .i64 ((gt x0 a157).fRef.fAt))]) rfl rfl Try.underlying97 rfl tsz97 rfl ((HM.at_ hc168).sub 0 3 rfl)) ?_
      refine ops_does rfl (guard_none rfl) rfl rfl (does_callk rfl callok61 rfl (laws_toMember.calls (x0 := (gt x0 a157)) h170)) ?_
      rintro _ w172 ⟨rfl, hn⟩
      replace HM : Mem w [] w172 [own kMember 94 v154 a155] := HM.call hn
      refine ops_ex rfl (guard_none rfl) rfl rfl (ex_indexAddr (d := kMember) rfl rfl rfl Try.underlying31 tsz94 (HM.own_rd 0 rfl) (idx_lo e171) (idx_hi e171)) ?_
      refine ops_doesS rfl (guard_none rfl) rfl (does_setElem (vs := [(.int .i64 t169.fKey), (.int .i64 t169.fRef.fTx), (.int .i64 t169.fRef.fAt)]) (y := t169) kMember rfl rfl rfl rfl rfl tsz94 rfl rfl (idx_nat e171) (fun _ _ h => ⟨rfl, h⟩) (HM.emp.front 1 rfl rfl)) ?_
      rintro w173 HM
      refine ops_nil ?_
      refine at_block ?_
      refine at_then ?_
      refine run_region rfl ?_
      refine ops_ex rfl (guard_none rfl) rfl rfl (ex_move rfl rfl) ?_
      refine ops_ex rfl (guard_none rfl) rfl rfl (ex_add rfl rfl rfl) ?_
      refine ops_ex rfl (guard_none rfl) rfl rfl (ex_assign rfl rfl) ?_
      refine ops_nil ?_
      exact at_again k164 (ρ1 := [(0, p0), (3, v154), (4, .int .i64 (wrap64 (a157 + 1)))]) (Nat.lt_succ_self _) ⟨_, _, _, ho147, rfl, HM⟩ (Sub.cons rfl (Sub.cons rfl (Sub.cons rfl Sub.nil)))
    · replace ho147 := cond_f hb166 ho147
      refine run_exit ?_
      refine at_then_exit ?_
      refine at_then_exit ?_
      refine at_block_exit ?_
      exact at_mid (ρ' := [(3, v154)]) ⟨_, _, (Option.some.inj ho147), rfl, HM⟩ (Sub.cons rfl Sub.nil)
  · rintro _ w174 ⟨v143, a144, rfl, rfl, HM⟩
    refine run_seq ?_
    refine run_region rfl ?_
    refine ops_ex rfl (guard_none rfl) rfl rfl (ex_move rfl rfl) ?_
    refine ops_ex rfl (guard_none rfl) rfl rfl (ex_assign rfl rfl) ?_
    refine ops_nil ?_
    refine at_then ?_
    refine run_ret ?_
    have hR := Option.some.inj H
    subst hR
    exact at_ret1 rfl rfl ⟨_, rfl, _, rfl, HM⟩

def spec_l6Same.l0 (x0 : List Member) (x1 : List Member) : Nat → Int → Option (Bool ⊕ Unit)
  | 0, _ => none
  | k + 1, a235 => (bif (decide (a235 < (x0.length : Int))) then (chk (idxOk a235 x0.length) (chk (idxOk a235 x1.length) (bif (!((((gt x0 a235).fKey) == ((gt x1 a235).fKey)) && ((((gt x0 a235).fRef.fTx) == ((gt x1 a235).fRef.fTx)) && (((gt x0 a235).fRef.fAt) == ((gt x1 a235).fRef.fAt))))) then some (.inl false) else spec_l6Same.l0 x0 x1 k (wrap64 (a235 + 1))))) else some (.inr ()))
theorem spec_l6Same.l0_z (x0 : List Member) (x1 : List Member) (a235 : Int) : spec_l6Same.l0 x0 x1 0 a235 = none := rfl
theorem spec_l6Same.l0_s (x0 : List Member) (x1 : List Member) (k : Nat) (a235 : Int) : spec_l6Same.l0 x0 x1 (k + 1) a235 = (bif (decide (a235 < (x0.length : Int))) then (chk (idxOk a235 x0.length) (chk (idxOk a235 x1.length) (bif (!((((gt x0 a235).fKey) == ((gt x1 a235).fKey)) && ((((gt x0 a235).fRef.fTx) == ((gt x1 a235).fRef.fTx)) && (((gt x0 a235).fRef.fAt) == ((gt x1 a235).fRef.fAt))))) then some (.inl false) else spec_l6Same.l0 x0 x1 k (wrap64 (a235 + 1))))) else some (.inr ())) := rfl
def spec_l6Same.f (k : Nat) (x0 : List Member) (x1 : List Member) : Option Bool := (bif ((x0.length : Int) != (x1.length : Int)) then some false else ((spec_l6Same.l0 x0 x1 k 0).bind fun o227 => thn o227 (fun r => some r) (fun _ => some true)))
theorem spec_l6Same.calls {k : Nat} {x0 : List Member} {x1 : List Member} {p0 : Value} {p1 : Value} {w : World} (hp0 : RdS kMember w p0 x0) (hp1 : RdS kMember w p1 x1) {r : Bool} (H : spec_l6Same.f k x0 x1 = some r) :
    Calls Try.prog 60 ([p0, p1] : List Value).toArray w (fun e w_ => ∃ v, e = .returned v ∧ v = (.bool r) ∧ Mem w [] w_ []) := by
  have HM := Mem.start w
  refine calls_run (N := 26) Try.func60 rfl rfl rfl rfl ?_
  unfold spec_l6Same.f at H
  refine run_seq ?_
  refine run_region rfl ?_
  refine ops_ex rfl (guard_none rfl) rfl rfl (ex_assign rfl rfl) ?_
  refine ops_nil ?_
  refine at_then ?_
  refine run_seq ?_
  refine run_seq ?_
  refine run_region rfl ?_
  refine ops_ex rfl (guard_none rfl) rfl rfl (ex_move rfl rfl) ?_
  refine ops_ex rfl (guard_none rfl) rfl rfl (ex_len (d := kMember) (xs := x0) rfl rfl Try.underlying31 hp0) ?_
  refine ops_ex rfl (guard_none rfl) rfl rfl (ex_move rfl rfl) ?_
  refine ops_ex rfl (guard_none rfl) rfl rfl (ex_len (d := kMember) (xs := x1) rfl rfl Try.underlying31 hp1) ?_
  refine ops_ex rfl (guard_none rfl) rfl rfl (ex_neq rfl rfl rfl) ?_
  refine ops_nil ?_
  refine at_then ?_
  refine run_cond (b := ((x0.length : Int) != (x1.length : Int))) rfl (fun hb207 => ?_) (fun hb207 => ?_)
  · replace H := cond_t hb207 H
    refine run_seq ?_
    refine run_region rfl ?_
    refine ops_ex rfl (guard_none rfl) rfl rfl (ex_assign rfl rfl) ?_
    refine ops_nil ?_
    refine at_then ?_
    refine run_ret ?_
    refine at_then_ret ?_
    have hR := Option.some.inj H
    subst hR
    exact at_ret1 rfl rfl ⟨_, rfl, rfl, HM⟩
  · replace H := cond_f hb207 H
    refine run_skip ?_
    refine at_then ?_
    obtain ⟨o227, ho228, H⟩ := bind_some H
    refine run_mid (fun ρ_ w_ => Sum.inr () = o227 ∧ ρ_ = [] ∧ Mem w [] w_ []) ?_ ?_
    · skip
      refine run_seq ?_
      refine run_region rfl ?_
      refine ops_ex rfl (guard_none rfl) rfl rfl (ex_assign rfl rfl) ?_
      refine ops_nil ?_
      refine at_then ?_
      refine run_block ?_
      refine run_loop (fun k_ ρ_ w_ => ∃ a235 : Int, spec_l6Same.l0 x0 x1 k_ a235 = some o227 ∧ ρ_ = [(0, p0), (1, p1), (5, .int .i64 a235)] ∧ Mem w [] w_ []) k (ρ1 := [(0, p0), (1, p1), (5, .int .i64 0)]) ⟨_, ho228, rfl, HM⟩ (Sub.cons rfl (Sub.cons rfl (Sub.cons rfl Sub.nil))) ?_
      clear HM ho228
      rintro k242 _ w243 ⟨a235, ho228, rfl, HM⟩
      obtain _ | k242 := k242
      · exact nomatch ((spec_l6Same.l0_z x0 x1 a235).symm.trans ho228)
      replace ho228 := (spec_l6Same.l0_s x0 x1 k242 a235).symm.trans ho228
      refine run_seq ?_
      refine run_seq ?_
      refine run_region rfl ?_
      refine ops_ex rfl (guard_none rfl) rfl rfl (ex_move rfl rfl) ?_
      refine ops_ex rfl (guard_none rfl) rfl rfl (ex_move rfl rfl) ?_
      refine ops_ex rfl (guard_none rfl) rfl rfl (ex_len (d := kMember) (xs := x0) rfl rfl Try.underlying31 hp0) ?_
      refine ops_ex rfl (guard_none rfl) rfl rfl (ex_lss rfl rfl rfl) ?_
      refine ops_nil ?_
      refine at_then ?_
      refine run_cond (b := (decide (a235 < (x0.length : Int)))) rfl (fun hb244 => ?_) (fun hb244 => ?_)
      · replace ho228 := cond_t hb244 ho228
        refine run_skip ?_
        refine at_then ?_
        refine run_seq ?_
        refine run_block ?_
        refine run_seq ?_
        obtain ⟨e245, ho228⟩ := chk_some ho228
        obtain ⟨e247, ho228⟩ := chk_some ho228
        refine run_draw (fun w_ => Mem w [] w_ []) mixed rfl rfl ?_
        replace HM := HM.grow (fr_drew _)
        have hS := Mem.suf (M := []) HM
        refine drw_take (i := 0) (l' := #[true, false, false, false, false, false, false, false, false]) rfl (guard_none rfl) rfl rfl (by kernel_rfl) (fun w_ hS_ => (ex_move rfl rfl)) hS ?_
        refine drw_take (i := 1) (l' := #[true, true, false, false, false, false, false, false, false]) rfl (guard_none rfl) rfl rfl (by kernel_rfl) (fun w_ hS_ => (ex_move rfl rfl)) hS ?_
        have hc246 : CellsAt _ (sb p0) (so p0 + (a235).toNat * 3) [(.int .i64 ((gt x0 a235).fKey)), (.int .i64 ((gt x0 a235).fRef.fTx)), (.int .i64 ((gt x0 a235).fRef.fAt))] := rd_plain hp0 e245
        refine drw_take (i := 2) (l' := #[true, true, true, false, false, false, false, false, false]) rfl (guard_none rfl) rfl rfl (by kernel_rfl) (fun w_ hS_ => (ex_indexAddr (d := kMember) rfl rfl rfl Try.underlying31 tsz94 hp0 (idx_lo e245) (idx_hi e245))) hS ?_
        refine drw_take (i := 3) (l' := #[true, true, true, true, false, false, false, false, false]) rfl (guard_none rfl) rfl rfl (by kernel_rfl) (fun w_ hS_ => (ex_loadN (cs := [(.int .i64 ((gt x0 a235).fKey)), (.int .i64 ((gt x0 a235).fRef.fTx)), (.int .i64 ((gt x0 a235).fRef.fAt))]) rfl rfl Try.underlying94 rfl tsz94 rfl ((hS_.at_ hc246).sub 0 3 rfl))) hS ?_
        refine drw_take (i := 4) (l' := #[true, true, true, true, true, false, false, false, false]) rfl (guard_none rfl) rfl rfl (by kernel_rfl) (fun w_ hS_ => (ex_move rfl rfl)) hS ?_
        refine drw_take (i := 5) (l' := #[true, true, true, true, true, true, false, false, false]) rfl (guard_none rfl) rfl rfl (by kernel_rfl) (fun w_ hS_ => (ex_move rfl rfl)) hS ?_
        have hc248 : CellsAt _ (sb p1) (so p1 + (a235).toNat * 3) [(.int .i64 ((gt x1 a235).fKey)), (.int .i64 ((gt x1 a235).fRef.fTx)), (.int .i64 ((gt x1 a235).fRef.fAt))] := rd_plain hp1 e247
        refine drw_take (i := 6) (l' := #[true, true, true, true, true, true, true, false, false]) rfl (guard_none rfl) rfl rfl (by kernel_rfl) (fun w_ hS_ => (ex_indexAddr (d := kMember) rfl rfl rfl Try.underlying31 tsz94 hp1 (idx_lo e247) (idx_hi e247))) hS ?_
        refine drw_take (i := 7) (l' := #[true, true, true, true, true, true, true, true, false]) rfl (guard_none rfl) rfl rfl (by kernel_rfl) (fun w_ hS_ => (ex_loadN (cs := [(.int .i64 ((gt x1 a235).fKey)), (.int .i64 ((gt x1 a235).fRef.fTx)), (.int .i64 ((gt x1 a235).fRef.fAt))]) rfl rfl Try.underlying94 rfl tsz94 rfl ((hS_.at_ hc248).sub 0 3 rfl))) hS ?_
        refine drw_take (i := 8) (l' := #[true, true, true, true, true, true, true, true, true]) rfl (guard_none rfl) rfl rfl (by kernel_rfl) (fun w_ hS_ => (ex_aneq rfl rfl rfl (by kernel_rfl) (eqs94 _ _ _ _ _ _ _))) hS ?_
        refine drw_done (by kernel_rfl) ?_
        refine at_then ?_
        refine run_cond (b := (!((((gt x0 a235).fKey) == ((gt x1 a235).fKey)) && ((((gt x0 a235).fRef.fTx) == ((gt x1 a235).fRef.fTx)) && (((gt x0 a235).fRef.fAt) == ((gt x1 a235).fRef.fAt)))))) rfl (fun hb249 => ?_) (fun hb249 => ?_)
        · replace ho228 := cond_t hb249 ho228
          refine run_seq ?_
          refine run_region rfl ?_
          refine ops_ex rfl (guard_none rfl) rfl rfl (ex_assign rfl rfl) ?_
          refine ops_nil ?_
          refine at_then ?_
          refine run_ret ?_
          refine at_block_ret ?_
          refine at_then_ret ?_
          refine at_then_ret ?_
          refine at_block_ret ?_
          refine at_then_ret ?_
          have hR := Option.some.inj ho228
          subst hR
          have hT := thn_inl H
          have hR := Option.some.inj hT
          subst hR
          exact at_ret1 rfl rfl ⟨_, rfl, rfl, HM⟩
        · replace ho228 := cond_f hb249 ho228
          refine run_skip ?_
          refine at_block ?_
          refine at_then ?_
          refine run_region rfl ?_
          refine ops_ex rfl (guard_none rfl) rfl rfl (ex_move rfl rfl) ?_
          refine ops_ex rfl (guard_none rfl) rfl rfl (ex_add rfl rfl rfl) ?_
          refine ops_ex rfl (guard_none rfl) rfl rfl (ex_assign rfl rfl) ?_
          refine ops_nil ?_
          exact at_again k242 (ρ1 := [(0, p0), (1, p1), (5, .int .i64 (wrap64 (a235 + 1)))]) (Nat.lt_succ_self _) ⟨_, ho228, rfl, HM⟩ (Sub.cons rfl (Sub.cons rfl (Sub.cons rfl Sub.nil)))
      · replace ho228 := cond_f hb244 ho228
        refine run_exit ?_
        refine at_then_exit ?_
        refine at_then_exit ?_
        refine at_block_exit ?_
        exact at_mid (ρ' := []) ⟨(Option.some.inj ho228), rfl, HM⟩ Sub.nil
    · rintro _ w250 ⟨rfl, rfl, HM⟩
      replace H := (thn_inr H)
      refine run_seq ?_
      refine run_region rfl ?_
      refine ops_ex rfl (guard_none rfl) rfl rfl (ex_assign rfl rfl) ?_
      refine ops_nil ?_
      refine at_then ?_
      refine run_ret ?_
      have hR := Option.some.inj H
      subst hR
      exact at_ret1 rfl rfl ⟨_, rfl, rfl, HM⟩

def spec_SameMembers.f (k : Nat) (x0 : List Member) (x1 : List Member) : Option Bool := ((spec_l6Same.f k x0 x1).bind fun t253 => some t253)
theorem spec_SameMembers.calls {k : Nat} {x0 : List Member} {x1 : List Member} {p0 : Value} {p1 : Value} {w : World} (hp0 : RdS kMember w p0 x0) (hp1 : RdS kMember w p1 x1) {r : Bool} (H : spec_SameMembers.f k x0 x1 = some r) :
    Calls Try.prog 21 ([p0, p1] : List Value).toArray w (fun e w_ => ∃ v, e = .returned v ∧ v = (.bool r) ∧ Mem w [] w_ []) := by
  have HM := Mem.start w
  refine calls_run (N := 8) Try.func21 rfl rfl rfl rfl ?_
  unfold spec_SameMembers.f at H
  refine run_seq ?_
  refine run_region rfl ?_
  refine ops_ex rfl (guard_none rfl) rfl rfl (ex_assign rfl rfl) ?_
  refine ops_nil ?_
  refine at_then ?_
  refine run_seq ?_
  obtain ⟨t253, h254, H⟩ := bind_some H
  refine run_region rfl ?_
  refine ops_ex rfl (guard_none rfl) rfl rfl (ex_move rfl rfl) ?_
  refine ops_ex rfl (guard_none rfl) rfl rfl (ex_move rfl rfl) ?_
  refine ops_does rfl (guard_none rfl) rfl rfl (does_callk rfl callok60 rfl (spec_l6Same.calls (x0 := x0) (x1 := x1) (HM.rd hp0) (HM.rd hp1) h254)) ?_
  rintro _ w255 ⟨rfl, hn⟩
  replace HM : Mem w [] w255 [] := HM.call hn
  refine ops_ex rfl (guard_none rfl) rfl rfl (ex_assign rfl rfl) ?_
  refine ops_nil ?_
  refine at_then ?_
  refine run_ret ?_
  have hR := Option.some.inj H
  subst hR
  exact at_ret1 rfl rfl ⟨_, rfl, rfl, HM⟩

def slices_Equal_impl_Member.l0 (x0 : List Member) (x1 : List Member) : Nat → Int → Option (Bool ⊕ Unit)
  | 0, _ => none
  | k + 1, a318 => (bif (decide (a318 < (x0.length : Int))) then (chk (idxOk a318 x0.length) (chk (idxOk a318 x1.length) (bif (!((((gt x0 a318).fKey) == ((gt x1 a318).fKey)) && ((((gt x0 a318).fRef.fTx) == ((gt x1 a318).fRef.fTx)) && (((gt x0 a318).fRef.fAt) == ((gt x1 a318).fRef.fAt))))) then some (.inl false) else slices_Equal_impl_Member.l0 x0 x1 k (wrap64 (a318 + 1))))) else some (.inr ()))
theorem slices_Equal_impl_Member.l0_z (x0 : List Member) (x1 : List Member) (a318 : Int) : slices_Equal_impl_Member.l0 x0 x1 0 a318 = none := rfl
theorem slices_Equal_impl_Member.l0_s (x0 : List Member) (x1 : List Member) (k : Nat) (a318 : Int) : slices_Equal_impl_Member.l0 x0 x1 (k + 1) a318 = (bif (decide (a318 < (x0.length : Int))) then (chk (idxOk a318 x0.length) (chk (idxOk a318 x1.length) (bif (!((((gt x0 a318).fKey) == ((gt x1 a318).fKey)) && ((((gt x0 a318).fRef.fTx) == ((gt x1 a318).fRef.fTx)) && (((gt x0 a318).fRef.fAt) == ((gt x1 a318).fRef.fAt))))) then some (.inl false) else slices_Equal_impl_Member.l0 x0 x1 k (wrap64 (a318 + 1))))) else some (.inr ())) := rfl
def slices_Equal_impl_Member.f (k : Nat) (x0 : List Member) (x1 : List Member) : Option Bool := (bif ((x0.length : Int) != (x1.length : Int)) then some false else ((slices_Equal_impl_Member.l0 x0 x1 k 0).bind fun o310 => thn o310 (fun r => some r) (fun _ => some true)))
theorem slices_Equal_impl_Member.calls {k : Nat} {x0 : List Member} {x1 : List Member} {p0 : Value} {p1 : Value} {w : World} (hp0 : RdS kMember w p0 x0) (hp1 : RdS kMember w p1 x1) {r : Bool} (H : slices_Equal_impl_Member.f k x0 x1 = some r) :
    Calls Try.prog 62 ([p0, p1] : List Value).toArray w (fun e w_ => ∃ v, e = .returned v ∧ v = (.bool r) ∧ Mem w [] w_ []) := by
  have HM := Mem.start w
  refine calls_run (N := 26) Try.func62 rfl rfl rfl rfl ?_
  unfold slices_Equal_impl_Member.f at H
  refine run_seq ?_
  refine run_region rfl ?_
  refine ops_ex rfl (guard_none rfl) rfl rfl (ex_assign rfl rfl) ?_
  refine ops_nil ?_
  refine at_then ?_
  refine run_seq ?_
  refine run_seq ?_
  refine run_region rfl ?_
  refine ops_ex rfl (guard_none rfl) rfl rfl (ex_move rfl rfl) ?_
  refine ops_ex rfl (guard_none rfl) rfl rfl (ex_len (d := kMember) (xs := x0) rfl rfl Try.underlying31 hp0) ?_
  refine ops_ex rfl (guard_none rfl) rfl rfl (ex_move rfl rfl) ?_
  refine ops_ex rfl (guard_none rfl) rfl rfl (ex_len (d := kMember) (xs := x1) rfl rfl Try.underlying31 hp1) ?_
  refine ops_ex rfl (guard_none rfl) rfl rfl (ex_neq rfl rfl rfl) ?_
  refine ops_nil ?_
  refine at_then ?_
  refine run_cond (b := ((x0.length : Int) != (x1.length : Int))) rfl (fun hb290 => ?_) (fun hb290 => ?_)
  · replace H := cond_t hb290 H
    refine run_seq ?_
    refine run_region rfl ?_
    refine ops_ex rfl (guard_none rfl) rfl rfl (ex_assign rfl rfl) ?_
    refine ops_nil ?_
    refine at_then ?_
    refine run_ret ?_
    refine at_then_ret ?_
    have hR := Option.some.inj H
    subst hR
    exact at_ret1 rfl rfl ⟨_, rfl, rfl, HM⟩
  · replace H := cond_f hb290 H
    refine run_skip ?_
    refine at_then ?_
    obtain ⟨o310, ho311, H⟩ := bind_some H
    refine run_mid (fun ρ_ w_ => Sum.inr () = o310 ∧ ρ_ = [] ∧ Mem w [] w_ []) ?_ ?_
    · skip
      refine run_seq ?_
      refine run_region rfl ?_
      refine ops_ex rfl (guard_none rfl) rfl rfl (ex_move rfl rfl) ?_
      refine ops_ex rfl (guard_none rfl) rfl rfl (ex_len (d := kMember) (xs := x0) rfl rfl Try.underlying31 hp0) ?_
      refine ops_ex rfl (guard_none rfl) rfl rfl (ex_move rfl rfl) ?_
      refine ops_nil ?_
      refine at_then ?_
      refine run_block ?_
      refine run_loop (fun k_ ρ_ w_ => ∃ a318 : Int, slices_Equal_impl_Member.l0 x0 x1 k_ a318 = some o310 ∧ ρ_ = [(0, p0), (1, p1), (12, .int .i64 (x0.length : Int)), (13, .int .i64 a318)] ∧ Mem w [] w_ []) k (ρ1 := [(0, p0), (1, p1), (12, .int .i64 (x0.length : Int)), (13, .int .i64 0)]) ⟨_, ho311, rfl, HM⟩ (Sub.cons rfl (Sub.cons rfl (Sub.cons rfl (Sub.cons rfl Sub.nil)))) ?_
      clear HM ho311
      rintro k325 _ w326 ⟨a318, ho311, rfl, HM⟩
      obtain _ | k325 := k325
      · exact nomatch ((slices_Equal_impl_Member.l0_z x0 x1 a318).symm.trans ho311)
      replace ho311 := (slices_Equal_impl_Member.l0_s x0 x1 k325 a318).symm.trans ho311
      refine run_seq ?_
      refine run_region rfl ?_
      refine ops_ex rfl (guard_none rfl) rfl rfl (ex_lss rfl rfl rfl) ?_
      refine ops_nil ?_
      refine at_then ?_
      refine run_seq ?_
      refine run_cond (b := (decide (a318 < (x0.length : Int)))) rfl (fun hb327 => ?_) (fun hb327 => ?_)
      · replace ho311 := cond_t hb327 ho311
        refine run_skip ?_
        refine at_then ?_
        refine run_seq ?_
        refine run_block ?_
        refine run_seq ?_
        refine run_region rfl ?_
        refine ops_ex rfl (guard_none rfl) rfl rfl (ex_move rfl rfl) ?_
        refine ops_ex rfl (guard_none rfl) rfl rfl (ex_assign rfl rfl) ?_
        refine ops_nil ?_
        refine at_then ?_
        refine run_seq ?_
        obtain ⟨e328, ho311⟩ := chk_some ho311
        obtain ⟨e330, ho311⟩ := chk_some ho311
        refine run_draw (fun w_ => Mem w [] w_ []) mixed rfl rfl ?_
        replace HM := HM.grow (fr_drew _)
        have hS := Mem.suf (M := []) HM
        refine drw_take (i := 0) (l' := #[true, false, false, false, false, false, false, false, false]) rfl (guard_none rfl) rfl rfl (by kernel_rfl) (fun w_ hS_ => (ex_move rfl rfl)) hS ?_
        refine drw_take (i := 1) (l' := #[true, true, false, false, false, false, false, false, false]) rfl (guard_none rfl) rfl rfl (by kernel_rfl) (fun w_ hS_ => (ex_move rfl rfl)) hS ?_
        have hc329 : CellsAt _ (sb p0) (so p0 + (a318).toNat * 3) [(.int .i64 ((gt x0 a318).fKey)), (.int .i64 ((gt x0 a318).fRef.fTx)), (.int .i64 ((gt x0 a318).fRef.fAt))] := rd_plain hp0 e328
        refine drw_take (i := 2) (l' := #[true, true, true, false, false, false, false, false, false]) rfl (guard_none rfl) rfl rfl (by kernel_rfl) (fun w_ hS_ => (ex_indexAddr (d := kMember) rfl rfl rfl Try.underlying31 tsz94 hp0 (idx_lo e328) (idx_hi e328))) hS ?_
        refine drw_take (i := 3) (l' := #[true, true, true, true, false, false, false, false, false]) rfl (guard_none rfl) rfl rfl (by kernel_rfl) (fun w_ hS_ => (ex_loadN (cs := [(.int .i64 ((gt x0 a318).fKey)), (.int .i64 ((gt x0 a318).fRef.fTx)), (.int .i64 ((gt x0 a318).fRef.fAt))]) rfl rfl Try.underlying94 rfl tsz94 rfl ((hS_.at_ hc329).sub 0 3 rfl))) hS ?_
        refine drw_take (i := 4) (l' := #[true, true, true, true, true, false, false, false, false]) rfl (guard_none rfl) rfl rfl (by kernel_rfl) (fun w_ hS_ => (ex_move rfl rfl)) hS ?_
        refine drw_take (i := 5) (l' := #[true, true, true, true, true, true, false, false, false]) rfl (guard_none rfl) rfl rfl (by kernel_rfl) (fun w_ hS_ => (ex_move rfl rfl)) hS ?_
        have hc331 : CellsAt _ (sb p1) (so p1 + (a318).toNat * 3) [(.int .i64 ((gt x1 a318).fKey)), (.int .i64 ((gt x1 a318).fRef.fTx)), (.int .i64 ((gt x1 a318).fRef.fAt))] := rd_plain hp1 e330
        refine drw_take (i := 6) (l' := #[true, true, true, true, true, true, true, false, false]) rfl (guard_none rfl) rfl rfl (by kernel_rfl) (fun w_ hS_ => (ex_indexAddr (d := kMember) rfl rfl rfl Try.underlying31 tsz94 hp1 (idx_lo e330) (idx_hi e330))) hS ?_
        refine drw_take (i := 7) (l' := #[true, true, true, true, true, true, true, true, false]) rfl (guard_none rfl) rfl rfl (by kernel_rfl) (fun w_ hS_ => (ex_loadN (cs := [(.int .i64 ((gt x1 a318).fKey)), (.int .i64 ((gt x1 a318).fRef.fTx)), (.int .i64 ((gt x1 a318).fRef.fAt))]) rfl rfl Try.underlying94 rfl tsz94 rfl ((hS_.at_ hc331).sub 0 3 rfl))) hS ?_
        refine drw_take (i := 8) (l' := #[true, true, true, true, true, true, true, true, true]) rfl (guard_none rfl) rfl rfl (by kernel_rfl) (fun w_ hS_ => (ex_aneq rfl rfl rfl (by kernel_rfl) (eqs94 _ _ _ _ _ _ _))) hS ?_
        refine drw_done (by kernel_rfl) ?_
        refine at_then ?_
        refine run_cond (b := (!((((gt x0 a318).fKey) == ((gt x1 a318).fKey)) && ((((gt x0 a318).fRef.fTx) == ((gt x1 a318).fRef.fTx)) && (((gt x0 a318).fRef.fAt) == ((gt x1 a318).fRef.fAt)))))) rfl (fun hb332 => ?_) (fun hb332 => ?_)
        · replace ho311 := cond_t hb332 ho311
          refine run_seq ?_
          refine run_region rfl ?_
          refine ops_ex rfl (guard_none rfl) rfl rfl (ex_assign rfl rfl) ?_
          refine ops_nil ?_
          refine at_then ?_
          refine run_ret ?_
          refine at_block_ret ?_
          refine at_then_ret ?_
          refine at_then_ret ?_
          refine at_block_ret ?_
          refine at_then_ret ?_
          have hR := Option.some.inj ho311
          subst hR
          have hT := thn_inl H
          have hR := Option.some.inj hT
          subst hR
          exact at_ret1 rfl rfl ⟨_, rfl, rfl, HM⟩
        · replace ho311 := cond_f hb332 ho311
          refine run_skip ?_
          refine at_block ?_
          refine at_then ?_
          refine run_region rfl ?_
          refine ops_ex rfl (guard_none rfl) rfl rfl (ex_add rfl rfl rfl) ?_
          refine ops_ex rfl (guard_none rfl) rfl rfl (ex_move rfl rfl) ?_
          refine ops_nil ?_
          exact at_again k325 (ρ1 := [(0, p0), (1, p1), (12, .int .i64 (x0.length : Int)), (13, .int .i64 (wrap64 (a318 + 1)))]) (Nat.lt_succ_self _) ⟨_, ho311, rfl, HM⟩ (Sub.cons rfl (Sub.cons rfl (Sub.cons rfl (Sub.cons rfl Sub.nil))))
      · replace ho311 := cond_f hb327 ho311
        refine run_exit ?_
        refine at_then_exit ?_
        refine at_then_exit ?_
        refine at_block_exit ?_
        exact at_mid (ρ' := []) ⟨(Option.some.inj ho311), rfl, HM⟩ Sub.nil
    · rintro _ w333 ⟨rfl, rfl, HM⟩
      replace H := (thn_inr H)
      refine run_seq ?_
      refine run_region rfl ?_
      refine ops_ex rfl (guard_none rfl) rfl rfl (ex_assign rfl rfl) ?_
      refine ops_nil ?_
      refine at_then ?_
      refine run_ret ?_
      have hR := Option.some.inj H
      subst hR
      exact at_ret1 rfl rfl ⟨_, rfl, rfl, HM⟩

def impl_SameMembers.f (k : Nat) (x0 : List Member) (x1 : List Member) : Option Bool := ((slices_Equal_impl_Member.f k x0 x1).bind fun t336 => some t336)
theorem impl_SameMembers.calls {k : Nat} {x0 : List Member} {x1 : List Member} {p0 : Value} {p1 : Value} {w : World} (hp0 : RdS kMember w p0 x0) (hp1 : RdS kMember w p1 x1) {r : Bool} (H : impl_SameMembers.f k x0 x1 = some r) :
    Calls Try.prog 23 ([p0, p1] : List Value).toArray w (fun e w_ => ∃ v, e = .returned v ∧ v = (.bool r) ∧ Mem w [] w_ []) := by
  have HM := Mem.start w
  refine calls_run (N := 8) Try.func23 rfl rfl rfl rfl ?_
  unfold impl_SameMembers.f at H
  refine run_seq ?_
  refine run_region rfl ?_
  refine ops_ex rfl (guard_none rfl) rfl rfl (ex_assign rfl rfl) ?_
  refine ops_nil ?_
  refine at_then ?_
  refine run_seq ?_
  obtain ⟨t336, h337, H⟩ := bind_some H
  refine run_region rfl ?_
  refine ops_ex rfl (guard_none rfl) rfl rfl (ex_move rfl rfl) ?_
  refine ops_ex rfl (guard_none rfl) rfl rfl (ex_move rfl rfl) ?_
  refine ops_does rfl (guard_none rfl) rfl rfl (does_callk rfl callok62 rfl (slices_Equal_impl_Member.calls (x0 := x0) (x1 := x1) (HM.rd hp0) (HM.rd hp1) h337)) ?_
  rintro _ w338 ⟨rfl, hn⟩
  replace HM : Mem w [] w338 [] := HM.call hn
  refine ops_ex rfl (guard_none rfl) rfl rfl (ex_assign rfl rfl) ?_
  refine ops_nil ?_
  refine at_then ?_
  refine run_ret ?_
  have hR := Option.some.inj H
  subst hR
  exact at_ret1 rfl rfl ⟨_, rfl, rfl, HM⟩

def laws_eqRef.f (k : Nat) (x0 : Ref) (x1 : Ref) : Option Bool := (bif (x0.fTx != x1.fTx) then some false else (bif (x0.fAt != x1.fAt) then some false else some true))
theorem laws_eqRef.calls {k : Nat} {x0 : Ref} {x1 : Ref}  {w : World}  {r : Bool} (H : laws_eqRef.f k x0 x1 = some r) :
    Calls Try.prog 90 ([.agg #[(.int .i64 x0.fTx), (.int .i64 x0.fAt)], .agg #[(.int .i64 x1.fTx), (.int .i64 x1.fAt)]] : List Value).toArray w (fun e w_ => ∃ v, e = .returned v ∧ v = (.bool r) ∧ Mem w [] w_ []) := by
  have HM := Mem.start w
  refine calls_run (N := 15) Try.func90 rfl rfl rfl rfl ?_
  unfold laws_eqRef.f at H
  refine run_seq ?_
  refine run_region rfl ?_
  refine ops_does rfl (guard_none rfl) rfl rfl (does_box (cs := [.int .i64 x0.fTx, .int .i64 x0.fAt]) rfl rfl rfl HM) ?_
  rintro _ w377 ⟨b371, rfl, HM⟩
  refine ops_does rfl (guard_none rfl) rfl rfl (does_box (cs := [.int .i64 x1.fTx, .int .i64 x1.fAt]) rfl rfl rfl HM) ?_
  rintro _ w378 ⟨b374, rfl, HM⟩
  refine ops_ex rfl (guard_none rfl) rfl rfl (ex_assign rfl rfl) ?_
  refine ops_nil ?_
  refine at_then ?_
  refine run_seq ?_
  refine run_seq ?_
  refine run_region rfl ?_
  refine ops_ex rfl (guard_none rfl) rfl rfl (ex_fieldAddr (off' := 0) rfl rfl Try.underlying69 rfl tsz2 rfl) ?_
  refine ops_ex rfl (guard_none rfl) rfl rfl (ex_load1 rfl rfl Try.underlying2 rfl ((HM.box_at 1 rfl) 0 _ rfl)) ?_
  refine ops_ex rfl (guard_none rfl) rfl rfl (ex_fieldAddr (off' := 0) rfl rfl Try.underlying69 rfl tsz2 rfl) ?_
  refine ops_ex rfl (guard_none rfl) rfl rfl (ex_load1 rfl rfl Try.underlying2 rfl ((HM.box_at 0 rfl) 0 _ rfl)) ?_
  refine ops_ex rfl (guard_none rfl) rfl rfl (ex_neq rfl rfl rfl) ?_
  refine ops_nil ?_
  refine at_then ?_
  refine run_cond (b := (x0.fTx != x1.fTx)) rfl (fun hb380 => ?_) (fun hb380 => ?_)
  · replace H := cond_t hb380 H
    refine run_seq ?_
    refine run_region rfl ?_
    refine ops_ex rfl (guard_none rfl) rfl rfl (ex_assign rfl rfl) ?_
    refine ops_nil ?_
    refine at_then ?_
    refine run_ret ?_
    refine at_then_ret ?_
    replace HM := (HM.front 0 rfl rfl).drop
    replace HM := (HM.front 0 rfl rfl).drop
    have hR := Option.some.inj H
    subst hR
    exact at_ret1 rfl rfl ⟨_, rfl, rfl, HM⟩
  · replace H := cond_f hb380 H
    refine run_skip ?_
    refine at_then ?_
    refine run_seq ?_
    refine run_seq ?_
    refine run_region rfl ?_
    refine ops_ex rfl (guard_none rfl) rfl rfl (ex_fieldAddr (off' := 1) rfl rfl Try.underlying69 rfl tsz2 rfl) ?_
    refine ops_ex rfl (guard_none rfl) rfl rfl (ex_load1 rfl rfl Try.underlying2 rfl ((HM.box_at 1 rfl) 1 _ rfl)) ?_
    refine ops_ex rfl (guard_none rfl) rfl rfl (ex_fieldAddr (off' := 1) rfl rfl Try.underlying69 rfl tsz2 rfl) ?_
    refine ops_ex rfl (guard_none rfl) rfl rfl (ex_load1 rfl rfl Try.underlying2 rfl ((HM.box_at 0 rfl) 1 _ rfl)) ?_
    refine ops_ex rfl (guard_none rfl) rfl rfl (ex_neq rfl rfl rfl) ?_
    refine ops_nil ?_
    refine at_then ?_
    refine run_cond (b := (x0.fAt != x1.fAt)) rfl (fun hb381 => ?_) (fun hb381 => ?_)
    · replace H := cond_t hb381 H
      refine run_seq ?_
      refine run_region rfl ?_
      refine ops_ex rfl (guard_none rfl) rfl rfl (ex_assign rfl rfl) ?_
      refine ops_nil ?_
      refine at_then ?_
      refine run_ret ?_
      refine at_then_ret ?_
      replace HM := (HM.front 0 rfl rfl).drop
      replace HM := (HM.front 0 rfl rfl).drop
      have hR := Option.some.inj H
      subst hR
      exact at_ret1 rfl rfl ⟨_, rfl, rfl, HM⟩
    · replace H := cond_f hb381 H
      refine run_skip ?_
      refine at_then ?_
      refine run_seq ?_
      refine run_region rfl ?_
      refine ops_ex rfl (guard_none rfl) rfl rfl (ex_assign rfl rfl) ?_
      refine ops_nil ?_
      refine at_then ?_
      refine run_ret ?_
      replace HM := (HM.front 0 rfl rfl).drop
      replace HM := (HM.front 0 rfl rfl).drop
      have hR := Option.some.inj H
      subst hR
      exact at_ret1 rfl rfl ⟨_, rfl, rfl, HM⟩

def laws_eqMember.f (k : Nat) (x0 : Member) (x1 : Member) : Option Bool := (bif (x0.fKey != x1.fKey) then some false else ((laws_eqRef.f k x0.fRef x1.fRef).bind fun t395 => (bif !t395 then some false else some true)))
theorem laws_eqMember.calls {k : Nat} {x0 : Member} {x1 : Member}  {w : World}  {r : Bool} (H : laws_eqMember.f k x0 x1 = some r) :
    Calls Try.prog 63 ([.agg #[(.int .i64 x0.fKey), (.int .i64 x0.fRef.fTx), (.int .i64 x0.fRef.fAt)], .agg #[(.int .i64 x1.fKey), (.int .i64 x1.fRef.fTx), (.int .i64 x1.fRef.fAt)]] : List Value).toArray w (fun e w_ => ∃ v, e = .returned v ∧ v = (.bool r) ∧ Mem w [] w_ []) := by
  have HM := Mem.start w
  refine calls_run (N := 16) Try.func63 rfl rfl rfl rfl ?_
  unfold laws_eqMember.f at H
  refine run_seq ?_
  refine run_region rfl ?_
  refine ops_does rfl (guard_none rfl) rfl rfl (does_box (cs := [.int .i64 x0.fKey, .int .i64 x0.fRef.fTx, .int .i64 x0.fRef.fAt]) rfl rfl rfl HM) ?_
  rintro _ w391 ⟨b385, rfl, HM⟩
  refine ops_does rfl (guard_none rfl) rfl rfl (does_box (cs := [.int .i64 x1.fKey, .int .i64 x1.fRef.fTx, .int .i64 x1.fRef.fAt]) rfl rfl rfl HM) ?_
  rintro _ w392 ⟨b388, rfl, HM⟩
  refine ops_ex rfl (guard_none rfl) rfl rfl (ex_assign rfl rfl) ?_
  refine ops_nil ?_
  refine at_then ?_
  refine run_seq ?_
  refine run_seq ?_
  refine run_region rfl ?_
  refine ops_ex rfl (guard_none rfl) rfl rfl (ex_fieldAddr (off' := 0) rfl rfl Try.underlying94 rfl tsz2 rfl) ?_
  refine ops_ex rfl (guard_none rfl) rfl rfl (ex_load1 rfl rfl Try.underlying2 rfl ((HM.box_at 1 rfl) 0 _ rfl)) ?_
  refine ops_ex rfl (guard_none rfl) rfl rfl (ex_fieldAddr (off' := 0) rfl rfl Try.underlying94 rfl tsz2 rfl) ?_
  refine ops_ex rfl (guard_none rfl) rfl rfl (ex_load1 rfl rfl Try.underlying2 rfl ((HM.box_at 0 rfl) 0 _ rfl)) ?_
  refine ops_ex rfl (guard_none rfl) rfl rfl (ex_neq rfl rfl rfl) ?_
  refine ops_nil ?_
  refine at_then ?_
  refine run_cond (b := (x0.fKey != x1.fKey)) rfl (fun hb394 => ?_) (fun hb394 => ?_)
  · replace H := cond_t hb394 H
    refine run_seq ?_
    refine run_region rfl ?_
    refine ops_ex rfl (guard_none rfl) rfl rfl (ex_assign rfl rfl) ?_
    refine ops_nil ?_
    refine at_then ?_
    refine run_ret ?_
    refine at_then_ret ?_
    replace HM := (HM.front 0 rfl rfl).drop
    replace HM := (HM.front 0 rfl rfl).drop
    have hR := Option.some.inj H
    subst hR
    exact at_ret1 rfl rfl ⟨_, rfl, rfl, HM⟩
  · replace H := cond_f hb394 H
    refine run_skip ?_
    refine at_then ?_
    refine run_seq ?_
    refine run_seq ?_
    obtain ⟨t395, h396, H⟩ := bind_some H
    refine run_region rfl ?_
    refine ops_ex rfl (guard_none rfl) rfl rfl (ex_fieldAddr (off' := 1) rfl rfl Try.underlying94 rfl tsz69 rfl) ?_
    refine ops_ex rfl (guard_none rfl) rfl rfl (ex_loadN (cs := [(.int .i64 x0.fRef.fTx), (.int .i64 x0.fRef.fAt)]) rfl rfl Try.underlying69 rfl tsz69 rfl ((HM.box_at 1 rfl).sub 1 2 rfl)) ?_
    refine ops_ex rfl (guard_none rfl) rfl rfl (ex_fieldAddr (off' := 1) rfl rfl Try.underlying94 rfl tsz69 rfl) ?_
    refine ops_ex rfl (guard_none rfl) rfl rfl (ex_loadN (cs := [(.int .i64 x1.fRef.fTx), (.int .i64 x1.fRef.fAt)]) rfl rfl Try.underlying69 rfl tsz69 rfl ((HM.box_at 0 rfl).sub 1 2 rfl)) ?_
    refine ops_does rfl (guard_none rfl) rfl rfl (does_callk rfl callok90 rfl (laws_eqRef.calls (x0 := x0.fRef) (x1 := x1.fRef) h396)) ?_
    rintro _ w397 ⟨rfl, hn⟩
    replace HM : Mem w [] w397 [box b388 94 [.int .i64 x1.fKey, .int .i64 x1.fRef.fTx, .int .i64 x1.fRef.fAt], box b385 94 [.int .i64 x0.fKey, .int .i64 x0.fRef.fTx, .int .i64 x0.fRef.fAt]] := HM.call hn
    refine ops_ex rfl (guard_none rfl) rfl rfl (ex_not rfl rfl) ?_
    refine ops_nil ?_
    refine at_then ?_
    refine run_cond (b := !t395) rfl (fun hb398 => ?_) (fun hb398 => ?_)
    · replace H := cond_t hb398 H
      refine run_seq ?_
      refine run_region rfl ?_
      refine ops_ex rfl (guard_none rfl) rfl rfl (ex_assign rfl rfl) ?_
      refine ops_nil ?_
      refine at_then ?_
      refine run_ret ?_
      refine at_then_ret ?_
      replace HM := (HM.front 0 rfl rfl).drop
      replace HM := (HM.front 0 rfl rfl).drop
      have hR := Option.some.inj H
      subst hR
      exact at_ret1 rfl rfl ⟨_, rfl, rfl, HM⟩
    · replace H := cond_f hb398 H
      refine run_skip ?_
      refine at_then ?_
      refine run_seq ?_
      refine run_region rfl ?_
      refine ops_ex rfl (guard_none rfl) rfl rfl (ex_assign rfl rfl) ?_
      refine ops_nil ?_
      refine at_then ?_
      refine run_ret ?_
      replace HM := (HM.front 0 rfl rfl).drop
      replace HM := (HM.front 0 rfl rfl).drop
      have hR := Option.some.inj H
      subst hR
      exact at_ret1 rfl rfl ⟨_, rfl, rfl, HM⟩
end Go.Proofs.Ytkofpnbacgccnaa.Zk
