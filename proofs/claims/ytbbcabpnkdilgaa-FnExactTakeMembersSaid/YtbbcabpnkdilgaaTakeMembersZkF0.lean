/- What functions of the program compute, each as a plain function, and that they do. Conditions: as each theorem states them. -/
import Derived.Test.YtbbcabpnkdilgaaTakeMembersZkTy
namespace Go.Proofs.Ytbbcabpnkdilgaa.Zk
open Go Go.RowKit Go.IntWalk Go.Proofs
set_option linter.unusedVariables false
set_option linter.unusedSimpArgs false
set_option maxRecDepth 100000
set_option maxHeartbeats 4000000
def laws_szMemberS.f (k : Nat) (x0 : List Member) (x1 : Int) : Option Int := (bif (decide ((wrap64 (x1 - (x0.length : Int))) < 0)) then some (-1) else some (wrap64 (x1 - (x0.length : Int))))
theorem laws_szMemberS.calls {k : Nat} {x0 : List Member} {x1 : Int} {p0 : Value} {w : World} (hp0 : RdS kMember w p0 x0) {r : Int} (H : laws_szMemberS.f k x0 x1 = some r) :
    Calls Try.prog 15 ([p0, .int .i64 x1] : List Value).toArray w (fun e w_ => ∃ v, e = .returned v ∧ v = (.int .i64 r) ∧ Mem w [] w_ []) := by
  have HM := Mem.start w
  refine calls_run (N := 12) Try.func15 rfl rfl rfl rfl ?_
  unfold laws_szMemberS.f at H
  refine run_seq ?_
  refine run_region rfl ?_
  refine ox rfl rfl rfl rfl (ex_assign rfl rfl) ?_
  refine ops_nil (at_then (run_seq ?_))
  refine run_region rfl ?_
  refine ox rfl rfl rfl rfl (ex_move rfl rfl) ?_
  refine ox rfl rfl rfl rfl (ex_move rfl rfl) ?_
  refine ox rfl rfl rfl rfl (ex_len (d := kMember) (xs := x0) rfl rfl Try.underlying45 hp0) ?_
  refine ox rfl rfl rfl rfl (ex_sub rfl rfl rfl) ?_
  refine ox rfl rfl rfl rfl (ex_assign rfl rfl) ?_
  refine ops_nil (at_then (run_seq ?_))
  refine run_seq ?_
  refine run_region rfl ?_
  refine ox rfl rfl rfl rfl (ex_move rfl rfl) ?_
  refine ox rfl rfl rfl rfl (ex_lss rfl rfl rfl) ?_
  refine ops_nil (at_then ?_)
  refine run_cond (b := (decide ((wrap64 (x1 - (x0.length : Int))) < 0))) rfl (fun hb5 => ?_) (fun hb5 => ?_)
  · replace H := cond_t hb5 H
    refine run_seq ?_
    refine run_region rfl ?_
    refine ox rfl rfl rfl rfl (ex_assign rfl rfl) ?_
    refine ops_nil (at_then ?_)
    refine run_ret ?_
    refine at_then_ret ?_
    have hR := Option.some.inj H
    subst hR
    exact at_ret1 rfl rfl ⟨_, rfl, rfl, HM⟩
  · replace H := cond_f hb5 H
    refine run_skip ?_
    refine at_then ?_
    refine run_seq ?_
    refine run_region rfl ?_
    refine ox rfl rfl rfl rfl (ex_move rfl rfl) ?_
    refine ox rfl rfl rfl rfl (ex_assign rfl rfl) ?_
    refine ops_nil (at_then ?_)
    refine run_ret ?_
    have hR := Option.some.inj H
    subst hR
    exact at_ret1 rfl rfl ⟨_, rfl, rfl, HM⟩

def laws_szRefS.f (k : Nat) (x0 : List Ref) (x1 : Int) : Option Int := (bif (decide ((wrap64 (x1 - (x0.length : Int))) < 0)) then some (-1) else some (wrap64 (x1 - (x0.length : Int))))
theorem laws_szRefS.calls {k : Nat} {x0 : List Ref} {x1 : Int} {p0 : Value} {w : World} (hp0 : RdS kRef w p0 x0) {r : Int} (H : laws_szRefS.f k x0 x1 = some r) :
    Calls Try.prog 67 ([p0, .int .i64 x1] : List Value).toArray w (fun e w_ => ∃ v, e = .returned v ∧ v = (.int .i64 r) ∧ Mem w [] w_ []) := by
  have HM := Mem.start w
  refine calls_run (N := 12) Try.func67 rfl rfl rfl rfl ?_
  unfold laws_szRefS.f at H
  refine run_seq ?_
  refine run_region rfl ?_
  refine ox rfl rfl rfl rfl (ex_assign rfl rfl) ?_
  refine ops_nil (at_then (run_seq ?_))
  refine run_region rfl ?_
  refine ox rfl rfl rfl rfl (ex_move rfl rfl) ?_
  refine ox rfl rfl rfl rfl (ex_move rfl rfl) ?_
  refine ox rfl rfl rfl rfl (ex_len (d := kRef) (xs := x0) rfl rfl Try.underlying46 hp0) ?_
  refine ox rfl rfl rfl rfl (ex_sub rfl rfl rfl) ?_
  refine ox rfl rfl rfl rfl (ex_assign rfl rfl) ?_
  refine ops_nil (at_then (run_seq ?_))
  refine run_seq ?_
  refine run_region rfl ?_
  refine ox rfl rfl rfl rfl (ex_move rfl rfl) ?_
  refine ox rfl rfl rfl rfl (ex_lss rfl rfl rfl) ?_
  refine ops_nil (at_then ?_)
  refine run_cond (b := (decide ((wrap64 (x1 - (x0.length : Int))) < 0))) rfl (fun hb14 => ?_) (fun hb14 => ?_)
  · replace H := cond_t hb14 H
    refine run_seq ?_
    refine run_region rfl ?_
    refine ox rfl rfl rfl rfl (ex_assign rfl rfl) ?_
    refine ops_nil (at_then ?_)
    refine run_ret ?_
    refine at_then_ret ?_
    have hR := Option.some.inj H
    subst hR
    exact at_ret1 rfl rfl ⟨_, rfl, rfl, HM⟩
  · replace H := cond_f hb14 H
    refine run_skip ?_
    refine at_then ?_
    refine run_seq ?_
    refine run_region rfl ?_
    refine ox rfl rfl rfl rfl (ex_move rfl rfl) ?_
    refine ox rfl rfl rfl rfl (ex_assign rfl rfl) ?_
    refine ops_nil (at_then ?_)
    refine run_ret ?_
    have hR := Option.some.inj H
    subst hR
    exact at_ret1 rfl rfl ⟨_, rfl, rfl, HM⟩

def laws_szInt64S.f (k : Nat) (x0 : List Int) (x1 : Int) : Option Int := (bif (decide ((wrap64 (x1 - (x0.length : Int))) < 0)) then some (-1) else some (wrap64 (x1 - (x0.length : Int))))
theorem laws_szInt64S.calls {k : Nat} {x0 : List Int} {x1 : Int} {p0 : Value} {w : World} (hp0 : RdS kInt w p0 x0) {r : Int} (H : laws_szInt64S.f k x0 x1 = some r) :
    Calls Try.prog 160 ([p0, .int .i64 x1] : List Value).toArray w (fun e w_ => ∃ v, e = .returned v ∧ v = (.int .i64 r) ∧ Mem w [] w_ []) := by
  have HM := Mem.start w
  refine calls_run (N := 12) Try.func160 rfl rfl rfl rfl ?_
  unfold laws_szInt64S.f at H
  refine run_seq ?_
  refine run_region rfl ?_
  refine ox rfl rfl rfl rfl (ex_assign rfl rfl) ?_
  refine ops_nil (at_then (run_seq ?_))
  refine run_region rfl ?_
  refine ox rfl rfl rfl rfl (ex_move rfl rfl) ?_
  refine ox rfl rfl rfl rfl (ex_move rfl rfl) ?_
  refine ox rfl rfl rfl rfl (ex_len (d := kInt) (xs := x0) rfl rfl Try.underlying39 hp0) ?_
  refine ox rfl rfl rfl rfl (ex_sub rfl rfl rfl) ?_
  refine ox rfl rfl rfl rfl (ex_assign rfl rfl) ?_
  refine ops_nil (at_then (run_seq ?_))
  refine run_seq ?_
  refine run_region rfl ?_
  refine ox rfl rfl rfl rfl (ex_move rfl rfl) ?_
  refine ox rfl rfl rfl rfl (ex_lss rfl rfl rfl) ?_
  refine ops_nil (at_then ?_)
  refine run_cond (b := (decide ((wrap64 (x1 - (x0.length : Int))) < 0))) rfl (fun hb33 => ?_) (fun hb33 => ?_)
  · replace H := cond_t hb33 H
    refine run_seq ?_
    refine run_region rfl ?_
    refine ox rfl rfl rfl rfl (ex_assign rfl rfl) ?_
    refine ops_nil (at_then ?_)
    refine run_ret ?_
    refine at_then_ret ?_
    have hR := Option.some.inj H
    subst hR
    exact at_ret1 rfl rfl ⟨_, rfl, rfl, HM⟩
  · replace H := cond_f hb33 H
    refine run_skip ?_
    refine at_then ?_
    refine run_seq ?_
    refine run_region rfl ?_
    refine ox rfl rfl rfl rfl (ex_move rfl rfl) ?_
    refine ox rfl rfl rfl rfl (ex_assign rfl rfl) ?_
    refine ops_nil (at_then ?_)
    refine run_ret ?_
    have hR := Option.some.inj H
    subst hR
    exact at_ret1 rfl rfl ⟨_, rfl, rfl, HM⟩

def laws_szRule.f (k : Nat) (x0 : Rule) (x1 : Int) : Option Int := ((laws_szInt64S.f k x0.fKeys x1).bind fun t41 => (bif (decide (t41 < 0)) then some (-1) else some t41))
theorem laws_szRule.calls {k : Nat} {x0 : Rule} {x1 : Int} {p0_0 : Value} {w : World} (hp0_0 : RdS kInt w p0_0 x0.fKeys) {r : Int} (H : laws_szRule.f k x0 x1 = some r) :
    Calls Try.prog 144 ([.agg #[p0_0, (.int .i64 x0.fNeed), (.int .i64 x0.fAfter)], .int .i64 x1] : List Value).toArray w (fun e w_ => ∃ v, e = .returned v ∧ v = (.int .i64 r) ∧ Mem w [] w_ []) := by
  have HM := Mem.start w
  refine calls_run (N := 12) Try.func144 rfl rfl rfl rfl ?_
  unfold laws_szRule.f at H
  refine run_seq ?_
  refine run_region rfl ?_
  refine od rfl rfl rfl rfl (does_box (cs := [p0_0, .int .i64 x0.fNeed, .int .i64 x0.fAfter]) rfl rfl rfl HM) ?_
  rintro _ w40 ⟨b37, rfl, HM⟩
  refine ox rfl rfl rfl rfl (ex_assign rfl rfl) ?_
  refine ops_nil (at_then (run_seq ?_))
  obtain ⟨t41, h42, H⟩ := bind_some H
  refine run_region rfl ?_
  refine ox rfl rfl rfl rfl (ex_fieldAddr (off' := 0) rfl rfl Try.underlying139 rfl tsz39 rfl) ?_
  refine ox rfl rfl rfl rfl (ex_load1 rfl rfl Try.underlying39 rfl ((HM.box_at 0 rfl) 0 _ rfl)) ?_
  refine ox rfl rfl rfl rfl (ex_move rfl rfl) ?_
  refine od rfl rfl rfl rfl (does_callk rfl callok160 rfl (laws_szInt64S.calls (x0 := x0.fKeys) (x1 := x1) (HM.rd hp0_0) h42)) ?_
  rintro _ w43 ⟨rfl, hn⟩
  replace HM : Mem w [] w43 [box b37 139 [p0_0, .int .i64 x0.fNeed, .int .i64 x0.fAfter]] := HM.call hn
  refine ox rfl rfl rfl rfl (ex_assign rfl rfl) ?_
  refine ops_nil (at_then (run_seq ?_))
  refine run_seq ?_
  refine run_region rfl ?_
  refine ox rfl rfl rfl rfl (ex_move rfl rfl) ?_
  refine ox rfl rfl rfl rfl (ex_lss rfl rfl rfl) ?_
  refine ops_nil (at_then ?_)
  refine run_cond (b := (decide (t41 < 0))) rfl (fun hb44 => ?_) (fun hb44 => ?_)
  · replace H := cond_t hb44 H
    refine run_seq ?_
    refine run_region rfl ?_
    refine ox rfl rfl rfl rfl (ex_assign rfl rfl) ?_
    refine ops_nil (at_then ?_)
    refine run_ret ?_
    refine at_then_ret ?_
    replace HM := (HM.front 0 rfl rfl).drop
    have hR := Option.some.inj H
    subst hR
    exact at_ret1 rfl rfl ⟨_, rfl, rfl, HM⟩
  · replace H := cond_f hb44 H
    refine run_skip ?_
    refine at_then ?_
    refine run_seq ?_
    refine run_region rfl ?_
    refine ox rfl rfl rfl rfl (ex_move rfl rfl) ?_
    refine ox rfl rfl rfl rfl (ex_assign rfl rfl) ?_
    refine ops_nil (at_then ?_)
    refine run_ret ?_
    replace HM := (HM.front 0 rfl rfl).drop
    have hR := Option.some.inj H
    subst hR
    exact at_ret1 rfl rfl ⟨_, rfl, rfl, HM⟩

def laws_szOut.f (k : Nat) (x0 : Out) (x1 : Int) : Option Int := ((laws_szRule.f k x0.fRule x1).bind fun t52 => (bif (decide (t52 < 0)) then some (-1) else some t52))
theorem laws_szOut.calls {k : Nat} {x0 : Out} {x1 : Int} {p0_0 : Value} {w : World} (hp0_0 : RdS kInt w p0_0 x0.fRule.fKeys) {r : Int} (H : laws_szOut.f k x0 x1 = some r) :
    Calls Try.prog 96 ([.agg #[(.int .i64 x0.fValue), p0_0, (.int .i64 x0.fRule.fNeed), (.int .i64 x0.fRule.fAfter)], .int .i64 x1] : List Value).toArray w (fun e w_ => ∃ v, e = .returned v ∧ v = (.int .i64 r) ∧ Mem w [] w_ []) := by
  have HM := Mem.start w
  refine calls_run (N := 12) Try.func96 rfl rfl rfl rfl ?_
  unfold laws_szOut.f at H
  refine run_seq ?_
  refine run_region rfl ?_
  refine od rfl rfl rfl rfl (does_box (cs := [.int .i64 x0.fValue, p0_0, .int .i64 x0.fRule.fNeed, .int .i64 x0.fRule.fAfter]) rfl rfl rfl HM) ?_
  rintro _ w51 ⟨b48, rfl, HM⟩
  refine ox rfl rfl rfl rfl (ex_assign rfl rfl) ?_
  refine ops_nil (at_then (run_seq ?_))
  obtain ⟨t52, h53, H⟩ := bind_some H
  refine run_region rfl ?_
  refine ox rfl rfl rfl rfl (ex_fieldAddr (off' := 1) rfl rfl Try.underlying141 rfl tsz139 rfl) ?_
  refine ox rfl rfl rfl rfl (ex_loadN (cs := [p0_0, (.int .i64 x0.fRule.fNeed), (.int .i64 x0.fRule.fAfter)]) rfl rfl Try.underlying139 rfl tsz139 rfl ((HM.box_at 0 rfl).sub 1 3 rfl)) ?_
  refine ox rfl rfl rfl rfl (ex_move rfl rfl) ?_
  refine od rfl rfl rfl rfl (does_callk rfl callok144 rfl (laws_szRule.calls (x0 := x0.fRule) (x1 := x1) (HM.rd hp0_0) h53)) ?_
  rintro _ w54 ⟨rfl, hn⟩
  replace HM : Mem w [] w54 [box b48 141 [.int .i64 x0.fValue, p0_0, .int .i64 x0.fRule.fNeed, .int .i64 x0.fRule.fAfter]] := HM.call hn
  refine ox rfl rfl rfl rfl (ex_assign rfl rfl) ?_
  refine ops_nil (at_then (run_seq ?_))
  refine run_seq ?_
  refine run_region rfl ?_
  refine ox rfl rfl rfl rfl (ex_move rfl rfl) ?_
  refine ox rfl rfl rfl rfl (ex_lss rfl rfl rfl) ?_
  refine ops_nil (at_then ?_)
  refine run_cond (b := (decide (t52 < 0))) rfl (fun hb55 => ?_) (fun hb55 => ?_)
  · replace H := cond_t hb55 H
    refine run_seq ?_
    refine run_region rfl ?_
    refine ox rfl rfl rfl rfl (ex_assign rfl rfl) ?_
    refine ops_nil (at_then ?_)
    refine run_ret ?_
    refine at_then_ret ?_
    replace HM := (HM.front 0 rfl rfl).drop
    have hR := Option.some.inj H
    subst hR
    exact at_ret1 rfl rfl ⟨_, rfl, rfl, HM⟩
  · replace H := cond_f hb55 H
    refine run_skip ?_
    refine at_then ?_
    refine run_seq ?_
    refine run_region rfl ?_
    refine ox rfl rfl rfl rfl (ex_move rfl rfl) ?_
    refine ox rfl rfl rfl rfl (ex_assign rfl rfl) ?_
    refine ops_nil (at_then ?_)
    refine run_ret ?_
    replace HM := (HM.front 0 rfl rfl).drop
    have hR := Option.some.inj H
    subst hR
    exact at_ret1 rfl rfl ⟨_, rfl, rfl, HM⟩

def laws_szOutS.l0 (x0 : List Out) : Nat → Int → Int → Option (Int ⊕ Int)
  | 0, _, _ => none
  | k + 1, a119, a120 => (bif (decide (a120 < (x0.length : Int))) then (chk (idxOk a120 x0.length) ((laws_szOut.f k (gt x0 a120) a119).bind fun t136 => (bif (decide (t136 < 0)) then some (.inl (-1)) else laws_szOutS.l0 x0 k t136 (wrap64 (a120 + 1))))) else some (.inr a119))
theorem laws_szOutS.l0_z (x0 : List Out) (a119 : Int) (a120 : Int) : laws_szOutS.l0 x0 0 a119 a120 = none := rfl
theorem laws_szOutS.l0_s (x0 : List Out) (k : Nat) (a119 : Int) (a120 : Int) : laws_szOutS.l0 x0 (k + 1) a119 a120 = (bif (decide (a120 < (x0.length : Int))) then (chk (idxOk a120 x0.length) ((laws_szOut.f k (gt x0 a120) a119).bind fun t136 => (bif (decide (t136 < 0)) then some (.inl (-1)) else laws_szOutS.l0 x0 k t136 (wrap64 (a120 + 1))))) else some (.inr a119)) := rfl
def laws_szOutS.f (k : Nat) (x0 : List Out) (x1 : Int) : Option Int := (bif (decide ((wrap64 (x1 - (x0.length : Int))) < 0)) then some (-1) else ((laws_szOutS.l0 x0 k (wrap64 (x1 - (x0.length : Int))) 0).bind fun o109 => thn o109 (fun r => some r) (fun a108 => some a108)))
theorem laws_szOutS.calls {k : Nat} {x0 : List Out} {x1 : Int} {p0 : Value} {w : World} (hp0 : RdS kOut w p0 x0) {r : Int} (H : laws_szOutS.f k x0 x1 = some r) :
    Calls Try.prog 37 ([p0, .int .i64 x1] : List Value).toArray w (fun e w_ => ∃ v, e = .returned v ∧ v = (.int .i64 r) ∧ Mem w [] w_ []) := by
  have HM := Mem.start w
  refine calls_run (N := 27) Try.func37 rfl rfl rfl rfl ?_
  unfold laws_szOutS.f at H
  refine run_seq ?_
  refine run_region rfl ?_
  refine ox rfl rfl rfl rfl (ex_assign rfl rfl) ?_
  refine ops_nil (at_then (run_seq ?_))
  refine run_region rfl ?_
  refine ox rfl rfl rfl rfl (ex_move rfl rfl) ?_
  refine ox rfl rfl rfl rfl (ex_move rfl rfl) ?_
  refine ox rfl rfl rfl rfl (ex_len (d := kOut) (xs := x0) rfl rfl Try.underlying47 hp0) ?_
  refine ox rfl rfl rfl rfl (ex_sub rfl rfl rfl) ?_
  refine ox rfl rfl rfl rfl (ex_assign rfl rfl) ?_
  refine ops_nil (at_then (run_seq ?_))
  refine run_seq ?_
  refine run_region rfl ?_
  refine ox rfl rfl rfl rfl (ex_move rfl rfl) ?_
  refine ox rfl rfl rfl rfl (ex_lss rfl rfl rfl) ?_
  refine ops_nil (at_then ?_)
  refine run_cond (b := (decide ((wrap64 (x1 - (x0.length : Int))) < 0))) rfl (fun hb81 => ?_) (fun hb81 => ?_)
  · replace H := cond_t hb81 H
    refine run_seq ?_
    refine run_region rfl ?_
    refine ox rfl rfl rfl rfl (ex_assign rfl rfl) ?_
    refine ops_nil (at_then ?_)
    refine run_ret ?_
    refine at_then_ret ?_
    have hR := Option.some.inj H
    subst hR
    exact at_ret1 rfl rfl ⟨_, rfl, rfl, HM⟩
  · replace H := cond_f hb81 H
    refine run_skip ?_
    refine at_then ?_
    obtain ⟨o109, ho110, H⟩ := bind_some H
    refine run_mid (fun ρ_ w_ => ∃ a108 : Int, Sum.inr a108 = o109 ∧ ρ_ = [(1, .int .i64 a108)] ∧ Mem w [] w_ []) ?_ ?_
    · skip
      refine run_seq ?_
      refine run_region rfl ?_
      refine ox rfl rfl rfl rfl (ex_assign rfl rfl) ?_
      refine ops_nil (at_then ?_)
      refine run_block ?_
      refine run_loop (fun k_ ρ_ w_ => ∃ a119 : Int, ∃ a120 : Int, laws_szOutS.l0 x0 k_ a119 a120 = some o109 ∧ ρ_ = [(0, p0), (1, .int .i64 a119), (5, .int .i64 a120)] ∧ Mem w [] w_ []) k (ρ1 := [(0, p0), (1, .int .i64 (wrap64 (x1 - (x0.length : Int)))), (5, .int .i64 0)]) ⟨_, _, ho110, rfl, HM⟩ (Sub.cons rfl (Sub.cons rfl (Sub.cons rfl Sub.nil))) ?_
      clear HM ho110
      rintro k129 _ w130 ⟨a119, a120, ho110, rfl, HM⟩
      obtain _ | k129 := k129
      · exact nomatch ((laws_szOutS.l0_z x0 a119 a120).symm.trans ho110)
      replace ho110 := (laws_szOutS.l0_s x0 k129 a119 a120).symm.trans ho110
      refine run_seq ?_
      refine run_seq ?_
      refine run_region rfl ?_
      refine ox rfl rfl rfl rfl (ex_move rfl rfl) ?_
      refine ox rfl rfl rfl rfl (ex_move rfl rfl) ?_
      refine ox rfl rfl rfl rfl (ex_len (d := kOut) (xs := x0) rfl rfl Try.underlying47 hp0) ?_
      refine ox rfl rfl rfl rfl (ex_lss rfl rfl rfl) ?_
      refine ops_nil (at_then ?_)
      refine run_cond (b := (decide (a120 < (x0.length : Int)))) rfl (fun hb131 => ?_) (fun hb131 => ?_)
      · replace ho110 := cond_t hb131 ho110
        refine run_skip ?_
        refine at_then ?_
        refine run_seq ?_
        refine run_block ?_
        refine run_seq ?_
        obtain ⟨e132, ho110⟩ := chk_some ho110
        obtain ⟨t136, h137, ho110⟩ := bind_some ho110
        refine run_region rfl ?_
        refine ox rfl rfl rfl rfl (ex_move rfl rfl) ?_
        refine ox rfl rfl rfl rfl (ex_move rfl rfl) ?_
        obtain ⟨kv134, hc133, hk135⟩ : ∃ u, CellsAt _ (sb p0) (so p0 + (a120).toNat * 4) [(.int .i64 ((gt x0 a120).fValue)), u, (.int .i64 ((gt x0 a120).fRule.fNeed)), (.int .i64 ((gt x0 a120).fRule.fAfter))] ∧ RdS kInt _ u ((gt x0 a120).fRule.fKeys) := rd_with1 hp0 e132
        refine ox rfl rfl rfl rfl (ex_indexAddr (d := kOut) rfl rfl rfl Try.underlying47 tsz141 hp0 (idx_lo e132) (idx_hi e132)) ?_
        refine ox rfl rfl rfl rfl (ex_loadN (cs := [(.int .i64 ((gt x0 a120).fValue)), kv134, (.int .i64 ((gt x0 a120).fRule.fNeed)), (.int .i64 ((gt x0 a120).fRule.fAfter))]) rfl rfl Try.underlying141 rfl tsz141 rfl ((HM.at_ hc133).sub 0 4 rfl)) ?_
        refine ox rfl rfl rfl rfl (ex_move rfl rfl) ?_
        refine od rfl rfl rfl rfl (does_callk rfl callok96 rfl (laws_szOut.calls (x0 := (gt x0 a120)) (x1 := a119) (HM.rd hk135) h137)) ?_
        rintro _ w138 ⟨rfl, hn⟩
        replace HM : Mem w [] w138 [] := HM.call hn
        refine ox rfl rfl rfl rfl (ex_assign rfl rfl) ?_
        refine ops_nil (at_then (run_seq ?_))
        refine run_region rfl ?_
        refine ox rfl rfl rfl rfl (ex_move rfl rfl) ?_
        refine ox rfl rfl rfl rfl (ex_lss rfl rfl rfl) ?_
        refine ops_nil (at_then ?_)
        refine run_cond (b := (decide (t136 < 0))) rfl (fun hb139 => ?_) (fun hb139 => ?_)
        · replace ho110 := cond_t hb139 ho110
          refine run_seq ?_
          refine run_region rfl ?_
          refine ox rfl rfl rfl rfl (ex_assign rfl rfl) ?_
          refine ops_nil (at_then ?_)
          refine run_ret ?_
          refine at_block_ret ?_
          refine at_then_ret ?_
          refine at_then_ret ?_
          refine at_block_ret ?_
          refine at_then_ret ?_
          have hR := Option.some.inj ho110
          subst hR
          have hT := thn_inl H
          have hR := Option.some.inj hT
          subst hR
          exact at_ret1 rfl rfl ⟨_, rfl, rfl, HM⟩
        · replace ho110 := cond_f hb139 ho110
          refine run_skip ?_
          refine at_block ?_
          refine at_then ?_
          refine run_region rfl ?_
          refine ox rfl rfl rfl rfl (ex_move rfl rfl) ?_
          refine ox rfl rfl rfl rfl (ex_add rfl rfl rfl) ?_
          refine ox rfl rfl rfl rfl (ex_assign rfl rfl) ?_
          refine ops_nil ?_
          exact at_again k129 (ρ1 := [(0, p0), (1, .int .i64 t136), (5, .int .i64 (wrap64 (a120 + 1)))]) (Nat.lt_succ_self _) ⟨_, _, ho110, rfl, HM⟩ (Sub.cons rfl (Sub.cons rfl (Sub.cons rfl Sub.nil)))
      · replace ho110 := cond_f hb131 ho110
        refine run_exit ?_
        refine at_then_exit ?_
        refine at_then_exit ?_
        refine at_block_exit ?_
        exact at_mid (ρ' := [(1, .int .i64 a119)]) ⟨_, (Option.some.inj ho110), rfl, HM⟩ (Sub.cons rfl Sub.nil)
    · rintro _ w140 ⟨a108, rfl, rfl, HM⟩
      replace H := (thn_inr H)
      refine run_seq ?_
      refine run_region rfl ?_
      refine ox rfl rfl rfl rfl (ex_move rfl rfl) ?_
      refine ox rfl rfl rfl rfl (ex_assign rfl rfl) ?_
      refine ops_nil (at_then ?_)
      refine run_ret ?_
      have hR := Option.some.inj H
      subst hR
      exact at_ret1 rfl rfl ⟨_, rfl, rfl, HM⟩

def laws_szTx.f (k : Nat) (x0 : Tx) (x1 : Int) : Option Int := ((laws_szRefS.f k x0.fIns x1).bind fun t148 => (bif (decide (t148 < 0)) then some (-1) else ((laws_szOutS.f k x0.fOuts t148).bind fun t153 => (bif (decide (t153 < 0)) then some (-1) else some t153))))
theorem laws_szTx.calls {k : Nat} {x0 : Tx} {x1 : Int} {p0_0 : Value} {p0_1 : Value} {w : World} (hp0_0 : RdS kRef w p0_0 x0.fIns) (hp0_1 : RdS kOut w p0_1 x0.fOuts) {r : Int} (H : laws_szTx.f k x0 x1 = some r) :
    Calls Try.prog 16 ([.agg #[(.int .i64 x0.fKind), (.int .i64 x0.fMember), p0_0, p0_1], .int .i64 x1] : List Value).toArray w (fun e w_ => ∃ v, e = .returned v ∧ v = (.int .i64 r) ∧ Mem w [] w_ []) := by
  have HM := Mem.start w
  refine calls_run (N := 18) Try.func16 rfl rfl rfl rfl ?_
  unfold laws_szTx.f at H
  refine run_seq ?_
  refine run_region rfl ?_
  refine od rfl rfl rfl rfl (does_box (cs := [.int .i64 x0.fKind, .int .i64 x0.fMember, p0_0, p0_1]) rfl rfl rfl HM) ?_
  rintro _ w147 ⟨b144, rfl, HM⟩
  refine ox rfl rfl rfl rfl (ex_assign rfl rfl) ?_
  refine ops_nil (at_then (run_seq ?_))
  obtain ⟨t148, h149, H⟩ := bind_some H
  refine run_region rfl ?_
  refine ox rfl rfl rfl rfl (ex_fieldAddr (off' := 2) rfl rfl Try.underlying49 rfl tsz46 rfl) ?_
  refine ox rfl rfl rfl rfl (ex_load1 rfl rfl Try.underlying46 rfl ((HM.box_at 0 rfl) 2 _ rfl)) ?_
  refine ox rfl rfl rfl rfl (ex_move rfl rfl) ?_
  refine od rfl rfl rfl rfl (does_callk rfl callok67 rfl (laws_szRefS.calls (x0 := x0.fIns) (x1 := x1) (HM.rd hp0_0) h149)) ?_
  rintro _ w150 ⟨rfl, hn⟩
  replace HM : Mem w [] w150 [box b144 49 [.int .i64 x0.fKind, .int .i64 x0.fMember, p0_0, p0_1]] := HM.call hn
  refine ox rfl rfl rfl rfl (ex_assign rfl rfl) ?_
  refine ops_nil (at_then (run_seq ?_))
  refine run_seq ?_
  refine run_region rfl ?_
  refine ox rfl rfl rfl rfl (ex_move rfl rfl) ?_
  refine ox rfl rfl rfl rfl (ex_lss rfl rfl rfl) ?_
  refine ops_nil (at_then ?_)
  refine run_cond (b := (decide (t148 < 0))) rfl (fun hb152 => ?_) (fun hb152 => ?_)
  · replace H := cond_t hb152 H
    refine run_seq ?_
    refine run_region rfl ?_
    refine ox rfl rfl rfl rfl (ex_assign rfl rfl) ?_
    refine ops_nil (at_then ?_)
    refine run_ret ?_
    refine at_then_ret ?_
    replace HM := (HM.front 0 rfl rfl).drop
    have hR := Option.some.inj H
    subst hR
    exact at_ret1 rfl rfl ⟨_, rfl, rfl, HM⟩
  · replace H := cond_f hb152 H
    refine run_skip ?_
    refine at_then ?_
    refine run_seq ?_
    obtain ⟨t153, h154, H⟩ := bind_some H
    refine run_region rfl ?_
    refine ox rfl rfl rfl rfl (ex_fieldAddr (off' := 3) rfl rfl Try.underlying49 rfl tsz47 rfl) ?_
    refine ox rfl rfl rfl rfl (ex_load1 rfl rfl Try.underlying47 rfl ((HM.box_at 0 rfl) 3 _ rfl)) ?_
    refine ox rfl rfl rfl rfl (ex_move rfl rfl) ?_
    refine od rfl rfl rfl rfl (does_callk rfl callok37 rfl (laws_szOutS.calls (x0 := x0.fOuts) (x1 := t148) (HM.rd hp0_1) h154)) ?_
    rintro _ w155 ⟨rfl, hn⟩
    replace HM : Mem w [] w155 [box b144 49 [.int .i64 x0.fKind, .int .i64 x0.fMember, p0_0, p0_1]] := HM.call hn
    refine ox rfl rfl rfl rfl (ex_assign rfl rfl) ?_
    refine ops_nil (at_then (run_seq ?_))
    refine run_seq ?_
    refine run_region rfl ?_
    refine ox rfl rfl rfl rfl (ex_move rfl rfl) ?_
    refine ox rfl rfl rfl rfl (ex_lss rfl rfl rfl) ?_
    refine ops_nil (at_then ?_)
    refine run_cond (b := (decide (t153 < 0))) rfl (fun hb156 => ?_) (fun hb156 => ?_)
    · replace H := cond_t hb156 H
      refine run_seq ?_
      refine run_region rfl ?_
      refine ox rfl rfl rfl rfl (ex_assign rfl rfl) ?_
      refine ops_nil (at_then ?_)
      refine run_ret ?_
      refine at_then_ret ?_
      replace HM := (HM.front 0 rfl rfl).drop
      have hR := Option.some.inj H
      subst hR
      exact at_ret1 rfl rfl ⟨_, rfl, rfl, HM⟩
    · replace H := cond_f hb156 H
      refine run_skip ?_
      refine at_then ?_
      refine run_seq ?_
      refine run_region rfl ?_
      refine ox rfl rfl rfl rfl (ex_move rfl rfl) ?_
      refine ox rfl rfl rfl rfl (ex_assign rfl rfl) ?_
      refine ops_nil (at_then ?_)
      refine run_ret ?_
      replace HM := (HM.front 0 rfl rfl).drop
      have hR := Option.some.inj H
      subst hR
      exact at_ret1 rfl rfl ⟨_, rfl, rfl, HM⟩

def laws_toRef.f (k : Nat) (x0 : Ref) : Option Ref := some x0
theorem laws_toRef.calls {k : Nat} {x0 : Ref}  {w : World}  {r : Ref} (H : laws_toRef.f k x0 = some r) :
    Calls Try.prog 125 ([.agg #[(.int .i64 x0.fTx), (.int .i64 x0.fAt)]] : List Value).toArray w (fun e w_ => ∃ v, e = .returned v ∧ v = (.agg #[.int .i64 r.fTx, .int .i64 r.fAt]) ∧ Mem w [] w_ []) := by
  have HM := Mem.start w
  refine calls_run (N := 11) Try.func125 rfl rfl rfl rfl ?_
  unfold laws_toRef.f at H
  refine run_seq ?_
  refine run_region rfl ?_
  refine od rfl rfl rfl rfl (does_box (cs := [.int .i64 x0.fTx, .int .i64 x0.fAt]) rfl rfl rfl HM) ?_
  rintro _ w193 ⟨b187, rfl, HM⟩
  refine od rfl rfl rfl rfl (does_alloc (cs := [.int .i64 0, .int .i64 0]) rfl tz36 rfl HM) ?_
  rintro _ w194 ⟨b190, rfl, HM⟩
  refine ops_nil (at_then (run_seq ?_))
  refine run_region rfl ?_
  refine od rfl rfl rfl rfl (does_alloc (cs := [.int .i64 0, .int .i64 0]) rfl tz36 rfl HM) ?_
  rintro _ w198 ⟨b195, rfl, HM⟩
  refine ops_nil (at_then (run_seq ?_))
  refine run_region rfl ?_
  refine ox rfl rfl rfl rfl (ex_fieldAddr (off' := 0) rfl rfl Try.underlying114 rfl tsz2 rfl) ?_
  refine ox rfl rfl rfl rfl (ex_load1 rfl rfl Try.underlying2 rfl ((HM.box_at 2 rfl) 0 _ rfl)) ?_
  refine ox rfl rfl rfl rfl (ex_fieldAddr (off' := 0) rfl rfl Try.underlying36 rfl tsz2 rfl) ?_
  refine odS rfl rfl rfl (does_store (vs := [.int .i64 x0.fTx]) (cs' := [.int .i64 x0.fTx, .int .i64 0]) rfl rfl rfl rfl tsz2 (Ones.int Ones.nil) rfl rfl HM) ?_
  rintro w199 HM
  refine ops_nil (at_then (run_seq ?_))
  refine run_region rfl ?_
  refine ox rfl rfl rfl rfl (ex_fieldAddr (off' := 1) rfl rfl Try.underlying114 rfl tsz2 rfl) ?_
  refine ox rfl rfl rfl rfl (ex_load1 rfl rfl Try.underlying2 rfl ((HM.box_at 2 rfl) 1 _ rfl)) ?_
  refine ox rfl rfl rfl rfl (ex_fieldAddr (off' := 1) rfl rfl Try.underlying36 rfl tsz2 rfl) ?_
  refine odS rfl rfl rfl (does_store (vs := [.int .i64 x0.fAt]) (cs' := [.int .i64 x0.fTx, .int .i64 x0.fAt]) rfl rfl rfl rfl tsz2 (Ones.int Ones.nil) rfl rfl HM) ?_
  rintro w200 HM
  refine ops_nil (at_then (run_seq ?_))
  refine run_region rfl ?_
  refine ox rfl rfl rfl rfl (ex_loadN (cs := [(.int .i64 x0.fTx), (.int .i64 x0.fAt)]) rfl rfl Try.underlying36 rfl tsz36 rfl ((HM.box_at 0 rfl).sub 0 2 rfl)) ?_
  replace HM := HM.front 1 rfl rfl
  refine odS rfl rfl rfl (does_store (vs := [.int .i64 x0.fTx, .int .i64 x0.fAt]) (cs' := [.int .i64 x0.fTx, .int .i64 x0.fAt]) rfl rfl rfl rfl tsz36 (Ones.int (Ones.int Ones.nil)) rfl rfl HM) ?_
  rintro w201 HM
  refine ops_nil (at_then ?_)
  refine run_ret ?_
  replace HM := (HM.front 1 rfl rfl).drop
  replace HM := (HM.front 1 rfl rfl).drop
  have hcb0 := HM.box_at 0 rfl
  replace HM := (HM.front 0 rfl rfl).drop
  have hR := Option.some.inj H
  subst hR
  exact at_retN rfl rfl Try.underlying36 rfl tsz36 rfl hcb0 ⟨_, rfl, rfl, HM⟩

def laws_toMember.f (k : Nat) (x0 : Member) : Option Member := ((laws_toRef.f k x0.fRef).bind fun t217 => some (⟨x0.fKey, t217⟩ : Member))
theorem laws_toMember.calls {k : Nat} {x0 : Member}  {w : World}  {r : Member} (H : laws_toMember.f k x0 = some r) :
    Calls Try.prog 68 ([.agg #[(.int .i64 x0.fKey), (.int .i64 x0.fRef.fTx), (.int .i64 x0.fRef.fAt)]] : List Value).toArray w (fun e w_ => ∃ v, e = .returned v ∧ v = (.agg #[.int .i64 r.fKey, .int .i64 r.fRef.fTx, .int .i64 r.fRef.fAt]) ∧ Mem w [] w_ []) := by
  have HM := Mem.start w
  refine calls_run (N := 12) Try.func68 rfl rfl rfl rfl ?_
  unfold laws_toMember.f at H
  refine run_seq ?_
  refine run_region rfl ?_
  refine od rfl rfl rfl rfl (does_box (cs := [.int .i64 x0.fKey, .int .i64 x0.fRef.fTx, .int .i64 x0.fRef.fAt]) rfl rfl rfl HM) ?_
  rintro _ w210 ⟨b204, rfl, HM⟩
  refine od rfl rfl rfl rfl (does_alloc (cs := [.int .i64 0, .int .i64 0, .int .i64 0]) rfl tz38 rfl HM) ?_
  rintro _ w211 ⟨b207, rfl, HM⟩
  refine ops_nil (at_then (run_seq ?_))
  refine run_region rfl ?_
  refine od rfl rfl rfl rfl (does_alloc (cs := [.int .i64 0, .int .i64 0, .int .i64 0]) rfl tz38 rfl HM) ?_
  rintro _ w215 ⟨b212, rfl, HM⟩
  refine ops_nil (at_then (run_seq ?_))
  refine run_region rfl ?_
  refine ox rfl rfl rfl rfl (ex_fieldAddr (off' := 0) rfl rfl Try.underlying116 rfl tsz2 rfl) ?_
  refine ox rfl rfl rfl rfl (ex_load1 rfl rfl Try.underlying2 rfl ((HM.box_at 2 rfl) 0 _ rfl)) ?_
  refine ox rfl rfl rfl rfl (ex_fieldAddr (off' := 0) rfl rfl Try.underlying38 rfl tsz2 rfl) ?_
  refine odS rfl rfl rfl (does_store (vs := [.int .i64 x0.fKey]) (cs' := [.int .i64 x0.fKey, .int .i64 0, .int .i64 0]) rfl rfl rfl rfl tsz2 (Ones.int Ones.nil) rfl rfl HM) ?_
  rintro w216 HM
  refine ops_nil (at_then (run_seq ?_))
  obtain ⟨t217, h218, H⟩ := bind_some H
  refine run_region rfl ?_
  refine ox rfl rfl rfl rfl (ex_fieldAddr (off' := 1) rfl rfl Try.underlying116 rfl tsz114 rfl) ?_
  refine ox rfl rfl rfl rfl (ex_loadN (cs := [(.int .i64 x0.fRef.fTx), (.int .i64 x0.fRef.fAt)]) rfl rfl Try.underlying114 rfl tsz114 rfl ((HM.box_at 2 rfl).sub 1 2 rfl)) ?_
  refine od rfl rfl rfl rfl (does_callk rfl callok125 rfl (laws_toRef.calls (x0 := x0.fRef) h218)) ?_
  rintro _ w219 ⟨rfl, hn⟩
  replace HM : Mem w [] w219 [box b212 38 [.int .i64 x0.fKey, .int .i64 0, .int .i64 0], box b207 38 [.int .i64 0, .int .i64 0, .int .i64 0], box b204 116 [.int .i64 x0.fKey, .int .i64 x0.fRef.fTx, .int .i64 x0.fRef.fAt]] := HM.call hn
  refine ox rfl rfl rfl rfl (ex_fieldAddr (off' := 1) rfl rfl Try.underlying38 rfl tsz36 rfl) ?_
  refine odS rfl rfl rfl (does_store (vs := [.int .i64 t217.fTx, .int .i64 t217.fAt]) (cs' := [.int .i64 x0.fKey, .int .i64 t217.fTx, .int .i64 t217.fAt]) rfl rfl rfl rfl tsz36 (Ones.int (Ones.int Ones.nil)) rfl rfl HM) ?_
  rintro w220 HM
  refine ops_nil (at_then (run_seq ?_))
  refine run_region rfl ?_
  refine ox rfl rfl rfl rfl (ex_loadN (cs := [(.int .i64 x0.fKey), (.int .i64 t217.fTx), (.int .i64 t217.fAt)]) rfl rfl Try.underlying38 rfl tsz38 rfl ((HM.box_at 0 rfl).sub 0 3 rfl)) ?_
  replace HM := HM.front 1 rfl rfl
  refine odS rfl rfl rfl (does_store (vs := [.int .i64 x0.fKey, .int .i64 t217.fTx, .int .i64 t217.fAt]) (cs' := [.int .i64 x0.fKey, .int .i64 t217.fTx, .int .i64 t217.fAt]) rfl rfl rfl rfl tsz38 (Ones.int (Ones.int (Ones.int Ones.nil))) rfl rfl HM) ?_
  rintro w221 HM
  refine ops_nil (at_then ?_)
  refine run_ret ?_
  replace HM := (HM.front 1 rfl rfl).drop
  replace HM := (HM.front 1 rfl rfl).drop
  have hcb0 := HM.box_at 0 rfl
  replace HM := (HM.front 0 rfl rfl).drop
  have hR := Option.some.inj H
  subst hR
  exact at_retN rfl rfl Try.underlying38 rfl tsz38 rfl hcb0 ⟨_, rfl, rfl, HM⟩

def laws_toMemberS.l0 (x0 : List Member) : Nat → (List Member) → Int → Option ((List Member))
  | 0, _, _ => none
  | k + 1, a286, a288 => (bif (decide (a288 < (x0.length : Int))) then (chk (idxOk a288 x0.length) ((laws_toMember.f k (gt x0 a288)).bind fun t300 => (chk (idxOk a288 a286.length) (laws_toMemberS.l0 x0 k (a286.set (a288).toNat t300) (wrap64 (a288 + 1)))))) else some a286)
theorem laws_toMemberS.l0_z (x0 : List Member) (a286 : List Member) (a288 : Int) : laws_toMemberS.l0 x0 0 a286 a288 = none := rfl
theorem laws_toMemberS.l0_s (x0 : List Member) (k : Nat) (a286 : List Member) (a288 : Int) : laws_toMemberS.l0 x0 (k + 1) a286 a288 = (bif (decide (a288 < (x0.length : Int))) then (chk (idxOk a288 x0.length) ((laws_toMember.f k (gt x0 a288)).bind fun t300 => (chk (idxOk a288 a286.length) (laws_toMemberS.l0 x0 k (a286.set (a288).toNat t300) (wrap64 (a288 + 1)))))) else some a286) := rfl
def laws_toMemberS.f (k : Nat) (x0 : List Member) : Option ((List Member)) := (chk (decide (0 ≤ (x0.length : Int))) (chk (leB (((x0.length : Int)).toNat * 24) 281474976710656) ((laws_toMemberS.l0 x0 k (List.replicate ((x0.length : Int)).toNat (⟨0, (⟨0, 0⟩ : Ref)⟩ : Member)) 0).bind (fun a275 => some a275))))
theorem laws_toMemberS.calls {k : Nat} {x0 : List Member} {p0 : Value} {w : World} (hp0 : RdS kMember w p0 x0) {r : (List Member)} (H : laws_toMemberS.f k x0 = some r) :
    Calls Try.prog 17 ([p0] : List Value).toArray w (fun e w_ => ∃ v, e = .returned v ∧ ∃ u0 : Value, v = u0 ∧ Mem w [] w_ [own kMember 38 u0 r]) := by
  have HM := Mem.start w
  refine calls_run (N := 23) Try.func17 rfl rfl rfl rfl ?_
  unfold laws_toMemberS.f at H
  refine run_seq ?_
  refine run_region rfl ?_
  refine ox rfl rfl rfl rfl (ex_assign rfl rfl) ?_
  refine ops_nil (at_then (run_seq ?_))
  obtain ⟨e249, H⟩ := chk_some H
  obtain ⟨e250, H⟩ := chk_some H
  refine run_region rfl ?_
  refine ox rfl rfl rfl rfl (ex_move rfl rfl) ?_
  refine ox rfl rfl rfl rfl (ex_len (d := kMember) (xs := x0) rfl rfl Try.underlying45 hp0) ?_
  refine od rfl rfl rfl rfl (does_make (x := (⟨0, (⟨0, 0⟩ : Ref)⟩ : Member)) kMember rfl rfl rfl Try.underlying24 tsz38 tby38 tz38 rfl rfl (fun _ => ⟨rfl, rfl⟩) (of_decide_eq_true e249) rfl (leB_le e250) rfl HM) ?_
  rintro v246 w251 HM
  refine ox rfl rfl rfl rfl (ex_assign rfl rfl) ?_
  refine ops_nil (at_then ?_)
  obtain ⟨o277, ho278, H⟩ := bind_some H
  refine run_mid (fun ρ_ w_ => ∃ v274 : Value, ∃ a275 : List Member, a275 = o277 ∧ ρ_ = [(3, v274)] ∧ Mem w [] w_ [own kMember 38 v274 a275]) ?_ ?_
  · clear H
    refine run_seq ?_
    refine run_region rfl ?_
    refine ox rfl rfl rfl rfl (ex_assign rfl rfl) ?_
    refine ops_nil (at_then ?_)
    refine run_block ?_
    refine run_loop (fun k_ ρ_ w_ => ∃ v285 : Value, ∃ a286 : List Member, ∃ a288 : Int, laws_toMemberS.l0 x0 k_ a286 a288 = some o277 ∧ ρ_ = [(0, p0), (3, v285), (4, .int .i64 a288)] ∧ Mem w [] w_ [own kMember 38 v285 a286]) k (ρ1 := [(0, p0), (3, v246), (4, .int .i64 0)]) ⟨_, _, _, ho278, rfl, HM⟩ (Sub.cons rfl (Sub.cons rfl (Sub.cons rfl Sub.nil))) ?_
    clear HM ho278
    rintro k295 _ w296 ⟨v285, a286, a288, ho278, rfl, HM⟩
    obtain _ | k295 := k295
    · exact nomatch ((laws_toMemberS.l0_z x0 a286 a288).symm.trans ho278)
    replace ho278 := (laws_toMemberS.l0_s x0 k295 a286 a288).symm.trans ho278
    refine run_seq ?_
    refine run_seq ?_
    refine run_region rfl ?_
    refine ox rfl rfl rfl rfl (ex_move rfl rfl) ?_
    refine ox rfl rfl rfl rfl (ex_move rfl rfl) ?_
    refine ox rfl rfl rfl rfl (ex_len (d := kMember) (xs := x0) rfl rfl Try.underlying45 hp0) ?_
    refine ox rfl rfl rfl rfl (ex_lss rfl rfl rfl) ?_
    refine ops_nil (at_then ?_)
    refine run_cond (b := (decide (a288 < (x0.length : Int)))) rfl (fun hb297 => ?_) (fun hb297 => ?_)
    · replace ho278 := cond_t hb297 ho278
      refine run_skip ?_
      refine at_then ?_
      refine run_seq ?_
      refine run_block ?_
      obtain ⟨e298, ho278⟩ := chk_some ho278
      obtain ⟨t300, h301, ho278⟩ := bind_some ho278
      obtain ⟨e302, ho278⟩ := chk_some ho278
      refine run_region rfl ?_
      refine ox rfl rfl rfl rfl (ex_move rfl rfl) ?_
      refine ox rfl rfl rfl rfl (ex_move rfl rfl) ?_
      refine ox rfl rfl rfl rfl (ex_move rfl rfl) ?_
      refine ox rfl rfl rfl rfl (ex_move rfl rfl) ?_
      have hc299 : CellsAt _ (sb p0) (so p0 + (a288).toNat * 3) [(.int .i64 ((gt x0 a288).fKey)), (.int .i64 ((gt x0 a288).fRef.fTx)), (.int .i64 ((gt x0 a288).fRef.fAt))] := rd_plain hp0 e298
      refine ox rfl rfl rfl rfl (ex_indexAddr (d := kMember) rfl rfl rfl Try.underlying45 tsz116 hp0 (idx_lo e298) (idx_hi e298)) ?_
      refine ox rfl rfl rfl rfl (ex_loadN (cs := [(.int .i64 ((gt x0 a288).fKey)), (.int .i64 ((gt x0 a288).fRef.fTx)), (.int .i64 ((gt x0 a288).fRef.fAt))]) rfl rfl Try.underlying116 rfl tsz116 rfl ((HM.at_ hc299).sub 0 3 rfl)) ?_
      refine od rfl rfl rfl rfl (does_callk rfl callok68 rfl (laws_toMember.calls (x0 := (gt x0 a288)) h301)) ?_
      rintro _ w303 ⟨rfl, hn⟩
      replace HM : Mem w [] w303 [own kMember 38 v285 a286] := HM.call hn
      refine ox rfl rfl rfl rfl (ex_indexAddr (d := kMember) rfl rfl rfl Try.underlying24 tsz38 (HM.own_rd 0 rfl) (idx_lo e302) (idx_hi e302)) ?_
      refine odS rfl rfl rfl (does_setElem (vs := [(.int .i64 t300.fKey), (.int .i64 t300.fRef.fTx), (.int .i64 t300.fRef.fAt)]) (y := t300) kMember rfl rfl rfl rfl rfl tsz38 rfl rfl (idx_nat e302) (fun _ _ h => ⟨rfl, h⟩) (HM.emp.front 1 rfl rfl)) ?_
      rintro w304 HM
      refine ops_nil ?_
      refine at_block ?_
      refine at_then ?_
      refine run_region rfl ?_
      refine ox rfl rfl rfl rfl (ex_move rfl rfl) ?_
      refine ox rfl rfl rfl rfl (ex_add rfl rfl rfl) ?_
      refine ox rfl rfl rfl rfl (ex_assign rfl rfl) ?_
      refine ops_nil ?_
      exact at_again k295 (ρ1 := [(0, p0), (3, v285), (4, .int .i64 (wrap64 (a288 + 1)))]) (Nat.lt_succ_self _) ⟨_, _, _, ho278, rfl, HM⟩ (Sub.cons rfl (Sub.cons rfl (Sub.cons rfl Sub.nil)))
    · replace ho278 := cond_f hb297 ho278
      refine run_exit ?_
      refine at_then_exit ?_
      refine at_then_exit ?_
      refine at_block_exit ?_
      exact at_mid (ρ' := [(3, v285)]) ⟨_, _, (Option.some.inj ho278), rfl, HM⟩ (Sub.cons rfl Sub.nil)
  · rintro _ w305 ⟨v274, a275, rfl, rfl, HM⟩
    refine run_seq ?_
    refine run_region rfl ?_
    refine ox rfl rfl rfl rfl (ex_move rfl rfl) ?_
    refine ox rfl rfl rfl rfl (ex_assign rfl rfl) ?_
    refine ops_nil (at_then ?_)
    refine run_ret ?_
    have hR := Option.some.inj H
    subst hR
    exact at_ret1 rfl rfl ⟨_, rfl, _, rfl, HM⟩

def laws_toRefS.l0 (x0 : List Ref) : Nat → (List Ref) → Int → Option ((List Ref))
  | 0, _, _ => none
  | k + 1, a391, a393 => (bif (decide (a393 < (x0.length : Int))) then (chk (idxOk a393 x0.length) ((laws_toRef.f k (gt x0 a393)).bind fun t405 => (chk (idxOk a393 a391.length) (laws_toRefS.l0 x0 k (a391.set (a393).toNat t405) (wrap64 (a393 + 1)))))) else some a391)
theorem laws_toRefS.l0_z (x0 : List Ref) (a391 : List Ref) (a393 : Int) : laws_toRefS.l0 x0 0 a391 a393 = none := rfl
theorem laws_toRefS.l0_s (x0 : List Ref) (k : Nat) (a391 : List Ref) (a393 : Int) : laws_toRefS.l0 x0 (k + 1) a391 a393 = (bif (decide (a393 < (x0.length : Int))) then (chk (idxOk a393 x0.length) ((laws_toRef.f k (gt x0 a393)).bind fun t405 => (chk (idxOk a393 a391.length) (laws_toRefS.l0 x0 k (a391.set (a393).toNat t405) (wrap64 (a393 + 1)))))) else some a391) := rfl
def laws_toRefS.f (k : Nat) (x0 : List Ref) : Option ((List Ref)) := (chk (decide (0 ≤ (x0.length : Int))) (chk (leB (((x0.length : Int)).toNat * 16) 281474976710656) ((laws_toRefS.l0 x0 k (List.replicate ((x0.length : Int)).toNat (⟨0, 0⟩ : Ref)) 0).bind (fun a380 => some a380))))
theorem laws_toRefS.calls {k : Nat} {x0 : List Ref} {p0 : Value} {w : World} (hp0 : RdS kRef w p0 x0) {r : (List Ref)} (H : laws_toRefS.f k x0 = some r) :
    Calls Try.prog 69 ([p0] : List Value).toArray w (fun e w_ => ∃ v, e = .returned v ∧ ∃ u0 : Value, v = u0 ∧ Mem w [] w_ [own kRef 36 u0 r]) := by
  have HM := Mem.start w
  refine calls_run (N := 23) Try.func69 rfl rfl rfl rfl ?_
  unfold laws_toRefS.f at H
  refine run_seq ?_
  refine run_region rfl ?_
  refine ox rfl rfl rfl rfl (ex_assign rfl rfl) ?_
  refine ops_nil (at_then (run_seq ?_))
  obtain ⟨e354, H⟩ := chk_some H
  obtain ⟨e355, H⟩ := chk_some H
  refine run_region rfl ?_
  refine ox rfl rfl rfl rfl (ex_move rfl rfl) ?_
  refine ox rfl rfl rfl rfl (ex_len (d := kRef) (xs := x0) rfl rfl Try.underlying46 hp0) ?_
  refine od rfl rfl rfl rfl (does_make (x := (⟨0, 0⟩ : Ref)) kRef rfl rfl rfl Try.underlying25 tsz36 tby36 tz36 rfl rfl (fun _ => ⟨rfl, rfl⟩) (of_decide_eq_true e354) rfl (leB_le e355) rfl HM) ?_
  rintro v351 w356 HM
  refine ox rfl rfl rfl rfl (ex_assign rfl rfl) ?_
  refine ops_nil (at_then ?_)
  obtain ⟨o382, ho383, H⟩ := bind_some H
  refine run_mid (fun ρ_ w_ => ∃ v379 : Value, ∃ a380 : List Ref, a380 = o382 ∧ ρ_ = [(3, v379)] ∧ Mem w [] w_ [own kRef 36 v379 a380]) ?_ ?_
  · clear H
    refine run_seq ?_
    refine run_region rfl ?_
    refine ox rfl rfl rfl rfl (ex_assign rfl rfl) ?_
    refine ops_nil (at_then ?_)
    refine run_block ?_
    refine run_loop (fun k_ ρ_ w_ => ∃ v390 : Value, ∃ a391 : List Ref, ∃ a393 : Int, laws_toRefS.l0 x0 k_ a391 a393 = some o382 ∧ ρ_ = [(0, p0), (3, v390), (4, .int .i64 a393)] ∧ Mem w [] w_ [own kRef 36 v390 a391]) k (ρ1 := [(0, p0), (3, v351), (4, .int .i64 0)]) ⟨_, _, _, ho383, rfl, HM⟩ (Sub.cons rfl (Sub.cons rfl (Sub.cons rfl Sub.nil))) ?_
    clear HM ho383
    rintro k400 _ w401 ⟨v390, a391, a393, ho383, rfl, HM⟩
    obtain _ | k400 := k400
    · exact nomatch ((laws_toRefS.l0_z x0 a391 a393).symm.trans ho383)
    replace ho383 := (laws_toRefS.l0_s x0 k400 a391 a393).symm.trans ho383
    refine run_seq ?_
    refine run_seq ?_
    refine run_region rfl ?_
    refine ox rfl rfl rfl rfl (ex_move rfl rfl) ?_
    refine ox rfl rfl rfl rfl (ex_move rfl rfl) ?_
    refine ox rfl rfl rfl rfl (ex_len (d := kRef) (xs := x0) rfl rfl Try.underlying46 hp0) ?_
    refine ox rfl rfl rfl rfl (ex_lss rfl rfl rfl) ?_
    refine ops_nil (at_then ?_)
    refine run_cond (b := (decide (a393 < (x0.length : Int)))) rfl (fun hb402 => ?_) (fun hb402 => ?_)
    · replace ho383 := cond_t hb402 ho383
      refine run_skip ?_
      refine at_then ?_
      refine run_seq ?_
      refine run_block ?_
      obtain ⟨e403, ho383⟩ := chk_some ho383
      obtain ⟨t405, h406, ho383⟩ := bind_some ho383
      obtain ⟨e407, ho383⟩ := chk_some ho383
      refine run_region rfl ?_
      refine ox rfl rfl rfl rfl (ex_move rfl rfl) ?_
      refine ox rfl rfl rfl rfl (ex_move rfl rfl) ?_
      refine ox rfl rfl rfl rfl (ex_move rfl rfl) ?_
      refine ox rfl rfl rfl rfl (ex_move rfl rfl) ?_
      have hc404 : CellsAt _ (sb p0) (so p0 + (a393).toNat * 2) [(.int .i64 ((gt x0 a393).fTx)), (.int .i64 ((gt x0 a393).fAt))] := rd_plain hp0 e403
      refine ox rfl rfl rfl rfl (ex_indexAddr (d := kRef) rfl rfl rfl Try.underlying46 tsz114 hp0 (idx_lo e403) (idx_hi e403)) ?_
      refine ox rfl rfl rfl rfl (ex_loadN (cs := [(.int .i64 ((gt x0 a393).fTx)), (.int .i64 ((gt x0 a393).fAt))]) rfl rfl Try.underlying114 rfl tsz114 rfl ((HM.at_ hc404).sub 0 2 rfl)) ?_
      refine od rfl rfl rfl rfl (does_callk rfl callok125 rfl (laws_toRef.calls (x0 := (gt x0 a393)) h406)) ?_
      rintro _ w408 ⟨rfl, hn⟩
      replace HM : Mem w [] w408 [own kRef 36 v390 a391] := HM.call hn
      refine ox rfl rfl rfl rfl (ex_indexAddr (d := kRef) rfl rfl rfl Try.underlying25 tsz36 (HM.own_rd 0 rfl) (idx_lo e407) (idx_hi e407)) ?_
      refine odS rfl rfl rfl (does_setElem (vs := [(.int .i64 t405.fTx), (.int .i64 t405.fAt)]) (y := t405) kRef rfl rfl rfl rfl rfl tsz36 rfl rfl (idx_nat e407) (fun _ _ h => ⟨rfl, h⟩) (HM.emp.front 1 rfl rfl)) ?_
      rintro w409 HM
      refine ops_nil ?_
      refine at_block ?_
      refine at_then ?_
      refine run_region rfl ?_
      refine ox rfl rfl rfl rfl (ex_move rfl rfl) ?_
      refine ox rfl rfl rfl rfl (ex_add rfl rfl rfl) ?_
      refine ox rfl rfl rfl rfl (ex_assign rfl rfl) ?_
      refine ops_nil ?_
      exact at_again k400 (ρ1 := [(0, p0), (3, v390), (4, .int .i64 (wrap64 (a393 + 1)))]) (Nat.lt_succ_self _) ⟨_, _, _, ho383, rfl, HM⟩ (Sub.cons rfl (Sub.cons rfl (Sub.cons rfl Sub.nil)))
    · replace ho383 := cond_f hb402 ho383
      refine run_exit ?_
      refine at_then_exit ?_
      refine at_then_exit ?_
      refine at_block_exit ?_
      exact at_mid (ρ' := [(3, v390)]) ⟨_, _, (Option.some.inj ho383), rfl, HM⟩ (Sub.cons rfl Sub.nil)
  · rintro _ w410 ⟨v379, a380, rfl, rfl, HM⟩
    refine run_seq ?_
    refine run_region rfl ?_
    refine ox rfl rfl rfl rfl (ex_move rfl rfl) ?_
    refine ox rfl rfl rfl rfl (ex_assign rfl rfl) ?_
    refine ops_nil (at_then ?_)
    refine run_ret ?_
    have hR := Option.some.inj H
    subst hR
    exact at_ret1 rfl rfl ⟨_, rfl, _, rfl, HM⟩

def laws_toInt64S.l0 (x0 : List Int) : Nat → (List Int) → Int → Option ((List Int))
  | 0, _, _ => none
  | k + 1, a501, a503 => (bif (decide (a503 < (x0.length : Int))) then (chk (idxOk a503 x0.length) (chk (idxOk a503 a501.length) (laws_toInt64S.l0 x0 k (a501.set (a503).toNat (gt x0 a503)) (wrap64 (a503 + 1))))) else some a501)
theorem laws_toInt64S.l0_z (x0 : List Int) (a501 : List Int) (a503 : Int) : laws_toInt64S.l0 x0 0 a501 a503 = none := rfl
theorem laws_toInt64S.l0_s (x0 : List Int) (k : Nat) (a501 : List Int) (a503 : Int) : laws_toInt64S.l0 x0 (k + 1) a501 a503 = (bif (decide (a503 < (x0.length : Int))) then (chk (idxOk a503 x0.length) (chk (idxOk a503 a501.length) (laws_toInt64S.l0 x0 k (a501.set (a503).toNat (gt x0 a503)) (wrap64 (a503 + 1))))) else some a501) := rfl
def laws_toInt64S.f (k : Nat) (x0 : List Int) : Option ((List Int)) := (chk (decide (0 ≤ (x0.length : Int))) (chk (leB (((x0.length : Int)).toNat * 8) 281474976710656) ((laws_toInt64S.l0 x0 k (List.replicate ((x0.length : Int)).toNat 0) 0).bind (fun a492 => some a492))))
theorem laws_toInt64S.calls {k : Nat} {x0 : List Int} {p0 : Value} {w : World} (hp0 : RdS kInt w p0 x0) {r : (List Int)} (H : laws_toInt64S.f k x0 = some r) :
    Calls Try.prog 161 ([p0] : List Value).toArray w (fun e w_ => ∃ v, e = .returned v ∧ ∃ u0 : Value, v = u0 ∧ Mem w [] w_ [own kInt 2 u0 r]) := by
  have HM := Mem.start w
  refine calls_run (N := 22) Try.func161 rfl rfl rfl rfl ?_
  unfold laws_toInt64S.f at H
  refine run_seq ?_
  refine run_region rfl ?_
  refine ox rfl rfl rfl rfl (ex_assign rfl rfl) ?_
  refine ops_nil (at_then (run_seq ?_))
  obtain ⟨e472, H⟩ := chk_some H
  obtain ⟨e473, H⟩ := chk_some H
  refine run_region rfl ?_
  refine ox rfl rfl rfl rfl (ex_move rfl rfl) ?_
  refine ox rfl rfl rfl rfl (ex_len (d := kInt) (xs := x0) rfl rfl Try.underlying39 hp0) ?_
  refine od rfl rfl rfl rfl (does_make (x := 0) kInt rfl rfl rfl Try.underlying39 tsz2 tby2 tz2 rfl rfl (fun _ => ⟨rfl, rfl⟩) (of_decide_eq_true e472) rfl (leB_le e473) rfl HM) ?_
  rintro v469 w474 HM
  refine ox rfl rfl rfl rfl (ex_assign rfl rfl) ?_
  refine ops_nil (at_then ?_)
  obtain ⟨o494, ho495, H⟩ := bind_some H
  refine run_mid (fun ρ_ w_ => ∃ v491 : Value, ∃ a492 : List Int, a492 = o494 ∧ ρ_ = [(3, v491)] ∧ Mem w [] w_ [own kInt 2 v491 a492]) ?_ ?_
  · clear H
    refine run_seq ?_
    refine run_region rfl ?_
    refine ox rfl rfl rfl rfl (ex_assign rfl rfl) ?_
    refine ops_nil (at_then ?_)
    refine run_block ?_
    refine run_loop (fun k_ ρ_ w_ => ∃ v500 : Value, ∃ a501 : List Int, ∃ a503 : Int, laws_toInt64S.l0 x0 k_ a501 a503 = some o494 ∧ ρ_ = [(0, p0), (3, v500), (4, .int .i64 a503)] ∧ Mem w [] w_ [own kInt 2 v500 a501]) k (ρ1 := [(0, p0), (3, v469), (4, .int .i64 0)]) ⟨_, _, _, ho495, rfl, HM⟩ (Sub.cons rfl (Sub.cons rfl (Sub.cons rfl Sub.nil))) ?_
    clear HM ho495
    rintro k508 _ w509 ⟨v500, a501, a503, ho495, rfl, HM⟩
    obtain _ | k508 := k508
    · exact nomatch ((laws_toInt64S.l0_z x0 a501 a503).symm.trans ho495)
    replace ho495 := (laws_toInt64S.l0_s x0 k508 a501 a503).symm.trans ho495
    refine run_seq ?_
    refine run_seq ?_
    refine run_region rfl ?_
    refine ox rfl rfl rfl rfl (ex_move rfl rfl) ?_
    refine ox rfl rfl rfl rfl (ex_move rfl rfl) ?_
    refine ox rfl rfl rfl rfl (ex_len (d := kInt) (xs := x0) rfl rfl Try.underlying39 hp0) ?_
    refine ox rfl rfl rfl rfl (ex_lss rfl rfl rfl) ?_
    refine ops_nil (at_then ?_)
    refine run_cond (b := (decide (a503 < (x0.length : Int)))) rfl (fun hb510 => ?_) (fun hb510 => ?_)
    · replace ho495 := cond_t hb510 ho495
      refine run_skip ?_
      refine at_then ?_
      refine run_seq ?_
      refine run_block ?_
      obtain ⟨e511, ho495⟩ := chk_some ho495
      obtain ⟨e513, ho495⟩ := chk_some ho495
      refine run_region rfl ?_
      refine ox rfl rfl rfl rfl (ex_move rfl rfl) ?_
      refine ox rfl rfl rfl rfl (ex_move rfl rfl) ?_
      refine ox rfl rfl rfl rfl (ex_move rfl rfl) ?_
      refine ox rfl rfl rfl rfl (ex_move rfl rfl) ?_
      have hc512 : CellsAt _ (sb p0) (so p0 + (a503).toNat * 1) [(.int .i64 (gt x0 a503))] := rd_plain hp0 e511
      refine ox rfl rfl rfl rfl (ex_indexAddr (d := kInt) rfl rfl rfl Try.underlying39 tsz2 hp0 (idx_lo e511) (idx_hi e511)) ?_
      refine ox rfl rfl rfl rfl (ex_load1 rfl rfl Try.underlying2 rfl ((HM.at_ hc512) 0 _ rfl)) ?_
      refine ox rfl rfl rfl rfl (ex_indexAddr (d := kInt) rfl rfl rfl Try.underlying39 tsz2 (HM.own_rd 0 rfl) (idx_lo e513) (idx_hi e513)) ?_
      refine odS rfl rfl rfl (does_setElem (vs := [(.int .i64 (gt x0 a503))]) (y := (gt x0 a503)) kInt rfl rfl rfl rfl rfl tsz2 rfl rfl (idx_nat e513) (fun _ _ h => ⟨rfl, h⟩) (HM.emp.front 1 rfl rfl)) ?_
      rintro w514 HM
      refine ops_nil ?_
      refine at_block ?_
      refine at_then ?_
      refine run_region rfl ?_
      refine ox rfl rfl rfl rfl (ex_move rfl rfl) ?_
      refine ox rfl rfl rfl rfl (ex_add rfl rfl rfl) ?_
      refine ox rfl rfl rfl rfl (ex_assign rfl rfl) ?_
      refine ops_nil ?_
      exact at_again k508 (ρ1 := [(0, p0), (3, v500), (4, .int .i64 (wrap64 (a503 + 1)))]) (Nat.lt_succ_self _) ⟨_, _, _, ho495, rfl, HM⟩ (Sub.cons rfl (Sub.cons rfl (Sub.cons rfl Sub.nil)))
    · replace ho495 := cond_f hb510 ho495
      refine run_exit ?_
      refine at_then_exit ?_
      refine at_then_exit ?_
      refine at_block_exit ?_
      exact at_mid (ρ' := [(3, v500)]) ⟨_, _, (Option.some.inj ho495), rfl, HM⟩ (Sub.cons rfl Sub.nil)
  · rintro _ w515 ⟨v491, a492, rfl, rfl, HM⟩
    refine run_seq ?_
    refine run_region rfl ?_
    refine ox rfl rfl rfl rfl (ex_move rfl rfl) ?_
    refine ox rfl rfl rfl rfl (ex_assign rfl rfl) ?_
    refine ops_nil (at_then ?_)
    refine run_ret ?_
    have hR := Option.some.inj H
    subst hR
    exact at_ret1 rfl rfl ⟨_, rfl, _, rfl, HM⟩

def laws_toRule.f (k : Nat) (x0 : Rule) : Option Rule := ((laws_toInt64S.f k x0.fKeys).bind fun t532 => some (⟨t532, x0.fNeed, x0.fAfter⟩ : Rule))
theorem laws_toRule.calls {k : Nat} {x0 : Rule} {p0_0 : Value} {w : World} (hp0_0 : RdS kInt w p0_0 x0.fKeys) {r : Rule} (H : laws_toRule.f k x0 = some r) :
    Calls Try.prog 145 ([.agg #[p0_0, (.int .i64 x0.fNeed), (.int .i64 x0.fAfter)]] : List Value).toArray w (fun e w_ => ∃ v, e = .returned v ∧ ∃ u0 : Value, v = (.agg #[u0, .int .i64 r.fNeed, .int .i64 r.fAfter]) ∧ Mem w [] w_ [own kInt 2 u0 r.fKeys]) := by
  have HM := Mem.start w
  refine calls_run (N := 15) Try.func145 rfl rfl rfl rfl ?_
  unfold laws_toRule.f at H
  refine run_seq ?_
  refine run_region rfl ?_
  refine od rfl rfl rfl rfl (does_box (cs := [p0_0, .int .i64 x0.fNeed, .int .i64 x0.fAfter]) rfl rfl rfl HM) ?_
  rintro _ w526 ⟨b520, rfl, HM⟩
  refine od rfl rfl rfl rfl (does_alloc (cs := [.slice none 0 0, .int .i64 0, .int .i64 0]) rfl tz67 rfl HM) ?_
  rintro _ w527 ⟨b523, rfl, HM⟩
  refine ops_nil (at_then (run_seq ?_))
  refine run_region rfl ?_
  refine od rfl rfl rfl rfl (does_alloc (cs := [.slice none 0 0, .int .i64 0, .int .i64 0]) rfl tz67 rfl HM) ?_
  rintro _ w531 ⟨b528, rfl, HM⟩
  refine ops_nil (at_then (run_seq ?_))
  obtain ⟨t532, h533, H⟩ := bind_some H
  refine run_region rfl ?_
  refine ox rfl rfl rfl rfl (ex_fieldAddr (off' := 0) rfl rfl Try.underlying139 rfl tsz39 rfl) ?_
  refine ox rfl rfl rfl rfl (ex_load1 rfl rfl Try.underlying39 rfl ((HM.box_at 2 rfl) 0 _ rfl)) ?_
  refine od rfl rfl rfl rfl (does_callk rfl callok161 rfl (laws_toInt64S.calls (x0 := x0.fKeys) (HM.rd hp0_0) h533)) ?_
  rintro u534 w536 ⟨_, rfl, hn⟩
  replace HM : Mem w [] w536 [own kInt 2 u534 t532, box b528 67 [.slice none 0 0, .int .i64 0, .int .i64 0], box b523 67 [.slice none 0 0, .int .i64 0, .int .i64 0], box b520 139 [p0_0, .int .i64 x0.fNeed, .int .i64 x0.fAfter]] := HM.call hn
  refine ox rfl rfl rfl rfl (ex_fieldAddr (off' := 0) rfl rfl Try.underlying67 rfl tsz39 rfl) ?_
  replace HM := HM.front 1 rfl rfl
  refine odS rfl rfl rfl (does_store (vs := [u534]) (cs' := [u534, .int .i64 0, .int .i64 0]) rfl rfl rfl (rd_cells (HM.own_rd 1 rfl)) tsz39 (Ones.rd (HM.own_rd 1 rfl) Ones.nil) rfl rfl HM) ?_
  rintro w537 HM
  refine ops_nil (at_then (run_seq ?_))
  refine run_region rfl ?_
  refine ox rfl rfl rfl rfl (ex_fieldAddr (off' := 1) rfl rfl Try.underlying139 rfl tsz2 rfl) ?_
  refine ox rfl rfl rfl rfl (ex_load1 rfl rfl Try.underlying2 rfl ((HM.box_at 3 rfl) 1 _ rfl)) ?_
  refine ox rfl rfl rfl rfl (ex_fieldAddr (off' := 1) rfl rfl Try.underlying67 rfl tsz2 rfl) ?_
  refine odS rfl rfl rfl (does_store (vs := [.int .i64 x0.fNeed]) (cs' := [u534, .int .i64 x0.fNeed, .int .i64 0]) rfl rfl rfl rfl tsz2 (Ones.int Ones.nil) rfl rfl HM) ?_
  rintro w538 HM
  refine ops_nil (at_then (run_seq ?_))
  refine run_region rfl ?_
  refine ox rfl rfl rfl rfl (ex_fieldAddr (off' := 2) rfl rfl Try.underlying139 rfl tsz2 rfl) ?_
  refine ox rfl rfl rfl rfl (ex_load1 rfl rfl Try.underlying2 rfl ((HM.box_at 3 rfl) 2 _ rfl)) ?_
  refine ox rfl rfl rfl rfl (ex_fieldAddr (off' := 2) rfl rfl Try.underlying67 rfl tsz2 rfl) ?_
  refine odS rfl rfl rfl (does_store (vs := [.int .i64 x0.fAfter]) (cs' := [u534, .int .i64 x0.fNeed, .int .i64 x0.fAfter]) rfl rfl rfl rfl tsz2 (Ones.int Ones.nil) rfl rfl HM) ?_
  rintro w539 HM
  refine ops_nil (at_then (run_seq ?_))
  refine run_region rfl ?_
  refine ox rfl rfl rfl rfl (ex_loadN (cs := [u534, (.int .i64 x0.fNeed), (.int .i64 x0.fAfter)]) rfl rfl Try.underlying67 rfl tsz67 rfl ((HM.box_at 0 rfl).sub 0 3 rfl)) ?_
  replace HM := HM.front 2 rfl rfl
  refine odS rfl rfl rfl (does_store (vs := [u534, .int .i64 x0.fNeed, .int .i64 x0.fAfter]) (cs' := [u534, .int .i64 x0.fNeed, .int .i64 x0.fAfter]) rfl rfl rfl rfl tsz67 (Ones.rd (HM.own_rd 2 rfl) (Ones.int (Ones.int Ones.nil))) rfl rfl HM) ?_
  rintro w540 HM
  refine ops_nil (at_then ?_)
  refine run_ret ?_
  replace HM := (HM.front 1 rfl rfl).drop
  replace HM := (HM.front 2 rfl rfl).drop
  have hcb0 := HM.box_at 0 rfl
  replace HM := (HM.front 0 rfl rfl).drop
  have hR := Option.some.inj H
  subst hR
  exact at_retN rfl rfl Try.underlying67 rfl tsz67 rfl hcb0 ⟨_, rfl, _, rfl, HM⟩

def laws_toOut.f (k : Nat) (x0 : Out) : Option Out := ((laws_toRule.f k x0.fRule).bind fun t558 => some (⟨x0.fValue, t558⟩ : Out))
theorem laws_toOut.calls {k : Nat} {x0 : Out} {p0_0 : Value} {w : World} (hp0_0 : RdS kInt w p0_0 x0.fRule.fKeys) {r : Out} (H : laws_toOut.f k x0 = some r) :
    Calls Try.prog 98 ([.agg #[(.int .i64 x0.fValue), p0_0, (.int .i64 x0.fRule.fNeed), (.int .i64 x0.fRule.fAfter)]] : List Value).toArray w (fun e w_ => ∃ v, e = .returned v ∧ ∃ u0 : Value, v = (.agg #[.int .i64 r.fValue, u0, .int .i64 r.fRule.fNeed, .int .i64 r.fRule.fAfter]) ∧ Mem w [] w_ [own kInt 2 u0 r.fRule.fKeys]) := by
  have HM := Mem.start w
  refine calls_run (N := 12) Try.func98 rfl rfl rfl rfl ?_
  unfold laws_toOut.f at H
  refine run_seq ?_
  refine run_region rfl ?_
  refine od rfl rfl rfl rfl (does_box (cs := [.int .i64 x0.fValue, p0_0, .int .i64 x0.fRule.fNeed, .int .i64 x0.fRule.fAfter]) rfl rfl rfl HM) ?_
  rintro _ w551 ⟨b545, rfl, HM⟩
  refine od rfl rfl rfl rfl (does_alloc (cs := [.int .i64 0, .slice none 0 0, .int .i64 0, .int .i64 0]) rfl tz69 rfl HM) ?_
  rintro _ w552 ⟨b548, rfl, HM⟩
  refine ops_nil (at_then (run_seq ?_))
  refine run_region rfl ?_
  refine od rfl rfl rfl rfl (does_alloc (cs := [.int .i64 0, .slice none 0 0, .int .i64 0, .int .i64 0]) rfl tz69 rfl HM) ?_
  rintro _ w556 ⟨b553, rfl, HM⟩
  refine ops_nil (at_then (run_seq ?_))
  refine run_region rfl ?_
  refine ox rfl rfl rfl rfl (ex_fieldAddr (off' := 0) rfl rfl Try.underlying141 rfl tsz2 rfl) ?_
  refine ox rfl rfl rfl rfl (ex_load1 rfl rfl Try.underlying2 rfl ((HM.box_at 2 rfl) 0 _ rfl)) ?_
  refine ox rfl rfl rfl rfl (ex_fieldAddr (off' := 0) rfl rfl Try.underlying69 rfl tsz2 rfl) ?_
  refine odS rfl rfl rfl (does_store (vs := [.int .i64 x0.fValue]) (cs' := [.int .i64 x0.fValue, .slice none 0 0, .int .i64 0, .int .i64 0]) rfl rfl rfl rfl tsz2 (Ones.int Ones.nil) rfl rfl HM) ?_
  rintro w557 HM
  refine ops_nil (at_then (run_seq ?_))
  obtain ⟨t558, h559, H⟩ := bind_some H
  refine run_region rfl ?_
  refine ox rfl rfl rfl rfl (ex_fieldAddr (off' := 1) rfl rfl Try.underlying141 rfl tsz139 rfl) ?_
  refine ox rfl rfl rfl rfl (ex_loadN (cs := [p0_0, (.int .i64 x0.fRule.fNeed), (.int .i64 x0.fRule.fAfter)]) rfl rfl Try.underlying139 rfl tsz139 rfl ((HM.box_at 2 rfl).sub 1 3 rfl)) ?_
  refine od rfl rfl rfl rfl (does_callk rfl callok145 rfl (laws_toRule.calls (x0 := x0.fRule) (HM.rd hp0_0) h559)) ?_
  rintro _ w562 ⟨u560, rfl, hn⟩
  replace HM : Mem w [] w562 [own kInt 2 u560 t558.fKeys, box b553 69 [.int .i64 x0.fValue, .slice none 0 0, .int .i64 0, .int .i64 0], box b548 69 [.int .i64 0, .slice none 0 0, .int .i64 0, .int .i64 0], box b545 141 [.int .i64 x0.fValue, p0_0, .int .i64 x0.fRule.fNeed, .int .i64 x0.fRule.fAfter]] := HM.call hn
  refine ox rfl rfl rfl rfl (ex_fieldAddr (off' := 1) rfl rfl Try.underlying69 rfl tsz67 rfl) ?_
  replace HM := HM.front 1 rfl rfl
  refine odS rfl rfl rfl (does_store (vs := [u560, .int .i64 t558.fNeed, .int .i64 t558.fAfter]) (cs' := [.int .i64 x0.fValue, u560, .int .i64 t558.fNeed, .int .i64 t558.fAfter]) rfl rfl rfl rfl tsz67 (Ones.rd (HM.own_rd 1 rfl) (Ones.int (Ones.int Ones.nil))) rfl rfl HM) ?_
  rintro w563 HM
  refine ops_nil (at_then (run_seq ?_))
  refine run_region rfl ?_
  refine ox rfl rfl rfl rfl (ex_loadN (cs := [(.int .i64 x0.fValue), u560, (.int .i64 t558.fNeed), (.int .i64 t558.fAfter)]) rfl rfl Try.underlying69 rfl tsz69 rfl ((HM.box_at 0 rfl).sub 0 4 rfl)) ?_
  replace HM := HM.front 2 rfl rfl
  refine odS rfl rfl rfl (does_store (vs := [.int .i64 x0.fValue, u560, .int .i64 t558.fNeed, .int .i64 t558.fAfter]) (cs' := [.int .i64 x0.fValue, u560, .int .i64 t558.fNeed, .int .i64 t558.fAfter]) rfl rfl rfl rfl tsz69 (Ones.int (Ones.rd (HM.own_rd 2 rfl) (Ones.int (Ones.int Ones.nil)))) rfl rfl HM) ?_
  rintro w564 HM
  refine ops_nil (at_then ?_)
  refine run_ret ?_
  replace HM := (HM.front 1 rfl rfl).drop
  replace HM := (HM.front 2 rfl rfl).drop
  have hcb0 := HM.box_at 0 rfl
  replace HM := (HM.front 0 rfl rfl).drop
  have hR := Option.some.inj H
  subst hR
  exact at_retN rfl rfl Try.underlying69 rfl tsz69 rfl hcb0 ⟨_, rfl, _, rfl, HM⟩

def laws_toOutS.l0 (x0 : List Out) : Nat → (List Out) → Int → Option ((List Out))
  | 0, _, _ => none
  | k + 1, a655, a657 => (bif (decide (a657 < (x0.length : Int))) then (chk (idxOk a657 x0.length) ((laws_toOut.f k (gt x0 a657)).bind fun t675 => (chk (idxOk a657 a655.length) (laws_toOutS.l0 x0 k (a655.set (a657).toNat t675) (wrap64 (a657 + 1)))))) else some a655)
theorem laws_toOutS.l0_z (x0 : List Out) (a655 : List Out) (a657 : Int) : laws_toOutS.l0 x0 0 a655 a657 = none := rfl
theorem laws_toOutS.l0_s (x0 : List Out) (k : Nat) (a655 : List Out) (a657 : Int) : laws_toOutS.l0 x0 (k + 1) a655 a657 = (bif (decide (a657 < (x0.length : Int))) then (chk (idxOk a657 x0.length) ((laws_toOut.f k (gt x0 a657)).bind fun t675 => (chk (idxOk a657 a655.length) (laws_toOutS.l0 x0 k (a655.set (a657).toNat t675) (wrap64 (a657 + 1)))))) else some a655) := rfl
def laws_toOutS.f (k : Nat) (x0 : List Out) : Option ((List Out)) := (chk (decide (0 ≤ (x0.length : Int))) (chk (leB (((x0.length : Int)).toNat * 48) 281474976710656) ((laws_toOutS.l0 x0 k (List.replicate ((x0.length : Int)).toNat (⟨0, (⟨[], 0, 0⟩ : Rule)⟩ : Out)) 0).bind (fun a640 => some a640))))
theorem laws_toOutS.calls {k : Nat} {x0 : List Out} {p0 : Value} {w : World} (hp0 : RdS kOut w p0 x0) {r : (List Out)} (H : laws_toOutS.f k x0 = some r) :
    Calls Try.prog 39 ([p0] : List Value).toArray w (fun e w_ => ∃ v, e = .returned v ∧ ∃ u0 : Value, v = u0 ∧ Mem w [] w_ [own kOut 69 u0 r]) := by
  have HM := Mem.start w
  refine calls_run (N := 23) Try.func39 rfl rfl rfl rfl ?_
  unfold laws_toOutS.f at H
  refine run_seq ?_
  refine run_region rfl ?_
  refine ox rfl rfl rfl rfl (ex_assign rfl rfl) ?_
  refine ops_nil (at_then (run_seq ?_))
  obtain ⟨e602, H⟩ := chk_some H
  obtain ⟨e603, H⟩ := chk_some H
  refine run_region rfl ?_
  refine ox rfl rfl rfl rfl (ex_move rfl rfl) ?_
  refine ox rfl rfl rfl rfl (ex_len (d := kOut) (xs := x0) rfl rfl Try.underlying47 hp0) ?_
  refine od rfl rfl rfl rfl (does_make (x := (⟨0, (⟨[], 0, 0⟩ : Rule)⟩ : Out)) kOut rfl rfl rfl Try.underlying26 tsz69 tby69 tz69 rfl rfl (fun _ => ⟨.slice none 0 0, rfl, OwS.nil _ _ _ _⟩) (of_decide_eq_true e602) rfl (leB_le e603) rfl HM) ?_
  rintro v599 w604 HM
  refine ox rfl rfl rfl rfl (ex_assign rfl rfl) ?_
  refine ops_nil (at_then ?_)
  obtain ⟨o642, ho643, H⟩ := bind_some H
  refine run_mid (fun ρ_ w_ => ∃ v639 : Value, ∃ a640 : List Out, a640 = o642 ∧ ρ_ = [(3, v639)] ∧ Mem w [] w_ [own kOut 69 v639 a640]) ?_ ?_
  · clear H
    refine run_seq ?_
    refine run_region rfl ?_
    refine ox rfl rfl rfl rfl (ex_assign rfl rfl) ?_
    refine ops_nil (at_then ?_)
    refine run_block ?_
    refine run_loop (fun k_ ρ_ w_ => ∃ v654 : Value, ∃ a655 : List Out, ∃ a657 : Int, laws_toOutS.l0 x0 k_ a655 a657 = some o642 ∧ ρ_ = [(0, p0), (3, v654), (4, .int .i64 a657)] ∧ Mem w [] w_ [own kOut 69 v654 a655]) k (ρ1 := [(0, p0), (3, v599), (4, .int .i64 0)]) ⟨_, _, _, ho643, rfl, HM⟩ (Sub.cons rfl (Sub.cons rfl (Sub.cons rfl Sub.nil))) ?_
    clear HM ho643
    rintro k668 _ w669 ⟨v654, a655, a657, ho643, rfl, HM⟩
    obtain _ | k668 := k668
    · exact nomatch ((laws_toOutS.l0_z x0 a655 a657).symm.trans ho643)
    replace ho643 := (laws_toOutS.l0_s x0 k668 a655 a657).symm.trans ho643
    refine run_seq ?_
    refine run_seq ?_
    refine run_region rfl ?_
    refine ox rfl rfl rfl rfl (ex_move rfl rfl) ?_
    refine ox rfl rfl rfl rfl (ex_move rfl rfl) ?_
    refine ox rfl rfl rfl rfl (ex_len (d := kOut) (xs := x0) rfl rfl Try.underlying47 hp0) ?_
    refine ox rfl rfl rfl rfl (ex_lss rfl rfl rfl) ?_
    refine ops_nil (at_then ?_)
    refine run_cond (b := (decide (a657 < (x0.length : Int)))) rfl (fun hb670 => ?_) (fun hb670 => ?_)
    · replace ho643 := cond_t hb670 ho643
      refine run_skip ?_
      refine at_then ?_
      refine run_seq ?_
      refine run_block ?_
      obtain ⟨e671, ho643⟩ := chk_some ho643
      obtain ⟨t675, h676, ho643⟩ := bind_some ho643
      obtain ⟨e679, ho643⟩ := chk_some ho643
      refine run_region rfl ?_
      refine ox rfl rfl rfl rfl (ex_move rfl rfl) ?_
      refine ox rfl rfl rfl rfl (ex_move rfl rfl) ?_
      refine ox rfl rfl rfl rfl (ex_move rfl rfl) ?_
      refine ox rfl rfl rfl rfl (ex_move rfl rfl) ?_
      obtain ⟨kv673, hc672, hk674⟩ : ∃ u, CellsAt _ (sb p0) (so p0 + (a657).toNat * 4) [(.int .i64 ((gt x0 a657).fValue)), u, (.int .i64 ((gt x0 a657).fRule.fNeed)), (.int .i64 ((gt x0 a657).fRule.fAfter))] ∧ RdS kInt _ u ((gt x0 a657).fRule.fKeys) := rd_with1 hp0 e671
      refine ox rfl rfl rfl rfl (ex_indexAddr (d := kOut) rfl rfl rfl Try.underlying47 tsz141 hp0 (idx_lo e671) (idx_hi e671)) ?_
      refine ox rfl rfl rfl rfl (ex_loadN (cs := [(.int .i64 ((gt x0 a657).fValue)), kv673, (.int .i64 ((gt x0 a657).fRule.fNeed)), (.int .i64 ((gt x0 a657).fRule.fAfter))]) rfl rfl Try.underlying141 rfl tsz141 rfl ((HM.at_ hc672).sub 0 4 rfl)) ?_
      refine od rfl rfl rfl rfl (does_callk rfl callok98 rfl (laws_toOut.calls (x0 := (gt x0 a657)) (HM.rd hk674) h676)) ?_
      rintro _ w680 ⟨u677, rfl, hn⟩
      replace HM : Mem w [] w680 [own kInt 2 u677 t675.fRule.fKeys, own kOut 69 v654 a655] := HM.call hn
      refine ox rfl rfl rfl rfl (ex_indexAddr (d := kOut) rfl rfl rfl Try.underlying26 tsz69 (HM.own_rd 1 rfl) (idx_lo e679) (idx_hi e679)) ?_
      replace HM := HM.front 1 rfl rfl
      refine odS rfl rfl rfl (does_setElem (vs := [(.int .i64 t675.fValue), u677, (.int .i64 t675.fRule.fNeed), (.int .i64 t675.fRule.fAfter)]) (y := t675) kOut rfl rfl rfl rfl rfl tsz69 rfl rfl (idx_nat e679) (fun _ _ h => ⟨_, rfl, h⟩) HM) ?_
      rintro w681 HM
      refine ops_nil ?_
      refine at_block ?_
      refine at_then ?_
      refine run_region rfl ?_
      refine ox rfl rfl rfl rfl (ex_move rfl rfl) ?_
      refine ox rfl rfl rfl rfl (ex_add rfl rfl rfl) ?_
      refine ox rfl rfl rfl rfl (ex_assign rfl rfl) ?_
      refine ops_nil ?_
      exact at_again k668 (ρ1 := [(0, p0), (3, v654), (4, .int .i64 (wrap64 (a657 + 1)))]) (Nat.lt_succ_self _) ⟨_, _, _, ho643, rfl, HM⟩ (Sub.cons rfl (Sub.cons rfl (Sub.cons rfl Sub.nil)))
    · replace ho643 := cond_f hb670 ho643
      refine run_exit ?_
      refine at_then_exit ?_
      refine at_then_exit ?_
      refine at_block_exit ?_
      exact at_mid (ρ' := [(3, v654)]) ⟨_, _, (Option.some.inj ho643), rfl, HM⟩ (Sub.cons rfl Sub.nil)
  · rintro _ w682 ⟨v639, a640, rfl, rfl, HM⟩
    refine run_seq ?_
    refine run_region rfl ?_
    refine ox rfl rfl rfl rfl (ex_move rfl rfl) ?_
    refine ox rfl rfl rfl rfl (ex_assign rfl rfl) ?_
    refine ops_nil (at_then ?_)
    refine run_ret ?_
    have hR := Option.some.inj H
    subst hR
    exact at_ret1 rfl rfl ⟨_, rfl, _, rfl, HM⟩
end Go.Proofs.Ytbbcabpnkdilgaa.Zk
