/- What functions of the program compute, each as a plain function, and that they do. Conditions: as each theorem states them. -/
import Derived.Test.YtdhkcglfeiapoaaDoorRuleTextZkTy
namespace Go.Proofs.YtdhkcglfeiapoaaDoor.Zk
open Go Go.RowKit Go.IntWalk Go.Proofs
set_option linter.unusedVariables false
set_option linter.unusedSimpArgs false
set_option maxRecDepth 100000
set_option maxHeartbeats 4000000
def laws_szInt64S.f (k : Nat) (x0 : List Int) (x1 : Int) : Option Int := (bif (decide ((wrap64 (x1 - (x0.length : Int))) < 0)) then some (-1) else some (wrap64 (x1 - (x0.length : Int))))
theorem laws_szInt64S.calls {k : Nat} {x0 : List Int} {x1 : Int} {p0 : Value} {w : World} (hp0 : RdS kInt w p0 x0) {r : Int} (H : laws_szInt64S.f k x0 x1 = some r) :
    Calls Tryd.prog 16 ([p0, .int .i64 x1] : List Value).toArray w (fun e w_ => ∃ v, e = .returned v ∧ v = (.int .i64 r) ∧ Mem w [] w_ []) := by
  have HM := Mem.start w
  refine calls_run (N := 12) Tryd.func16 rfl rfl rfl rfl ?_
  unfold laws_szInt64S.f at H
  refine run_seq ?_
  refine run_region rfl ?_
  refine ops_ex rfl (guard_none rfl) rfl rfl (ex_assign rfl rfl) ?_
  refine ops_nil ?_
  refine at_then ?_
  refine run_seq ?_
  refine run_region rfl ?_
  refine ops_ex rfl (guard_none rfl) rfl rfl (ex_move rfl rfl) ?_
  refine ops_ex rfl (guard_none rfl) rfl rfl (ex_move rfl rfl) ?_
  refine ops_ex rfl (guard_none rfl) rfl rfl (ex_len (d := kInt) (xs := x0) rfl rfl Tryd.underlying22 hp0) ?_
  refine ops_ex rfl (guard_none rfl) rfl rfl (ex_sub rfl rfl rfl) ?_
  refine ops_ex rfl (guard_none rfl) rfl rfl (ex_assign rfl rfl) ?_
  refine ops_nil ?_
  refine at_then ?_
  refine run_seq ?_
  refine run_seq ?_
  refine run_region rfl ?_
  refine ops_ex rfl (guard_none rfl) rfl rfl (ex_move rfl rfl) ?_
  refine ops_ex rfl (guard_none rfl) rfl rfl (ex_lss rfl rfl rfl) ?_
  refine ops_nil ?_
  refine at_then ?_
  refine run_cond (b := (decide ((wrap64 (x1 - (x0.length : Int))) < 0))) rfl (fun hb8 => ?_) (fun hb8 => ?_)
  · replace H := cond_t hb8 H
    refine run_seq ?_
    refine run_region rfl ?_
    refine ops_ex rfl (guard_none rfl) rfl rfl (ex_assign rfl rfl) ?_
    refine ops_nil ?_
    refine at_then ?_
    refine run_ret ?_
    refine at_then_ret ?_
    have hR := Option.some.inj H
    subst hR
    exact at_ret1 rfl rfl ⟨_, rfl, rfl, HM⟩
  · replace H := cond_f hb8 H
    refine run_skip ?_
    refine at_then ?_
    refine run_seq ?_
    refine run_region rfl ?_
    refine ops_ex rfl (guard_none rfl) rfl rfl (ex_move rfl rfl) ?_
    refine ops_ex rfl (guard_none rfl) rfl rfl (ex_assign rfl rfl) ?_
    refine ops_nil ?_
    refine at_then ?_
    refine run_ret ?_
    have hR := Option.some.inj H
    subst hR
    exact at_ret1 rfl rfl ⟨_, rfl, rfl, HM⟩

def laws_szRule.f (k : Nat) (x0 : Rule) (x1 : Int) : Option Int := ((laws_szInt64S.f k x0.fKeys x1).bind fun t16 => (bif (decide (t16 < 0)) then some (-1) else some t16))
theorem laws_szRule.calls {k : Nat} {x0 : Rule} {x1 : Int} {p0_0 : Value} {w : World} (hp0_0 : RdS kInt w p0_0 x0.fKeys) {r : Int} (H : laws_szRule.f k x0 x1 = some r) :
    Calls Tryd.prog 5 ([.agg #[p0_0, (.int .i64 x0.fNeed), (.int .i64 x0.fAfter)], .int .i64 x1] : List Value).toArray w (fun e w_ => ∃ v, e = .returned v ∧ v = (.int .i64 r) ∧ Mem w [] w_ []) := by
  have HM := Mem.start w
  refine calls_run (N := 12) Tryd.func5 rfl rfl rfl rfl ?_
  unfold laws_szRule.f at H
  refine run_seq ?_
  refine run_region rfl ?_
  refine ops_does rfl (guard_none rfl) rfl rfl (does_box (cs := [p0_0, .int .i64 x0.fNeed, .int .i64 x0.fAfter]) rfl rfl rfl HM) ?_
  rintro _ w15 ⟨b12, rfl, HM⟩
  refine ops_ex rfl (guard_none rfl) rfl rfl (ex_assign rfl rfl) ?_
  refine ops_nil ?_
  refine at_then ?_
  refine run_seq ?_
  obtain ⟨t16, h17, H⟩ := bind_some H
  refine run_region rfl ?_
  refine ops_ex rfl (guard_none rfl) rfl rfl (ex_fieldAddr (off' := 0) rfl rfl Tryd.underlying24 rfl tsz22 rfl) ?_
  refine ops_ex rfl (guard_none rfl) rfl rfl (ex_load1 rfl rfl Tryd.underlying22 rfl ((HM.box_at 0 rfl) 0 _ rfl)) ?_
  refine ops_ex rfl (guard_none rfl) rfl rfl (ex_move rfl rfl) ?_
  refine ops_does rfl (guard_none rfl) rfl rfl (does_callk rfl callok16 rfl (laws_szInt64S.calls (x0 := x0.fKeys) (x1 := x1) (HM.rd hp0_0) h17)) ?_
  rintro _ w18 ⟨rfl, hn⟩
  replace HM : Mem w [] w18 [box b12 24 [p0_0, .int .i64 x0.fNeed, .int .i64 x0.fAfter]] := HM.call hn
  refine ops_ex rfl (guard_none rfl) rfl rfl (ex_assign rfl rfl) ?_
  refine ops_nil ?_
  refine at_then ?_
  refine run_seq ?_
  refine run_seq ?_
  refine run_region rfl ?_
  refine ops_ex rfl (guard_none rfl) rfl rfl (ex_move rfl rfl) ?_
  refine ops_ex rfl (guard_none rfl) rfl rfl (ex_lss rfl rfl rfl) ?_
  refine ops_nil ?_
  refine at_then ?_
  refine run_cond (b := (decide (t16 < 0))) rfl (fun hb19 => ?_) (fun hb19 => ?_)
  · replace H := cond_t hb19 H
    refine run_seq ?_
    refine run_region rfl ?_
    refine ops_ex rfl (guard_none rfl) rfl rfl (ex_assign rfl rfl) ?_
    refine ops_nil ?_
    refine at_then ?_
    refine run_ret ?_
    refine at_then_ret ?_
    replace HM := (HM.front 0 rfl rfl).drop
    have hR := Option.some.inj H
    subst hR
    exact at_ret1 rfl rfl ⟨_, rfl, rfl, HM⟩
  · replace H := cond_f hb19 H
    refine run_skip ?_
    refine at_then ?_
    refine run_seq ?_
    refine run_region rfl ?_
    refine ops_ex rfl (guard_none rfl) rfl rfl (ex_move rfl rfl) ?_
    refine ops_ex rfl (guard_none rfl) rfl rfl (ex_assign rfl rfl) ?_
    refine ops_nil ?_
    refine at_then ?_
    refine run_ret ?_
    replace HM := (HM.front 0 rfl rfl).drop
    have hR := Option.some.inj H
    subst hR
    exact at_ret1 rfl rfl ⟨_, rfl, rfl, HM⟩

def laws_toInt64S.l0 (x0 : List Int) : Nat → (List Int) → Int → Option ((List Int))
  | 0, _, _ => none
  | k + 1, a91, a93 => (bif (decide (a93 < (x0.length : Int))) then (chk (idxOk a93 x0.length) (chk (idxOk a93 a91.length) (laws_toInt64S.l0 x0 k (a91.set (a93).toNat (gt x0 a93)) (wrap64 (a93 + 1))))) else some a91)
theorem laws_toInt64S.l0_z (x0 : List Int) (a91 : List Int) (a93 : Int) : laws_toInt64S.l0 x0 0 a91 a93 = none := rfl
theorem laws_toInt64S.l0_s (x0 : List Int) (k : Nat) (a91 : List Int) (a93 : Int) : laws_toInt64S.l0 x0 (k + 1) a91 a93 = (bif (decide (a93 < (x0.length : Int))) then (chk (idxOk a93 x0.length) (chk (idxOk a93 a91.length) (laws_toInt64S.l0 x0 k (a91.set (a93).toNat (gt x0 a93)) (wrap64 (a93 + 1))))) else some a91) := rfl
def laws_toInt64S.f (k : Nat) (x0 : List Int) : Option ((List Int)) := (chk (decide (0 ≤ (x0.length : Int))) (chk (leB (((x0.length : Int)).toNat * 8) 281474976710656) ((laws_toInt64S.l0 x0 k (List.replicate ((x0.length : Int)).toNat 0) 0).bind (fun a82 => some a82))))
theorem laws_toInt64S.calls {k : Nat} {x0 : List Int} {p0 : Value} {w : World} (hp0 : RdS kInt w p0 x0) {r : (List Int)} (H : laws_toInt64S.f k x0 = some r) :
    Calls Tryd.prog 19 ([p0] : List Value).toArray w (fun e w_ => ∃ v, e = .returned v ∧ ∃ u0 : Value, v = u0 ∧ Mem w [] w_ [own kInt 2 u0 r]) := by
  have HM := Mem.start w
  refine calls_run (N := 22) Tryd.func19 rfl rfl rfl rfl ?_
  unfold laws_toInt64S.f at H
  refine run_seq ?_
  refine run_region rfl ?_
  refine ops_ex rfl (guard_none rfl) rfl rfl (ex_assign rfl rfl) ?_
  refine ops_nil ?_
  refine at_then ?_
  refine run_seq ?_
  obtain ⟨e62, H⟩ := chk_some H
  obtain ⟨e63, H⟩ := chk_some H
  refine run_region rfl ?_
  refine ops_ex rfl (guard_none rfl) rfl rfl (ex_move rfl rfl) ?_
  refine ops_ex rfl (guard_none rfl) rfl rfl (ex_len (d := kInt) (xs := x0) rfl rfl Tryd.underlying22 hp0) ?_
  refine ops_does rfl (guard_none rfl) rfl rfl (does_make (x := 0) kInt rfl rfl rfl Tryd.underlying22 tsz2 tby2 tz2 rfl rfl (fun _ => ⟨rfl, rfl⟩) (of_decide_eq_true e62) rfl (leB_le e63) rfl HM) ?_
  rintro v59 w64 HM
  refine ops_ex rfl (guard_none rfl) rfl rfl (ex_assign rfl rfl) ?_
  refine ops_nil ?_
  refine at_then ?_
  obtain ⟨o84, ho85, H⟩ := bind_some H
  refine run_mid (fun ρ_ w_ => ∃ v81 : Value, ∃ a82 : List Int, a82 = o84 ∧ ρ_ = [(3, v81)] ∧ Mem w [] w_ [own kInt 2 v81 a82]) ?_ ?_
  · clear H
    refine run_seq ?_
    refine run_region rfl ?_
    refine ops_ex rfl (guard_none rfl) rfl rfl (ex_assign rfl rfl) ?_
    refine ops_nil ?_
    refine at_then ?_
    refine run_block ?_
    refine run_loop (fun k_ ρ_ w_ => ∃ v90 : Value, ∃ a91 : List Int, ∃ a93 : Int, laws_toInt64S.l0 x0 k_ a91 a93 = some o84 ∧ ρ_ = [(0, p0), (3, v90), (4, .int .i64 a93)] ∧ Mem w [] w_ [own kInt 2 v90 a91]) k (ρ1 := [(0, p0), (3, v59), (4, .int .i64 0)]) ⟨_, _, _, ho85, rfl, HM⟩ (Sub.cons rfl (Sub.cons rfl (Sub.cons rfl Sub.nil))) ?_
    clear HM ho85
    rintro k98 _ w99 ⟨v90, a91, a93, ho85, rfl, HM⟩
    obtain _ | k98 := k98
    · exact nomatch ((laws_toInt64S.l0_z x0 a91 a93).symm.trans ho85)
    replace ho85 := (laws_toInt64S.l0_s x0 k98 a91 a93).symm.trans ho85
    refine run_seq ?_
    refine run_seq ?_
    refine run_region rfl ?_
    refine ops_ex rfl (guard_none rfl) rfl rfl (ex_move rfl rfl) ?_
    refine ops_ex rfl (guard_none rfl) rfl rfl (ex_move rfl rfl) ?_
    refine ops_ex rfl (guard_none rfl) rfl rfl (ex_len (d := kInt) (xs := x0) rfl rfl Tryd.underlying22 hp0) ?_
    refine ops_ex rfl (guard_none rfl) rfl rfl (ex_lss rfl rfl rfl) ?_
    refine ops_nil ?_
    refine at_then ?_
    refine run_cond (b := (decide (a93 < (x0.length : Int)))) rfl (fun hb100 => ?_) (fun hb100 => ?_)
    · replace ho85 := cond_t hb100 ho85
      refine run_skip ?_
      refine at_then ?_
      refine run_seq ?_
      refine run_block ?_
      obtain ⟨e101, ho85⟩ := chk_some ho85
      obtain ⟨e103, ho85⟩ := chk_some ho85
      refine run_region rfl ?_
      refine ops_ex rfl (guard_none rfl) rfl rfl (ex_move rfl rfl) ?_
      refine ops_ex rfl (guard_none rfl) rfl rfl (ex_move rfl rfl) ?_
      refine ops_ex rfl (guard_none rfl) rfl rfl (ex_move rfl rfl) ?_
      refine ops_ex rfl (guard_none rfl) rfl rfl (ex_move rfl rfl) ?_
      have hc102 : CellsAt _ (sb p0) (so p0 + (a93).toNat * 1) [(.int .i64 (gt x0 a93))] := rd_plain hp0 e101
      refine ops_ex rfl (guard_none rfl) rfl rfl (ex_indexAddr (d := kInt) rfl rfl rfl Tryd.underlying22 tsz2 hp0 (idx_lo e101) (idx_hi e101)) ?_
      refine ops_ex rfl (guard_none rfl) rfl rfl (ex_load1 rfl rfl Tryd.underlying2 rfl ((HM.at_ hc102) 0 _ rfl)) ?_
      refine ops_ex rfl (guard_none rfl) rfl rfl (ex_indexAddr (d := kInt) rfl rfl rfl Tryd.underlying22 tsz2 (HM.own_rd 0 rfl) (idx_lo e103) (idx_hi e103)) ?_
      refine ops_doesS rfl (guard_none rfl) rfl (does_setElem (vs := [(.int .i64 (gt x0 a93))]) (y := (gt x0 a93)) kInt rfl rfl rfl rfl rfl tsz2 rfl rfl (idx_nat e103) (fun _ _ h => ⟨rfl, h⟩) (HM.emp.front 1 rfl rfl)) ?_
      rintro w104 HM
      refine ops_nil ?_
      refine at_block ?_
      refine at_then ?_
      refine run_region rfl ?_
      refine ops_ex rfl (guard_none rfl) rfl rfl (ex_move rfl rfl) ?_
      refine ops_ex rfl (guard_none rfl) rfl rfl (ex_add rfl rfl rfl) ?_
      refine ops_ex rfl (guard_none rfl) rfl rfl (ex_assign rfl rfl) ?_
      refine ops_nil ?_
      exact at_again k98 (ρ1 := [(0, p0), (3, v90), (4, .int .i64 (wrap64 (a93 + 1)))]) (Nat.lt_succ_self _) ⟨_, _, _, ho85, rfl, HM⟩ (Sub.cons rfl (Sub.cons rfl (Sub.cons rfl Sub.nil)))
    · replace ho85 := cond_f hb100 ho85
      refine run_exit ?_
      refine at_then_exit ?_
      refine at_then_exit ?_
      refine at_block_exit ?_
      exact at_mid (ρ' := [(3, v90)]) ⟨_, _, (Option.some.inj ho85), rfl, HM⟩ (Sub.cons rfl Sub.nil)
  · rintro _ w105 ⟨v81, a82, rfl, rfl, HM⟩
    refine run_seq ?_
    refine run_region rfl ?_
    refine ops_ex rfl (guard_none rfl) rfl rfl (ex_move rfl rfl) ?_
    refine ops_ex rfl (guard_none rfl) rfl rfl (ex_assign rfl rfl) ?_
    refine ops_nil ?_
    refine at_then ?_
    refine run_ret ?_
    have hR := Option.some.inj H
    subst hR
    exact at_ret1 rfl rfl ⟨_, rfl, _, rfl, HM⟩

def laws_toRule.f (k : Nat) (x0 : Rule) : Option Rule := ((laws_toInt64S.f k x0.fKeys).bind fun t122 => some (⟨t122, x0.fNeed, x0.fAfter⟩ : Rule))
theorem laws_toRule.calls {k : Nat} {x0 : Rule} {p0_0 : Value} {w : World} (hp0_0 : RdS kInt w p0_0 x0.fKeys) {r : Rule} (H : laws_toRule.f k x0 = some r) :
    Calls Tryd.prog 7 ([.agg #[p0_0, (.int .i64 x0.fNeed), (.int .i64 x0.fAfter)]] : List Value).toArray w (fun e w_ => ∃ v, e = .returned v ∧ ∃ u0 : Value, v = (.agg #[u0, .int .i64 r.fNeed, .int .i64 r.fAfter]) ∧ Mem w [] w_ [own kInt 2 u0 r.fKeys]) := by
  have HM := Mem.start w
  refine calls_run (N := 15) Tryd.func7 rfl rfl rfl rfl ?_
  unfold laws_toRule.f at H
  refine run_seq ?_
  refine run_region rfl ?_
  refine ops_does rfl (guard_none rfl) rfl rfl (does_box (cs := [p0_0, .int .i64 x0.fNeed, .int .i64 x0.fAfter]) rfl rfl rfl HM) ?_
  rintro _ w116 ⟨b110, rfl, HM⟩
  refine ops_does rfl (guard_none rfl) rfl rfl (does_alloc (cs := [.slice none 0 0, .int .i64 0, .int .i64 0]) rfl tz29 rfl HM) ?_
  rintro _ w117 ⟨b113, rfl, HM⟩
  refine ops_nil ?_
  refine at_then ?_
  refine run_seq ?_
  refine run_region rfl ?_
  refine ops_does rfl (guard_none rfl) rfl rfl (does_alloc (cs := [.slice none 0 0, .int .i64 0, .int .i64 0]) rfl tz29 rfl HM) ?_
  rintro _ w121 ⟨b118, rfl, HM⟩
  refine ops_nil ?_
  refine at_then ?_
  refine run_seq ?_
  obtain ⟨t122, h123, H⟩ := bind_some H
  refine run_region rfl ?_
  refine ops_ex rfl (guard_none rfl) rfl rfl (ex_fieldAddr (off' := 0) rfl rfl Tryd.underlying24 rfl tsz22 rfl) ?_
  refine ops_ex rfl (guard_none rfl) rfl rfl (ex_load1 rfl rfl Tryd.underlying22 rfl ((HM.box_at 2 rfl) 0 _ rfl)) ?_
  refine ops_does rfl (guard_none rfl) rfl rfl (does_callk rfl callok19 rfl (laws_toInt64S.calls (x0 := x0.fKeys) (HM.rd hp0_0) h123)) ?_
  rintro u124 w126 ⟨_, rfl, hn⟩
  replace HM : Mem w [] w126 [own kInt 2 u124 t122, box b118 29 [.slice none 0 0, .int .i64 0, .int .i64 0], box b113 29 [.slice none 0 0, .int .i64 0, .int .i64 0], box b110 24 [p0_0, .int .i64 x0.fNeed, .int .i64 x0.fAfter]] := HM.call hn
  refine ops_ex rfl (guard_none rfl) rfl rfl (ex_fieldAddr (off' := 0) rfl rfl Tryd.underlying29 rfl tsz22 rfl) ?_
  replace HM := HM.front 1 rfl rfl
  refine ops_doesS rfl (guard_none rfl) rfl (does_store (vs := [u124]) (cs' := [u124, .int .i64 0, .int .i64 0]) rfl rfl rfl (rd_cells (HM.own_rd 1 rfl)) tsz22 (Ones.rd (HM.own_rd 1 rfl) Ones.nil) rfl rfl HM) ?_
  rintro w127 HM
  refine ops_nil ?_
  refine at_then ?_
  refine run_seq ?_
  refine run_region rfl ?_
  refine ops_ex rfl (guard_none rfl) rfl rfl (ex_fieldAddr (off' := 1) rfl rfl Tryd.underlying24 rfl tsz2 rfl) ?_
  refine ops_ex rfl (guard_none rfl) rfl rfl (ex_load1 rfl rfl Tryd.underlying2 rfl ((HM.box_at 3 rfl) 1 _ rfl)) ?_
  refine ops_ex rfl (guard_none rfl) rfl rfl (ex_fieldAddr (off' := 1) rfl rfl Tryd.underlying29 rfl tsz2 rfl) ?_
  refine ops_doesS rfl (guard_none rfl) rfl (does_store (vs := [.int .i64 x0.fNeed]) (cs' := [u124, .int .i64 x0.fNeed, .int .i64 0]) rfl rfl rfl rfl tsz2 (Ones.int Ones.nil) rfl rfl HM) ?_
  rintro w128 HM
  refine ops_nil ?_
  refine at_then ?_
  refine run_seq ?_
  refine run_region rfl ?_
  refine ops_ex rfl (guard_none rfl) rfl rfl (ex_fieldAddr (off' := 2) rfl rfl Tryd.underlying24 rfl tsz2 rfl) ?_
  refine ops_ex rfl (guard_none rfl) rfl rfl (ex_load1 rfl rfl Tryd.underlying2 rfl ((HM.box_at 3 rfl) 2 _ rfl)) ?_
  refine ops_ex rfl (guard_none rfl) rfl rfl (ex_fieldAddr (off' := 2) rfl rfl Tryd.underlying29 rfl tsz2 rfl) ?_
  refine ops_doesS rfl (guard_none rfl) rfl (does_store (vs := [.int .i64 x0.fAfter]) (cs' := [u124, .int .i64 x0.fNeed, .int .i64 x0.fAfter]) rfl rfl rfl rfl tsz2 (Ones.int Ones.nil) rfl rfl HM) ?_
  rintro w129 HM
  refine ops_nil ?_
  refine at_then ?_
  refine run_seq ?_
  refine run_region rfl ?_
  refine ops_ex rfl (guard_none rfl) rfl rfl (ex_loadN (cs := [u124, (.int .i64 x0.fNeed), (.int .i64 x0.fAfter)]) rfl rfl Tryd.underlying29 rfl tsz29 rfl ((HM.box_at 0 rfl).sub 0 3 rfl)) ?_
  replace HM := HM.front 2 rfl rfl
  refine ops_doesS rfl (guard_none rfl) rfl (does_store (vs := [u124, .int .i64 x0.fNeed, .int .i64 x0.fAfter]) (cs' := [u124, .int .i64 x0.fNeed, .int .i64 x0.fAfter]) rfl rfl rfl rfl tsz29 (Ones.rd (HM.own_rd 2 rfl) (Ones.int (Ones.int Ones.nil))) rfl rfl HM) ?_
  rintro w130 HM
  refine ops_nil ?_
  refine at_then ?_
  refine run_ret ?_
  replace HM := (HM.front 1 rfl rfl).drop
  replace HM := (HM.front 2 rfl rfl).drop
  have hcb0 := HM.box_at 0 rfl
  replace HM := (HM.front 0 rfl rfl).drop
  have hR := Option.some.inj H
  subst hR
  exact at_retN rfl rfl Tryd.underlying29 rfl tsz29 rfl hcb0 ⟨_, rfl, _, rfl, HM⟩

def spec_l1In.f (k : Nat) (x0 : Int) (x1 : Int) (x2 : Int) : Option Bool := some ((decide (x1 ≤ x0)) && (decide (x0 ≤ x2)))
theorem spec_l1In.calls {k : Nat} {x0 : Int} {x1 : Int} {x2 : Int}  {w : World}  {r : Bool} (H : spec_l1In.f k x0 x1 x2 = some r) :
    Calls Tryd.prog 27 ([.int .i64 x0, .int .i64 x1, .int .i64 x2] : List Value).toArray w (fun e w_ => ∃ v, e = .returned v ∧ v = (.bool r) ∧ Mem w [] w_ []) := by
  have HM := Mem.start w
  refine calls_run (N := 15) Tryd.func27 rfl rfl rfl rfl ?_
  unfold spec_l1In.f at H
  refine run_seq ?_
  refine run_region rfl ?_
  refine ops_ex rfl (guard_none rfl) rfl rfl (ex_assign rfl rfl) ?_
  refine ops_nil ?_
  refine at_then ?_
  refine run_seq ?_
  refine run_meet (fun ρ_ w_ => ρ_ = [(6, .bool ((decide (x1 ≤ x0)) && (decide (x0 ≤ x2))))] ∧ Mem w [] w_ []) ?_ ?_
  · skip
    refine run_region rfl ?_
    refine ops_ex rfl (guard_none rfl) rfl rfl (ex_move rfl rfl) ?_
    refine ops_ex rfl (guard_none rfl) rfl rfl (ex_move rfl rfl) ?_
    refine ops_ex rfl (guard_none rfl) rfl rfl (ex_geq rfl rfl rfl) ?_
    refine ops_ex rfl (guard_none rfl) rfl rfl (ex_move rfl rfl) ?_
    refine bool_cases (decide (x1 ≤ x0)) (fun hg141 => ?_) (fun hg141 => ?_)
    · skip
      refine ops_ex rfl (guard_on rfl rfl rfl hg141) rfl rfl (ex_move rfl rfl) ?_
      refine ops_ex rfl (guard_on rfl rfl rfl hg141) rfl rfl (ex_move rfl rfl) ?_
      refine ops_ex rfl (guard_on rfl rfl rfl hg141) rfl rfl (ex_leq rfl rfl rfl) ?_
      refine ops_ex (v := .bool ((decide (x1 ≤ x0)) && (decide (x0 ≤ x2)))) rfl (guard_none rfl) rfl rfl (ex_pand_t rfl rfl hg141 rfl) ?_
      refine ops_ex rfl (guard_none rfl) rfl rfl (ex_assign rfl rfl) ?_
      refine ops_nil ?_
      exact at_meet [(6, .bool ((decide (x1 ≤ x0)) && (decide (x0 ≤ x2))))] ⟨rfl, HM⟩ (Sub.cons rfl Sub.nil)
    · skip
      refine ops_off rfl (guard_off rfl rfl rfl hg141) rfl rfl ?_
      refine ops_off rfl (guard_off rfl rfl rfl hg141) rfl rfl ?_
      refine ops_off rfl (guard_off rfl rfl rfl hg141) rfl rfl ?_
      have hg142 : ((decide (x1 ≤ x0)) && (decide (x0 ≤ x2))) = false := by simp only [hg141, Bool.and_true, Bool.true_and, Bool.and_false, Bool.false_and, Bool.or_true, Bool.true_or, Bool.or_false, Bool.false_or, Bool.not_true, Bool.not_false, Bool.not_not]
      refine ops_ex (v := .bool ((decide (x1 ≤ x0)) && (decide (x0 ≤ x2)))) rfl (guard_none rfl) rfl rfl (ex_pand_f rfl rfl hg141) ?_
      refine ops_ex rfl (guard_none rfl) rfl rfl (ex_assign rfl rfl) ?_
      refine ops_nil ?_
      exact at_meet [(6, .bool ((decide (x1 ≤ x0)) && (decide (x0 ≤ x2))))] ⟨rfl, HM⟩ (Sub.cons rfl Sub.nil)
  · rintro _ w143 ⟨rfl, HM⟩
    refine at_then ?_
    refine run_ret ?_
    have hR := Option.some.inj H
    subst hR
    exact at_ret1 rfl rfl ⟨_, rfl, rfl, HM⟩

def spec_l1Key.f (k : Nat) (x0 : Int) : Option Bool := ((spec_l1In.f k x0 1 999).bind fun t155 => some t155)
theorem spec_l1Key.calls {k : Nat} {x0 : Int}  {w : World}  {r : Bool} (H : spec_l1Key.f k x0 = some r) :
    Calls Tryd.prog 28 ([.int .i64 x0] : List Value).toArray w (fun e w_ => ∃ v, e = .returned v ∧ v = (.bool r) ∧ Mem w [] w_ []) := by
  have HM := Mem.start w
  refine calls_run (N := 5) Tryd.func28 rfl rfl rfl rfl ?_
  unfold spec_l1Key.f at H
  refine run_seq ?_
  refine run_region rfl ?_
  refine ops_ex rfl (guard_none rfl) rfl rfl (ex_assign rfl rfl) ?_
  refine ops_nil ?_
  refine at_then ?_
  refine run_seq ?_
  obtain ⟨t155, h156, H⟩ := bind_some H
  refine run_region rfl ?_
  refine ops_ex rfl (guard_none rfl) rfl rfl (ex_move rfl rfl) ?_
  refine ops_does rfl (guard_none rfl) rfl rfl (does_callk rfl callok27 rfl (spec_l1In.calls (x0 := x0) (x1 := 1) (x2 := 999) h156)) ?_
  rintro _ w157 ⟨rfl, hn⟩
  replace HM : Mem w [] w157 [] := HM.call hn
  refine ops_ex rfl (guard_none rfl) rfl rfl (ex_assign rfl rfl) ?_
  refine ops_nil ?_
  refine at_then ?_
  refine run_ret ?_
  have hR := Option.some.inj H
  subst hR
  exact at_ret1 rfl rfl ⟨_, rfl, rfl, HM⟩

def spec_l2Height.f (k : Nat) (x0 : Int) : Option Bool := ((spec_l1In.f k x0 0 999).bind fun t180 => some t180)
theorem spec_l2Height.calls {k : Nat} {x0 : Int}  {w : World}  {r : Bool} (H : spec_l2Height.f k x0 = some r) :
    Calls Tryd.prog 29 ([.int .i64 x0] : List Value).toArray w (fun e w_ => ∃ v, e = .returned v ∧ v = (.bool r) ∧ Mem w [] w_ []) := by
  have HM := Mem.start w
  refine calls_run (N := 5) Tryd.func29 rfl rfl rfl rfl ?_
  unfold spec_l2Height.f at H
  refine run_seq ?_
  refine run_region rfl ?_
  refine ops_ex rfl (guard_none rfl) rfl rfl (ex_assign rfl rfl) ?_
  refine ops_nil ?_
  refine at_then ?_
  refine run_seq ?_
  obtain ⟨t180, h181, H⟩ := bind_some H
  refine run_region rfl ?_
  refine ops_ex rfl (guard_none rfl) rfl rfl (ex_move rfl rfl) ?_
  refine ops_does rfl (guard_none rfl) rfl rfl (does_callk rfl callok27 rfl (spec_l1In.calls (x0 := x0) (x1 := 0) (x2 := 999) h181)) ?_
  rintro _ w182 ⟨rfl, hn⟩
  replace HM : Mem w [] w182 [] := HM.call hn
  refine ops_ex rfl (guard_none rfl) rfl rfl (ex_assign rfl rfl) ?_
  refine ops_nil ?_
  refine at_then ?_
  refine run_ret ?_
  have hR := Option.some.inj H
  subst hR
  exact at_ret1 rfl rfl ⟨_, rfl, rfl, HM⟩

def spec_l2Fault.l0 (x0 : Rule) : Nat → Int → Option (Int ⊕ Unit)
  | 0, _ => none
  | k + 1, a246 => (bif (decide (a246 < (x0.fKeys.length : Int))) then (chk (idxOk a246 x0.fKeys.length) ((spec_l1Key.f k (gt x0.fKeys a246)).bind fun t258 => (bif !t258 then some (.inl 3) else spec_l2Fault.l0 x0 k (wrap64 (a246 + 1))))) else some (.inr ()))
theorem spec_l2Fault.l0_z (x0 : Rule) (a246 : Int) : spec_l2Fault.l0 x0 0 a246 = none := rfl
theorem spec_l2Fault.l0_s (x0 : Rule) (k : Nat) (a246 : Int) : spec_l2Fault.l0 x0 (k + 1) a246 = (bif (decide (a246 < (x0.fKeys.length : Int))) then (chk (idxOk a246 x0.fKeys.length) ((spec_l1Key.f k (gt x0.fKeys a246)).bind fun t258 => (bif !t258 then some (.inl 3) else spec_l2Fault.l0 x0 k (wrap64 (a246 + 1))))) else some (.inr ())) := rfl
def spec_l2Fault.l1 (x0 : Rule) : Nat → Int → Option (Int ⊕ Unit)
  | 0, _ => none
  | k + 1, a305 => (bif (decide (a305 < (x0.fKeys.length : Int))) then (chk (idxOk a305 x0.fKeys.length) (chk (idxOk (wrap64 (a305 - 1)) x0.fKeys.length) (bif (decide ((gt x0.fKeys a305) ≤ (gt x0.fKeys (wrap64 (a305 - 1))))) then some (.inl 1) else spec_l2Fault.l1 x0 k (wrap64 (a305 + 1))))) else some (.inr ()))
theorem spec_l2Fault.l1_z (x0 : Rule) (a305 : Int) : spec_l2Fault.l1 x0 0 a305 = none := rfl
theorem spec_l2Fault.l1_s (x0 : Rule) (k : Nat) (a305 : Int) : spec_l2Fault.l1 x0 (k + 1) a305 = (bif (decide (a305 < (x0.fKeys.length : Int))) then (chk (idxOk a305 x0.fKeys.length) (chk (idxOk (wrap64 (a305 - 1)) x0.fKeys.length) (bif (decide ((gt x0.fKeys a305) ≤ (gt x0.fKeys (wrap64 (a305 - 1))))) then some (.inl 1) else spec_l2Fault.l1 x0 k (wrap64 (a305 + 1))))) else some (.inr ())) := rfl
def spec_l2Fault.f (k : Nat) (x0 : Rule) : Option Int := ((spec_l1In.f k (x0.fKeys.length : Int) 1 3).bind fun t215 => (bif !t215 then some 2 else ((spec_l2Fault.l0 x0 k 0).bind fun o238 => thn o238 (fun r => some r) (fun _ => ((spec_l1In.f k x0.fNeed 1 (x0.fKeys.length : Int)).bind fun t268 => ((bif (!(!t268)) then spec_l2Height.f k x0.fAfter else some default).bind fun t270 => (bif ((!t268) || (!t270)) then some 3 else ((spec_l2Fault.l1 x0 k 1).bind fun o297 => thn o297 (fun r => some r) (fun _ => some 0)))))))))
theorem spec_l2Fault.calls {k : Nat} {x0 : Rule} {b0 f0 : Nat} {p0_0 : Value} {w : World} (hc0 : CellsAt w b0 f0 [p0_0, .int .i64 x0.fNeed, .int .i64 x0.fAfter]) (hp0_0 : RdS kInt w p0_0 x0.fKeys) {r : Int} (H : spec_l2Fault.f k x0 = some r) :
    Calls Tryd.prog 17 ([.pointer (some ⟨b0, f0, none⟩)] : List Value).toArray w (fun e w_ => ∃ v, e = .returned v ∧ v = (.int .i64 r) ∧ Mem w [] w_ []) := by
  have HM := Mem.start w
  refine calls_run (N := 72) Tryd.func17 rfl rfl rfl rfl ?_
  unfold spec_l2Fault.f at H
  refine run_seq ?_
  refine run_region rfl ?_
  refine ops_ex rfl (guard_none rfl) rfl rfl (ex_assign rfl rfl) ?_
  refine ops_nil ?_
  refine at_then ?_
  refine run_seq ?_
  refine run_region rfl ?_
  refine ops_ex rfl (guard_none rfl) rfl rfl (ex_move rfl rfl) ?_
  refine ops_ex rfl (guard_none rfl) rfl rfl (ex_nilCheck rfl rfl) ?_
  refine ops_ex rfl (guard_none rfl) rfl rfl (ex_fieldAddr (off' := f0) rfl rfl Tryd.underlying29 rfl tsz22 rfl) ?_
  refine ops_ex rfl (guard_none rfl) rfl rfl (ex_load1 rfl rfl Tryd.underlying22 rfl ((HM.at_ hc0) 0 _ rfl)) ?_
  refine ops_ex rfl (guard_none rfl) rfl rfl (ex_len (d := kInt) (xs := x0.fKeys) rfl rfl Tryd.underlying22 hp0_0) ?_
  refine ops_ex rfl (guard_none rfl) rfl rfl (ex_assign rfl rfl) ?_
  refine ops_nil ?_
  refine at_then ?_
  refine run_seq ?_
  refine run_seq ?_
  obtain ⟨t215, h216, H⟩ := bind_some H
  refine run_region rfl ?_
  refine ops_ex rfl (guard_none rfl) rfl rfl (ex_move rfl rfl) ?_
  refine ops_does rfl (guard_none rfl) rfl rfl (does_callk rfl callok27 rfl (spec_l1In.calls (x0 := (x0.fKeys.length : Int)) (x1 := 1) (x2 := 3) h216)) ?_
  rintro _ w217 ⟨rfl, hn⟩
  replace HM : Mem w [] w217 [] := HM.call hn
  refine ops_ex rfl (guard_none rfl) rfl rfl (ex_not rfl rfl) ?_
  refine ops_nil ?_
  refine at_then ?_
  refine run_cond (b := !t215) rfl (fun hb218 => ?_) (fun hb218 => ?_)
  · replace H := cond_t hb218 H
    refine run_seq ?_
    refine run_region rfl ?_
    refine ops_ex rfl (guard_none rfl) rfl rfl (ex_assign rfl rfl) ?_
    refine ops_nil ?_
    refine at_then ?_
    refine run_ret ?_
    refine at_then_ret ?_
    have hR := Option.some.inj H
    subst hR
    exact at_ret1 rfl rfl ⟨_, rfl, rfl, HM⟩
  · replace H := cond_f hb218 H
    refine run_skip ?_
    refine at_then ?_
    obtain ⟨o238, ho239, H⟩ := bind_some H
    refine run_mid (fun ρ_ w_ => Sum.inr () = o238 ∧ ρ_ = [(0, .pointer (some ⟨b0, f0, none⟩)), (3, .int .i64 (x0.fKeys.length : Int))] ∧ Mem w [] w_ []) ?_ ?_
    · skip
      refine run_seq ?_
      refine run_region rfl ?_
      refine ops_ex rfl (guard_none rfl) rfl rfl (ex_assign rfl rfl) ?_
      refine ops_nil ?_
      refine at_then ?_
      refine run_block ?_
      refine run_loop (fun k_ ρ_ w_ => ∃ a246 : Int, spec_l2Fault.l0 x0 k_ a246 = some o238 ∧ ρ_ = [(0, .pointer (some ⟨b0, f0, none⟩)), (3, .int .i64 (x0.fKeys.length : Int)), (4, .int .i64 a246)] ∧ Mem w [] w_ []) k (ρ1 := [(0, .pointer (some ⟨b0, f0, none⟩)), (3, .int .i64 (x0.fKeys.length : Int)), (4, .int .i64 0)]) ⟨_, ho239, rfl, HM⟩ (Sub.cons rfl (Sub.cons rfl (Sub.cons rfl Sub.nil))) ?_
      clear HM ho239
      rintro k253 _ w254 ⟨a246, ho239, rfl, HM⟩
      obtain _ | k253 := k253
      · exact nomatch ((spec_l2Fault.l0_z x0 a246).symm.trans ho239)
      replace ho239 := (spec_l2Fault.l0_s x0 k253 a246).symm.trans ho239
      refine run_seq ?_
      refine run_seq ?_
      refine run_region rfl ?_
      refine ops_ex rfl (guard_none rfl) rfl rfl (ex_move rfl rfl) ?_
      refine ops_ex rfl (guard_none rfl) rfl rfl (ex_move rfl rfl) ?_
      refine ops_ex rfl (guard_none rfl) rfl rfl (ex_nilCheck rfl rfl) ?_
      refine ops_ex rfl (guard_none rfl) rfl rfl (ex_fieldAddr (off' := f0) rfl rfl Tryd.underlying29 rfl tsz22 rfl) ?_
      refine ops_ex rfl (guard_none rfl) rfl rfl (ex_load1 rfl rfl Tryd.underlying22 rfl ((HM.at_ hc0) 0 _ rfl)) ?_
      refine ops_ex rfl (guard_none rfl) rfl rfl (ex_len (d := kInt) (xs := x0.fKeys) rfl rfl Tryd.underlying22 hp0_0) ?_
      refine ops_ex rfl (guard_none rfl) rfl rfl (ex_lss rfl rfl rfl) ?_
      refine ops_nil ?_
      refine at_then ?_
      refine run_cond (b := (decide (a246 < (x0.fKeys.length : Int)))) rfl (fun hb255 => ?_) (fun hb255 => ?_)
      · replace ho239 := cond_t hb255 ho239
        refine run_skip ?_
        refine at_then ?_
        refine run_seq ?_
        refine run_block ?_
        refine run_seq ?_
        obtain ⟨e256, ho239⟩ := chk_some ho239
        obtain ⟨t258, h259, ho239⟩ := bind_some ho239
        refine run_region rfl ?_
        refine ops_ex rfl (guard_none rfl) rfl rfl (ex_move rfl rfl) ?_
        refine ops_ex rfl (guard_none rfl) rfl rfl (ex_nilCheck rfl rfl) ?_
        refine ops_ex rfl (guard_none rfl) rfl rfl (ex_fieldAddr (off' := f0) rfl rfl Tryd.underlying29 rfl tsz22 rfl) ?_
        refine ops_ex rfl (guard_none rfl) rfl rfl (ex_load1 rfl rfl Tryd.underlying22 rfl ((HM.at_ hc0) 0 _ rfl)) ?_
        refine ops_ex rfl (guard_none rfl) rfl rfl (ex_move rfl rfl) ?_
        have hc257 : CellsAt _ (sb p0_0) (so p0_0 + (a246).toNat * 1) [(.int .i64 (gt x0.fKeys a246))] := rd_plain hp0_0 e256
        refine ops_ex rfl (guard_none rfl) rfl rfl (ex_indexAddr (d := kInt) rfl rfl rfl Tryd.underlying22 tsz2 hp0_0 (idx_lo e256) (idx_hi e256)) ?_
        refine ops_ex rfl (guard_none rfl) rfl rfl (ex_load1 rfl rfl Tryd.underlying2 rfl ((HM.at_ hc257) 0 _ rfl)) ?_
        refine ops_does rfl (guard_none rfl) rfl rfl (does_callk rfl callok28 rfl (spec_l1Key.calls (x0 := (gt x0.fKeys a246)) h259)) ?_
        rintro _ w260 ⟨rfl, hn⟩
        replace HM : Mem w [] w260 [] := HM.call hn
        refine ops_ex rfl (guard_none rfl) rfl rfl (ex_not rfl rfl) ?_
        refine ops_nil ?_
        refine at_then ?_
        refine run_cond (b := !t258) rfl (fun hb261 => ?_) (fun hb261 => ?_)
        · replace ho239 := cond_t hb261 ho239
          refine run_seq ?_
          refine run_region rfl ?_
          refine ops_ex rfl (guard_none rfl) rfl rfl (ex_assign rfl rfl) ?_
          refine ops_nil ?_
          refine at_then ?_
          refine run_ret ?_
          refine at_block_ret ?_
          refine at_then_ret ?_
          refine at_then_ret ?_
          refine at_block_ret ?_
          refine at_then_ret ?_
          have hR := Option.some.inj ho239
          subst hR
          have hT := thn_inl H
          have hR := Option.some.inj hT
          subst hR
          exact at_ret1 rfl rfl ⟨_, rfl, rfl, HM⟩
        · replace ho239 := cond_f hb261 ho239
          refine run_skip ?_
          refine at_block ?_
          refine at_then ?_
          refine run_region rfl ?_
          refine ops_ex rfl (guard_none rfl) rfl rfl (ex_move rfl rfl) ?_
          refine ops_ex rfl (guard_none rfl) rfl rfl (ex_add rfl rfl rfl) ?_
          refine ops_ex rfl (guard_none rfl) rfl rfl (ex_assign rfl rfl) ?_
          refine ops_nil ?_
          exact at_again k253 (ρ1 := [(0, .pointer (some ⟨b0, f0, none⟩)), (3, .int .i64 (x0.fKeys.length : Int)), (4, .int .i64 (wrap64 (a246 + 1)))]) (Nat.lt_succ_self _) ⟨_, ho239, rfl, HM⟩ (Sub.cons rfl (Sub.cons rfl (Sub.cons rfl Sub.nil)))
      · replace ho239 := cond_f hb255 ho239
        refine run_exit ?_
        refine at_then_exit ?_
        refine at_then_exit ?_
        refine at_block_exit ?_
        exact at_mid (ρ' := [(0, .pointer (some ⟨b0, f0, none⟩)), (3, .int .i64 (x0.fKeys.length : Int))]) ⟨(Option.some.inj ho239), rfl, HM⟩ (Sub.cons rfl (Sub.cons rfl Sub.nil))
    · rintro _ w262 ⟨rfl, rfl, HM⟩
      replace H := (thn_inr H)
      refine run_seq ?_
      refine run_seq ?_
      obtain ⟨t268, h269, H⟩ := bind_some H
      obtain ⟨t270, h271, H⟩ := bind_some H
      refine run_meet (fun ρ_ w_ => ρ_ = [(0, .pointer (some ⟨b0, f0, none⟩)), (46, .bool ((!t268) || (!t270)))] ∧ Mem w [] w_ []) ?_ ?_
      · skip
        refine run_region rfl ?_
        refine ops_ex rfl (guard_none rfl) rfl rfl (ex_move rfl rfl) ?_
        refine ops_ex rfl (guard_none rfl) rfl rfl (ex_nilCheck rfl rfl) ?_
        refine ops_ex rfl (guard_none rfl) rfl rfl (ex_fieldAddr (off' := f0 + 1) rfl rfl Tryd.underlying29 rfl tsz2 rfl) ?_
        refine ops_ex rfl (guard_none rfl) rfl rfl (ex_load1 rfl rfl Tryd.underlying2 rfl ((HM.at_ hc0) 1 _ rfl)) ?_
        refine ops_ex rfl (guard_none rfl) rfl rfl (ex_move rfl rfl) ?_
        refine ops_does rfl (guard_none rfl) rfl rfl (does_callk rfl callok27 rfl (spec_l1In.calls (x0 := x0.fNeed) (x1 := 1) (x2 := (x0.fKeys.length : Int)) h269)) ?_
        rintro _ w272 ⟨rfl, hn⟩
        replace HM : Mem w [] w272 [] := HM.call hn
        refine ops_ex rfl (guard_none rfl) rfl rfl (ex_not rfl rfl) ?_
        refine ops_ex rfl (guard_none rfl) rfl rfl (ex_move rfl rfl) ?_
        refine bool_cases (!t268) (fun hg273 => ?_) (fun hg273 => ?_)
        · skip
          refine ops_off rfl (guard_off rfl rfl rfl hg273) rfl rfl ?_
          refine ops_off rfl (guard_off rfl rfl rfl hg273) rfl rfl ?_
          refine ops_off rfl (guard_off rfl rfl rfl hg273) rfl rfl ?_
          refine ops_off rfl (guard_off rfl rfl rfl hg273) rfl rfl ?_
          refine ops_off rfl (guard_off rfl rfl rfl hg273) rfl rfl ?_
          refine ops_off rfl (guard_off rfl rfl rfl hg273) rfl rfl ?_
          have hg274 : ((!t268) || (!t270)) = true := by simp only [hg273, Bool.and_true, Bool.true_and, Bool.and_false, Bool.false_and, Bool.or_true, Bool.true_or, Bool.or_false, Bool.false_or, Bool.not_true, Bool.not_false, Bool.not_not]
          refine ops_ex (v := .bool ((!t268) || (!t270))) rfl (guard_none rfl) rfl rfl (ex_por_t rfl rfl hg273) ?_
          refine ops_nil ?_
          exact at_meet [(0, .pointer (some ⟨b0, f0, none⟩)), (46, .bool ((!t268) || (!t270)))] ⟨rfl, HM⟩ (Sub.cons rfl (Sub.cons rfl Sub.nil))
        · skip
          refine ops_ex rfl (guard_on rfl rfl rfl hg273) rfl rfl (ex_move rfl rfl) ?_
          refine ops_ex rfl (guard_on rfl rfl rfl hg273) rfl rfl (ex_nilCheck rfl rfl) ?_
          refine ops_ex rfl (guard_on rfl rfl rfl hg273) rfl rfl (ex_fieldAddr (off' := f0 + 2) rfl rfl Tryd.underlying29 rfl tsz2 rfl) ?_
          refine ops_ex rfl (guard_on rfl rfl rfl hg273) rfl rfl (ex_load1 rfl rfl Tryd.underlying2 rfl ((HM.at_ hc0) 2 _ rfl)) ?_
          refine ops_does rfl (guard_on rfl rfl rfl hg273) rfl rfl (does_callk rfl callok29 rfl (spec_l2Height.calls (x0 := x0.fAfter) (cond_t (not_mk hg273) h271))) ?_
          rintro _ w275 ⟨rfl, hn⟩
          replace HM : Mem w [] w275 [] := HM.call hn
          refine ops_ex rfl (guard_on rfl rfl rfl hg273) rfl rfl (ex_not rfl rfl) ?_
          refine ops_ex (v := .bool ((!t268) || (!t270))) rfl (guard_none rfl) rfl rfl (ex_por_f rfl rfl hg273 rfl) ?_
          refine ops_nil ?_
          exact at_meet [(0, .pointer (some ⟨b0, f0, none⟩)), (46, .bool ((!t268) || (!t270)))] ⟨rfl, HM⟩ (Sub.cons rfl (Sub.cons rfl Sub.nil))
      · rintro _ w276 ⟨rfl, HM⟩
        refine at_then ?_
        refine run_cond (b := ((!t268) || (!t270))) rfl (fun hb277 => ?_) (fun hb277 => ?_)
        · replace H := cond_t hb277 H
          refine run_seq ?_
          refine run_region rfl ?_
          refine ops_ex rfl (guard_none rfl) rfl rfl (ex_assign rfl rfl) ?_
          refine ops_nil ?_
          refine at_then ?_
          refine run_ret ?_
          refine at_then_ret ?_
          have hR := Option.some.inj H
          subst hR
          exact at_ret1 rfl rfl ⟨_, rfl, rfl, HM⟩
        · replace H := cond_f hb277 H
          refine run_skip ?_
          refine at_then ?_
          obtain ⟨o297, ho298, H⟩ := bind_some H
          refine run_mid (fun ρ_ w_ => Sum.inr () = o297 ∧ ρ_ = [] ∧ Mem w [] w_ []) ?_ ?_
          · skip
            refine run_seq ?_
            refine run_region rfl ?_
            refine ops_ex rfl (guard_none rfl) rfl rfl (ex_assign rfl rfl) ?_
            refine ops_nil ?_
            refine at_then ?_
            refine run_block ?_
            refine run_loop (fun k_ ρ_ w_ => ∃ a305 : Int, spec_l2Fault.l1 x0 k_ a305 = some o297 ∧ ρ_ = [(0, .pointer (some ⟨b0, f0, none⟩)), (5, .int .i64 a305)] ∧ Mem w [] w_ []) k (ρ1 := [(0, .pointer (some ⟨b0, f0, none⟩)), (5, .int .i64 1)]) ⟨_, ho298, rfl, HM⟩ (Sub.cons rfl (Sub.cons rfl Sub.nil)) ?_
            clear HM ho298
            rintro k312 _ w313 ⟨a305, ho298, rfl, HM⟩
            obtain _ | k312 := k312
            · exact nomatch ((spec_l2Fault.l1_z x0 a305).symm.trans ho298)
            replace ho298 := (spec_l2Fault.l1_s x0 k312 a305).symm.trans ho298
            refine run_seq ?_
            refine run_seq ?_
            refine run_region rfl ?_
            refine ops_ex rfl (guard_none rfl) rfl rfl (ex_move rfl rfl) ?_
            refine ops_ex rfl (guard_none rfl) rfl rfl (ex_move rfl rfl) ?_
            refine ops_ex rfl (guard_none rfl) rfl rfl (ex_nilCheck rfl rfl) ?_
            refine ops_ex rfl (guard_none rfl) rfl rfl (ex_fieldAddr (off' := f0) rfl rfl Tryd.underlying29 rfl tsz22 rfl) ?_
            refine ops_ex rfl (guard_none rfl) rfl rfl (ex_load1 rfl rfl Tryd.underlying22 rfl ((HM.at_ hc0) 0 _ rfl)) ?_
            refine ops_ex rfl (guard_none rfl) rfl rfl (ex_len (d := kInt) (xs := x0.fKeys) rfl rfl Tryd.underlying22 hp0_0) ?_
            refine ops_ex rfl (guard_none rfl) rfl rfl (ex_lss rfl rfl rfl) ?_
            refine ops_nil ?_
            refine at_then ?_
            refine run_cond (b := (decide (a305 < (x0.fKeys.length : Int)))) rfl (fun hb314 => ?_) (fun hb314 => ?_)
            · replace ho298 := cond_t hb314 ho298
              refine run_skip ?_
              refine at_then ?_
              refine run_seq ?_
              refine run_block ?_
              refine run_seq ?_
              obtain ⟨e315, ho298⟩ := chk_some ho298
              obtain ⟨e317, ho298⟩ := chk_some ho298
              refine run_drawf (fun w_ => Mem w [] w_ []) [(0, true), (1, true), (2, true), (3, true), (4, true), (5, true), (6, true), (7, true), (8, true), (9, true), (10, true), (11, true), (12, true), (13, true), (14, true), (15, true)] mixed rfl rfl (by kernel_rfl) ?_
              replace HM := HM.grow (fr_drew _)
              have hS := Mem.suf (M := []) HM
              refine drwp_take rfl (guard_none rfl) rfl rfl (fun w_ hS_ => (ex_move rfl rfl)) hS ?_
              refine drwp_take rfl (guard_none rfl) rfl rfl (fun w_ hS_ => (ex_nilCheck rfl rfl)) hS ?_
              refine drwp_take rfl (guard_none rfl) rfl rfl (fun w_ hS_ => (ex_fieldAddr (off' := f0) rfl rfl Tryd.underlying29 rfl tsz22 rfl)) hS ?_
              refine drwp_take rfl (guard_none rfl) rfl rfl (fun w_ hS_ => (ex_load1 rfl rfl Tryd.underlying22 rfl ((hS_.at_ hc0) 0 _ rfl))) hS ?_
              refine drwp_take rfl (guard_none rfl) rfl rfl (fun w_ hS_ => (ex_move rfl rfl)) hS ?_
              have hc316 : CellsAt _ (sb p0_0) (so p0_0 + (a305).toNat * 1) [(.int .i64 (gt x0.fKeys a305))] := rd_plain hp0_0 e315
              refine drwp_take rfl (guard_none rfl) rfl rfl (fun w_ hS_ => (ex_indexAddr (d := kInt) rfl rfl rfl Tryd.underlying22 tsz2 hp0_0 (idx_lo e315) (idx_hi e315))) hS ?_
              refine drwp_take rfl (guard_none rfl) rfl rfl (fun w_ hS_ => (ex_load1 rfl rfl Tryd.underlying2 rfl ((hS_.at_ hc316) 0 _ rfl))) hS ?_
              refine drwp_take rfl (guard_none rfl) rfl rfl (fun w_ hS_ => (ex_move rfl rfl)) hS ?_
              refine drwp_take rfl (guard_none rfl) rfl rfl (fun w_ hS_ => (ex_nilCheck rfl rfl)) hS ?_
              refine drwp_take rfl (guard_none rfl) rfl rfl (fun w_ hS_ => (ex_fieldAddr (off' := f0) rfl rfl Tryd.underlying29 rfl tsz22 rfl)) hS ?_
              refine drwp_take rfl (guard_none rfl) rfl rfl (fun w_ hS_ => (ex_load1 rfl rfl Tryd.underlying22 rfl ((hS_.at_ hc0) 0 _ rfl))) hS ?_
              refine drwp_take rfl (guard_none rfl) rfl rfl (fun w_ hS_ => (ex_move rfl rfl)) hS ?_
              refine drwp_take rfl (guard_none rfl) rfl rfl (fun w_ hS_ => (ex_sub rfl rfl rfl)) hS ?_
              have hc318 : CellsAt _ (sb p0_0) (so p0_0 + (wrap64 (a305 - 1)).toNat * 1) [(.int .i64 (gt x0.fKeys (wrap64 (a305 - 1))))] := rd_plain hp0_0 e317
              refine drwp_take rfl (guard_none rfl) rfl rfl (fun w_ hS_ => (ex_indexAddr (d := kInt) rfl rfl rfl Tryd.underlying22 tsz2 hp0_0 (idx_lo e317) (idx_hi e317))) hS ?_
              refine drwp_take rfl (guard_none rfl) rfl rfl (fun w_ hS_ => (ex_load1 rfl rfl Tryd.underlying2 rfl ((hS_.at_ hc318) 0 _ rfl))) hS ?_
              refine drwp_take rfl (guard_none rfl) rfl rfl (fun w_ hS_ => (ex_leq rfl rfl rfl)) hS ?_
              refine drwp_done ?_
              refine at_then ?_
              refine run_cond (b := (decide ((gt x0.fKeys a305) ≤ (gt x0.fKeys (wrap64 (a305 - 1)))))) rfl (fun hb319 => ?_) (fun hb319 => ?_)
              · replace ho298 := cond_t hb319 ho298
                refine run_seq ?_
                refine run_region rfl ?_
                refine ops_ex rfl (guard_none rfl) rfl rfl (ex_assign rfl rfl) ?_
                refine ops_nil ?_
                refine at_then ?_
                refine run_ret ?_
                refine at_block_ret ?_
                refine at_then_ret ?_
                refine at_then_ret ?_
                refine at_block_ret ?_
                refine at_then_ret ?_
                have hR := Option.some.inj ho298
                subst hR
                have hT := thn_inl H
                have hR := Option.some.inj hT
                subst hR
                exact at_ret1 rfl rfl ⟨_, rfl, rfl, HM⟩
              · replace ho298 := cond_f hb319 ho298
                refine run_skip ?_
                refine at_block ?_
                refine at_then ?_
                refine run_region rfl ?_
                refine ops_ex rfl (guard_none rfl) rfl rfl (ex_move rfl rfl) ?_
                refine ops_ex rfl (guard_none rfl) rfl rfl (ex_add rfl rfl rfl) ?_
                refine ops_ex rfl (guard_none rfl) rfl rfl (ex_assign rfl rfl) ?_
                refine ops_nil ?_
                exact at_again k312 (ρ1 := [(0, .pointer (some ⟨b0, f0, none⟩)), (5, .int .i64 (wrap64 (a305 + 1)))]) (Nat.lt_succ_self _) ⟨_, ho298, rfl, HM⟩ (Sub.cons rfl (Sub.cons rfl Sub.nil))
            · replace ho298 := cond_f hb314 ho298
              refine run_exit ?_
              refine at_then_exit ?_
              refine at_then_exit ?_
              refine at_block_exit ?_
              exact at_mid (ρ' := []) ⟨(Option.some.inj ho298), rfl, HM⟩ Sub.nil
          · rintro _ w320 ⟨rfl, rfl, HM⟩
            replace H := (thn_inr H)
            refine run_seq ?_
            refine run_region rfl ?_
            refine ops_ex rfl (guard_none rfl) rfl rfl (ex_assign rfl rfl) ?_
            refine ops_nil ?_
            refine at_then ?_
            refine run_ret ?_
            have hR := Option.some.inj H
            subst hR
            exact at_ret1 rfl rfl ⟨_, rfl, rfl, HM⟩

def spec_l2Digits.f : Nat → Int → Option ByteArray
  | 0, _ => none
  | k + 1, x0 => (bif (decide (x0 < 10)) then some (strOfNums ([IntKind.u8.wrap (wrap64 (48 + x0))] : List Int)) else (chk ((10 : Int) != 0) (chk ((10 : Int) != 0) ((spec_l2Digits.f k (IntKind.i64.wrap (Int.tdiv x0 (10 : Int)))).bind fun t353 => (chk (leB (t353.size + (strOfNums ([IntKind.u8.wrap (wrap64 (48 + (Int.tmod x0 (10 : Int))))] : List Int)).size) 9223372036854775807) (some (t353 ++ (strOfNums ([IntKind.u8.wrap (wrap64 (48 + (Int.tmod x0 (10 : Int))))] : List Int)))))))))
theorem spec_l2Digits.f_s (k : Nat) (x0 : Int) : spec_l2Digits.f (k + 1) x0 = (bif (decide (x0 < 10)) then some (strOfNums ([IntKind.u8.wrap (wrap64 (48 + x0))] : List Int)) else (chk ((10 : Int) != 0) (chk ((10 : Int) != 0) ((spec_l2Digits.f k (IntKind.i64.wrap (Int.tdiv x0 (10 : Int)))).bind fun t353 => (chk (leB (t353.size + (strOfNums ([IntKind.u8.wrap (wrap64 (48 + (Int.tmod x0 (10 : Int))))] : List Int)).size) 9223372036854775807) (some (t353 ++ (strOfNums ([IntKind.u8.wrap (wrap64 (48 + (Int.tmod x0 (10 : Int))))] : List Int))))))))) := rfl
theorem spec_l2Digits.calls_all : ∀ (k : Nat) (x0 : Int), ∀ {w : World} {r : ByteArray} (H : spec_l2Digits.f k x0 = some r),
    Calls Tryd.prog 30 ([.int .i64 x0] : List Value).toArray w (fun e w_ => ∃ v, e = .returned v ∧ v = (.string r) ∧ Mem w [] w_ []) := by
  intro k
  induction k with
  | zero => intro x0  w  r H; exact nomatch H
  | succ k ih =>
  intro x0  w  r H
  have HM := Mem.start w
  refine calls_run (N := 20) Tryd.func30 rfl rfl rfl rfl ?_
  rw [spec_l2Digits.f_s] at H
  refine run_seq ?_
  refine run_region rfl ?_
  refine ops_ex rfl (guard_none rfl) rfl rfl (ex_assign rfl rfl) ?_
  refine ops_nil ?_
  refine at_then ?_
  refine run_seq ?_
  refine run_seq ?_
  refine run_region rfl ?_
  refine ops_ex rfl (guard_none rfl) rfl rfl (ex_move rfl rfl) ?_
  refine ops_ex rfl (guard_none rfl) rfl rfl (ex_lss rfl rfl rfl) ?_
  refine ops_nil ?_
  refine at_then ?_
  refine run_cond (b := (decide (x0 < 10))) rfl (fun hb346 => ?_) (fun hb346 => ?_)
  · replace H := cond_t hb346 H
    refine run_seq ?_
    refine run_region rfl ?_
    refine ops_ex rfl (guard_none rfl) rfl rfl (ex_move rfl rfl) ?_
    refine ops_ex rfl (guard_none rfl) rfl rfl (ex_add rfl rfl rfl) ?_
    refine ops_ex rfl (guard_none rfl) rfl rfl (ex_conv rfl rfl (by rw [Tryd.underlying2]; rfl) Tryd.underlying5) ?_
    refine ops_does rfl (guard_none rfl) rfl rfl (does_lit (e := 5) (cs := [.int .u8 (IntKind.u8.wrap (wrap64 (48 + x0)))]) (xs := ([IntKind.u8.wrap (wrap64 (48 + x0))] : List Int)) kU8 rfl rfl (fun _ => by kernel_rfl) rfl rfl (fun _ _ h => by have h' : _ = [] := h; subst h'; exact (Elems.cons (d := kU8) (f := []) ⟨rfl, rfl⟩ .nil)) HM.emp) ?_
    rintro v347 w350 HM
    refine ops_ex rfl (guard_none rfl) rfl rfl (ex_bstr (e := 5) rfl rfl Tryd.underlying61 Tryd.underlying5 Tryd.underlying9 (HM.own_rd 0 rfl)) ?_
    refine ops_ex rfl (guard_none rfl) rfl rfl (ex_assign rfl rfl) ?_
    refine ops_nil ?_
    refine at_then ?_
    refine run_ret ?_
    refine at_then_ret ?_
    replace HM := (HM.front 0 rfl rfl).drop
    have hR := Option.some.inj H
    subst hR
    exact at_ret1 rfl rfl ⟨_, rfl, rfl, HM⟩
  · replace H := cond_f hb346 H
    refine run_skip ?_
    refine at_then ?_
    refine run_seq ?_
    obtain ⟨e351, H⟩ := chk_some H
    obtain ⟨e352, H⟩ := chk_some H
    obtain ⟨t353, h354, H⟩ := bind_some H
    obtain ⟨e358, H⟩ := chk_some H
    refine run_meet (fun ρ_ w_ => ρ_ = [(2, .string (t353 ++ (strOfNums ([IntKind.u8.wrap (wrap64 (48 + (Int.tmod x0 (10 : Int))))] : List Int))))] ∧ Mem w [] w_ []) ?_ ?_
    · skip
      refine run_draw (fun w_ => Mem w [] w_ []) mixed rfl (l := #[false, false, false, false, false, false, false, false, false, false, false]) rfl ?_
      replace HM := HM.grow (fr_drew _)
      have hS := Mem.suf (M := []) HM
      refine drw_take (i := 0) (l' := #[true, false, false, false, false, false, false, false, false, false, false]) rfl (guard_none rfl) rfl rfl (by kernel_rfl) (fun w_ hS_ => (ex_move rfl rfl)) hS ?_
      refine drw_take (i := 1) (l' := #[true, true, false, false, false, false, false, false, false, false, false]) rfl (guard_none rfl) rfl rfl (by kernel_rfl) (fun w_ hS_ => (ex_quok rfl rfl rfl e351)) hS ?_
      refine drw_take (i := 3) (l' := #[true, true, false, true, false, false, false, false, false, false, false]) rfl (guard_none rfl) rfl rfl (by kernel_rfl) (fun w_ hS_ => (ex_move rfl rfl)) hS ?_
      refine drw_take (i := 4) (l' := #[true, true, false, true, true, false, false, false, false, false, false]) rfl (guard_none rfl) rfl rfl (by kernel_rfl) (fun w_ hS_ => (ex_remk rfl rfl rfl e352)) hS ?_
      refine drw_take (i := 5) (l' := #[true, true, false, true, true, true, false, false, false, false, false]) rfl (guard_none rfl) rfl rfl (by kernel_rfl) (fun w_ hS_ => (ex_add rfl rfl rfl)) hS ?_
      refine drw_take (i := 6) (l' := #[true, true, false, true, true, true, true, false, false, false, false]) rfl (guard_none rfl) rfl rfl (by kernel_rfl) (fun w_ hS_ => (ex_conv rfl rfl (by rw [Tryd.underlying2]; rfl) Tryd.underlying5)) hS ?_
      refine drw_any [2, 7] (by kernel_rfl) rfl (.cons ?_ (.cons ?_ .nil))
      · skip
        refine br_does (l' := #[true, true, true, true, true, true, true, false, false, false, false]) rfl (guard_none rfl) rfl rfl (by kernel_rfl) (does_callk rfl callok30 rfl (ih (IntKind.i64.wrap (Int.tdiv x0 (10 : Int))) h354)) ?_
        rintro _ w359 ⟨rfl, hn⟩
        replace HM : Mem w [] w359 [] := HM.call hn
        refine ⟨Mem.suf (M := []) HM, ?_⟩
        have hS := Mem.suf (M := []) HM
        refine drw_any [7] (by kernel_rfl) rfl (.cons ?_ .nil)
        refine br_does (l' := #[true, true, true, true, true, true, true, true, false, false, false]) rfl (guard_none rfl) rfl rfl (by kernel_rfl) (does_lit (e := 5) (cs := [.int .u8 (IntKind.u8.wrap (wrap64 (48 + (Int.tmod x0 (10 : Int)))))]) (xs := ([IntKind.u8.wrap (wrap64 (48 + (Int.tmod x0 (10 : Int))))] : List Int)) kU8 rfl rfl (fun _ => by kernel_rfl) rfl rfl (fun _ _ h => by have h' : _ = [] := h; subst h'; exact (Elems.cons (d := kU8) (f := []) ⟨rfl, rfl⟩ .nil)) HM.emp) ?_
        rintro v355 w360 HM
        refine ⟨Mem.suf (M := [own kU8 5 v355 ([IntKind.u8.wrap (wrap64 (48 + (Int.tmod x0 (10 : Int))))] : List Int)]) HM, ?_⟩
        have hS := Mem.suf (M := [own kU8 5 v355 ([IntKind.u8.wrap (wrap64 (48 + (Int.tmod x0 (10 : Int))))] : List Int)]) HM
        refine drw_any [8] (by kernel_rfl) rfl (.cons ?_ .nil)
        refine br_does (l' := #[true, true, true, true, true, true, true, true, true, false, false]) rfl (guard_none rfl) rfl rfl (by kernel_rfl) (does_ex' (ex_bstr (e := 5) rfl rfl Tryd.underlying61 Tryd.underlying5 Tryd.underlying9 (HM.own_rd 0 rfl))) ?_
        rintro _ _ ⟨rfl, rfl⟩
        refine ⟨hS, ?_⟩
        refine drw_take (i := 9) (l' := #[true, true, true, true, true, true, true, true, true, true, false]) rfl (guard_none rfl) rfl rfl (by kernel_rfl) (fun w_ hS_ => (ex_sadd rfl rfl rfl (leB_le e358))) hS ?_
        refine drw_take (i := 10) (l' := #[true, true, true, true, true, true, true, true, true, true, true]) rfl (guard_none rfl) rfl rfl (by kernel_rfl) (fun w_ hS_ => (ex_assign rfl rfl)) hS ?_
        refine drw_done (by kernel_rfl) ?_
        replace HM := (HM.front 0 rfl rfl).drop
        exact at_meet [(2, .string (t353 ++ (strOfNums ([IntKind.u8.wrap (wrap64 (48 + (Int.tmod x0 (10 : Int))))] : List Int))))] ⟨rfl, HM⟩ (Sub.cons rfl Sub.nil)
      · skip
        refine br_does (l' := #[true, true, false, true, true, true, true, true, false, false, false]) rfl (guard_none rfl) rfl rfl (by kernel_rfl) (does_lit (e := 5) (cs := [.int .u8 (IntKind.u8.wrap (wrap64 (48 + (Int.tmod x0 (10 : Int)))))]) (xs := ([IntKind.u8.wrap (wrap64 (48 + (Int.tmod x0 (10 : Int))))] : List Int)) kU8 rfl rfl (fun _ => by kernel_rfl) rfl rfl (fun _ _ h => by have h' : _ = [] := h; subst h'; exact (Elems.cons (d := kU8) (f := []) ⟨rfl, rfl⟩ .nil)) HM.emp) ?_
        rintro v355 w361 HM
        refine ⟨Mem.suf (M := [own kU8 5 v355 ([IntKind.u8.wrap (wrap64 (48 + (Int.tmod x0 (10 : Int))))] : List Int)]) HM, ?_⟩
        have hS := Mem.suf (M := [own kU8 5 v355 ([IntKind.u8.wrap (wrap64 (48 + (Int.tmod x0 (10 : Int))))] : List Int)]) HM
        refine drw_any [2, 8] (by kernel_rfl) rfl (.cons ?_ (.cons ?_ .nil))
        · skip
          refine br_does (l' := #[true, true, true, true, true, true, true, true, false, false, false]) rfl (guard_none rfl) rfl rfl (by kernel_rfl) (does_callk rfl callok30 rfl (ih (IntKind.i64.wrap (Int.tdiv x0 (10 : Int))) h354)) ?_
          rintro _ w362 ⟨rfl, hn⟩
          replace HM : Mem w [] w362 [own kU8 5 v355 ([IntKind.u8.wrap (wrap64 (48 + (Int.tmod x0 (10 : Int))))] : List Int)] := HM.call hn
          refine ⟨Mem.suf (M := [own kU8 5 v355 ([IntKind.u8.wrap (wrap64 (48 + (Int.tmod x0 (10 : Int))))] : List Int)]) HM, ?_⟩
          have hS := Mem.suf (M := [own kU8 5 v355 ([IntKind.u8.wrap (wrap64 (48 + (Int.tmod x0 (10 : Int))))] : List Int)]) HM
          refine drw_any [8] (by kernel_rfl) rfl (.cons ?_ .nil)
          refine br_does (l' := #[true, true, true, true, true, true, true, true, true, false, false]) rfl (guard_none rfl) rfl rfl (by kernel_rfl) (does_ex' (ex_bstr (e := 5) rfl rfl Tryd.underlying61 Tryd.underlying5 Tryd.underlying9 (HM.own_rd 0 rfl))) ?_
          rintro _ _ ⟨rfl, rfl⟩
          refine ⟨hS, ?_⟩
          refine drw_take (i := 9) (l' := #[true, true, true, true, true, true, true, true, true, true, false]) rfl (guard_none rfl) rfl rfl (by kernel_rfl) (fun w_ hS_ => (ex_sadd rfl rfl rfl (leB_le e358))) hS ?_
          refine drw_take (i := 10) (l' := #[true, true, true, true, true, true, true, true, true, true, true]) rfl (guard_none rfl) rfl rfl (by kernel_rfl) (fun w_ hS_ => (ex_assign rfl rfl)) hS ?_
          refine drw_done (by kernel_rfl) ?_
          replace HM := (HM.front 0 rfl rfl).drop
          exact at_meet [(2, .string (t353 ++ (strOfNums ([IntKind.u8.wrap (wrap64 (48 + (Int.tmod x0 (10 : Int))))] : List Int))))] ⟨rfl, HM⟩ (Sub.cons rfl Sub.nil)
        · skip
          refine br_does (l' := #[true, true, false, true, true, true, true, true, true, false, false]) rfl (guard_none rfl) rfl rfl (by kernel_rfl) (does_ex' (ex_bstr (e := 5) rfl rfl Tryd.underlying61 Tryd.underlying5 Tryd.underlying9 (HM.own_rd 0 rfl))) ?_
          rintro _ _ ⟨rfl, rfl⟩
          refine ⟨hS, ?_⟩
          refine drw_any [2] (by kernel_rfl) rfl (.cons ?_ .nil)
          refine br_does (l' := #[true, true, true, true, true, true, true, true, true, false, false]) rfl (guard_none rfl) rfl rfl (by kernel_rfl) (does_callk rfl callok30 rfl (ih (IntKind.i64.wrap (Int.tdiv x0 (10 : Int))) h354)) ?_
          rintro _ w363 ⟨rfl, hn⟩
          replace HM : Mem w [] w363 [own kU8 5 v355 ([IntKind.u8.wrap (wrap64 (48 + (Int.tmod x0 (10 : Int))))] : List Int)] := HM.call hn
          refine ⟨Mem.suf (M := [own kU8 5 v355 ([IntKind.u8.wrap (wrap64 (48 + (Int.tmod x0 (10 : Int))))] : List Int)]) HM, ?_⟩
          have hS := Mem.suf (M := [own kU8 5 v355 ([IntKind.u8.wrap (wrap64 (48 + (Int.tmod x0 (10 : Int))))] : List Int)]) HM
          refine drw_take (i := 9) (l' := #[true, true, true, true, true, true, true, true, true, true, false]) rfl (guard_none rfl) rfl rfl (by kernel_rfl) (fun w_ hS_ => (ex_sadd rfl rfl rfl (leB_le e358))) hS ?_
          refine drw_take (i := 10) (l' := #[true, true, true, true, true, true, true, true, true, true, true]) rfl (guard_none rfl) rfl rfl (by kernel_rfl) (fun w_ hS_ => (ex_assign rfl rfl)) hS ?_
          refine drw_done (by kernel_rfl) ?_
          replace HM := (HM.front 0 rfl rfl).drop
          exact at_meet [(2, .string (t353 ++ (strOfNums ([IntKind.u8.wrap (wrap64 (48 + (Int.tmod x0 (10 : Int))))] : List Int))))] ⟨rfl, HM⟩ (Sub.cons rfl Sub.nil)
    · rintro _ w364 ⟨rfl, HM⟩
      refine at_then ?_
      refine run_ret ?_
      have hR := Option.some.inj H
      subst hR
      exact at_ret1 rfl rfl ⟨_, rfl, rfl, HM⟩
theorem spec_l2Digits.calls {k : Nat} {x0 : Int}  {w : World}  {r : ByteArray} (H : spec_l2Digits.f k x0 = some r) :
    Calls Tryd.prog 30 ([.int .i64 x0] : List Value).toArray w (fun e w_ => ∃ v, e = .returned v ∧ v = (.string r) ∧ Mem w [] w_ []) := spec_l2Digits.calls_all k x0  H

def spec_l2Text.l0 (x0 : Rule) : Nat → ByteArray → Int → Option ByteArray
  | 0, _, _ => none
  | k + 1, a445, a446 => (bif (decide (a446 < (x0.fKeys.length : Int))) then (chk (leB (a445.size + (⟨#[44]⟩ : ByteArray).size) 9223372036854775807) (chk (idxOk a446 x0.fKeys.length) ((spec_l2Digits.f k (gt x0.fKeys a446)).bind fun t460 => (chk (leB ((a445 ++ (⟨#[44]⟩ : ByteArray)).size + t460.size) 9223372036854775807) (spec_l2Text.l0 x0 k ((a445 ++ (⟨#[44]⟩ : ByteArray)) ++ t460) (wrap64 (a446 + 1))))))) else some a445)
theorem spec_l2Text.l0_z (x0 : Rule) (a445 : ByteArray) (a446 : Int) : spec_l2Text.l0 x0 0 a445 a446 = none := rfl
theorem spec_l2Text.l0_s (x0 : Rule) (k : Nat) (a445 : ByteArray) (a446 : Int) : spec_l2Text.l0 x0 (k + 1) a445 a446 = (bif (decide (a446 < (x0.fKeys.length : Int))) then (chk (leB (a445.size + (⟨#[44]⟩ : ByteArray).size) 9223372036854775807) (chk (idxOk a446 x0.fKeys.length) ((spec_l2Digits.f k (gt x0.fKeys a446)).bind fun t460 => (chk (leB ((a445 ++ (⟨#[44]⟩ : ByteArray)).size + t460.size) 9223372036854775807) (spec_l2Text.l0 x0 k ((a445 ++ (⟨#[44]⟩ : ByteArray)) ++ t460) (wrap64 (a446 + 1))))))) else some a445) := rfl
def spec_l2Text.f (k : Nat) (x0 : Rule) : Option ByteArray := (chk (idxOk (0 : Int) x0.fKeys.length) ((spec_l2Digits.f k x0.fNeed).bind fun t404 => (chk (leB (t404.size + (⟨#[32, 111, 102, 32]⟩ : ByteArray).size) 9223372036854775807) ((spec_l2Digits.f k (gt x0.fKeys (0 : Int))).bind fun t407 => (chk (leB ((t404 ++ (⟨#[32, 111, 102, 32]⟩ : ByteArray)).size + t407.size) 9223372036854775807) ((spec_l2Text.l0 x0 k ((t404 ++ (⟨#[32, 111, 102, 32]⟩ : ByteArray)) ++ t407) 1).bind (fun a435 => (bif (x0.fAfter != 0) then (chk (leB (a435.size + (⟨#[32, 97, 102, 116, 101, 114, 32]⟩ : ByteArray).size) 9223372036854775807) ((spec_l2Digits.f k x0.fAfter).bind fun t467 => (chk (leB ((a435 ++ (⟨#[32, 97, 102, 116, 101, 114, 32]⟩ : ByteArray)).size + t467.size) 9223372036854775807) (some ((a435 ++ (⟨#[32, 97, 102, 116, 101, 114, 32]⟩ : ByteArray)) ++ t467))))) else some a435))))))))
theorem spec_l2Text.calls {k : Nat} {x0 : Rule} {b0 f0 : Nat} {p0_0 : Value} {w : World} (hc0 : CellsAt w b0 f0 [p0_0, .int .i64 x0.fNeed, .int .i64 x0.fAfter]) (hp0_0 : RdS kInt w p0_0 x0.fKeys) {r : ByteArray} (H : spec_l2Text.f k x0 = some r) :
    Calls Tryd.prog 18 ([.pointer (some ⟨b0, f0, none⟩)] : List Value).toArray w (fun e w_ => ∃ v, e = .returned v ∧ v = (.string r) ∧ Mem w [] w_ []) := by
  have HM := Mem.start w
  refine calls_run (N := 53) Tryd.func18 rfl rfl rfl rfl ?_
  unfold spec_l2Text.f at H
  refine run_seq ?_
  refine run_region rfl ?_
  refine ops_ex rfl (guard_none rfl) rfl rfl (ex_assign rfl rfl) ?_
  refine ops_nil ?_
  refine at_then ?_
  refine run_seq ?_
  obtain ⟨e402, H⟩ := chk_some H
  obtain ⟨t404, h405, H⟩ := bind_some H
  obtain ⟨e406, H⟩ := chk_some H
  obtain ⟨t407, h408, H⟩ := bind_some H
  obtain ⟨e409, H⟩ := chk_some H
  refine run_drawf (fun w_ => Mem w [] w_ []) [(0, true), (1, true), (2, true), (3, true), (6, true), (7, true), (8, true), (9, true), (10, true), (11, true), (4, false), (5, true), (12, false), (13, true), (14, true)] mixed rfl rfl (by kernel_rfl) ?_
  replace HM := HM.grow (fr_drew _)
  have hS := Mem.suf (M := []) HM
  refine drwp_take rfl (guard_none rfl) rfl rfl (fun w_ hS_ => (ex_move rfl rfl)) hS ?_
  refine drwp_take rfl (guard_none rfl) rfl rfl (fun w_ hS_ => (ex_nilCheck rfl rfl)) hS ?_
  refine drwp_take rfl (guard_none rfl) rfl rfl (fun w_ hS_ => (ex_fieldAddr (off' := f0 + 1) rfl rfl Tryd.underlying29 rfl tsz2 rfl)) hS ?_
  refine drwp_take rfl (guard_none rfl) rfl rfl (fun w_ hS_ => (ex_load1 rfl rfl Tryd.underlying2 rfl ((hS_.at_ hc0) 1 _ rfl))) hS ?_
  refine drwp_take rfl (guard_none rfl) rfl rfl (fun w_ hS_ => (ex_move rfl rfl)) hS ?_
  refine drwp_take rfl (guard_none rfl) rfl rfl (fun w_ hS_ => (ex_nilCheck rfl rfl)) hS ?_
  refine drwp_take rfl (guard_none rfl) rfl rfl (fun w_ hS_ => (ex_fieldAddr (off' := f0) rfl rfl Tryd.underlying29 rfl tsz22 rfl)) hS ?_
  refine drwp_take rfl (guard_none rfl) rfl rfl (fun w_ hS_ => (ex_load1 rfl rfl Tryd.underlying22 rfl ((hS_.at_ hc0) 0 _ rfl))) hS ?_
  have hc403 : CellsAt _ (sb p0_0) (so p0_0 + ((0 : Int)).toNat * 1) [(.int .i64 (gt x0.fKeys (0 : Int)))] := rd_plain hp0_0 e402
  refine drwp_take rfl (guard_none rfl) rfl rfl (fun w_ hS_ => (ex_indexAddr (d := kInt) rfl rfl rfl Tryd.underlying22 tsz2 hp0_0 (idx_lo e402) (idx_hi e402))) hS ?_
  refine drwp_take rfl (guard_none rfl) rfl rfl (fun w_ hS_ => (ex_load1 rfl rfl Tryd.underlying2 rfl ((hS_.at_ hc403) 0 _ rfl))) hS ?_
  refine drwp_one rfl (guard_none rfl) rfl rfl (does_callk rfl callok30 rfl (spec_l2Digits.calls (x0 := x0.fNeed) h405)) ?_
  rintro _ w410 ⟨rfl, hn⟩
  replace HM : Mem w [] w410 [] := HM.call hn
  refine ⟨Mem.suf (M := []) HM, ?_⟩
  have hS := Mem.suf (M := []) HM
  refine drwp_take rfl (guard_none rfl) rfl rfl (fun w_ hS_ => (ex_sadd rfl rfl rfl (leB_le e406))) hS ?_
  refine drwp_one rfl (guard_none rfl) rfl rfl (does_callk rfl callok30 rfl (spec_l2Digits.calls (x0 := (gt x0.fKeys (0 : Int))) h408)) ?_
  rintro _ w411 ⟨rfl, hn⟩
  replace HM : Mem w [] w411 [] := HM.call hn
  refine ⟨Mem.suf (M := []) HM, ?_⟩
  have hS := Mem.suf (M := []) HM
  refine drwp_take rfl (guard_none rfl) rfl rfl (fun w_ hS_ => (ex_sadd rfl rfl rfl (leB_le e409))) hS ?_
  refine drwp_take rfl (guard_none rfl) rfl rfl (fun w_ hS_ => (ex_assign rfl rfl)) hS ?_
  refine drwp_done ?_
  refine at_then ?_
  obtain ⟨o436, ho437, H⟩ := bind_some H
  refine run_mid (fun ρ_ w_ => ∃ a435 : ByteArray, a435 = o436 ∧ ρ_ = [(0, .pointer (some ⟨b0, f0, none⟩)), (3, .string a435)] ∧ Mem w [] w_ []) ?_ ?_
  · clear H
    refine run_seq ?_
    refine run_region rfl ?_
    refine ops_ex rfl (guard_none rfl) rfl rfl (ex_assign rfl rfl) ?_
    refine ops_nil ?_
    refine at_then ?_
    refine run_block ?_
    refine run_loop (fun k_ ρ_ w_ => ∃ a445 : ByteArray, ∃ a446 : Int, spec_l2Text.l0 x0 k_ a445 a446 = some o436 ∧ ρ_ = [(0, .pointer (some ⟨b0, f0, none⟩)), (3, .string a445), (4, .int .i64 a446)] ∧ Mem w [] w_ []) k (ρ1 := [(0, .pointer (some ⟨b0, f0, none⟩)), (3, .string ((t404 ++ (⟨#[32, 111, 102, 32]⟩ : ByteArray)) ++ t407)), (4, .int .i64 1)]) ⟨_, _, ho437, rfl, HM⟩ (Sub.cons rfl (Sub.cons rfl (Sub.cons rfl Sub.nil))) ?_
    clear HM ho437
    rintro k454 _ w455 ⟨a445, a446, ho437, rfl, HM⟩
    obtain _ | k454 := k454
    · exact nomatch ((spec_l2Text.l0_z x0 a445 a446).symm.trans ho437)
    replace ho437 := (spec_l2Text.l0_s x0 k454 a445 a446).symm.trans ho437
    refine run_seq ?_
    refine run_seq ?_
    refine run_region rfl ?_
    refine ops_ex rfl (guard_none rfl) rfl rfl (ex_move rfl rfl) ?_
    refine ops_ex rfl (guard_none rfl) rfl rfl (ex_move rfl rfl) ?_
    refine ops_ex rfl (guard_none rfl) rfl rfl (ex_nilCheck rfl rfl) ?_
    refine ops_ex rfl (guard_none rfl) rfl rfl (ex_fieldAddr (off' := f0) rfl rfl Tryd.underlying29 rfl tsz22 rfl) ?_
    refine ops_ex rfl (guard_none rfl) rfl rfl (ex_load1 rfl rfl Tryd.underlying22 rfl ((HM.at_ hc0) 0 _ rfl)) ?_
    refine ops_ex rfl (guard_none rfl) rfl rfl (ex_len (d := kInt) (xs := x0.fKeys) rfl rfl Tryd.underlying22 hp0_0) ?_
    refine ops_ex rfl (guard_none rfl) rfl rfl (ex_lss rfl rfl rfl) ?_
    refine ops_nil ?_
    refine at_then ?_
    refine run_cond (b := (decide (a446 < (x0.fKeys.length : Int)))) rfl (fun hb456 => ?_) (fun hb456 => ?_)
    · replace ho437 := cond_t hb456 ho437
      refine run_skip ?_
      refine at_then ?_
      refine run_seq ?_
      refine run_block ?_
      obtain ⟨e457, ho437⟩ := chk_some ho437
      obtain ⟨e458, ho437⟩ := chk_some ho437
      obtain ⟨t460, h461, ho437⟩ := bind_some ho437
      obtain ⟨e462, ho437⟩ := chk_some ho437
      refine run_region rfl ?_
      refine ops_ex rfl (guard_none rfl) rfl rfl (ex_move rfl rfl) ?_
      refine ops_ex rfl (guard_none rfl) rfl rfl (ex_sadd rfl rfl rfl (leB_le e457)) ?_
      refine ops_ex rfl (guard_none rfl) rfl rfl (ex_move rfl rfl) ?_
      refine ops_ex rfl (guard_none rfl) rfl rfl (ex_nilCheck rfl rfl) ?_
      refine ops_ex rfl (guard_none rfl) rfl rfl (ex_fieldAddr (off' := f0) rfl rfl Tryd.underlying29 rfl tsz22 rfl) ?_
      refine ops_ex rfl (guard_none rfl) rfl rfl (ex_load1 rfl rfl Tryd.underlying22 rfl ((HM.at_ hc0) 0 _ rfl)) ?_
      refine ops_ex rfl (guard_none rfl) rfl rfl (ex_move rfl rfl) ?_
      have hc459 : CellsAt _ (sb p0_0) (so p0_0 + (a446).toNat * 1) [(.int .i64 (gt x0.fKeys a446))] := rd_plain hp0_0 e458
      refine ops_ex rfl (guard_none rfl) rfl rfl (ex_indexAddr (d := kInt) rfl rfl rfl Tryd.underlying22 tsz2 hp0_0 (idx_lo e458) (idx_hi e458)) ?_
      refine ops_ex rfl (guard_none rfl) rfl rfl (ex_load1 rfl rfl Tryd.underlying2 rfl ((HM.at_ hc459) 0 _ rfl)) ?_
      refine ops_does rfl (guard_none rfl) rfl rfl (does_callk rfl callok30 rfl (spec_l2Digits.calls (x0 := (gt x0.fKeys a446)) h461)) ?_
      rintro _ w463 ⟨rfl, hn⟩
      replace HM : Mem w [] w463 [] := HM.call hn
      refine ops_ex rfl (guard_none rfl) rfl rfl (ex_sadd rfl rfl rfl (leB_le e462)) ?_
      refine ops_ex rfl (guard_none rfl) rfl rfl (ex_assign rfl rfl) ?_
      refine ops_nil ?_
      refine at_block ?_
      refine at_then ?_
      refine run_region rfl ?_
      refine ops_ex rfl (guard_none rfl) rfl rfl (ex_move rfl rfl) ?_
      refine ops_ex rfl (guard_none rfl) rfl rfl (ex_add rfl rfl rfl) ?_
      refine ops_ex rfl (guard_none rfl) rfl rfl (ex_assign rfl rfl) ?_
      refine ops_nil ?_
      exact at_again k454 (ρ1 := [(0, .pointer (some ⟨b0, f0, none⟩)), (3, .string ((a445 ++ (⟨#[44]⟩ : ByteArray)) ++ t460)), (4, .int .i64 (wrap64 (a446 + 1)))]) (Nat.lt_succ_self _) ⟨_, _, ho437, rfl, HM⟩ (Sub.cons rfl (Sub.cons rfl (Sub.cons rfl Sub.nil)))
    · replace ho437 := cond_f hb456 ho437
      refine run_exit ?_
      refine at_then_exit ?_
      refine at_then_exit ?_
      refine at_block_exit ?_
      exact at_mid (ρ' := [(0, .pointer (some ⟨b0, f0, none⟩)), (3, .string a445)]) ⟨_, (Option.some.inj ho437), rfl, HM⟩ (Sub.cons rfl (Sub.cons rfl Sub.nil))
  · rintro _ w464 ⟨a435, rfl, rfl, HM⟩
    refine run_seq ?_
    refine run_seq ?_
    refine run_region rfl ?_
    refine ops_ex rfl (guard_none rfl) rfl rfl (ex_move rfl rfl) ?_
    refine ops_ex rfl (guard_none rfl) rfl rfl (ex_nilCheck rfl rfl) ?_
    refine ops_ex rfl (guard_none rfl) rfl rfl (ex_fieldAddr (off' := f0 + 2) rfl rfl Tryd.underlying29 rfl tsz2 rfl) ?_
    refine ops_ex rfl (guard_none rfl) rfl rfl (ex_load1 rfl rfl Tryd.underlying2 rfl ((HM.at_ hc0) 2 _ rfl)) ?_
    refine ops_ex rfl (guard_none rfl) rfl rfl (ex_neq rfl rfl rfl) ?_
    refine ops_nil ?_
    refine at_then ?_
    refine run_cond (b := (x0.fAfter != 0)) rfl (fun hb465 => ?_) (fun hb465 => ?_)
    · replace H := cond_t hb465 H
      obtain ⟨e466, H⟩ := chk_some H
      obtain ⟨t467, h468, H⟩ := bind_some H
      obtain ⟨e469, H⟩ := chk_some H
      refine run_region rfl ?_
      refine ops_ex rfl (guard_none rfl) rfl rfl (ex_move rfl rfl) ?_
      refine ops_ex rfl (guard_none rfl) rfl rfl (ex_sadd rfl rfl rfl (leB_le e466)) ?_
      refine ops_ex rfl (guard_none rfl) rfl rfl (ex_move rfl rfl) ?_
      refine ops_ex rfl (guard_none rfl) rfl rfl (ex_nilCheck rfl rfl) ?_
      refine ops_ex rfl (guard_none rfl) rfl rfl (ex_fieldAddr (off' := f0 + 2) rfl rfl Tryd.underlying29 rfl tsz2 rfl) ?_
      refine ops_ex rfl (guard_none rfl) rfl rfl (ex_load1 rfl rfl Tryd.underlying2 rfl ((HM.at_ hc0) 2 _ rfl)) ?_
      refine ops_does rfl (guard_none rfl) rfl rfl (does_callk rfl callok30 rfl (spec_l2Digits.calls (x0 := x0.fAfter) h468)) ?_
      rintro _ w470 ⟨rfl, hn⟩
      replace HM : Mem w [] w470 [] := HM.call hn
      refine ops_ex rfl (guard_none rfl) rfl rfl (ex_sadd rfl rfl rfl (leB_le e469)) ?_
      refine ops_ex rfl (guard_none rfl) rfl rfl (ex_assign rfl rfl) ?_
      refine ops_nil ?_
      refine at_then ?_
      refine run_seq ?_
      refine run_region rfl ?_
      refine ops_ex rfl (guard_none rfl) rfl rfl (ex_move rfl rfl) ?_
      refine ops_ex rfl (guard_none rfl) rfl rfl (ex_assign rfl rfl) ?_
      refine ops_nil ?_
      refine at_then ?_
      refine run_ret ?_
      have hR := Option.some.inj H
      subst hR
      exact at_ret1 rfl rfl ⟨_, rfl, rfl, HM⟩
    · replace H := cond_f hb465 H
      refine run_skip ?_
      refine at_then ?_
      refine run_seq ?_
      refine run_region rfl ?_
      refine ops_ex rfl (guard_none rfl) rfl rfl (ex_move rfl rfl) ?_
      refine ops_ex rfl (guard_none rfl) rfl rfl (ex_assign rfl rfl) ?_
      refine ops_nil ?_
      refine at_then ?_
      refine run_ret ?_
      have hR := Option.some.inj H
      subst hR
      exact at_ret1 rfl rfl ⟨_, rfl, rfl, HM⟩
end Go.Proofs.YtdhkcglfeiapoaaDoor.Zk
