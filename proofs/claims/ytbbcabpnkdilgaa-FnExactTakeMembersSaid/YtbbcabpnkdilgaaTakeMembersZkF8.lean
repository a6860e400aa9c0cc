/- What functions of the program compute, each as a plain function, and that they do. Conditions: as each theorem states them. -/
import Derived.Test.YtbbcabpnkdilgaaTakeMembersZkF7
namespace Go.Proofs.Ytbbcabpnkdilgaa.Zk
open Go Go.RowKit Go.IntWalk Go.Proofs
set_option linter.unusedVariables false
set_option linter.unusedSimpArgs false
set_option maxRecDepth 100000
set_option maxHeartbeats 4000000
def laws_markInt64S.l0  : Nat → (List Int) → Int → Int → Option ((List Int) × Int)
  | 0, _, _, _ => none
  | k + 1, a5064, a5066, a5067 => (bif (decide (a5067 < (a5064.length : Int))) then (chk (idxOk a5067 a5064.length) (laws_markInt64S.l0 k (a5064.set (a5067).toNat a5066) (wrap64 (a5066 + 1)) (wrap64 (a5067 + 1)))) else some (a5064, a5066))
theorem laws_markInt64S.l0_z  (a5064 : List Int) (a5066 : Int) (a5067 : Int) : laws_markInt64S.l0 0 a5064 a5066 a5067 = none := rfl
theorem laws_markInt64S.l0_s  (k : Nat) (a5064 : List Int) (a5066 : Int) (a5067 : Int) : laws_markInt64S.l0 (k + 1) a5064 a5066 a5067 = (bif (decide (a5067 < (a5064.length : Int))) then (chk (idxOk a5067 a5064.length) (laws_markInt64S.l0 k (a5064.set (a5067).toNat a5066) (wrap64 (a5066 + 1)) (wrap64 (a5067 + 1)))) else some (a5064, a5066)) := rfl
def laws_markInt64S.f (k : Nat) (x0 : List Int) (x1 : Int) : Option (Int × (List Int)) := ((laws_markInt64S.l0 k x0 x1 0).bind (cur2 (fun a5057 a5059 => some (a5059, a5057))))
theorem laws_markInt64S.calls {k : Nat} {x0 : List Int} {x1 : Int} {p0 : Value} {w wo : World} {X : List Nat} (hwo : Olds wo w X) (hX : Hold w [own kInt 2 p0 x0] X) (hXn : X.Nodup) (hXl : ∀ b ∈ X, b < w.heap.size)  {r : Int × (List Int)} (H : laws_markInt64S.f k x0 x1 = some r) :
    Calls Try.prog 101 ([p0, .int .i64 x1] : List Value).toArray w (fun e w_ => ∃ v, e = .returned v ∧ v = (.int .i64 r.1) ∧ Mem w X w_ [own kInt 2 p0 r.2]) := by
  have HM := Mem.startX hX hXn hXl
  refine calls_run (N := 19) Try.func101 rfl rfl rfl rfl ?_
  unfold laws_markInt64S.f at H
  refine run_seq ?_
  refine run_region rfl ?_
  refine ox rfl rfl rfl rfl (ex_assign rfl rfl) ?_
  refine ops_nil (at_then ?_)
  obtain ⟨o5060, ho5061, H⟩ := bind_some H
  refine run_mid (fun ρ_ w_ => ∃ a5057 : List Int, ∃ a5059 : Int, (a5057, a5059) = o5060 ∧ ρ_ = [(1, .int .i64 a5059)] ∧ Mem w X w_ [own kInt 2 p0 a5057]) ?_ ?_
  · clear H
    refine run_seq ?_
    refine run_region rfl ?_
    refine ox rfl rfl rfl rfl (ex_assign rfl rfl) ?_
    refine ops_nil (at_then ?_)
    refine run_block ?_
    refine run_loop (fun k_ ρ_ w_ => ∃ a5064 : List Int, ∃ a5066 : Int, ∃ a5067 : Int, laws_markInt64S.l0 k_ a5064 a5066 a5067 = some o5060 ∧ ρ_ = [(0, p0), (1, .int .i64 a5066), (5, .int .i64 a5067)] ∧ Mem w X w_ [own kInt 2 p0 a5064]) k (ρ1 := [(0, p0), (1, .int .i64 x1), (5, .int .i64 0)]) ⟨_, _, _, ho5061, rfl, HM⟩ (Sub.cons rfl (Sub.cons rfl (Sub.cons rfl Sub.nil))) ?_
    clear HM ho5061
    rintro k5070 _ w5071 ⟨a5064, a5066, a5067, ho5061, rfl, HM⟩
    obtain _ | k5070 := k5070
    · exact nomatch ((laws_markInt64S.l0_z a5064 a5066 a5067).symm.trans ho5061)
    replace ho5061 := (laws_markInt64S.l0_s k5070 a5064 a5066 a5067).symm.trans ho5061
    refine run_seq ?_
    refine run_seq ?_
    refine run_region rfl ?_
    refine ox rfl rfl rfl rfl (ex_move rfl rfl) ?_
    refine ox rfl rfl rfl rfl (ex_move rfl rfl) ?_
    refine ox rfl rfl rfl rfl (ex_len (d := kInt) (xs := a5064) rfl rfl Try.underlying39 (HM.own_rd 0 rfl)) ?_
    refine ox rfl rfl rfl rfl (ex_lss rfl rfl rfl) ?_
    refine ops_nil (at_then ?_)
    refine run_cond (b := (decide (a5067 < (a5064.length : Int)))) rfl (fun hb5072 => ?_) (fun hb5072 => ?_)
    · replace ho5061 := cond_t hb5072 ho5061
      refine run_skip ?_
      refine at_then ?_
      refine run_seq ?_
      refine run_block ?_
      refine run_seq ?_
      obtain ⟨e5073, ho5061⟩ := chk_some ho5061
      refine run_region rfl ?_
      refine ox rfl rfl rfl rfl (ex_move rfl rfl) ?_
      refine ox rfl rfl rfl rfl (ex_move rfl rfl) ?_
      refine ox rfl rfl rfl rfl (ex_move rfl rfl) ?_
      refine ox rfl rfl rfl rfl (ex_indexAddr (d := kInt) rfl rfl rfl Try.underlying39 tsz2 (HM.own_rd 0 rfl) (idx_lo e5073) (idx_hi e5073)) ?_
      refine odS rfl rfl rfl (does_setElem (vs := [(.int .i64 a5066)]) (y := a5066) kInt rfl rfl rfl rfl rfl tsz2 rfl rfl (idx_nat e5073) (fun _ _ h => ⟨rfl, h⟩) (HM.emp.front 1 rfl rfl)) ?_
      rintro w5074 HM
      refine ops_nil (at_then ?_)
      refine run_region rfl ?_
      refine ox rfl rfl rfl rfl (ex_move rfl rfl) ?_
      refine ox rfl rfl rfl rfl (ex_add rfl rfl rfl) ?_
      refine ox rfl rfl rfl rfl (ex_assign rfl rfl) ?_
      refine ops_nil ?_
      refine at_block ?_
      refine at_then ?_
      refine run_region rfl ?_
      refine ox rfl rfl rfl rfl (ex_move rfl rfl) ?_
      refine ox rfl rfl rfl rfl (ex_add rfl rfl rfl) ?_
      refine ox rfl rfl rfl rfl (ex_assign rfl rfl) ?_
      refine ops_nil ?_
      exact at_again k5070 (ρ1 := [(0, p0), (1, .int .i64 (wrap64 (a5066 + 1))), (5, .int .i64 (wrap64 (a5067 + 1)))]) (Nat.lt_succ_self _) ⟨_, _, _, ho5061, rfl, HM⟩ (Sub.cons rfl (Sub.cons rfl (Sub.cons rfl Sub.nil)))
    · replace ho5061 := cond_f hb5072 ho5061
      refine run_exit ?_
      refine at_then_exit ?_
      refine at_then_exit ?_
      refine at_block_exit ?_
      exact at_mid (ρ' := [(1, .int .i64 a5066)]) ⟨_, _, (Option.some.inj ho5061), rfl, HM⟩ (Sub.cons rfl Sub.nil)
  · rintro _ w5075 ⟨a5057, a5059, rfl, rfl, HM⟩
    replace H := cur2_mk H
    refine run_seq ?_
    refine run_region rfl ?_
    refine ox rfl rfl rfl rfl (ex_move rfl rfl) ?_
    refine ox rfl rfl rfl rfl (ex_assign rfl rfl) ?_
    refine ops_nil (at_then ?_)
    refine run_ret ?_
    have hR := Option.some.inj H
    subst hR
    exact at_ret1 rfl rfl ⟨_, rfl, rfl, HM⟩

def laws_markOutS.l0  : Nat → (List Out) → Int → Int → Option ((List Out) × Int)
  | 0, _, _, _ => none
  | k + 1, a5206, a5208, a5209 => (bif (decide (a5209 < (a5206.length : Int))) then (chk (idxOk a5209 a5206.length) ((laws_markInt64S.f k ((gt a5206 a5209).fRule.fKeys) (wrap64 (a5208 + 1))).bind fun t5237 => laws_markOutS.l0 k (a5206.set (a5209).toNat (⟨a5208, (⟨t5237.2, t5237.1, wrap64 (t5237.1 + 1)⟩ : Rule)⟩ : Out)) (wrap64 ((wrap64 (t5237.1 + 1)) + 1)) (wrap64 (a5209 + 1)))) else some (a5206, a5208))
theorem laws_markOutS.l0_z  (a5206 : List Out) (a5208 : Int) (a5209 : Int) : laws_markOutS.l0 0 a5206 a5208 a5209 = none := rfl
theorem laws_markOutS.l0_s  (k : Nat) (a5206 : List Out) (a5208 : Int) (a5209 : Int) : laws_markOutS.l0 (k + 1) a5206 a5208 a5209 = (bif (decide (a5209 < (a5206.length : Int))) then (chk (idxOk a5209 a5206.length) ((laws_markInt64S.f k ((gt a5206 a5209).fRule.fKeys) (wrap64 (a5208 + 1))).bind fun t5237 => laws_markOutS.l0 k (a5206.set (a5209).toNat (⟨a5208, (⟨t5237.2, t5237.1, wrap64 (t5237.1 + 1)⟩ : Rule)⟩ : Out)) (wrap64 ((wrap64 (t5237.1 + 1)) + 1)) (wrap64 (a5209 + 1)))) else some (a5206, a5208)) := rfl
def laws_markOutS.f (k : Nat) (x0 : List Out) (x1 : Int) : Option (Int × (List Out)) := ((laws_markOutS.l0 k x0 x1 0).bind (cur2 (fun a5184 a5186 => some (a5186, a5184))))
theorem laws_markOutS.calls {k : Nat} {x0 : List Out} {x1 : Int} {p0 : Value} {w wo : World} {X : List Nat} (hwo : Olds wo w X) (hX : Hold w [own kOut 69 p0 x0] X) (hXn : X.Nodup) (hXl : ∀ b ∈ X, b < w.heap.size)  {r : Int × (List Out)} (H : laws_markOutS.f k x0 x1 = some r) :
    Calls Try.prog 44 ([p0, .int .i64 x1] : List Value).toArray w (fun e w_ => ∃ v, e = .returned v ∧ v = (.int .i64 r.1) ∧ Mem w X w_ [own kOut 69 p0 r.2]) := by
  have HM := Mem.startX hX hXn hXl
  refine calls_run (N := 44) Try.func44 rfl rfl rfl rfl ?_
  unfold laws_markOutS.f at H
  refine run_seq ?_
  refine run_region rfl ?_
  refine ox rfl rfl rfl rfl (ex_assign rfl rfl) ?_
  refine ops_nil (at_then ?_)
  obtain ⟨o5187, ho5188, H⟩ := bind_some H
  refine run_mid (fun ρ_ w_ => ∃ a5184 : List Out, ∃ a5186 : Int, (a5184, a5186) = o5187 ∧ ρ_ = [(1, .int .i64 a5186)] ∧ Mem w X w_ [own kOut 69 p0 a5184]) ?_ ?_
  · clear H
    refine run_seq ?_
    refine run_region rfl ?_
    refine ox rfl rfl rfl rfl (ex_assign rfl rfl) ?_
    refine ops_nil (at_then ?_)
    refine run_block ?_
    refine run_loop (fun k_ ρ_ w_ => ∃ a5206 : List Out, ∃ a5208 : Int, ∃ a5209 : Int, laws_markOutS.l0 k_ a5206 a5208 a5209 = some o5187 ∧ ρ_ = [(0, p0), (1, .int .i64 a5208), (5, .int .i64 a5209)] ∧ Mem w X w_ [own kOut 69 p0 a5206]) k (ρ1 := [(0, p0), (1, .int .i64 x1), (5, .int .i64 0)]) ⟨_, _, _, ho5188, rfl, HM⟩ (Sub.cons rfl (Sub.cons rfl (Sub.cons rfl Sub.nil))) ?_
    clear HM ho5188
    rintro k5227 _ w5228 ⟨a5206, a5208, a5209, ho5188, rfl, HM⟩
    obtain _ | k5227 := k5227
    · exact nomatch ((laws_markOutS.l0_z a5206 a5208 a5209).symm.trans ho5188)
    replace ho5188 := (laws_markOutS.l0_s k5227 a5206 a5208 a5209).symm.trans ho5188
    refine run_seq ?_
    refine run_seq ?_
    refine run_region rfl ?_
    refine ox rfl rfl rfl rfl (ex_move rfl rfl) ?_
    refine ox rfl rfl rfl rfl (ex_move rfl rfl) ?_
    refine ox rfl rfl rfl rfl (ex_len (d := kOut) (xs := a5206) rfl rfl Try.underlying26 (HM.own_rd 0 rfl)) ?_
    refine ox rfl rfl rfl rfl (ex_lss rfl rfl rfl) ?_
    refine ops_nil (at_then ?_)
    refine run_cond (b := (decide (a5209 < (a5206.length : Int)))) rfl (fun hb5229 => ?_) (fun hb5229 => ?_)
    · replace ho5188 := cond_t hb5229 ho5188
      refine run_skip ?_
      refine at_then ?_
      refine run_seq ?_
      refine run_block ?_
      refine run_seq ?_
      obtain ⟨e5230, ho5188⟩ := chk_some ho5188
      refine run_region rfl ?_
      refine ox rfl rfl rfl rfl (ex_move rfl rfl) ?_
      refine ox rfl rfl rfl rfl (ex_move rfl rfl) ?_
      refine ox rfl rfl rfl rfl (ex_move rfl rfl) ?_
      refine ox rfl rfl rfl rfl (ex_indexAddr (d := kOut) rfl rfl rfl Try.underlying26 tsz69 (HM.own_rd 0 rfl) (idx_lo e5230) (idx_hi e5230)) ?_
      refine ox rfl rfl rfl rfl (ex_fieldAddr (off' := so p0 + (a5209).toNat * 4) rfl rfl Try.underlying69 rfl tsz2 rfl) ?_
      refine odS rfl rfl rfl (does_setField (fo := 0) (vs := [(.int .i64 a5208)]) (y := (⟨a5208, (gt a5206 a5209).fRule⟩ : Out)) kOut rfl rfl rfl rfl rfl tsz2 (Ones.int Ones.nil) rfl rfl (idx_nat e5230) (fun _ _ _ h => by rw [← gt_eq (idx_nat e5230)] at h; obtain ⟨_, rfl, h2⟩ := h; exact ⟨_, rfl, h2⟩) HM) ?_
      rintro w5231 HM
      refine ops_nil (at_then (run_seq ?_))
      refine run_region rfl ?_
      refine ox rfl rfl rfl rfl (ex_move rfl rfl) ?_
      refine ox rfl rfl rfl rfl (ex_add rfl rfl rfl) ?_
      refine ox rfl rfl rfl rfl (ex_assign rfl rfl) ?_
      refine ops_nil (at_then (run_seq ?_))
      obtain ⟨t5237, h5238, ho5188⟩ := bind_some ho5188
      refine run_region rfl ?_
      refine ox rfl rfl rfl rfl (ex_move rfl rfl) ?_
      refine ox rfl rfl rfl rfl (ex_move rfl rfl) ?_
      have e5232 : idxOk a5209 (a5206.set (a5209).toNat (⟨a5208, (gt a5206 a5209).fRule⟩ : Out)).length = true := len_set e5230
      refine ox rfl rfl rfl rfl (ex_indexAddr (d := kOut) rfl rfl rfl Try.underlying26 tsz69 (HM.own_rd 0 rfl) (idx_lo e5232) (idx_hi e5232)) ?_
      refine ox rfl rfl rfl rfl (ex_fieldAddr (off' := so p0 + (a5209).toNat * 4 + 1) rfl rfl Try.underlying69 rfl tsz67 rfl) ?_
      refine ox rfl rfl rfl rfl (ex_fieldAddr (off' := so p0 + (a5209).toNat * 4 + 1) rfl rfl Try.underlying67 rfl tsz39 rfl) ?_
      obtain ⟨u5233, hc5234, HM⟩ := HM.open1 e5232 (gt_set2 e5230)
      refine ox rfl rfl rfl rfl (ex_load1 rfl rfl Try.underlying39 rfl (hc5234 1 _ rfl)) ?_
      refine ox rfl rfl rfl rfl (ex_move rfl rfl) ?_
      obtain ⟨F5239, hF5240, hFn5241, hFl5242, HMh5243, hcl5244⟩ := HM.hide (Ms := [own kInt 2 u5233 ((gt a5206 a5209).fRule.fKeys)])
      refine od rfl rfl rfl rfl (does_callk rfl callok101 rfl (laws_markInt64S.calls (x0 := (gt a5206 a5209).fRule.fKeys) (x1 := wrap64 (a5208 + 1)) (hide_olds _ _) hF5240 hFn5241 hFl5242 h5238)) ?_
      rintro _ w5245 ⟨rfl, hn⟩
      replace HM : Mem w X w5245 [own kInt 2 u5233 t5237.2, hole kOut (fun u_ => [(.int .i64 a5208), u_, (.int .i64 ((gt a5206 a5209).fRule.fNeed)), (.int .i64 ((gt a5206 a5209).fRule.fAfter))]) 69 p0 (a5206.set (a5209).toNat (⟨a5208, (gt a5206 a5209).fRule⟩ : Out)) (a5209).toNat u5233] := hcl5244 _ _ hn
      replace HM := HM.front 1 rfl rfl
      replace HM := HM.front 1 rfl rfl
      replace HM := Mem.close1 (⟨a5208, (⟨t5237.2, (gt a5206 a5209).fRule.fNeed, (gt a5206 a5209).fRule.fAfter⟩ : Rule)⟩ : Out) HM rfl rfl
      replace HM := HM.set2
      refine ox rfl rfl rfl rfl (ex_assign rfl rfl) ?_
      refine ops_nil (at_then (run_seq ?_))
      refine run_region rfl ?_
      refine ox rfl rfl rfl rfl (ex_move rfl rfl) ?_
      refine ox rfl rfl rfl rfl (ex_move rfl rfl) ?_
      refine ox rfl rfl rfl rfl (ex_move rfl rfl) ?_
      have e5246 : idxOk a5209 (a5206.set (a5209).toNat (⟨a5208, (⟨t5237.2, (gt a5206 a5209).fRule.fNeed, (gt a5206 a5209).fRule.fAfter⟩ : Rule)⟩ : Out)).length = true := len_set e5230
      refine ox rfl rfl rfl rfl (ex_indexAddr (d := kOut) rfl rfl rfl Try.underlying26 tsz69 (HM.own_rd 0 rfl) (idx_lo e5246) (idx_hi e5246)) ?_
      refine ox rfl rfl rfl rfl (ex_fieldAddr (off' := so p0 + (a5209).toNat * 4 + 1) rfl rfl Try.underlying69 rfl tsz67 rfl) ?_
      refine ox rfl rfl rfl rfl (ex_fieldAddr (off' := so p0 + (a5209).toNat * 4 + 2) rfl rfl Try.underlying67 rfl tsz2 rfl) ?_
      refine odS rfl rfl rfl (does_setField (fo := 2) (vs := [(.int .i64 t5237.1)]) (y := (⟨a5208, (⟨t5237.2, t5237.1, (gt a5206 a5209).fRule.fAfter⟩ : Rule)⟩ : Out)) kOut rfl rfl rfl rfl rfl tsz2 (Ones.int Ones.nil) rfl rfl (idx_nat e5246) (fun _ _ _ h => by rw [List.getElem_set_self] at h; obtain ⟨_, rfl, h2⟩ := h; exact ⟨_, rfl, h2⟩) HM) ?_
      rintro w5247 HM
      replace HM := HM.set2
      refine ops_nil (at_then (run_seq ?_))
      refine run_region rfl ?_
      refine ox rfl rfl rfl rfl (ex_move rfl rfl) ?_
      refine ox rfl rfl rfl rfl (ex_add rfl rfl rfl) ?_
      refine ox rfl rfl rfl rfl (ex_assign rfl rfl) ?_
      refine ops_nil (at_then (run_seq ?_))
      refine run_region rfl ?_
      refine ox rfl rfl rfl rfl (ex_move rfl rfl) ?_
      refine ox rfl rfl rfl rfl (ex_move rfl rfl) ?_
      refine ox rfl rfl rfl rfl (ex_move rfl rfl) ?_
      have e5248 : idxOk a5209 (a5206.set (a5209).toNat (⟨a5208, (⟨t5237.2, t5237.1, (gt a5206 a5209).fRule.fAfter⟩ : Rule)⟩ : Out)).length = true := len_set e5230
      refine ox rfl rfl rfl rfl (ex_indexAddr (d := kOut) rfl rfl rfl Try.underlying26 tsz69 (HM.own_rd 0 rfl) (idx_lo e5248) (idx_hi e5248)) ?_
      refine ox rfl rfl rfl rfl (ex_fieldAddr (off' := so p0 + (a5209).toNat * 4 + 1) rfl rfl Try.underlying69 rfl tsz67 rfl) ?_
      refine ox rfl rfl rfl rfl (ex_fieldAddr (off' := so p0 + (a5209).toNat * 4 + 3) rfl rfl Try.underlying67 rfl tsz2 rfl) ?_
      refine odS rfl rfl rfl (does_setField (fo := 3) (vs := [(.int .i64 (wrap64 (t5237.1 + 1)))]) (y := (⟨a5208, (⟨t5237.2, t5237.1, wrap64 (t5237.1 + 1)⟩ : Rule)⟩ : Out)) kOut rfl rfl rfl rfl rfl tsz2 (Ones.int Ones.nil) rfl rfl (idx_nat e5248) (fun _ _ _ h => by rw [List.getElem_set_self] at h; obtain ⟨_, rfl, h2⟩ := h; exact ⟨_, rfl, h2⟩) HM) ?_
      rintro w5249 HM
      replace HM := HM.set2
      refine ops_nil (at_then ?_)
      refine run_region rfl ?_
      refine ox rfl rfl rfl rfl (ex_move rfl rfl) ?_
      refine ox rfl rfl rfl rfl (ex_add rfl rfl rfl) ?_
      refine ox rfl rfl rfl rfl (ex_assign rfl rfl) ?_
      refine ops_nil ?_
      refine at_block ?_
      refine at_then ?_
      refine run_region rfl ?_
      refine ox rfl rfl rfl rfl (ex_move rfl rfl) ?_
      refine ox rfl rfl rfl rfl (ex_add rfl rfl rfl) ?_
      refine ox rfl rfl rfl rfl (ex_assign rfl rfl) ?_
      refine ops_nil ?_
      exact at_again k5227 (ρ1 := [(0, p0), (1, .int .i64 (wrap64 ((wrap64 (t5237.1 + 1)) + 1))), (5, .int .i64 (wrap64 (a5209 + 1)))]) (Nat.lt_succ_self _) ⟨_, _, _, ho5188, rfl, HM⟩ (Sub.cons rfl (Sub.cons rfl (Sub.cons rfl Sub.nil)))
    · replace ho5188 := cond_f hb5229 ho5188
      refine run_exit ?_
      refine at_then_exit ?_
      refine at_then_exit ?_
      refine at_block_exit ?_
      exact at_mid (ρ' := [(1, .int .i64 a5208)]) ⟨_, _, (Option.some.inj ho5188), rfl, HM⟩ (Sub.cons rfl Sub.nil)
  · rintro _ w5250 ⟨a5184, a5186, rfl, rfl, HM⟩
    replace H := cur2_mk H
    refine run_seq ?_
    refine run_region rfl ?_
    refine ox rfl rfl rfl rfl (ex_move rfl rfl) ?_
    refine ox rfl rfl rfl rfl (ex_assign rfl rfl) ?_
    refine ops_nil (at_then ?_)
    refine run_ret ?_
    have hR := Option.some.inj H
    subst hR
    exact at_ret1 rfl rfl ⟨_, rfl, rfl, HM⟩

def laws_markTx.f (k : Nat) (x0 : Tx) (x1 : Int) : Option (Int × (List Ref) × (List Out)) := ((laws_markRefS.f k x0.fIns x1).bind fun t5263 => ((laws_markOutS.f k x0.fOuts t5263.1).bind fun t5272 => some (t5272.1, t5263.2, t5272.2)))
theorem laws_markTx.calls {k : Nat} {x0 : Tx} {x1 : Int} {p0_0 : Value} {p0_1 : Value} {w wo : World} {X : List Nat} (hwo : Olds wo w X) (hX : Hold w [own kRef 36 p0_0 x0.fIns, own kOut 69 p0_1 x0.fOuts] X) (hXn : X.Nodup) (hXl : ∀ b ∈ X, b < w.heap.size)  {r : Int × (List Ref) × (List Out)} (H : laws_markTx.f k x0 x1 = some r) :
    Calls Try.prog 23 ([.agg #[(.int .i64 x0.fKind), (.int .i64 x0.fMember), p0_0, p0_1], .int .i64 x1] : List Value).toArray w (fun e w_ => ∃ v, e = .returned v ∧ v = (.int .i64 r.1) ∧ Mem w X w_ [own kRef 36 p0_0 r.2.1, own kOut 69 p0_1 r.2.2]) := by
  have HM := Mem.startX hX hXn hXl
  refine calls_run (N := 14) Try.func23 rfl rfl rfl rfl ?_
  unfold laws_markTx.f at H
  refine run_seq ?_
  refine run_region rfl ?_
  refine od rfl rfl rfl rfl (does_box (cs := [.int .i64 x0.fKind, .int .i64 x0.fMember, p0_0, p0_1]) rfl rfl rfl HM) ?_
  rintro _ w5262 ⟨b5259, rfl, HM⟩
  refine ox rfl rfl rfl rfl (ex_assign rfl rfl) ?_
  refine ops_nil (at_then (run_seq ?_))
  obtain ⟨t5263, h5264, H⟩ := bind_some H
  refine run_region rfl ?_
  refine ox rfl rfl rfl rfl (ex_fieldAddr (off' := 2) rfl rfl Try.underlying28 rfl tsz25 rfl) ?_
  refine ox rfl rfl rfl rfl (ex_load1 rfl rfl Try.underlying25 rfl ((HM.box_at 0 rfl) 2 _ rfl)) ?_
  refine ox rfl rfl rfl rfl (ex_move rfl rfl) ?_
  replace HM := HM.front 1 rfl rfl
  obtain ⟨F5265, hF5266, hFn5267, hFl5268, HMh5269, hcl5270⟩ := HM.hide (Ms := [own kRef 36 p0_0 x0.fIns])
  refine od rfl rfl rfl rfl (does_callk rfl callok72 rfl (laws_markRefS.calls (x0 := x0.fIns) (x1 := x1) (hide_olds _ _) hF5266 hFn5267 hFl5268 h5264)) ?_
  rintro _ w5271 ⟨rfl, hn⟩
  replace HM : Mem w X w5271 [own kRef 36 p0_0 t5263.2, box b5259 28 [.int .i64 x0.fKind, .int .i64 x0.fMember, p0_0, p0_1], own kOut 69 p0_1 x0.fOuts] := hcl5270 _ _ hn
  refine ox rfl rfl rfl rfl (ex_assign rfl rfl) ?_
  refine ops_nil (at_then (run_seq ?_))
  obtain ⟨t5272, h5273, H⟩ := bind_some H
  refine run_region rfl ?_
  refine ox rfl rfl rfl rfl (ex_fieldAddr (off' := 3) rfl rfl Try.underlying28 rfl tsz26 rfl) ?_
  refine ox rfl rfl rfl rfl (ex_load1 rfl rfl Try.underlying26 rfl ((HM.box_at 1 rfl) 3 _ rfl)) ?_
  refine ox rfl rfl rfl rfl (ex_move rfl rfl) ?_
  replace HM := HM.front 2 rfl rfl
  obtain ⟨F5274, hF5275, hFn5276, hFl5277, HMh5278, hcl5279⟩ := HM.hide (Ms := [own kOut 69 p0_1 x0.fOuts])
  refine od rfl rfl rfl rfl (does_callk rfl callok44 rfl (laws_markOutS.calls (x0 := x0.fOuts) (x1 := t5263.1) (hide_olds _ _) hF5275 hFn5276 hFl5277 h5273)) ?_
  rintro _ w5280 ⟨rfl, hn⟩
  replace HM : Mem w X w5280 [own kOut 69 p0_1 t5272.2, own kRef 36 p0_0 t5263.2, box b5259 28 [.int .i64 x0.fKind, .int .i64 x0.fMember, p0_0, p0_1]] := hcl5279 _ _ hn
  refine ox rfl rfl rfl rfl (ex_assign rfl rfl) ?_
  refine ops_nil (at_then (run_seq ?_))
  refine run_region rfl ?_
  refine ox rfl rfl rfl rfl (ex_move rfl rfl) ?_
  refine ox rfl rfl rfl rfl (ex_assign rfl rfl) ?_
  refine ops_nil (at_then ?_)
  refine run_ret ?_
  replace HM := (HM.front 2 rfl rfl).drop
  replace HM := HM.front 1 rfl rfl
  have hR := Option.some.inj H
  subst hR
  exact at_ret1 rfl rfl ⟨_, rfl, rfl, HM⟩

def laws_markMembersResult.f (k : Nat) (x0 : MembersResult) (x1 : Int) : Option (Int × (List Member)) := ((laws_markMemberS.f k x0.fMembers x1).bind fun t5316 => some (t5316.1, t5316.2))
theorem laws_markMembersResult.calls {k : Nat} {x0 : MembersResult} {x1 : Int} {p0_0 : Value} {w wo : World} {X : List Nat} (hwo : Olds wo w X) (hX : Hold w [own kMember 38 p0_0 x0.fMembers] X) (hXn : X.Nodup) (hXl : ∀ b ∈ X, b < w.heap.size)  {r : Int × (List Member)} (H : laws_markMembersResult.f k x0 x1 = some r) :
    Calls Try.prog 24 ([.agg #[(.int .i64 x0.fCode), p0_0], .int .i64 x1] : List Value).toArray w (fun e w_ => ∃ v, e = .returned v ∧ v = (.int .i64 r.1) ∧ Mem w X w_ [own kMember 38 p0_0 r.2]) := by
  have HM := Mem.startX hX hXn hXl
  refine calls_run (N := 10) Try.func24 rfl rfl rfl rfl ?_
  unfold laws_markMembersResult.f at H
  refine run_seq ?_
  refine run_region rfl ?_
  refine od rfl rfl rfl rfl (does_box (cs := [.int .i64 x0.fCode, p0_0]) rfl rfl rfl HM) ?_
  rintro _ w5315 ⟨b5312, rfl, HM⟩
  refine ox rfl rfl rfl rfl (ex_assign rfl rfl) ?_
  refine ops_nil (at_then (run_seq ?_))
  obtain ⟨t5316, h5317, H⟩ := bind_some H
  refine run_region rfl ?_
  refine ox rfl rfl rfl rfl (ex_fieldAddr (off' := 1) rfl rfl Try.underlying32 rfl tsz24 rfl) ?_
  refine ox rfl rfl rfl rfl (ex_load1 rfl rfl Try.underlying24 rfl ((HM.box_at 0 rfl) 1 _ rfl)) ?_
  refine ox rfl rfl rfl rfl (ex_move rfl rfl) ?_
  replace HM := HM.front 1 rfl rfl
  obtain ⟨F5318, hF5319, hFn5320, hFl5321, HMh5322, hcl5323⟩ := HM.hide (Ms := [own kMember 38 p0_0 x0.fMembers])
  refine od rfl rfl rfl rfl (does_callk rfl callok22 rfl (laws_markMemberS.calls (x0 := x0.fMembers) (x1 := x1) (hide_olds _ _) hF5319 hFn5320 hFl5321 h5317)) ?_
  rintro _ w5324 ⟨rfl, hn⟩
  replace HM : Mem w X w5324 [own kMember 38 p0_0 t5316.2, box b5312 32 [.int .i64 x0.fCode, p0_0]] := hcl5323 _ _ hn
  refine ox rfl rfl rfl rfl (ex_assign rfl rfl) ?_
  refine ops_nil (at_then (run_seq ?_))
  refine run_region rfl ?_
  refine ox rfl rfl rfl rfl (ex_move rfl rfl) ?_
  refine ox rfl rfl rfl rfl (ex_assign rfl rfl) ?_
  refine ops_nil (at_then ?_)
  refine run_ret ?_
  replace HM := (HM.front 1 rfl rfl).drop
  have hR := Option.some.inj H
  subst hR
  exact at_ret1 rfl rfl ⟨_, rfl, rfl, HM⟩

def laws_heldMemberS.l0 (x0 : List Member) : Nat → Int → Int → Option (Int ⊕ Int)
  | 0, _, _ => none
  | k + 1, a5458, a5459 => (bif (decide (a5459 < (x0.length : Int))) then (chk (idxOk a5459 x0.length) (bif (((gt x0 a5459).fKey) != a5458) then some (.inl (-1)) else (chk (idxOk a5459 x0.length) (bif (((gt x0 a5459).fRef.fTx) != (wrap64 (a5458 + 1))) then some (.inl (-1)) else (chk (idxOk a5459 x0.length) (bif (((gt x0 a5459).fRef.fAt) != (wrap64 ((wrap64 (a5458 + 1)) + 1))) then some (.inl (-1)) else laws_heldMemberS.l0 x0 k (wrap64 ((wrap64 ((wrap64 (a5458 + 1)) + 1)) + 1)) (wrap64 (a5459 + 1)))))))) else some (.inr a5458))
theorem laws_heldMemberS.l0_z (x0 : List Member) (a5458 : Int) (a5459 : Int) : laws_heldMemberS.l0 x0 0 a5458 a5459 = none := rfl
theorem laws_heldMemberS.l0_s (x0 : List Member) (k : Nat) (a5458 : Int) (a5459 : Int) : laws_heldMemberS.l0 x0 (k + 1) a5458 a5459 = (bif (decide (a5459 < (x0.length : Int))) then (chk (idxOk a5459 x0.length) (bif (((gt x0 a5459).fKey) != a5458) then some (.inl (-1)) else (chk (idxOk a5459 x0.length) (bif (((gt x0 a5459).fRef.fTx) != (wrap64 (a5458 + 1))) then some (.inl (-1)) else (chk (idxOk a5459 x0.length) (bif (((gt x0 a5459).fRef.fAt) != (wrap64 ((wrap64 (a5458 + 1)) + 1))) then some (.inl (-1)) else laws_heldMemberS.l0 x0 k (wrap64 ((wrap64 ((wrap64 (a5458 + 1)) + 1)) + 1)) (wrap64 (a5459 + 1)))))))) else some (.inr a5458)) := rfl
def laws_heldMemberS.f (k : Nat) (x0 : List Member) (x1 : Int) : Option Int := ((laws_heldMemberS.l0 x0 k x1 0).bind fun o5440 => thn o5440 (fun r => some r) (fun a5439 => some a5439))
theorem laws_heldMemberS.calls {k : Nat} {x0 : List Member} {x1 : Int} {p0 : Value} {w : World} (hp0 : RdS kMember w p0 x0) {r : Int} (H : laws_heldMemberS.f k x0 x1 = some r) :
    Calls Try.prog 73 ([p0, .int .i64 x1] : List Value).toArray w (fun e w_ => ∃ v, e = .returned v ∧ v = (.int .i64 r) ∧ Mem w [] w_ []) := by
  have HM := Mem.start w
  refine calls_run (N := 42) Try.func73 rfl rfl rfl rfl ?_
  unfold laws_heldMemberS.f at H
  refine run_seq ?_
  refine run_region rfl ?_
  refine ox rfl rfl rfl rfl (ex_assign rfl rfl) ?_
  refine ops_nil (at_then ?_)
  obtain ⟨o5440, ho5441, H⟩ := bind_some H
  refine run_mid (fun ρ_ w_ => ∃ a5439 : Int, Sum.inr a5439 = o5440 ∧ ρ_ = [(1, .int .i64 a5439)] ∧ Mem w [] w_ []) ?_ ?_
  · skip
    refine run_seq ?_
    refine run_region rfl ?_
    refine ox rfl rfl rfl rfl (ex_assign rfl rfl) ?_
    refine ops_nil (at_then ?_)
    refine run_block ?_
    refine run_loop (fun k_ ρ_ w_ => ∃ a5458 : Int, ∃ a5459 : Int, laws_heldMemberS.l0 x0 k_ a5458 a5459 = some o5440 ∧ ρ_ = [(0, p0), (1, .int .i64 a5458), (5, .int .i64 a5459)] ∧ Mem w [] w_ []) k (ρ1 := [(0, p0), (1, .int .i64 x1), (5, .int .i64 0)]) ⟨_, _, ho5441, rfl, HM⟩ (Sub.cons rfl (Sub.cons rfl (Sub.cons rfl Sub.nil))) ?_
    clear HM ho5441
    rintro k5476 _ w5477 ⟨a5458, a5459, ho5441, rfl, HM⟩
    obtain _ | k5476 := k5476
    · exact nomatch ((laws_heldMemberS.l0_z x0 a5458 a5459).symm.trans ho5441)
    replace ho5441 := (laws_heldMemberS.l0_s x0 k5476 a5458 a5459).symm.trans ho5441
    refine run_seq ?_
    refine run_seq ?_
    refine run_region rfl ?_
    refine ox rfl rfl rfl rfl (ex_move rfl rfl) ?_
    refine ox rfl rfl rfl rfl (ex_move rfl rfl) ?_
    refine ox rfl rfl rfl rfl (ex_len (d := kMember) (xs := x0) rfl rfl Try.underlying24 hp0) ?_
    refine ox rfl rfl rfl rfl (ex_lss rfl rfl rfl) ?_
    refine ops_nil (at_then ?_)
    refine run_cond (b := (decide (a5459 < (x0.length : Int)))) rfl (fun hb5478 => ?_) (fun hb5478 => ?_)
    · replace ho5441 := cond_t hb5478 ho5441
      refine run_skip ?_
      refine at_then ?_
      refine run_seq ?_
      refine run_block ?_
      refine run_seq ?_
      refine run_seq ?_
      obtain ⟨e5482, ho5441⟩ := chk_some ho5441
      refine run_region rfl ?_
      refine ox rfl rfl rfl rfl (ex_move rfl rfl) ?_
      refine ox rfl rfl rfl rfl (ex_move rfl rfl) ?_
      have hc5483 : CellsAt _ (sb p0) (so p0 + (a5459).toNat * 3) [(.int .i64 ((gt x0 a5459).fKey)), (.int .i64 ((gt x0 a5459).fRef.fTx)), (.int .i64 ((gt x0 a5459).fRef.fAt))] := rd_plain hp0 e5482
      refine ox rfl rfl rfl rfl (ex_indexAddr (d := kMember) rfl rfl rfl Try.underlying24 tsz38 hp0 (idx_lo e5482) (idx_hi e5482)) ?_
      refine ox rfl rfl rfl rfl (ex_fieldAddr (off' := so p0 + (a5459).toNat * 3) rfl rfl Try.underlying38 rfl tsz2 rfl) ?_
      refine ox rfl rfl rfl rfl (ex_load1 rfl rfl Try.underlying2 rfl ((HM.at_ hc5483) 0 _ rfl)) ?_
      refine ox rfl rfl rfl rfl (ex_move rfl rfl) ?_
      refine ox rfl rfl rfl rfl (ex_neq rfl rfl rfl) ?_
      refine ops_nil (at_then ?_)
      refine run_cond (b := (((gt x0 a5459).fKey) != a5458)) rfl (fun hb5484 => ?_) (fun hb5484 => ?_)
      · replace ho5441 := cond_t hb5484 ho5441
        refine run_seq ?_
        refine run_region rfl ?_
        refine ox rfl rfl rfl rfl (ex_assign rfl rfl) ?_
        refine ops_nil (at_then ?_)
        refine run_ret ?_
        refine at_then_ret ?_
        refine at_block_ret ?_
        refine at_then_ret ?_
        refine at_then_ret ?_
        refine at_block_ret ?_
        refine at_then_ret ?_
        have hR := Option.some.inj ho5441
        subst hR
        have hT := thn_inl H
        have hR := Option.some.inj hT
        subst hR
        exact at_ret1 rfl rfl ⟨_, rfl, rfl, HM⟩
      · replace ho5441 := cond_f hb5484 ho5441
        refine run_skip ?_
        refine at_then ?_
        refine run_seq ?_
        refine run_region rfl ?_
        refine ox rfl rfl rfl rfl (ex_move rfl rfl) ?_
        refine ox rfl rfl rfl rfl (ex_add rfl rfl rfl) ?_
        refine ox rfl rfl rfl rfl (ex_assign rfl rfl) ?_
        refine ops_nil (at_then (run_seq ?_))
        refine run_seq ?_
        obtain ⟨e5488, ho5441⟩ := chk_some ho5441
        refine run_region rfl ?_
        refine ox rfl rfl rfl rfl (ex_move rfl rfl) ?_
        refine ox rfl rfl rfl rfl (ex_move rfl rfl) ?_
        have hc5489 : CellsAt _ (sb p0) (so p0 + (a5459).toNat * 3) [(.int .i64 ((gt x0 a5459).fKey)), (.int .i64 ((gt x0 a5459).fRef.fTx)), (.int .i64 ((gt x0 a5459).fRef.fAt))] := rd_plain hp0 e5488
        refine ox rfl rfl rfl rfl (ex_indexAddr (d := kMember) rfl rfl rfl Try.underlying24 tsz38 hp0 (idx_lo e5488) (idx_hi e5488)) ?_
        refine ox rfl rfl rfl rfl (ex_fieldAddr (off' := so p0 + (a5459).toNat * 3 + 1) rfl rfl Try.underlying38 rfl tsz36 rfl) ?_
        refine ox rfl rfl rfl rfl (ex_fieldAddr (off' := so p0 + (a5459).toNat * 3 + 1) rfl rfl Try.underlying36 rfl tsz2 rfl) ?_
        refine ox rfl rfl rfl rfl (ex_load1 rfl rfl Try.underlying2 rfl ((HM.at_ hc5489) 1 _ rfl)) ?_
        refine ox rfl rfl rfl rfl (ex_move rfl rfl) ?_
        refine ox rfl rfl rfl rfl (ex_neq rfl rfl rfl) ?_
        refine ops_nil (at_then ?_)
        refine run_cond (b := (((gt x0 a5459).fRef.fTx) != (wrap64 (a5458 + 1)))) rfl (fun hb5490 => ?_) (fun hb5490 => ?_)
        · replace ho5441 := cond_t hb5490 ho5441
          refine run_seq ?_
          refine run_region rfl ?_
          refine ox rfl rfl rfl rfl (ex_assign rfl rfl) ?_
          refine ops_nil (at_then ?_)
          refine run_ret ?_
          refine at_then_ret ?_
          refine at_block_ret ?_
          refine at_then_ret ?_
          refine at_then_ret ?_
          refine at_block_ret ?_
          refine at_then_ret ?_
          have hR := Option.some.inj ho5441
          subst hR
          have hT := thn_inl H
          have hR := Option.some.inj hT
          subst hR
          exact at_ret1 rfl rfl ⟨_, rfl, rfl, HM⟩
        · replace ho5441 := cond_f hb5490 ho5441
          refine run_skip ?_
          refine at_then ?_
          refine run_seq ?_
          refine run_region rfl ?_
          refine ox rfl rfl rfl rfl (ex_move rfl rfl) ?_
          refine ox rfl rfl rfl rfl (ex_add rfl rfl rfl) ?_
          refine ox rfl rfl rfl rfl (ex_assign rfl rfl) ?_
          refine ops_nil (at_then (run_seq ?_))
          refine run_seq ?_
          obtain ⟨e5491, ho5441⟩ := chk_some ho5441
          refine run_region rfl ?_
          refine ox rfl rfl rfl rfl (ex_move rfl rfl) ?_
          refine ox rfl rfl rfl rfl (ex_move rfl rfl) ?_
          have hc5492 : CellsAt _ (sb p0) (so p0 + (a5459).toNat * 3) [(.int .i64 ((gt x0 a5459).fKey)), (.int .i64 ((gt x0 a5459).fRef.fTx)), (.int .i64 ((gt x0 a5459).fRef.fAt))] := rd_plain hp0 e5491
          refine ox rfl rfl rfl rfl (ex_indexAddr (d := kMember) rfl rfl rfl Try.underlying24 tsz38 hp0 (idx_lo e5491) (idx_hi e5491)) ?_
          refine ox rfl rfl rfl rfl (ex_fieldAddr (off' := so p0 + (a5459).toNat * 3 + 1) rfl rfl Try.underlying38 rfl tsz36 rfl) ?_
          refine ox rfl rfl rfl rfl (ex_fieldAddr (off' := so p0 + (a5459).toNat * 3 + 2) rfl rfl Try.underlying36 rfl tsz2 rfl) ?_
          refine ox rfl rfl rfl rfl (ex_load1 rfl rfl Try.underlying2 rfl ((HM.at_ hc5492) 2 _ rfl)) ?_
          refine ox rfl rfl rfl rfl (ex_move rfl rfl) ?_
          refine ox rfl rfl rfl rfl (ex_neq rfl rfl rfl) ?_
          refine ops_nil (at_then ?_)
          refine run_cond (b := (((gt x0 a5459).fRef.fAt) != (wrap64 ((wrap64 (a5458 + 1)) + 1)))) rfl (fun hb5493 => ?_) (fun hb5493 => ?_)
          · replace ho5441 := cond_t hb5493 ho5441
            refine run_seq ?_
            refine run_region rfl ?_
            refine ox rfl rfl rfl rfl (ex_assign rfl rfl) ?_
            refine ops_nil (at_then ?_)
            refine run_ret ?_
            refine at_then_ret ?_
            refine at_block_ret ?_
            refine at_then_ret ?_
            refine at_then_ret ?_
            refine at_block_ret ?_
            refine at_then_ret ?_
            have hR := Option.some.inj ho5441
            subst hR
            have hT := thn_inl H
            have hR := Option.some.inj hT
            subst hR
            exact at_ret1 rfl rfl ⟨_, rfl, rfl, HM⟩
          · replace ho5441 := cond_f hb5493 ho5441
            refine run_skip ?_
            refine at_then ?_
            refine run_region rfl ?_
            refine ox rfl rfl rfl rfl (ex_move rfl rfl) ?_
            refine ox rfl rfl rfl rfl (ex_add rfl rfl rfl) ?_
            refine ox rfl rfl rfl rfl (ex_assign rfl rfl) ?_
            refine ops_nil ?_
            refine at_block ?_
            refine at_then ?_
            refine run_region rfl ?_
            refine ox rfl rfl rfl rfl (ex_move rfl rfl) ?_
            refine ox rfl rfl rfl rfl (ex_add rfl rfl rfl) ?_
            refine ox rfl rfl rfl rfl (ex_assign rfl rfl) ?_
            refine ops_nil ?_
            exact at_again k5476 (ρ1 := [(0, p0), (1, .int .i64 (wrap64 ((wrap64 ((wrap64 (a5458 + 1)) + 1)) + 1))), (5, .int .i64 (wrap64 (a5459 + 1)))]) (Nat.lt_succ_self _) ⟨_, _, ho5441, rfl, HM⟩ (Sub.cons rfl (Sub.cons rfl (Sub.cons rfl Sub.nil)))
    · replace ho5441 := cond_f hb5478 ho5441
      refine run_exit ?_
      refine at_then_exit ?_
      refine at_then_exit ?_
      refine at_block_exit ?_
      exact at_mid (ρ' := [(1, .int .i64 a5458)]) ⟨_, (Option.some.inj ho5441), rfl, HM⟩ (Sub.cons rfl Sub.nil)
  · rintro _ w5494 ⟨a5439, rfl, rfl, HM⟩
    replace H := (thn_inr H)
    refine run_seq ?_
    refine run_region rfl ?_
    refine ox rfl rfl rfl rfl (ex_move rfl rfl) ?_
    refine ox rfl rfl rfl rfl (ex_assign rfl rfl) ?_
    refine ops_nil (at_then ?_)
    refine run_ret ?_
    have hR := Option.some.inj H
    subst hR
    exact at_ret1 rfl rfl ⟨_, rfl, rfl, HM⟩

def laws_heldMembersResult.f (k : Nat) (x0 : MembersResult) (x1 : Int) : Option Int := ((laws_heldMemberS.f k x0.fMembers x1).bind fun t5502 => (bif (decide (t5502 < 0)) then some (-1) else some t5502))
theorem laws_heldMembersResult.calls {k : Nat} {x0 : MembersResult} {x1 : Int} {p0_0 : Value} {w : World} (hp0_0 : RdS kMember w p0_0 x0.fMembers) {r : Int} (H : laws_heldMembersResult.f k x0 x1 = some r) :
    Calls Try.prog 25 ([.agg #[(.int .i64 x0.fCode), p0_0], .int .i64 x1] : List Value).toArray w (fun e w_ => ∃ v, e = .returned v ∧ v = (.int .i64 r) ∧ Mem w [] w_ []) := by
  have HM := Mem.start w
  refine calls_run (N := 12) Try.func25 rfl rfl rfl rfl ?_
  unfold laws_heldMembersResult.f at H
  refine run_seq ?_
  refine run_region rfl ?_
  refine od rfl rfl rfl rfl (does_box (cs := [.int .i64 x0.fCode, p0_0]) rfl rfl rfl HM) ?_
  rintro _ w5501 ⟨b5498, rfl, HM⟩
  refine ox rfl rfl rfl rfl (ex_assign rfl rfl) ?_
  refine ops_nil (at_then (run_seq ?_))
  obtain ⟨t5502, h5503, H⟩ := bind_some H
  refine run_region rfl ?_
  refine ox rfl rfl rfl rfl (ex_fieldAddr (off' := 1) rfl rfl Try.underlying32 rfl tsz24 rfl) ?_
  refine ox rfl rfl rfl rfl (ex_load1 rfl rfl Try.underlying24 rfl ((HM.box_at 0 rfl) 1 _ rfl)) ?_
  refine ox rfl rfl rfl rfl (ex_move rfl rfl) ?_
  refine od rfl rfl rfl rfl (does_callk rfl callok73 rfl (laws_heldMemberS.calls (x0 := x0.fMembers) (x1 := x1) (HM.rd hp0_0) h5503)) ?_
  rintro _ w5504 ⟨rfl, hn⟩
  replace HM : Mem w [] w5504 [box b5498 32 [.int .i64 x0.fCode, p0_0]] := HM.call hn
  refine ox rfl rfl rfl rfl (ex_assign rfl rfl) ?_
  refine ops_nil (at_then (run_seq ?_))
  refine run_seq ?_
  refine run_region rfl ?_
  refine ox rfl rfl rfl rfl (ex_move rfl rfl) ?_
  refine ox rfl rfl rfl rfl (ex_lss rfl rfl rfl) ?_
  refine ops_nil (at_then ?_)
  refine run_cond (b := (decide (t5502 < 0))) rfl (fun hb5505 => ?_) (fun hb5505 => ?_)
  · replace H := cond_t hb5505 H
    refine run_seq ?_
    refine run_region rfl ?_
    refine ox rfl rfl rfl rfl (ex_assign rfl rfl) ?_
    refine ops_nil (at_then ?_)
    refine run_ret ?_
    refine at_then_ret ?_
    replace HM := (HM.front 0 rfl rfl).drop
    have hR := Option.some.inj H
    subst hR
    exact at_ret1 rfl rfl ⟨_, rfl, rfl, HM⟩
  · replace H := cond_f hb5505 H
    refine run_skip ?_
    refine at_then ?_
    refine run_seq ?_
    refine run_region rfl ?_
    refine ox rfl rfl rfl rfl (ex_move rfl rfl) ?_
    refine ox rfl rfl rfl rfl (ex_assign rfl rfl) ?_
    refine ops_nil (at_then ?_)
    refine run_ret ?_
    replace HM := (HM.front 0 rfl rfl).drop
    have hR := Option.some.inj H
    subst hR
    exact at_ret1 rfl rfl ⟨_, rfl, rfl, HM⟩

def laws_FnExactTakeMembers.f (k : Nat) (x0 : List Member) (x1 : Tx) (x2 : Int) : Option Bool := ((laws_szMemberS.f k x0 1048576).bind fun t5544 => (bif (decide (t5544 < 0)) then some true else ((laws_szTx.f k x1 t5544).bind fun t5549 => (bif (decide (t5549 < 0)) then some true else ((laws_toMemberS.f k x0).bind fun t5554 => ((laws_toTx.f k x1).bind fun t5558 => ((spec_TakeMembers.f k t5554 t5558 x2).bind fun t5564 => ((laws_toMemberS.f k x0).bind fun t5599 => ((laws_toTx.f k x1).bind fun t5604 => ((impl_TakeMembers.f k t5599 t5604 x2).bind fun t5616 => ((laws_eqMembersResult.f k t5616 t5564).bind fun t5629 => (bif !t5629 then some false else ((laws_toMemberS.f k x0).bind fun t5640 => ((laws_eqMemberS.f k t5599 t5640).bind fun t5644 => (bif !t5644 then some false else ((laws_toTx.f k x1).bind fun t5658 => ((laws_eqTx.f k t5604 t5658).bind fun t5664 => (bif !t5664 then some false else ((laws_markMemberS.f k t5599 1).bind fun t5669 => ((laws_markTx.f k t5604 t5669.1).bind fun t5678 => ((bif (!(decide (t5678.1 < 0))) then laws_eqMembersResult.f k t5616 t5564 else some default).bind fun t5690 => (bif ((decide (t5678.1 < 0)) || (!t5690)) then some false else ((laws_markMembersResult.f k t5616 1).bind fun t5697 => ((laws_heldMembersResult.f k (⟨t5616.fCode, t5697.2⟩ : MembersResult) 1).bind fun t5706 => (bif (decide (t5706 < 0)) then some false else (bif (t5706 != t5697.1) then some false else ((laws_toMemberS.f k x0).bind fun t5713 => ((laws_toTx.f k x1).bind fun t5717 => ((impl_TakeMembers.f k t5713 t5717 x2).bind fun t5723 => ((laws_eqMembersResult.f k t5723 t5564).bind fun t5761 => (bif !t5761 then some false else ((laws_heldMembersResult.f k (⟨t5616.fCode, t5697.2⟩ : MembersResult) 1).bind fun t5765 => (bif (decide (t5765 < 0)) then some false else (bif (t5765 != t5697.1) then some false else some true))))))))))))))))))))))))))))))))))
theorem laws_FnExactTakeMembers.calls {k : Nat} {x0 : List Member} {x1 : Tx} {x2 : Int} {p0 : Value} {p1_0 : Value} {p1_1 : Value} {w : World} (hp0 : RdS kMember w p0 x0) (hp1_0 : RdS kRef w p1_0 x1.fIns) (hp1_1 : RdS kOut w p1_1 x1.fOuts) {r : Bool} (H : laws_FnExactTakeMembers.f k x0 x1 x2 = some r) :
    Calls Try.prog 4 ([p0, .agg #[(.int .i64 x1.fKind), (.int .i64 x1.fMember), p1_0, p1_1], .int .i64 x2] : List Value).toArray w (fun e w_ => ∃ v, e = .returned v ∧ v = (.bool r) ∧ Mem w [] w_ []) := by
  have HM := Mem.start w
  refine calls_run (N := 97) Try.func4 rfl rfl rfl rfl ?_
  unfold laws_FnExactTakeMembers.f at H
  refine run_seq ?_
  refine run_region rfl ?_
  refine od rfl rfl rfl rfl (does_box (cs := [.int .i64 x1.fKind, .int .i64 x1.fMember, p1_0, p1_1]) rfl rfl rfl HM) ?_
  rintro _ w5543 ⟨b5540, rfl, HM⟩
  refine ox rfl rfl rfl rfl (ex_assign rfl rfl) ?_
  refine ops_nil (at_then (run_seq ?_))
  refine run_region rfl ?_
  refine ox rfl rfl rfl rfl (ex_assign rfl rfl) ?_
  refine ops_nil (at_then (run_seq ?_))
  obtain ⟨t5544, h5545, H⟩ := bind_some H
  refine run_region rfl ?_
  refine ox rfl rfl rfl rfl (ex_move rfl rfl) ?_
  refine ox rfl rfl rfl rfl (ex_move rfl rfl) ?_
  refine od rfl rfl rfl rfl (does_callk rfl callok15 rfl (laws_szMemberS.calls (x0 := x0) (x1 := 1048576) (HM.rd hp0) h5545)) ?_
  rintro _ w5546 ⟨rfl, hn⟩
  replace HM : Mem w [] w5546 [box b5540 49 [.int .i64 x1.fKind, .int .i64 x1.fMember, p1_0, p1_1]] := HM.call hn
  refine ox rfl rfl rfl rfl (ex_assign rfl rfl) ?_
  refine ops_nil (at_then (run_seq ?_))
  refine run_seq ?_
  refine run_region rfl ?_
  refine ox rfl rfl rfl rfl (ex_move rfl rfl) ?_
  refine ox rfl rfl rfl rfl (ex_lss rfl rfl rfl) ?_
  refine ops_nil (at_then ?_)
  refine run_cond (b := (decide (t5544 < 0))) rfl (fun hb5548 => ?_) (fun hb5548 => ?_)
  · replace H := cond_t hb5548 H
    refine run_seq ?_
    refine run_region rfl ?_
    refine ox rfl rfl rfl rfl (ex_assign rfl rfl) ?_
    refine ops_nil (at_then ?_)
    refine run_ret ?_
    refine at_then_ret ?_
    replace HM := (HM.front 0 rfl rfl).drop
    have hR := Option.some.inj H
    subst hR
    exact at_ret1 rfl rfl ⟨_, rfl, rfl, HM⟩
  · replace H := cond_f hb5548 H
    refine run_skip ?_
    refine at_then ?_
    refine run_seq ?_
    obtain ⟨t5549, h5550, H⟩ := bind_some H
    refine run_region rfl ?_
    refine ox rfl rfl rfl rfl (ex_loadN (cs := [(.int .i64 x1.fKind), (.int .i64 x1.fMember), p1_0, p1_1]) rfl rfl Try.underlying49 rfl tsz49 rfl ((HM.box_at 0 rfl).sub 0 4 rfl)) ?_
    refine ox rfl rfl rfl rfl (ex_move rfl rfl) ?_
    refine od rfl rfl rfl rfl (does_callk rfl callok16 rfl (laws_szTx.calls (x0 := x1) (x1 := t5544) (HM.rd hp1_0) (HM.rd hp1_1) h5550)) ?_
    rintro _ w5551 ⟨rfl, hn⟩
    replace HM : Mem w [] w5551 [box b5540 49 [.int .i64 x1.fKind, .int .i64 x1.fMember, p1_0, p1_1]] := HM.call hn
    refine ox rfl rfl rfl rfl (ex_assign rfl rfl) ?_
    refine ops_nil (at_then (run_seq ?_))
    refine run_seq ?_
    refine run_region rfl ?_
    refine ox rfl rfl rfl rfl (ex_move rfl rfl) ?_
    refine ox rfl rfl rfl rfl (ex_lss rfl rfl rfl) ?_
    refine ops_nil (at_then ?_)
    refine run_cond (b := (decide (t5549 < 0))) rfl (fun hb5553 => ?_) (fun hb5553 => ?_)
    · replace H := cond_t hb5553 H
      refine run_seq ?_
      refine run_region rfl ?_
      refine ox rfl rfl rfl rfl (ex_assign rfl rfl) ?_
      refine ops_nil (at_then ?_)
      refine run_ret ?_
      refine at_then_ret ?_
      replace HM := (HM.front 0 rfl rfl).drop
      have hR := Option.some.inj H
      subst hR
      exact at_ret1 rfl rfl ⟨_, rfl, rfl, HM⟩
    · replace H := cond_f hb5553 H
      refine run_skip ?_
      refine at_then ?_
      refine run_seq ?_
      obtain ⟨t5554, h5555, H⟩ := bind_some H
      obtain ⟨t5558, h5559, H⟩ := bind_some H
      obtain ⟨t5564, h5565, H⟩ := bind_some H
      refine run_meet (fun ρ_ w_ => ∃ u5566 : Value, ∃ b5568 : Nat, ρ_ = [(0, p0), (2, .int .i64 x2), (4, .pointer (some ⟨b5540, 0, none⟩)), (8, .pointer (some ⟨b5568, 0, none⟩))] ∧ Mem w [] w_ [box b5540 49 [.int .i64 x1.fKind, .int .i64 x1.fMember, p1_0, p1_1], box b5568 32 [.int .i64 t5564.fCode, u5566], own kMember 38 u5566 t5564.fMembers]) ?_ ?_
      · skip
        refine run_draw (fun w_ => Mem w [] w_ [box b5540 49 [.int .i64 x1.fKind, .int .i64 x1.fMember, p1_0, p1_1]]) mixed rfl (l := #[false, false, false, false, false, false, false, false]) rfl ?_
        replace HM := HM.grow (fr_drew _)
        have hS := Mem.suf (M := []) HM
        refine drw_cut2 (l' := #[true, true, true, false, true, false, true, false]) (f' := 3) (fun (u5556 : Value) => fun (b5568 : Nat) => [(0, p0), (2, .int .i64 x2), (4, .pointer (some ⟨b5540, 0, none⟩)), (28, .agg #[(.int .i64 x1.fKind), (.int .i64 x1.fMember), p1_0, p1_1]), (30, .int .i64 x2), (27, u5556), (8, .pointer (some ⟨b5568, 0, none⟩))]) (fun (u5556 : Value) => fun (b5568 : Nat) => fun w_ => Mem w [] w_ [box b5568 32 [.int .i64 0, .slice none 0 0], own kMember 38 u5556 t5554, box b5540 49 [.int .i64 x1.fKind, .int .i64 x1.fMember, p1_0, p1_1]]) ?_ (fun K5582 => ?_)
        · rintro u5556 b5568 w5583 HM
          replace HM : Mem w [] w5583 [box b5568 32 [.int .i64 0, .slice none 0 0], own kMember 38 u5556 t5554, box b5540 49 [.int .i64 x1.fKind, .int .i64 x1.fMember, p1_0, p1_1]] := HM
          have hS := Mem.suf (M := [box b5568 32 [.int .i64 0, .slice none 0 0], own kMember 38 u5556 t5554]) HM
          refine drw_any [3] (by kernel_rfl) rfl (.cons ?_ .nil)
          refine br_does (l' := #[true, true, true, true, true, false, true, false]) rfl (guard_none rfl) rfl rfl (by kernel_rfl) (does_callk rfl callok18 rfl (laws_toTx.calls (x0 := x1) (HM.rd hp1_0) (HM.rd hp1_1) h5559)) ?_
          rintro _ w5584 ⟨u5560, u5562, rfl, hn⟩
          replace HM : Mem w [] w5584 [own kRef 36 u5560 t5558.fIns, own kOut 69 u5562 t5558.fOuts, box b5568 32 [.int .i64 0, .slice none 0 0], own kMember 38 u5556 t5554, box b5540 49 [.int .i64 x1.fKind, .int .i64 x1.fMember, p1_0, p1_1]] := HM.call hn
          have hS := Mem.suf (M := [own kRef 36 u5560 t5558.fIns, own kOut 69 u5562 t5558.fOuts, box b5568 32 [.int .i64 0, .slice none 0 0], own kMember 38 u5556 t5554]) HM
          refine ⟨hS, ?_⟩
          refine drw_any [5] (by kernel_rfl) rfl (.cons ?_ .nil)
          refine br_does (l' := #[true, true, true, true, true, true, true, false]) rfl (guard_none rfl) rfl rfl (by kernel_rfl) (does_callk rfl callok10 rfl (spec_TakeMembers.calls (x0 := t5554) (x1 := t5558) (x2 := x2) (HM.own_rd 3 rfl) (HM.own_rd 0 rfl) (HM.own_rd 1 rfl) h5565)) ?_
          rintro _ w5585 ⟨u5566, rfl, hn⟩
          replace HM : Mem w [] w5585 [own kMember 38 u5566 t5564.fMembers, own kRef 36 u5560 t5558.fIns, own kOut 69 u5562 t5558.fOuts, box b5568 32 [.int .i64 0, .slice none 0 0], own kMember 38 u5556 t5554, box b5540 49 [.int .i64 x1.fKind, .int .i64 x1.fMember, p1_0, p1_1]] := HM.call hn
          have hS := Mem.suf (M := [own kMember 38 u5566 t5564.fMembers, own kRef 36 u5560 t5558.fIns, own kOut 69 u5562 t5558.fOuts, box b5568 32 [.int .i64 0, .slice none 0 0], own kMember 38 u5556 t5554]) HM
          refine ⟨hS, ?_⟩
          replace HM := HM.front 3 rfl rfl
          refine drw_any [7] (by kernel_rfl) rfl (.cons ?_ .nil)
          refine br_doesS (l' := #[true, true, true, true, true, true, true, true]) rfl (guard_none rfl) rfl (by kernel_rfl) (does_store (vs := [.int .i64 t5564.fCode, u5566]) (cs' := [.int .i64 t5564.fCode, u5566]) rfl rfl rfl rfl tsz32 (Ones.int (Ones.rd (HM.own_rd 1 rfl) Ones.nil)) rfl rfl HM) ?_
          rintro w5586 HM
          have hS := Mem.suf (M := [box b5568 32 [.int .i64 t5564.fCode, u5566], own kMember 38 u5566 t5564.fMembers, own kRef 36 u5560 t5558.fIns, own kOut 69 u5562 t5558.fOuts, own kMember 38 u5556 t5554]) HM
          refine ⟨hS, ?_⟩
          refine drw_done (by kernel_rfl) ?_
          replace HM := (HM.front 2 rfl rfl).drop
          replace HM := (HM.front 2 rfl rfl).drop
          replace HM := (HM.front 2 rfl rfl).drop
          replace HM := HM.front 1 rfl rfl
          replace HM := HM.front 1 rfl rfl
          replace HM := HM.front 2 rfl rfl
          exact at_meet [(0, p0), (2, .int .i64 x2), (4, .pointer (some ⟨b5540, 0, none⟩)), (8, .pointer (some ⟨b5568, 0, none⟩))] ⟨_, _, rfl, HM⟩ (Sub.cons rfl (Sub.cons rfl (Sub.cons rfl (Sub.cons rfl Sub.nil))))
        refine dt 0 #[true, false, false, false, false, false, false, false] rfl rfl rfl rfl (by kernel_rfl) (ex_move rfl rfl) hS ?_
        refine drw_take (i := 2) (l' := #[true, false, true, false, false, false, false, false]) rfl (guard_none rfl) rfl rfl (by kernel_rfl) (fun w_ hS_ => (ex_loadN (cs := [(.int .i64 x1.fKind), (.int .i64 x1.fMember), p1_0, p1_1]) rfl rfl Try.underlying49 rfl tsz49 rfl ((hS_.box_at 0 rfl).sub 0 4 rfl))) hS ?_
        refine dt 4 #[true, false, true, false, true, false, false, false] rfl rfl rfl rfl (by kernel_rfl) (ex_move rfl rfl) hS ?_
        refine drw_any [1, 6] (by kernel_rfl) rfl (.cons ?_ (.cons ?_ .nil))
        · skip
          refine br_does (l' := #[true, true, true, false, true, false, false, false]) rfl (guard_none rfl) rfl rfl (by kernel_rfl) (does_callk rfl callok17 rfl (laws_toMemberS.calls (x0 := x0) (HM.rd hp0) h5555)) ?_
          rintro u5556 w5587 ⟨_, rfl, hn⟩
          replace HM : Mem w [] w5587 [own kMember 38 u5556 t5554, box b5540 49 [.int .i64 x1.fKind, .int .i64 x1.fMember, p1_0, p1_1]] := HM.call hn
          have hS := Mem.suf (M := [own kMember 38 u5556 t5554]) HM
          refine ⟨hS, ?_⟩
          refine drw_any [3, 6] (by kernel_rfl) rfl (.cons ?_ (.cons ?_ .nil))
          · skip
            refine br_does (l' := #[true, true, true, true, true, false, false, false]) rfl (guard_none rfl) rfl rfl (by kernel_rfl) (does_callk rfl callok18 rfl (laws_toTx.calls (x0 := x1) (HM.rd hp1_0) (HM.rd hp1_1) h5559)) ?_
            rintro _ w5588 ⟨u5560, u5562, rfl, hn⟩
            replace HM : Mem w [] w5588 [own kRef 36 u5560 t5558.fIns, own kOut 69 u5562 t5558.fOuts, own kMember 38 u5556 t5554, box b5540 49 [.int .i64 x1.fKind, .int .i64 x1.fMember, p1_0, p1_1]] := HM.call hn
            have hS := Mem.suf (M := [own kRef 36 u5560 t5558.fIns, own kOut 69 u5562 t5558.fOuts, own kMember 38 u5556 t5554]) HM
            refine ⟨hS, ?_⟩
            refine drw_any [5, 6] (by kernel_rfl) rfl (.cons ?_ (.cons ?_ .nil))
            · skip
              refine br_does (l' := #[true, true, true, true, true, true, false, false]) rfl (guard_none rfl) rfl rfl (by kernel_rfl) (does_callk rfl callok10 rfl (spec_TakeMembers.calls (x0 := t5554) (x1 := t5558) (x2 := x2) (HM.own_rd 2 rfl) (HM.own_rd 0 rfl) (HM.own_rd 1 rfl) h5565)) ?_
              rintro _ w5589 ⟨u5566, rfl, hn⟩
              replace HM : Mem w [] w5589 [own kMember 38 u5566 t5564.fMembers, own kRef 36 u5560 t5558.fIns, own kOut 69 u5562 t5558.fOuts, own kMember 38 u5556 t5554, box b5540 49 [.int .i64 x1.fKind, .int .i64 x1.fMember, p1_0, p1_1]] := HM.call hn
              have hS := Mem.suf (M := [own kMember 38 u5566 t5564.fMembers, own kRef 36 u5560 t5558.fIns, own kOut 69 u5562 t5558.fOuts, own kMember 38 u5556 t5554]) HM
              refine ⟨hS, ?_⟩
              refine drw_any [6] (by kernel_rfl) rfl (.cons ?_ .nil)
              refine br_does (l' := #[true, true, true, true, true, true, true, false]) rfl (guard_none rfl) rfl rfl (by kernel_rfl) (does_alloc (cs := [.int .i64 0, .slice none 0 0]) rfl tz32 rfl HM) ?_
              rintro _ w5590 ⟨b5568, rfl, HM⟩
              have hS := Mem.suf (M := [box b5568 32 [.int .i64 0, .slice none 0 0], own kMember 38 u5566 t5564.fMembers, own kRef 36 u5560 t5558.fIns, own kOut 69 u5562 t5558.fOuts, own kMember 38 u5556 t5554]) HM
              refine ⟨hS, ?_⟩
              refine drw_any [7] (by kernel_rfl) rfl (.cons ?_ .nil)
              refine br_doesS (l' := #[true, true, true, true, true, true, true, true]) rfl (guard_none rfl) rfl (by kernel_rfl) (does_store (vs := [.int .i64 t5564.fCode, u5566]) (cs' := [.int .i64 t5564.fCode, u5566]) rfl rfl rfl rfl tsz32 (Ones.int (Ones.rd (HM.own_rd 1 rfl) Ones.nil)) rfl rfl HM) ?_
              rintro w5591 HM
              have hS := Mem.suf (M := [box b5568 32 [.int .i64 t5564.fCode, u5566], own kMember 38 u5566 t5564.fMembers, own kRef 36 u5560 t5558.fIns, own kOut 69 u5562 t5558.fOuts, own kMember 38 u5556 t5554]) HM
              refine ⟨hS, ?_⟩
              refine drw_done (by kernel_rfl) ?_
              replace HM := (HM.front 2 rfl rfl).drop
              replace HM := (HM.front 2 rfl rfl).drop
              replace HM := (HM.front 2 rfl rfl).drop
              replace HM := HM.front 1 rfl rfl
              replace HM := HM.front 1 rfl rfl
              replace HM := HM.front 2 rfl rfl
              exact at_meet [(0, p0), (2, .int .i64 x2), (4, .pointer (some ⟨b5540, 0, none⟩)), (8, .pointer (some ⟨b5568, 0, none⟩))] ⟨_, _, rfl, HM⟩ (Sub.cons rfl (Sub.cons rfl (Sub.cons rfl (Sub.cons rfl Sub.nil))))
            · skip
              refine br_does (l' := #[true, true, true, true, true, false, true, false]) rfl (guard_none rfl) rfl rfl (by kernel_rfl) (does_alloc (cs := [.int .i64 0, .slice none 0 0]) rfl tz32 rfl HM) ?_
              rintro _ w5592 ⟨b5568, rfl, HM⟩
              have hS := Mem.suf (M := [box b5568 32 [.int .i64 0, .slice none 0 0], own kRef 36 u5560 t5558.fIns, own kOut 69 u5562 t5558.fOuts, own kMember 38 u5556 t5554]) HM
              refine ⟨hS, ?_⟩
              refine drw_any [5] (by kernel_rfl) rfl (.cons ?_ .nil)
              refine br_does (l' := #[true, true, true, true, true, true, true, false]) rfl (guard_none rfl) rfl rfl (by kernel_rfl) (does_callk rfl callok10 rfl (spec_TakeMembers.calls (x0 := t5554) (x1 := t5558) (x2 := x2) (HM.own_rd 3 rfl) (HM.own_rd 1 rfl) (HM.own_rd 2 rfl) h5565)) ?_
              rintro _ w5593 ⟨u5566, rfl, hn⟩
              replace HM : Mem w [] w5593 [own kMember 38 u5566 t5564.fMembers, box b5568 32 [.int .i64 0, .slice none 0 0], own kRef 36 u5560 t5558.fIns, own kOut 69 u5562 t5558.fOuts, own kMember 38 u5556 t5554, box b5540 49 [.int .i64 x1.fKind, .int .i64 x1.fMember, p1_0, p1_1]] := HM.call hn
              have hS := Mem.suf (M := [own kMember 38 u5566 t5564.fMembers, box b5568 32 [.int .i64 0, .slice none 0 0], own kRef 36 u5560 t5558.fIns, own kOut 69 u5562 t5558.fOuts, own kMember 38 u5556 t5554]) HM
              refine ⟨hS, ?_⟩
              replace HM := HM.front 1 rfl rfl
              refine drw_any [7] (by kernel_rfl) rfl (.cons ?_ .nil)
              refine br_doesS (l' := #[true, true, true, true, true, true, true, true]) rfl (guard_none rfl) rfl (by kernel_rfl) (does_store (vs := [.int .i64 t5564.fCode, u5566]) (cs' := [.int .i64 t5564.fCode, u5566]) rfl rfl rfl rfl tsz32 (Ones.int (Ones.rd (HM.own_rd 1 rfl) Ones.nil)) rfl rfl HM) ?_
              rintro w5594 HM
              have hS := Mem.suf (M := [box b5568 32 [.int .i64 t5564.fCode, u5566], own kMember 38 u5566 t5564.fMembers, own kRef 36 u5560 t5558.fIns, own kOut 69 u5562 t5558.fOuts, own kMember 38 u5556 t5554]) HM
              refine ⟨hS, ?_⟩
              refine drw_done (by kernel_rfl) ?_
              replace HM := (HM.front 2 rfl rfl).drop
              replace HM := (HM.front 2 rfl rfl).drop
              replace HM := (HM.front 2 rfl rfl).drop
              replace HM := HM.front 1 rfl rfl
              replace HM := HM.front 1 rfl rfl
              replace HM := HM.front 2 rfl rfl
              exact at_meet [(0, p0), (2, .int .i64 x2), (4, .pointer (some ⟨b5540, 0, none⟩)), (8, .pointer (some ⟨b5568, 0, none⟩))] ⟨_, _, rfl, HM⟩ (Sub.cons rfl (Sub.cons rfl (Sub.cons rfl (Sub.cons rfl Sub.nil))))
          · skip
            refine br_does (l' := #[true, true, true, false, true, false, true, false]) rfl (guard_none rfl) rfl rfl (by kernel_rfl) (does_alloc (cs := [.int .i64 0, .slice none 0 0]) rfl tz32 rfl HM) ?_
            rintro _ w5595 ⟨b5568, rfl, HM⟩
            have hS := Mem.suf (M := [box b5568 32 [.int .i64 0, .slice none 0 0], own kMember 38 u5556 t5554]) HM
            refine ⟨hS, ?_⟩
            exact drw_sub (K5582 u5556 b5568 _ HM) (Sub.cons rfl (Sub.cons rfl (Sub.cons rfl (Sub.cons rfl (Sub.cons rfl (Sub.cons rfl (Sub.cons rfl Sub.nil)))))))
        · skip
          refine br_does (l' := #[true, false, true, false, true, false, true, false]) rfl (guard_none rfl) rfl rfl (by kernel_rfl) (does_alloc (cs := [.int .i64 0, .slice none 0 0]) rfl tz32 rfl HM) ?_
          rintro _ w5596 ⟨b5568, rfl, HM⟩
          have hS := Mem.suf (M := [box b5568 32 [.int .i64 0, .slice none 0 0]]) HM
          refine ⟨hS, ?_⟩
          refine drw_any [1] (by kernel_rfl) rfl (.cons ?_ .nil)
          refine br_does (l' := #[true, true, true, false, true, false, true, false]) rfl (guard_none rfl) rfl rfl (by kernel_rfl) (does_callk rfl callok17 rfl (laws_toMemberS.calls (x0 := x0) (HM.rd hp0) h5555)) ?_
          rintro u5556 w5597 ⟨_, rfl, hn⟩
          replace HM : Mem w [] w5597 [own kMember 38 u5556 t5554, box b5568 32 [.int .i64 0, .slice none 0 0], box b5540 49 [.int .i64 x1.fKind, .int .i64 x1.fMember, p1_0, p1_1]] := HM.call hn
          have hS := Mem.suf (M := [own kMember 38 u5556 t5554, box b5568 32 [.int .i64 0, .slice none 0 0]]) HM
          refine ⟨hS, ?_⟩
          replace HM := HM.front 2 rfl rfl
          replace HM := HM.front 1 rfl rfl
          replace HM := HM.front 2 rfl rfl
          exact drw_sub (K5582 u5556 b5568 _ HM) (Sub.cons rfl (Sub.cons rfl (Sub.cons rfl (Sub.cons rfl (Sub.cons rfl (Sub.cons rfl (Sub.cons rfl Sub.nil)))))))
      · rintro _ w5598 ⟨u5566, b5568, rfl, HM⟩
        refine at_then ?_
        refine run_seq ?_
        obtain ⟨t5599, h5600, H⟩ := bind_some H
        refine run_region rfl ?_
        refine ox rfl rfl rfl rfl (ex_move rfl rfl) ?_
        refine od rfl rfl rfl rfl (does_callk rfl callok17 rfl (laws_toMemberS.calls (x0 := x0) (HM.rd hp0) h5600)) ?_
        rintro u5601 w5603 ⟨_, rfl, hn⟩
        replace HM : Mem w [] w5603 [own kMember 38 u5601 t5599, box b5540 49 [.int .i64 x1.fKind, .int .i64 x1.fMember, p1_0, p1_1], box b5568 32 [.int .i64 t5564.fCode, u5566], own kMember 38 u5566 t5564.fMembers] := HM.call hn
        refine ox rfl rfl rfl rfl (ex_assign rfl rfl) ?_
        refine ops_nil (at_then (run_seq ?_))
        obtain ⟨t5604, h5605, H⟩ := bind_some H
        refine run_region rfl ?_
        refine ox rfl rfl rfl rfl (ex_loadN (cs := [(.int .i64 x1.fKind), (.int .i64 x1.fMember), p1_0, p1_1]) rfl rfl Try.underlying49 rfl tsz49 rfl ((HM.box_at 1 rfl).sub 0 4 rfl)) ?_
        refine od rfl rfl rfl rfl (does_callk rfl callok18 rfl (laws_toTx.calls (x0 := x1) (HM.rd hp1_0) (HM.rd hp1_1) h5605)) ?_
        rintro _ w5613 ⟨u5606, u5608, rfl, hn⟩
        replace HM : Mem w [] w5613 [own kRef 36 u5606 t5604.fIns, own kOut 69 u5608 t5604.fOuts, own kMember 38 u5601 t5599, box b5540 49 [.int .i64 x1.fKind, .int .i64 x1.fMember, p1_0, p1_1], box b5568 32 [.int .i64 t5564.fCode, u5566], own kMember 38 u5566 t5564.fMembers] := HM.call hn
        refine od rfl rfl rfl rfl (does_alloc (cs := [.int .i64 0, .int .i64 0, .slice none 0 0, .slice none 0 0]) rfl tz28 rfl HM) ?_
        rintro _ w5614 ⟨b5610, rfl, HM⟩
        refine odS rfl rfl rfl (does_store (vs := [.int .i64 t5604.fKind, .int .i64 t5604.fMember, u5606, u5608]) (cs' := [.int .i64 t5604.fKind, .int .i64 t5604.fMember, u5606, u5608]) rfl rfl rfl rfl tsz28 (Ones.int (Ones.int (Ones.rd (HM.own_rd 1 rfl) (Ones.rd (HM.own_rd 2 rfl) Ones.nil)))) rfl rfl HM) ?_
        rintro w5615 HM
        refine ops_nil (at_then (run_seq ?_))
        obtain ⟨t5616, h5617, H⟩ := bind_some H
        refine run_region rfl ?_
        refine ox rfl rfl rfl rfl (ex_move rfl rfl) ?_
        refine ox rfl rfl rfl rfl (ex_loadN (cs := [(.int .i64 t5604.fKind), (.int .i64 t5604.fMember), u5606, u5608]) rfl rfl Try.underlying28 rfl tsz28 rfl ((HM.box_at 0 rfl).sub 0 4 rfl)) ?_
        refine ox rfl rfl rfl rfl (ex_move rfl rfl) ?_
        refine od rfl rfl rfl rfl (does_callk rfl callok9 rfl (impl_TakeMembers.calls (x0 := t5599) (x1 := t5604) (x2 := x2) (HM.own_rd 3 rfl) (HM.own_rd 1 rfl) (HM.own_rd 2 rfl) h5617)) ?_
        rintro _ w5623 ⟨u5618, rfl, hn⟩
        replace HM : Mem w [] w5623 [own kMember 38 u5618 t5616.fMembers, box b5610 28 [.int .i64 t5604.fKind, .int .i64 t5604.fMember, u5606, u5608], own kRef 36 u5606 t5604.fIns, own kOut 69 u5608 t5604.fOuts, own kMember 38 u5601 t5599, box b5540 49 [.int .i64 x1.fKind, .int .i64 x1.fMember, p1_0, p1_1], box b5568 32 [.int .i64 t5564.fCode, u5566], own kMember 38 u5566 t5564.fMembers] := HM.call hn
        refine od rfl rfl rfl rfl (does_alloc (cs := [.int .i64 0, .slice none 0 0]) rfl tz32 rfl HM) ?_
        rintro _ w5624 ⟨b5620, rfl, HM⟩
        refine odS rfl rfl rfl (does_store (vs := [.int .i64 t5616.fCode, u5618]) (cs' := [.int .i64 t5616.fCode, u5618]) rfl rfl rfl rfl tsz32 (Ones.int (Ones.rd (HM.own_rd 1 rfl) Ones.nil)) rfl rfl HM) ?_
        rintro w5625 HM
        refine ops_nil (at_then (run_seq ?_))
        refine run_seq ?_
        obtain ⟨t5629, h5630, H⟩ := bind_some H
        refine run_region rfl ?_
        refine ox rfl rfl rfl rfl (ex_loadN (cs := [(.int .i64 t5616.fCode), u5618]) rfl rfl Try.underlying32 rfl tsz32 rfl ((HM.box_at 0 rfl).sub 0 2 rfl)) ?_
        refine ox rfl rfl rfl rfl (ex_loadN (cs := [(.int .i64 t5564.fCode), u5566]) rfl rfl Try.underlying32 rfl tsz32 rfl ((HM.box_at 7 rfl).sub 0 2 rfl)) ?_
        refine od rfl rfl rfl rfl (does_callk rfl callok19 rfl (laws_eqMembersResult.calls (x0 := t5616) (x1 := t5564) (HM.own_rd 1 rfl) (HM.own_rd 8 rfl) h5630)) ?_
        rintro _ w5631 ⟨rfl, hn⟩
        replace HM : Mem w [] w5631 [box b5620 32 [.int .i64 t5616.fCode, u5618], own kMember 38 u5618 t5616.fMembers, box b5610 28 [.int .i64 t5604.fKind, .int .i64 t5604.fMember, u5606, u5608], own kRef 36 u5606 t5604.fIns, own kOut 69 u5608 t5604.fOuts, own kMember 38 u5601 t5599, box b5540 49 [.int .i64 x1.fKind, .int .i64 x1.fMember, p1_0, p1_1], box b5568 32 [.int .i64 t5564.fCode, u5566], own kMember 38 u5566 t5564.fMembers] := HM.call hn
        refine ox rfl rfl rfl rfl (ex_not rfl rfl) ?_
        refine ops_nil (at_then ?_)
        refine run_cond (b := !t5629) rfl (fun hb5632 => ?_) (fun hb5632 => ?_)
        · replace H := cond_t hb5632 H
          refine run_seq ?_
          refine run_region rfl ?_
          refine ox rfl rfl rfl rfl (ex_assign rfl rfl) ?_
          refine ops_nil (at_then ?_)
          refine run_ret ?_
          refine at_then_ret ?_
          replace HM := (HM.front 0 rfl rfl).drop
          replace HM := (HM.front 0 rfl rfl).drop
          replace HM := (HM.front 0 rfl rfl).drop
          replace HM := (HM.front 0 rfl rfl).drop
          replace HM := (HM.front 0 rfl rfl).drop
          replace HM := (HM.front 0 rfl rfl).drop
          replace HM := (HM.front 0 rfl rfl).drop
          replace HM := (HM.front 0 rfl rfl).drop
          replace HM := (HM.front 0 rfl rfl).drop
          have hR := Option.some.inj H
          subst hR
          exact at_ret1 rfl rfl ⟨_, rfl, rfl, HM⟩
        · replace H := cond_f hb5632 H
          refine run_skip ?_
          refine at_then ?_
          refine run_seq ?_
          refine run_seq ?_
          obtain ⟨t5640, h5641, H⟩ := bind_some H
          obtain ⟨t5644, h5645, H⟩ := bind_some H
          refine run_region rfl ?_
          refine ox rfl rfl rfl rfl (ex_move rfl rfl) ?_
          refine ox rfl rfl rfl rfl (ex_move rfl rfl) ?_
          refine od rfl rfl rfl rfl (does_callk rfl callok17 rfl (laws_toMemberS.calls (x0 := x0) (HM.rd hp0) h5641)) ?_
          rintro u5642 w5646 ⟨_, rfl, hn⟩
          replace HM : Mem w [] w5646 [own kMember 38 u5642 t5640, box b5620 32 [.int .i64 t5616.fCode, u5618], own kMember 38 u5618 t5616.fMembers, box b5610 28 [.int .i64 t5604.fKind, .int .i64 t5604.fMember, u5606, u5608], own kRef 36 u5606 t5604.fIns, own kOut 69 u5608 t5604.fOuts, own kMember 38 u5601 t5599, box b5540 49 [.int .i64 x1.fKind, .int .i64 x1.fMember, p1_0, p1_1], box b5568 32 [.int .i64 t5564.fCode, u5566], own kMember 38 u5566 t5564.fMembers] := HM.call hn
          refine od rfl rfl rfl rfl (does_callk rfl callok20 rfl (laws_eqMemberS.calls (x0 := t5599) (x1 := t5640) (HM.own_rd 6 rfl) (HM.own_rd 0 rfl) h5645)) ?_
          rintro _ w5647 ⟨rfl, hn⟩
          replace HM : Mem w [] w5647 [own kMember 38 u5642 t5640, box b5620 32 [.int .i64 t5616.fCode, u5618], own kMember 38 u5618 t5616.fMembers, box b5610 28 [.int .i64 t5604.fKind, .int .i64 t5604.fMember, u5606, u5608], own kRef 36 u5606 t5604.fIns, own kOut 69 u5608 t5604.fOuts, own kMember 38 u5601 t5599, box b5540 49 [.int .i64 x1.fKind, .int .i64 x1.fMember, p1_0, p1_1], box b5568 32 [.int .i64 t5564.fCode, u5566], own kMember 38 u5566 t5564.fMembers] := HM.call hn
          refine ox rfl rfl rfl rfl (ex_not rfl rfl) ?_
          refine ops_nil (at_then ?_)
          refine run_cond (b := !t5644) rfl (fun hb5648 => ?_) (fun hb5648 => ?_)
          · replace H := cond_t hb5648 H
            refine run_seq ?_
            refine run_region rfl ?_
            refine ox rfl rfl rfl rfl (ex_assign rfl rfl) ?_
            refine ops_nil (at_then ?_)
            refine run_ret ?_
            refine at_then_ret ?_
            replace HM := (HM.front 0 rfl rfl).drop
            replace HM := (HM.front 0 rfl rfl).drop
            replace HM := (HM.front 0 rfl rfl).drop
            replace HM := (HM.front 0 rfl rfl).drop
            replace HM := (HM.front 0 rfl rfl).drop
            replace HM := (HM.front 0 rfl rfl).drop
            replace HM := (HM.front 0 rfl rfl).drop
            replace HM := (HM.front 0 rfl rfl).drop
            replace HM := (HM.front 0 rfl rfl).drop
            replace HM := (HM.front 0 rfl rfl).drop
            have hR := Option.some.inj H
            subst hR
            exact at_ret1 rfl rfl ⟨_, rfl, rfl, HM⟩
          · replace H := cond_f hb5648 H
            refine run_skip ?_
            refine at_then ?_
            refine run_seq ?_
            refine run_seq ?_
            obtain ⟨t5658, h5659, H⟩ := bind_some H
            obtain ⟨t5664, h5665, H⟩ := bind_some H
            refine run_drawf (fun w_ => Mem w [] w_ [own kMember 38 u5642 t5640, box b5620 32 [.int .i64 t5616.fCode, u5618], own kMember 38 u5618 t5616.fMembers, box b5610 28 [.int .i64 t5604.fKind, .int .i64 t5604.fMember, u5606, u5608], own kRef 36 u5606 t5604.fIns, own kOut 69 u5608 t5604.fOuts, own kMember 38 u5601 t5599, box b5540 49 [.int .i64 x1.fKind, .int .i64 x1.fMember, p1_0, p1_1], box b5568 32 [.int .i64 t5564.fCode, u5566], own kMember 38 u5566 t5564.fMembers]) [(0, true), (1, true), (2, false), (3, false), (4, true)] mixed rfl rfl (by kernel_rfl) ?_
            replace HM := HM.grow (fr_drew _)
            have hS := Mem.suf (M := []) HM
            refine drwp_take rfl (guard_none rfl) rfl rfl (fun w_ hS_ => (ex_loadN (cs := [(.int .i64 t5604.fKind), (.int .i64 t5604.fMember), u5606, u5608]) rfl rfl Try.underlying28 rfl tsz28 rfl ((hS_.box_at 3 rfl).sub 0 4 rfl))) hS ?_
            refine drwp_take rfl (guard_none rfl) rfl rfl (fun w_ hS_ => (ex_loadN (cs := [(.int .i64 x1.fKind), (.int .i64 x1.fMember), p1_0, p1_1]) rfl rfl Try.underlying49 rfl tsz49 rfl ((hS_.box_at 7 rfl).sub 0 4 rfl))) hS ?_
            refine drwp_one rfl (guard_none rfl) rfl rfl (does_callk rfl callok18 rfl (laws_toTx.calls (x0 := x1) (HM.rd hp1_0) (HM.rd hp1_1) h5659)) ?_
            rintro _ w5666 ⟨u5660, u5662, rfl, hn⟩
            replace HM : Mem w [] w5666 [own kRef 36 u5660 t5658.fIns, own kOut 69 u5662 t5658.fOuts, own kMember 38 u5642 t5640, box b5620 32 [.int .i64 t5616.fCode, u5618], own kMember 38 u5618 t5616.fMembers, box b5610 28 [.int .i64 t5604.fKind, .int .i64 t5604.fMember, u5606, u5608], own kRef 36 u5606 t5604.fIns, own kOut 69 u5608 t5604.fOuts, own kMember 38 u5601 t5599, box b5540 49 [.int .i64 x1.fKind, .int .i64 x1.fMember, p1_0, p1_1], box b5568 32 [.int .i64 t5564.fCode, u5566], own kMember 38 u5566 t5564.fMembers] := HM.call hn
            have hS := Mem.suf (M := [own kRef 36 u5660 t5658.fIns, own kOut 69 u5662 t5658.fOuts]) HM
            refine ⟨hS, ?_⟩
            refine drwp_one rfl (guard_none rfl) rfl rfl (does_callk rfl callok21 rfl (laws_eqTx.calls (x0 := t5604) (x1 := t5658) (HM.own_rd 6 rfl) (HM.own_rd 7 rfl) (HM.own_rd 0 rfl) (HM.own_rd 1 rfl) h5665)) ?_
            rintro _ w5667 ⟨rfl, hn⟩
            replace HM : Mem w [] w5667 [own kRef 36 u5660 t5658.fIns, own kOut 69 u5662 t5658.fOuts, own kMember 38 u5642 t5640, box b5620 32 [.int .i64 t5616.fCode, u5618], own kMember 38 u5618 t5616.fMembers, box b5610 28 [.int .i64 t5604.fKind, .int .i64 t5604.fMember, u5606, u5608], own kRef 36 u5606 t5604.fIns, own kOut 69 u5608 t5604.fOuts, own kMember 38 u5601 t5599, box b5540 49 [.int .i64 x1.fKind, .int .i64 x1.fMember, p1_0, p1_1], box b5568 32 [.int .i64 t5564.fCode, u5566], own kMember 38 u5566 t5564.fMembers] := HM.call hn
            have hS := Mem.suf (M := [own kRef 36 u5660 t5658.fIns, own kOut 69 u5662 t5658.fOuts]) HM
            refine ⟨hS, ?_⟩
            refine dp rfl rfl rfl rfl (ex_not rfl rfl) hS ?_
            refine drwp_done ?_
            refine at_then ?_
            refine run_cond (b := !t5664) rfl (fun hb5668 => ?_) (fun hb5668 => ?_)
            · replace H := cond_t hb5668 H
              refine run_seq ?_
              refine run_region rfl ?_
              refine ox rfl rfl rfl rfl (ex_assign rfl rfl) ?_
              refine ops_nil (at_then ?_)
              refine run_ret ?_
              refine at_then_ret ?_
              replace HM := (HM.front 0 rfl rfl).drop
              replace HM := (HM.front 0 rfl rfl).drop
              replace HM := (HM.front 0 rfl rfl).drop
              replace HM := (HM.front 0 rfl rfl).drop
              replace HM := (HM.front 0 rfl rfl).drop
              replace HM := (HM.front 0 rfl rfl).drop
              replace HM := (HM.front 0 rfl rfl).drop
              replace HM := (HM.front 0 rfl rfl).drop
              replace HM := (HM.front 0 rfl rfl).drop
              replace HM := (HM.front 0 rfl rfl).drop
              replace HM := (HM.front 0 rfl rfl).drop
              replace HM := (HM.front 0 rfl rfl).drop
              have hR := Option.some.inj H
              subst hR
              exact at_ret1 rfl rfl ⟨_, rfl, rfl, HM⟩
            · replace H := cond_f hb5668 H
              refine run_skip ?_
              refine at_then ?_
              refine run_seq ?_
              refine run_region rfl ?_
              refine ox rfl rfl rfl rfl (ex_assign rfl rfl) ?_
              refine ops_nil (at_then (run_seq ?_))
              obtain ⟨t5669, h5670, H⟩ := bind_some H
              refine run_region rfl ?_
              refine ox rfl rfl rfl rfl (ex_move rfl rfl) ?_
              refine ox rfl rfl rfl rfl (ex_move rfl rfl) ?_
              replace HM := HM.front 8 rfl rfl
              obtain ⟨F5671, hF5672, hFn5673, hFl5674, HMh5675, hcl5676⟩ := HM.hide (Ms := [own kMember 38 u5601 t5599])
              refine od rfl rfl rfl rfl (does_callk rfl callok22 rfl (laws_markMemberS.calls (x0 := t5599) (x1 := 1) (hide_olds _ _) hF5672 hFn5673 hFl5674 h5670)) ?_
              rintro _ w5677 ⟨rfl, hn⟩
              replace HM : Mem w [] w5677 [own kMember 38 u5601 t5669.2, own kRef 36 u5660 t5658.fIns, own kOut 69 u5662 t5658.fOuts, own kMember 38 u5642 t5640, box b5620 32 [.int .i64 t5616.fCode, u5618], own kMember 38 u5618 t5616.fMembers, box b5610 28 [.int .i64 t5604.fKind, .int .i64 t5604.fMember, u5606, u5608], own kRef 36 u5606 t5604.fIns, own kOut 69 u5608 t5604.fOuts, box b5540 49 [.int .i64 x1.fKind, .int .i64 x1.fMember, p1_0, p1_1], box b5568 32 [.int .i64 t5564.fCode, u5566], own kMember 38 u5566 t5564.fMembers] := hcl5676 _ _ hn
              refine ox rfl rfl rfl rfl (ex_assign rfl rfl) ?_
              refine ops_nil (at_then (run_seq ?_))
              obtain ⟨t5678, h5679, H⟩ := bind_some H
              refine run_region rfl ?_
              refine ox rfl rfl rfl rfl (ex_loadN (cs := [(.int .i64 t5604.fKind), (.int .i64 t5604.fMember), u5606, u5608]) rfl rfl Try.underlying28 rfl tsz28 rfl ((HM.box_at 6 rfl).sub 0 4 rfl)) ?_
              refine ox rfl rfl rfl rfl (ex_move rfl rfl) ?_
              replace HM := HM.front 8 rfl rfl
              replace HM := HM.front 8 rfl rfl
              obtain ⟨F5680, hF5681, hFn5682, hFl5683, HMh5684, hcl5685⟩ := HM.hide (Ms := [own kRef 36 u5606 t5604.fIns, own kOut 69 u5608 t5604.fOuts])
              refine od rfl rfl rfl rfl (does_callk rfl callok23 rfl (laws_markTx.calls (x0 := t5604) (x1 := t5669.1) (hide_olds _ _) hF5681 hFn5682 hFl5683 h5679)) ?_
              rintro _ w5686 ⟨rfl, hn⟩
              replace HM : Mem w [] w5686 [own kRef 36 u5606 t5678.2.1, own kOut 69 u5608 t5678.2.2, own kMember 38 u5601 t5669.2, own kRef 36 u5660 t5658.fIns, own kOut 69 u5662 t5658.fOuts, own kMember 38 u5642 t5640, box b5620 32 [.int .i64 t5616.fCode, u5618], own kMember 38 u5618 t5616.fMembers, box b5610 28 [.int .i64 t5604.fKind, .int .i64 t5604.fMember, u5606, u5608], box b5540 49 [.int .i64 x1.fKind, .int .i64 x1.fMember, p1_0, p1_1], box b5568 32 [.int .i64 t5564.fCode, u5566], own kMember 38 u5566 t5564.fMembers] := hcl5685 _ _ hn
              refine ox rfl rfl rfl rfl (ex_assign rfl rfl) ?_
              refine ops_nil (at_then (run_seq ?_))
              refine run_seq ?_
              obtain ⟨t5690, h5691, H⟩ := bind_some H
              refine run_meet (fun ρ_ w_ => ρ_ = [(0, p0), (2, .int .i64 x2), (4, .pointer (some ⟨b5540, 0, none⟩)), (8, .pointer (some ⟨b5568, 0, none⟩)), (11, .pointer (some ⟨b5620, 0, none⟩)), (67, .bool ((decide (t5678.1 < 0)) || (!t5690)))] ∧ Mem w [] w_ [box b5540 49 [.int .i64 x1.fKind, .int .i64 x1.fMember, p1_0, p1_1], box b5568 32 [.int .i64 t5564.fCode, u5566], own kMember 38 u5566 t5564.fMembers, box b5620 32 [.int .i64 t5616.fCode, u5618], own kMember 38 u5618 t5616.fMembers]) ?_ ?_
              · skip
                refine run_region rfl ?_
                refine ox rfl rfl rfl rfl (ex_move rfl rfl) ?_
                refine ox rfl rfl rfl rfl (ex_lss rfl rfl rfl) ?_
                refine ox rfl rfl rfl rfl (ex_move rfl rfl) ?_
                refine bool_cases (decide (t5678.1 < 0)) (fun hg5692 => ?_) (fun hg5692 => ?_)
                · skip
                  refine ops_off rfl (guard_off rfl rfl rfl hg5692) rfl rfl ?_
                  refine ops_off rfl (guard_off rfl rfl rfl hg5692) rfl rfl ?_
                  refine ops_off rfl (guard_off rfl rfl rfl hg5692) rfl rfl ?_
                  refine ops_off rfl (guard_off rfl rfl rfl hg5692) rfl rfl ?_
                  have hg5693 : ((decide (t5678.1 < 0)) || (!t5690)) = true := by simp only [hg5692, Bool.and_true, Bool.true_and, Bool.and_false, Bool.false_and, Bool.or_true, Bool.true_or, Bool.or_false, Bool.false_or, Bool.not_true, Bool.not_false, Bool.not_not]
                  refine ops_ex (v := .bool ((decide (t5678.1 < 0)) || (!t5690))) rfl (guard_none rfl) rfl rfl (ex_por_t rfl rfl hg5692) ?_
                  refine ops_nil ?_
                  replace HM := (HM.front 0 rfl rfl).drop
                  replace HM := (HM.front 0 rfl rfl).drop
                  replace HM := (HM.front 0 rfl rfl).drop
                  replace HM := (HM.front 0 rfl rfl).drop
                  replace HM := (HM.front 0 rfl rfl).drop
                  replace HM := (HM.front 0 rfl rfl).drop
                  replace HM := (HM.front 2 rfl rfl).drop
                  replace HM := HM.front 1 rfl rfl
                  replace HM := HM.front 1 rfl rfl
                  replace HM := HM.front 4 rfl rfl
                  replace HM := HM.front 4 rfl rfl
                  replace HM := HM.front 4 rfl rfl
                  exact at_meet [(0, p0), (2, .int .i64 x2), (4, .pointer (some ⟨b5540, 0, none⟩)), (8, .pointer (some ⟨b5568, 0, none⟩)), (11, .pointer (some ⟨b5620, 0, none⟩)), (67, .bool ((decide (t5678.1 < 0)) || (!t5690)))] ⟨rfl, HM⟩ (Sub.cons rfl (Sub.cons rfl (Sub.cons rfl (Sub.cons rfl (Sub.cons rfl (Sub.cons rfl Sub.nil))))))
                · skip
                  refine ops_ex rfl (guard_on rfl rfl rfl hg5692) rfl rfl (ex_loadN (cs := [(.int .i64 t5616.fCode), u5618]) rfl rfl Try.underlying32 rfl tsz32 rfl ((HM.box_at 6 rfl).sub 0 2 rfl)) ?_
                  refine ops_ex rfl (guard_on rfl rfl rfl hg5692) rfl rfl (ex_loadN (cs := [(.int .i64 t5564.fCode), u5566]) rfl rfl Try.underlying32 rfl tsz32 rfl ((HM.box_at 10 rfl).sub 0 2 rfl)) ?_
                  refine ops_does rfl (guard_on rfl rfl rfl hg5692) rfl rfl (does_callk rfl callok19 rfl (laws_eqMembersResult.calls (x0 := t5616) (x1 := t5564) (HM.own_rd 7 rfl) (HM.own_rd 11 rfl) (cond_t (not_mk hg5692) h5691))) ?_
                  rintro _ w5694 ⟨rfl, hn⟩
                  replace HM : Mem w [] w5694 [own kRef 36 u5606 t5678.2.1, own kOut 69 u5608 t5678.2.2, own kMember 38 u5601 t5669.2, own kRef 36 u5660 t5658.fIns, own kOut 69 u5662 t5658.fOuts, own kMember 38 u5642 t5640, box b5620 32 [.int .i64 t5616.fCode, u5618], own kMember 38 u5618 t5616.fMembers, box b5610 28 [.int .i64 t5604.fKind, .int .i64 t5604.fMember, u5606, u5608], box b5540 49 [.int .i64 x1.fKind, .int .i64 x1.fMember, p1_0, p1_1], box b5568 32 [.int .i64 t5564.fCode, u5566], own kMember 38 u5566 t5564.fMembers] := HM.call hn
                  refine ops_ex rfl (guard_on rfl rfl rfl hg5692) rfl rfl (ex_not rfl rfl) ?_
                  refine ops_ex (v := .bool ((decide (t5678.1 < 0)) || (!t5690))) rfl (guard_none rfl) rfl rfl (ex_por_f rfl rfl hg5692 rfl) ?_
                  refine ops_nil ?_
                  replace HM := (HM.front 0 rfl rfl).drop
                  replace HM := (HM.front 0 rfl rfl).drop
                  replace HM := (HM.front 0 rfl rfl).drop
                  replace HM := (HM.front 0 rfl rfl).drop
                  replace HM := (HM.front 0 rfl rfl).drop
                  replace HM := (HM.front 0 rfl rfl).drop
                  replace HM := (HM.front 2 rfl rfl).drop
                  replace HM := HM.front 1 rfl rfl
                  replace HM := HM.front 1 rfl rfl
                  replace HM := HM.front 4 rfl rfl
                  replace HM := HM.front 4 rfl rfl
                  replace HM := HM.front 4 rfl rfl
                  exact at_meet [(0, p0), (2, .int .i64 x2), (4, .pointer (some ⟨b5540, 0, none⟩)), (8, .pointer (some ⟨b5568, 0, none⟩)), (11, .pointer (some ⟨b5620, 0, none⟩)), (67, .bool ((decide (t5678.1 < 0)) || (!t5690)))] ⟨rfl, HM⟩ (Sub.cons rfl (Sub.cons rfl (Sub.cons rfl (Sub.cons rfl (Sub.cons rfl (Sub.cons rfl Sub.nil))))))
              · rintro _ w5695 ⟨rfl, HM⟩
                refine at_then ?_
                refine run_cond (b := ((decide (t5678.1 < 0)) || (!t5690))) rfl (fun hb5696 => ?_) (fun hb5696 => ?_)
                · replace H := cond_t hb5696 H
                  refine run_seq ?_
                  refine run_region rfl ?_
                  refine ox rfl rfl rfl rfl (ex_assign rfl rfl) ?_
                  refine ops_nil (at_then ?_)
                  refine run_ret ?_
                  refine at_then_ret ?_
                  replace HM := (HM.front 0 rfl rfl).drop
                  replace HM := (HM.front 0 rfl rfl).drop
                  replace HM := (HM.front 0 rfl rfl).drop
                  replace HM := (HM.front 0 rfl rfl).drop
                  replace HM := (HM.front 0 rfl rfl).drop
                  have hR := Option.some.inj H
                  subst hR
                  exact at_ret1 rfl rfl ⟨_, rfl, rfl, HM⟩
                · replace H := cond_f hb5696 H
                  refine run_skip ?_
                  refine at_then ?_
                  refine run_seq ?_
                  refine run_region rfl ?_
                  refine ox rfl rfl rfl rfl (ex_assign rfl rfl) ?_
                  refine ops_nil (at_then (run_seq ?_))
                  obtain ⟨t5697, h5698, H⟩ := bind_some H
                  refine run_region rfl ?_
                  refine ox rfl rfl rfl rfl (ex_loadN (cs := [(.int .i64 t5616.fCode), u5618]) rfl rfl Try.underlying32 rfl tsz32 rfl ((HM.box_at 3 rfl).sub 0 2 rfl)) ?_
                  refine ox rfl rfl rfl rfl (ex_move rfl rfl) ?_
                  replace HM := HM.front 4 rfl rfl
                  obtain ⟨F5699, hF5700, hFn5701, hFl5702, HMh5703, hcl5704⟩ := HM.hide (Ms := [own kMember 38 u5618 t5616.fMembers])
                  refine od rfl rfl rfl rfl (does_callk rfl callok24 rfl (laws_markMembersResult.calls (x0 := t5616) (x1 := 1) (hide_olds _ _) hF5700 hFn5701 hFl5702 h5698)) ?_
                  rintro _ w5705 ⟨rfl, hn⟩
                  replace HM : Mem w [] w5705 [own kMember 38 u5618 t5697.2, box b5540 49 [.int .i64 x1.fKind, .int .i64 x1.fMember, p1_0, p1_1], box b5568 32 [.int .i64 t5564.fCode, u5566], own kMember 38 u5566 t5564.fMembers, box b5620 32 [.int .i64 t5616.fCode, u5618]] := hcl5704 _ _ hn
                  refine ox rfl rfl rfl rfl (ex_assign rfl rfl) ?_
                  refine ops_nil (at_then (run_seq ?_))
                  refine run_region rfl ?_
                  refine ox rfl rfl rfl rfl (ex_assign rfl rfl) ?_
                  refine ops_nil (at_then (run_seq ?_))
                  obtain ⟨t5706, h5707, H⟩ := bind_some H
                  refine run_region rfl ?_
                  refine ox rfl rfl rfl rfl (ex_loadN (cs := [(.int .i64 t5616.fCode), u5618]) rfl rfl Try.underlying32 rfl tsz32 rfl ((HM.box_at 4 rfl).sub 0 2 rfl)) ?_
                  refine ox rfl rfl rfl rfl (ex_move rfl rfl) ?_
                  refine od rfl rfl rfl rfl (does_callk rfl callok25 rfl (laws_heldMembersResult.calls (x0 := (⟨t5616.fCode, t5697.2⟩ : MembersResult)) (x1 := 1) (HM.own_rd 0 rfl) h5707)) ?_
                  rintro _ w5708 ⟨rfl, hn⟩
                  replace HM : Mem w [] w5708 [own kMember 38 u5618 t5697.2, box b5540 49 [.int .i64 x1.fKind, .int .i64 x1.fMember, p1_0, p1_1], box b5568 32 [.int .i64 t5564.fCode, u5566], own kMember 38 u5566 t5564.fMembers, box b5620 32 [.int .i64 t5616.fCode, u5618]] := HM.call hn
                  refine ox rfl rfl rfl rfl (ex_assign rfl rfl) ?_
                  refine ops_nil (at_then (run_seq ?_))
                  refine run_seq ?_
                  refine run_region rfl ?_
                  refine ox rfl rfl rfl rfl (ex_move rfl rfl) ?_
                  refine ox rfl rfl rfl rfl (ex_lss rfl rfl rfl) ?_
                  refine ops_nil (at_then ?_)
                  refine run_cond (b := (decide (t5706 < 0))) rfl (fun hb5710 => ?_) (fun hb5710 => ?_)
                  · replace H := cond_t hb5710 H
                    refine run_seq ?_
                    refine run_region rfl ?_
                    refine ox rfl rfl rfl rfl (ex_assign rfl rfl) ?_
                    refine ops_nil (at_then ?_)
                    refine run_ret ?_
                    refine at_then_ret ?_
                    replace HM := (HM.front 0 rfl rfl).drop
                    replace HM := (HM.front 0 rfl rfl).drop
                    replace HM := (HM.front 0 rfl rfl).drop
                    replace HM := (HM.front 0 rfl rfl).drop
                    replace HM := (HM.front 0 rfl rfl).drop
                    have hR := Option.some.inj H
                    subst hR
                    exact at_ret1 rfl rfl ⟨_, rfl, rfl, HM⟩
                  · replace H := cond_f hb5710 H
                    refine run_skip ?_
                    refine at_then ?_
                    refine run_seq ?_
                    refine run_seq ?_
                    refine run_region rfl ?_
                    refine ox rfl rfl rfl rfl (ex_move rfl rfl) ?_
                    refine ox rfl rfl rfl rfl (ex_move rfl rfl) ?_
                    refine ox rfl rfl rfl rfl (ex_neq rfl rfl rfl) ?_
                    refine ops_nil (at_then ?_)
                    refine run_cond (b := (t5706 != t5697.1)) rfl (fun hb5712 => ?_) (fun hb5712 => ?_)
                    · replace H := cond_t hb5712 H
                      refine run_seq ?_
                      refine run_region rfl ?_
                      refine ox rfl rfl rfl rfl (ex_assign rfl rfl) ?_
                      refine ops_nil (at_then ?_)
                      refine run_ret ?_
                      refine at_then_ret ?_
                      replace HM := (HM.front 0 rfl rfl).drop
                      replace HM := (HM.front 0 rfl rfl).drop
                      replace HM := (HM.front 0 rfl rfl).drop
                      replace HM := (HM.front 0 rfl rfl).drop
                      replace HM := (HM.front 0 rfl rfl).drop
                      have hR := Option.some.inj H
                      subst hR
                      exact at_ret1 rfl rfl ⟨_, rfl, rfl, HM⟩
                    · replace H := cond_f hb5712 H
                      refine run_skip ?_
                      refine at_then ?_
                      refine run_seq ?_
                      obtain ⟨t5713, h5714, H⟩ := bind_some H
                      obtain ⟨t5717, h5718, H⟩ := bind_some H
                      obtain ⟨t5723, h5724, H⟩ := bind_some H
                      refine run_meet (fun ρ_ w_ => ∃ u5725 : Value, ∃ b5727 : Nat, ρ_ = [(8, .pointer (some ⟨b5568, 0, none⟩)), (11, .pointer (some ⟨b5620, 0, none⟩)), (13, .int .i64 t5697.1), (15, .pointer (some ⟨b5727, 0, none⟩))] ∧ Mem w [] w_ [box b5568 32 [.int .i64 t5564.fCode, u5566], own kMember 38 u5566 t5564.fMembers, box b5620 32 [.int .i64 t5616.fCode, u5618], own kMember 38 u5618 t5697.2, box b5727 32 [.int .i64 t5723.fCode, u5725], own kMember 38 u5725 t5723.fMembers]) ?_ ?_
                      · skip
                        refine run_draw (fun w_ => Mem w [] w_ [own kMember 38 u5618 t5697.2, box b5540 49 [.int .i64 x1.fKind, .int .i64 x1.fMember, p1_0, p1_1], box b5568 32 [.int .i64 t5564.fCode, u5566], own kMember 38 u5566 t5564.fMembers, box b5620 32 [.int .i64 t5616.fCode, u5618]]) mixed rfl (l := #[false, false, false, false, false, false, false, false]) rfl ?_
                        replace HM := HM.grow (fr_drew _)
                        have hS := Mem.suf (M := []) HM
                        refine drw_cut2 (l' := #[true, true, true, false, true, false, true, false]) (f' := 3) (fun (u5715 : Value) => fun (b5727 : Nat) => [(8, .pointer (some ⟨b5568, 0, none⟩)), (11, .pointer (some ⟨b5620, 0, none⟩)), (13, .int .i64 t5697.1), (81, .agg #[(.int .i64 x1.fKind), (.int .i64 x1.fMember), p1_0, p1_1]), (83, .int .i64 x2), (80, u5715), (15, .pointer (some ⟨b5727, 0, none⟩))]) (fun (u5715 : Value) => fun (b5727 : Nat) => fun w_ => Mem w [] w_ [box b5727 32 [.int .i64 0, .slice none 0 0], own kMember 38 u5715 t5713, own kMember 38 u5618 t5697.2, box b5540 49 [.int .i64 x1.fKind, .int .i64 x1.fMember, p1_0, p1_1], box b5568 32 [.int .i64 t5564.fCode, u5566], own kMember 38 u5566 t5564.fMembers, box b5620 32 [.int .i64 t5616.fCode, u5618]]) ?_ (fun K5741 => ?_)
                        · rintro u5715 b5727 w5742 HM
                          replace HM : Mem w [] w5742 [box b5727 32 [.int .i64 0, .slice none 0 0], own kMember 38 u5715 t5713, own kMember 38 u5618 t5697.2, box b5540 49 [.int .i64 x1.fKind, .int .i64 x1.fMember, p1_0, p1_1], box b5568 32 [.int .i64 t5564.fCode, u5566], own kMember 38 u5566 t5564.fMembers, box b5620 32 [.int .i64 t5616.fCode, u5618]] := HM
                          have hS := Mem.suf (M := [box b5727 32 [.int .i64 0, .slice none 0 0], own kMember 38 u5715 t5713]) HM
                          refine drw_any [3] (by kernel_rfl) rfl (.cons ?_ .nil)
                          refine br_does (l' := #[true, true, true, true, true, false, true, false]) rfl (guard_none rfl) rfl rfl (by kernel_rfl) (does_callk rfl callok18 rfl (laws_toTx.calls (x0 := x1) (HM.rd hp1_0) (HM.rd hp1_1) h5718)) ?_
                          rintro _ w5743 ⟨u5719, u5721, rfl, hn⟩
                          replace HM : Mem w [] w5743 [own kRef 36 u5719 t5717.fIns, own kOut 69 u5721 t5717.fOuts, box b5727 32 [.int .i64 0, .slice none 0 0], own kMember 38 u5715 t5713, own kMember 38 u5618 t5697.2, box b5540 49 [.int .i64 x1.fKind, .int .i64 x1.fMember, p1_0, p1_1], box b5568 32 [.int .i64 t5564.fCode, u5566], own kMember 38 u5566 t5564.fMembers, box b5620 32 [.int .i64 t5616.fCode, u5618]] := HM.call hn
                          have hS := Mem.suf (M := [own kRef 36 u5719 t5717.fIns, own kOut 69 u5721 t5717.fOuts, box b5727 32 [.int .i64 0, .slice none 0 0], own kMember 38 u5715 t5713]) HM
                          refine ⟨hS, ?_⟩
                          refine drw_any [5] (by kernel_rfl) rfl (.cons ?_ .nil)
                          refine br_does (l' := #[true, true, true, true, true, true, true, false]) rfl (guard_none rfl) rfl rfl (by kernel_rfl) (does_callk rfl callok9 rfl (impl_TakeMembers.calls (x0 := t5713) (x1 := t5717) (x2 := x2) (HM.own_rd 3 rfl) (HM.own_rd 0 rfl) (HM.own_rd 1 rfl) h5724)) ?_
                          rintro _ w5744 ⟨u5725, rfl, hn⟩
                          replace HM : Mem w [] w5744 [own kMember 38 u5725 t5723.fMembers, own kRef 36 u5719 t5717.fIns, own kOut 69 u5721 t5717.fOuts, box b5727 32 [.int .i64 0, .slice none 0 0], own kMember 38 u5715 t5713, own kMember 38 u5618 t5697.2, box b5540 49 [.int .i64 x1.fKind, .int .i64 x1.fMember, p1_0, p1_1], box b5568 32 [.int .i64 t5564.fCode, u5566], own kMember 38 u5566 t5564.fMembers, box b5620 32 [.int .i64 t5616.fCode, u5618]] := HM.call hn
                          have hS := Mem.suf (M := [own kMember 38 u5725 t5723.fMembers, own kRef 36 u5719 t5717.fIns, own kOut 69 u5721 t5717.fOuts, box b5727 32 [.int .i64 0, .slice none 0 0], own kMember 38 u5715 t5713]) HM
                          refine ⟨hS, ?_⟩
                          replace HM := HM.front 3 rfl rfl
                          refine drw_any [7] (by kernel_rfl) rfl (.cons ?_ .nil)
                          refine br_doesS (l' := #[true, true, true, true, true, true, true, true]) rfl (guard_none rfl) rfl (by kernel_rfl) (does_store (vs := [.int .i64 t5723.fCode, u5725]) (cs' := [.int .i64 t5723.fCode, u5725]) rfl rfl rfl rfl tsz32 (Ones.int (Ones.rd (HM.own_rd 1 rfl) Ones.nil)) rfl rfl HM) ?_
                          rintro w5745 HM
                          have hS := Mem.suf (M := [box b5727 32 [.int .i64 t5723.fCode, u5725], own kMember 38 u5725 t5723.fMembers, own kRef 36 u5719 t5717.fIns, own kOut 69 u5721 t5717.fOuts, own kMember 38 u5715 t5713]) HM
                          refine ⟨hS, ?_⟩
                          refine drw_done (by kernel_rfl) ?_
                          replace HM := (HM.front 2 rfl rfl).drop
                          replace HM := (HM.front 2 rfl rfl).drop
                          replace HM := (HM.front 2 rfl rfl).drop
                          replace HM := (HM.front 3 rfl rfl).drop
                          replace HM := HM.front 1 rfl rfl
                          replace HM := HM.front 1 rfl rfl
                          replace HM := HM.front 2 rfl rfl
                          replace HM := HM.front 5 rfl rfl
                          replace HM := HM.front 5 rfl rfl
                          replace HM := HM.front 5 rfl rfl
                          exact at_meet [(8, .pointer (some ⟨b5568, 0, none⟩)), (11, .pointer (some ⟨b5620, 0, none⟩)), (13, .int .i64 t5697.1), (15, .pointer (some ⟨b5727, 0, none⟩))] ⟨_, _, rfl, HM⟩ (Sub.cons rfl (Sub.cons rfl (Sub.cons rfl (Sub.cons rfl Sub.nil))))
                        refine dt 0 #[true, false, false, false, false, false, false, false] rfl rfl rfl rfl (by kernel_rfl) (ex_move rfl rfl) hS ?_
                        refine drw_take (i := 2) (l' := #[true, false, true, false, false, false, false, false]) rfl (guard_none rfl) rfl rfl (by kernel_rfl) (fun w_ hS_ => (ex_loadN (cs := [(.int .i64 x1.fKind), (.int .i64 x1.fMember), p1_0, p1_1]) rfl rfl Try.underlying49 rfl tsz49 rfl ((hS_.box_at 1 rfl).sub 0 4 rfl))) hS ?_
                        refine dt 4 #[true, false, true, false, true, false, false, false] rfl rfl rfl rfl (by kernel_rfl) (ex_move rfl rfl) hS ?_
                        refine drw_any [1, 6] (by kernel_rfl) rfl (.cons ?_ (.cons ?_ .nil))
                        · skip
                          refine br_does (l' := #[true, true, true, false, true, false, false, false]) rfl (guard_none rfl) rfl rfl (by kernel_rfl) (does_callk rfl callok17 rfl (laws_toMemberS.calls (x0 := x0) (HM.rd hp0) h5714)) ?_
                          rintro u5715 w5746 ⟨_, rfl, hn⟩
                          replace HM : Mem w [] w5746 [own kMember 38 u5715 t5713, own kMember 38 u5618 t5697.2, box b5540 49 [.int .i64 x1.fKind, .int .i64 x1.fMember, p1_0, p1_1], box b5568 32 [.int .i64 t5564.fCode, u5566], own kMember 38 u5566 t5564.fMembers, box b5620 32 [.int .i64 t5616.fCode, u5618]] := HM.call hn
                          have hS := Mem.suf (M := [own kMember 38 u5715 t5713]) HM
                          refine ⟨hS, ?_⟩
                          refine drw_any [3, 6] (by kernel_rfl) rfl (.cons ?_ (.cons ?_ .nil))
                          · skip
                            refine br_does (l' := #[true, true, true, true, true, false, false, false]) rfl (guard_none rfl) rfl rfl (by kernel_rfl) (does_callk rfl callok18 rfl (laws_toTx.calls (x0 := x1) (HM.rd hp1_0) (HM.rd hp1_1) h5718)) ?_
                            rintro _ w5747 ⟨u5719, u5721, rfl, hn⟩
                            replace HM : Mem w [] w5747 [own kRef 36 u5719 t5717.fIns, own kOut 69 u5721 t5717.fOuts, own kMember 38 u5715 t5713, own kMember 38 u5618 t5697.2, box b5540 49 [.int .i64 x1.fKind, .int .i64 x1.fMember, p1_0, p1_1], box b5568 32 [.int .i64 t5564.fCode, u5566], own kMember 38 u5566 t5564.fMembers, box b5620 32 [.int .i64 t5616.fCode, u5618]] := HM.call hn
                            have hS := Mem.suf (M := [own kRef 36 u5719 t5717.fIns, own kOut 69 u5721 t5717.fOuts, own kMember 38 u5715 t5713]) HM
                            refine ⟨hS, ?_⟩
                            refine drw_any [5, 6] (by kernel_rfl) rfl (.cons ?_ (.cons ?_ .nil))
                            · skip
                              refine br_does (l' := #[true, true, true, true, true, true, false, false]) rfl (guard_none rfl) rfl rfl (by kernel_rfl) (does_callk rfl callok9 rfl (impl_TakeMembers.calls (x0 := t5713) (x1 := t5717) (x2 := x2) (HM.own_rd 2 rfl) (HM.own_rd 0 rfl) (HM.own_rd 1 rfl) h5724)) ?_
                              rintro _ w5748 ⟨u5725, rfl, hn⟩
                              replace HM : Mem w [] w5748 [own kMember 38 u5725 t5723.fMembers, own kRef 36 u5719 t5717.fIns, own kOut 69 u5721 t5717.fOuts, own kMember 38 u5715 t5713, own kMember 38 u5618 t5697.2, box b5540 49 [.int .i64 x1.fKind, .int .i64 x1.fMember, p1_0, p1_1], box b5568 32 [.int .i64 t5564.fCode, u5566], own kMember 38 u5566 t5564.fMembers, box b5620 32 [.int .i64 t5616.fCode, u5618]] := HM.call hn
                              have hS := Mem.suf (M := [own kMember 38 u5725 t5723.fMembers, own kRef 36 u5719 t5717.fIns, own kOut 69 u5721 t5717.fOuts, own kMember 38 u5715 t5713]) HM
                              refine ⟨hS, ?_⟩
                              refine drw_any [6] (by kernel_rfl) rfl (.cons ?_ .nil)
                              refine br_does (l' := #[true, true, true, true, true, true, true, false]) rfl (guard_none rfl) rfl rfl (by kernel_rfl) (does_alloc (cs := [.int .i64 0, .slice none 0 0]) rfl tz32 rfl HM) ?_
                              rintro _ w5749 ⟨b5727, rfl, HM⟩
                              have hS := Mem.suf (M := [box b5727 32 [.int .i64 0, .slice none 0 0], own kMember 38 u5725 t5723.fMembers, own kRef 36 u5719 t5717.fIns, own kOut 69 u5721 t5717.fOuts, own kMember 38 u5715 t5713]) HM
                              refine ⟨hS, ?_⟩
                              refine drw_any [7] (by kernel_rfl) rfl (.cons ?_ .nil)
                              refine br_doesS (l' := #[true, true, true, true, true, true, true, true]) rfl (guard_none rfl) rfl (by kernel_rfl) (does_store (vs := [.int .i64 t5723.fCode, u5725]) (cs' := [.int .i64 t5723.fCode, u5725]) rfl rfl rfl rfl tsz32 (Ones.int (Ones.rd (HM.own_rd 1 rfl) Ones.nil)) rfl rfl HM) ?_
                              rintro w5750 HM
                              have hS := Mem.suf (M := [box b5727 32 [.int .i64 t5723.fCode, u5725], own kMember 38 u5725 t5723.fMembers, own kRef 36 u5719 t5717.fIns, own kOut 69 u5721 t5717.fOuts, own kMember 38 u5715 t5713]) HM
                              refine ⟨hS, ?_⟩
                              refine drw_done (by kernel_rfl) ?_
                              replace HM := (HM.front 2 rfl rfl).drop
                              replace HM := (HM.front 2 rfl rfl).drop
                              replace HM := (HM.front 2 rfl rfl).drop
                              replace HM := (HM.front 3 rfl rfl).drop
                              replace HM := HM.front 1 rfl rfl
                              replace HM := HM.front 1 rfl rfl
                              replace HM := HM.front 2 rfl rfl
                              replace HM := HM.front 5 rfl rfl
                              replace HM := HM.front 5 rfl rfl
                              replace HM := HM.front 5 rfl rfl
                              exact at_meet [(8, .pointer (some ⟨b5568, 0, none⟩)), (11, .pointer (some ⟨b5620, 0, none⟩)), (13, .int .i64 t5697.1), (15, .pointer (some ⟨b5727, 0, none⟩))] ⟨_, _, rfl, HM⟩ (Sub.cons rfl (Sub.cons rfl (Sub.cons rfl (Sub.cons rfl Sub.nil))))
                            · skip
                              refine br_does (l' := #[true, true, true, true, true, false, true, false]) rfl (guard_none rfl) rfl rfl (by kernel_rfl) (does_alloc (cs := [.int .i64 0, .slice none 0 0]) rfl tz32 rfl HM) ?_
                              rintro _ w5751 ⟨b5727, rfl, HM⟩
                              have hS := Mem.suf (M := [box b5727 32 [.int .i64 0, .slice none 0 0], own kRef 36 u5719 t5717.fIns, own kOut 69 u5721 t5717.fOuts, own kMember 38 u5715 t5713]) HM
                              refine ⟨hS, ?_⟩
                              refine drw_any [5] (by kernel_rfl) rfl (.cons ?_ .nil)
                              refine br_does (l' := #[true, true, true, true, true, true, true, false]) rfl (guard_none rfl) rfl rfl (by kernel_rfl) (does_callk rfl callok9 rfl (impl_TakeMembers.calls (x0 := t5713) (x1 := t5717) (x2 := x2) (HM.own_rd 3 rfl) (HM.own_rd 1 rfl) (HM.own_rd 2 rfl) h5724)) ?_
                              rintro _ w5752 ⟨u5725, rfl, hn⟩
                              replace HM : Mem w [] w5752 [own kMember 38 u5725 t5723.fMembers, box b5727 32 [.int .i64 0, .slice none 0 0], own kRef 36 u5719 t5717.fIns, own kOut 69 u5721 t5717.fOuts, own kMember 38 u5715 t5713, own kMember 38 u5618 t5697.2, box b5540 49 [.int .i64 x1.fKind, .int .i64 x1.fMember, p1_0, p1_1], box b5568 32 [.int .i64 t5564.fCode, u5566], own kMember 38 u5566 t5564.fMembers, box b5620 32 [.int .i64 t5616.fCode, u5618]] := HM.call hn
                              have hS := Mem.suf (M := [own kMember 38 u5725 t5723.fMembers, box b5727 32 [.int .i64 0, .slice none 0 0], own kRef 36 u5719 t5717.fIns, own kOut 69 u5721 t5717.fOuts, own kMember 38 u5715 t5713]) HM
                              refine ⟨hS, ?_⟩
                              replace HM := HM.front 1 rfl rfl
                              refine drw_any [7] (by kernel_rfl) rfl (.cons ?_ .nil)
                              refine br_doesS (l' := #[true, true, true, true, true, true, true, true]) rfl (guard_none rfl) rfl (by kernel_rfl) (does_store (vs := [.int .i64 t5723.fCode, u5725]) (cs' := [.int .i64 t5723.fCode, u5725]) rfl rfl rfl rfl tsz32 (Ones.int (Ones.rd (HM.own_rd 1 rfl) Ones.nil)) rfl rfl HM) ?_
                              rintro w5753 HM
                              have hS := Mem.suf (M := [box b5727 32 [.int .i64 t5723.fCode, u5725], own kMember 38 u5725 t5723.fMembers, own kRef 36 u5719 t5717.fIns, own kOut 69 u5721 t5717.fOuts, own kMember 38 u5715 t5713]) HM
                              refine ⟨hS, ?_⟩
                              refine drw_done (by kernel_rfl) ?_
                              replace HM := (HM.front 2 rfl rfl).drop
                              replace HM := (HM.front 2 rfl rfl).drop
                              replace HM := (HM.front 2 rfl rfl).drop
                              replace HM := (HM.front 3 rfl rfl).drop
                              replace HM := HM.front 1 rfl rfl
                              replace HM := HM.front 1 rfl rfl
                              replace HM := HM.front 2 rfl rfl
                              replace HM := HM.front 5 rfl rfl
                              replace HM := HM.front 5 rfl rfl
                              replace HM := HM.front 5 rfl rfl
                              exact at_meet [(8, .pointer (some ⟨b5568, 0, none⟩)), (11, .pointer (some ⟨b5620, 0, none⟩)), (13, .int .i64 t5697.1), (15, .pointer (some ⟨b5727, 0, none⟩))] ⟨_, _, rfl, HM⟩ (Sub.cons rfl (Sub.cons rfl (Sub.cons rfl (Sub.cons rfl Sub.nil))))
                          · skip
                            refine br_does (l' := #[true, true, true, false, true, false, true, false]) rfl (guard_none rfl) rfl rfl (by kernel_rfl) (does_alloc (cs := [.int .i64 0, .slice none 0 0]) rfl tz32 rfl HM) ?_
                            rintro _ w5754 ⟨b5727, rfl, HM⟩
                            have hS := Mem.suf (M := [box b5727 32 [.int .i64 0, .slice none 0 0], own kMember 38 u5715 t5713]) HM
                            refine ⟨hS, ?_⟩
                            exact drw_sub (K5741 u5715 b5727 _ HM) (Sub.cons rfl (Sub.cons rfl (Sub.cons rfl (Sub.cons rfl (Sub.cons rfl (Sub.cons rfl (Sub.cons rfl Sub.nil)))))))
                        · skip
                          refine br_does (l' := #[true, false, true, false, true, false, true, false]) rfl (guard_none rfl) rfl rfl (by kernel_rfl) (does_alloc (cs := [.int .i64 0, .slice none 0 0]) rfl tz32 rfl HM) ?_
                          rintro _ w5755 ⟨b5727, rfl, HM⟩
                          have hS := Mem.suf (M := [box b5727 32 [.int .i64 0, .slice none 0 0]]) HM
                          refine ⟨hS, ?_⟩
                          refine drw_any [1] (by kernel_rfl) rfl (.cons ?_ .nil)
                          refine br_does (l' := #[true, true, true, false, true, false, true, false]) rfl (guard_none rfl) rfl rfl (by kernel_rfl) (does_callk rfl callok17 rfl (laws_toMemberS.calls (x0 := x0) (HM.rd hp0) h5714)) ?_
                          rintro u5715 w5756 ⟨_, rfl, hn⟩
                          replace HM : Mem w [] w5756 [own kMember 38 u5715 t5713, box b5727 32 [.int .i64 0, .slice none 0 0], own kMember 38 u5618 t5697.2, box b5540 49 [.int .i64 x1.fKind, .int .i64 x1.fMember, p1_0, p1_1], box b5568 32 [.int .i64 t5564.fCode, u5566], own kMember 38 u5566 t5564.fMembers, box b5620 32 [.int .i64 t5616.fCode, u5618]] := HM.call hn
                          have hS := Mem.suf (M := [own kMember 38 u5715 t5713, box b5727 32 [.int .i64 0, .slice none 0 0]]) HM
                          refine ⟨hS, ?_⟩
                          replace HM := HM.front 6 rfl rfl
                          replace HM := HM.front 6 rfl rfl
                          replace HM := HM.front 6 rfl rfl
                          replace HM := HM.front 6 rfl rfl
                          replace HM := HM.front 6 rfl rfl
                          replace HM := HM.front 5 rfl rfl
                          replace HM := HM.front 6 rfl rfl
                          exact drw_sub (K5741 u5715 b5727 _ HM) (Sub.cons rfl (Sub.cons rfl (Sub.cons rfl (Sub.cons rfl (Sub.cons rfl (Sub.cons rfl (Sub.cons rfl Sub.nil)))))))
                      · rintro _ w5757 ⟨u5725, b5727, rfl, HM⟩
                        refine at_then ?_
                        refine run_seq ?_
                        refine run_seq ?_
                        obtain ⟨t5761, h5762, H⟩ := bind_some H
                        refine run_region rfl ?_
                        refine ox rfl rfl rfl rfl (ex_loadN (cs := [(.int .i64 t5723.fCode), u5725]) rfl rfl Try.underlying32 rfl tsz32 rfl ((HM.box_at 4 rfl).sub 0 2 rfl)) ?_
                        refine ox rfl rfl rfl rfl (ex_loadN (cs := [(.int .i64 t5564.fCode), u5566]) rfl rfl Try.underlying32 rfl tsz32 rfl ((HM.box_at 0 rfl).sub 0 2 rfl)) ?_
                        refine od rfl rfl rfl rfl (does_callk rfl callok19 rfl (laws_eqMembersResult.calls (x0 := t5723) (x1 := t5564) (HM.own_rd 5 rfl) (HM.own_rd 1 rfl) h5762)) ?_
                        rintro _ w5763 ⟨rfl, hn⟩
                        replace HM : Mem w [] w5763 [box b5568 32 [.int .i64 t5564.fCode, u5566], own kMember 38 u5566 t5564.fMembers, box b5620 32 [.int .i64 t5616.fCode, u5618], own kMember 38 u5618 t5697.2, box b5727 32 [.int .i64 t5723.fCode, u5725], own kMember 38 u5725 t5723.fMembers] := HM.call hn
                        refine ox rfl rfl rfl rfl (ex_not rfl rfl) ?_
                        refine ops_nil (at_then ?_)
                        refine run_cond (b := !t5761) rfl (fun hb5764 => ?_) (fun hb5764 => ?_)
                        · replace H := cond_t hb5764 H
                          refine run_seq ?_
                          refine run_region rfl ?_
                          refine ox rfl rfl rfl rfl (ex_assign rfl rfl) ?_
                          refine ops_nil (at_then ?_)
                          refine run_ret ?_
                          refine at_then_ret ?_
                          replace HM := (HM.front 0 rfl rfl).drop
                          replace HM := (HM.front 0 rfl rfl).drop
                          replace HM := (HM.front 0 rfl rfl).drop
                          replace HM := (HM.front 0 rfl rfl).drop
                          replace HM := (HM.front 0 rfl rfl).drop
                          replace HM := (HM.front 0 rfl rfl).drop
                          have hR := Option.some.inj H
                          subst hR
                          exact at_ret1 rfl rfl ⟨_, rfl, rfl, HM⟩
                        · replace H := cond_f hb5764 H
                          refine run_skip ?_
                          refine at_then ?_
                          refine run_seq ?_
                          refine run_region rfl ?_
                          refine ox rfl rfl rfl rfl (ex_assign rfl rfl) ?_
                          refine ops_nil (at_then (run_seq ?_))
                          obtain ⟨t5765, h5766, H⟩ := bind_some H
                          refine run_region rfl ?_
                          refine ox rfl rfl rfl rfl (ex_loadN (cs := [(.int .i64 t5616.fCode), u5618]) rfl rfl Try.underlying32 rfl tsz32 rfl ((HM.box_at 2 rfl).sub 0 2 rfl)) ?_
                          refine ox rfl rfl rfl rfl (ex_move rfl rfl) ?_
                          refine od rfl rfl rfl rfl (does_callk rfl callok25 rfl (laws_heldMembersResult.calls (x0 := (⟨t5616.fCode, t5697.2⟩ : MembersResult)) (x1 := 1) (HM.own_rd 3 rfl) h5766)) ?_
                          rintro _ w5767 ⟨rfl, hn⟩
                          replace HM : Mem w [] w5767 [box b5568 32 [.int .i64 t5564.fCode, u5566], own kMember 38 u5566 t5564.fMembers, box b5620 32 [.int .i64 t5616.fCode, u5618], own kMember 38 u5618 t5697.2, box b5727 32 [.int .i64 t5723.fCode, u5725], own kMember 38 u5725 t5723.fMembers] := HM.call hn
                          refine ox rfl rfl rfl rfl (ex_assign rfl rfl) ?_
                          refine ops_nil (at_then (run_seq ?_))
                          refine run_seq ?_
                          refine run_region rfl ?_
                          refine ox rfl rfl rfl rfl (ex_move rfl rfl) ?_
                          refine ox rfl rfl rfl rfl (ex_lss rfl rfl rfl) ?_
                          refine ops_nil (at_then ?_)
                          refine run_cond (b := (decide (t5765 < 0))) rfl (fun hb5769 => ?_) (fun hb5769 => ?_)
                          · replace H := cond_t hb5769 H
                            refine run_seq ?_
                            refine run_region rfl ?_
                            refine ox rfl rfl rfl rfl (ex_assign rfl rfl) ?_
                            refine ops_nil (at_then ?_)
                            refine run_ret ?_
                            refine at_then_ret ?_
                            replace HM := (HM.front 0 rfl rfl).drop
                            replace HM := (HM.front 0 rfl rfl).drop
                            replace HM := (HM.front 0 rfl rfl).drop
                            replace HM := (HM.front 0 rfl rfl).drop
                            replace HM := (HM.front 0 rfl rfl).drop
                            replace HM := (HM.front 0 rfl rfl).drop
                            have hR := Option.some.inj H
                            subst hR
                            exact at_ret1 rfl rfl ⟨_, rfl, rfl, HM⟩
                          · replace H := cond_f hb5769 H
                            refine run_skip ?_
                            refine at_then ?_
                            refine run_seq ?_
                            refine run_seq ?_
                            refine run_region rfl ?_
                            refine ox rfl rfl rfl rfl (ex_move rfl rfl) ?_
                            refine ox rfl rfl rfl rfl (ex_move rfl rfl) ?_
                            refine ox rfl rfl rfl rfl (ex_neq rfl rfl rfl) ?_
                            refine ops_nil (at_then ?_)
                            refine run_cond (b := (t5765 != t5697.1)) rfl (fun hb5770 => ?_) (fun hb5770 => ?_)
                            · replace H := cond_t hb5770 H
                              refine run_seq ?_
                              refine run_region rfl ?_
                              refine ox rfl rfl rfl rfl (ex_assign rfl rfl) ?_
                              refine ops_nil (at_then ?_)
                              refine run_ret ?_
                              refine at_then_ret ?_
                              replace HM := (HM.front 0 rfl rfl).drop
                              replace HM := (HM.front 0 rfl rfl).drop
                              replace HM := (HM.front 0 rfl rfl).drop
                              replace HM := (HM.front 0 rfl rfl).drop
                              replace HM := (HM.front 0 rfl rfl).drop
                              replace HM := (HM.front 0 rfl rfl).drop
                              have hR := Option.some.inj H
                              subst hR
                              exact at_ret1 rfl rfl ⟨_, rfl, rfl, HM⟩
                            · replace H := cond_f hb5770 H
                              refine run_skip ?_
                              refine at_then ?_
                              refine run_seq ?_
                              refine run_region rfl ?_
                              refine ox rfl rfl rfl rfl (ex_assign rfl rfl) ?_
                              refine ops_nil (at_then ?_)
                              refine run_ret ?_
                              replace HM := (HM.front 0 rfl rfl).drop
                              replace HM := (HM.front 0 rfl rfl).drop
                              replace HM := (HM.front 0 rfl rfl).drop
                              replace HM := (HM.front 0 rfl rfl).drop
                              replace HM := (HM.front 0 rfl rfl).drop
                              replace HM := (HM.front 0 rfl rfl).drop
                              have hR := Option.some.inj H
                              subst hR
                              exact at_ret1 rfl rfl ⟨_, rfl, rfl, HM⟩
end Go.Proofs.Ytbbcabpnkdilgaa.Zk
