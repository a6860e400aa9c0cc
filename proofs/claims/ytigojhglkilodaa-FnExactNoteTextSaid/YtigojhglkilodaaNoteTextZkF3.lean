/- What functions of the program compute, each as a plain function, and that they do. Conditions: as each theorem states them. -/
import Derived.Test.YtigojhglkilodaaNoteTextZkF2
namespace Go.Proofs.Ytigojhglkilodaa.Zk
open Go Go.RowKit Go.IntWalk Go.Proofs
set_option linter.unusedVariables false
set_option linter.unusedSimpArgs false
set_option maxRecDepth 100000
set_option maxHeartbeats 4000000
def laws_markStringS.l0  : Nat → (List ByteArray) → Int → Int → Option ((List ByteArray) × Int)
  | 0, _, _, _ => none
  | k + 1, a2194, a2196, a2197 => (bif (decide (a2197 < (a2194.length : Int))) then ((laws_markText.f k a2196).bind fun t2205 => (chk (idxOk a2197 a2194.length) (laws_markStringS.l0 k (a2194.set (a2197).toNat t2205) (wrap64 (a2196 + 1)) (wrap64 (a2197 + 1))))) else some (a2194, a2196))
theorem laws_markStringS.l0_z  (a2194 : List ByteArray) (a2196 : Int) (a2197 : Int) : laws_markStringS.l0 0 a2194 a2196 a2197 = none := rfl
theorem laws_markStringS.l0_s  (k : Nat) (a2194 : List ByteArray) (a2196 : Int) (a2197 : Int) : laws_markStringS.l0 (k + 1) a2194 a2196 a2197 = (bif (decide (a2197 < (a2194.length : Int))) then ((laws_markText.f k a2196).bind fun t2205 => (chk (idxOk a2197 a2194.length) (laws_markStringS.l0 k (a2194.set (a2197).toNat t2205) (wrap64 (a2196 + 1)) (wrap64 (a2197 + 1))))) else some (a2194, a2196)) := rfl
def laws_markStringS.f (k : Nat) (x0 : List ByteArray) (x1 : Int) : Option (Int × (List ByteArray)) := ((laws_markStringS.l0 k x0 x1 0).bind (cur2 (fun a2185 a2187 => some (a2187, a2185))))
theorem laws_markStringS.calls {k : Nat} {x0 : List ByteArray} {x1 : Int} {p0 : Value} {w wo : World} {X : List Nat} (hwo : Olds wo w X) (hX : Hold w [own kStr 9 p0 x0] X) (hXn : X.Nodup) (hXl : ∀ b ∈ X, b < w.heap.size)  {r : Int × (List ByteArray)} (H : laws_markStringS.f k x0 x1 = some r) :
    Calls Try.prog 69 ([p0, .int .i64 x1] : List Value).toArray w (fun e w_ => ∃ v, e = .returned v ∧ v = (.int .i64 r.1) ∧ Mem w X w_ [own kStr 9 p0 r.2]) := by
  have HM := Mem.startX hX hXn hXl
  refine calls_run (N := 20) Try.func69 rfl rfl rfl rfl ?_
  unfold laws_markStringS.f at H
  refine run_seq ?_
  refine run_region rfl ?_
  refine ops_ex rfl (guard_none rfl) rfl rfl (ex_assign rfl rfl) ?_
  refine ops_nil ?_
  refine at_then ?_
  obtain ⟨o2188, ho2189, H⟩ := bind_some H
  refine run_mid (fun ρ_ w_ => ∃ a2185 : List ByteArray, ∃ a2187 : Int, (a2185, a2187) = o2188 ∧ ρ_ = [(1, .int .i64 a2187)] ∧ Mem w X w_ [own kStr 9 p0 a2185]) ?_ ?_
  · clear H
    refine run_seq ?_
    refine run_region rfl ?_
    refine ops_ex rfl (guard_none rfl) rfl rfl (ex_assign rfl rfl) ?_
    refine ops_nil ?_
    refine at_then ?_
    refine run_block ?_
    refine run_loop (fun k_ ρ_ w_ => ∃ a2194 : List ByteArray, ∃ a2196 : Int, ∃ a2197 : Int, laws_markStringS.l0 k_ a2194 a2196 a2197 = some o2188 ∧ ρ_ = [(0, p0), (1, .int .i64 a2196), (5, .int .i64 a2197)] ∧ Mem w X w_ [own kStr 9 p0 a2194]) k (ρ1 := [(0, p0), (1, .int .i64 x1), (5, .int .i64 0)]) ⟨_, _, _, ho2189, rfl, HM⟩ (Sub.cons rfl (Sub.cons rfl (Sub.cons rfl Sub.nil))) ?_
    clear HM ho2189
    rintro k2202 _ w2203 ⟨a2194, a2196, a2197, ho2189, rfl, HM⟩
    obtain _ | k2202 := k2202
    · exact nomatch ((laws_markStringS.l0_z a2194 a2196 a2197).symm.trans ho2189)
    replace ho2189 := (laws_markStringS.l0_s k2202 a2194 a2196 a2197).symm.trans ho2189
    refine run_seq ?_
    refine run_seq ?_
    refine run_region rfl ?_
    refine ops_ex rfl (guard_none rfl) rfl rfl (ex_move rfl rfl) ?_
    refine ops_ex rfl (guard_none rfl) rfl rfl (ex_move rfl rfl) ?_
    refine ops_ex rfl (guard_none rfl) rfl rfl (ex_len (d := kStr) (xs := a2194) rfl rfl Try.underlying22 (HM.own_rd 0 rfl)) ?_
    refine ops_ex rfl (guard_none rfl) rfl rfl (ex_lss rfl rfl rfl) ?_
    refine ops_nil ?_
    refine at_then ?_
    refine run_cond (b := (decide (a2197 < (a2194.length : Int)))) rfl (fun hb2204 => ?_) (fun hb2204 => ?_)
    · replace ho2189 := cond_t hb2204 ho2189
      refine run_skip ?_
      refine at_then ?_
      refine run_seq ?_
      refine run_block ?_
      refine run_seq ?_
      obtain ⟨t2205, h2206, ho2189⟩ := bind_some ho2189
      obtain ⟨e2207, ho2189⟩ := chk_some ho2189
      refine run_region rfl ?_
      refine ops_ex rfl (guard_none rfl) rfl rfl (ex_move rfl rfl) ?_
      refine ops_ex rfl (guard_none rfl) rfl rfl (ex_move rfl rfl) ?_
      refine ops_ex rfl (guard_none rfl) rfl rfl (ex_move rfl rfl) ?_
      refine ops_does rfl (guard_none rfl) rfl rfl (does_callk rfl callok118 rfl (laws_markText.calls (x0 := a2196) h2206)) ?_
      rintro _ w2208 ⟨rfl, hn⟩
      replace HM : Mem w X w2208 [own kStr 9 p0 a2194] := HM.call hn
      refine ops_ex rfl (guard_none rfl) rfl rfl (ex_indexAddr (d := kStr) rfl rfl rfl Try.underlying22 tsz9 (HM.own_rd 0 rfl) (idx_lo e2207) (idx_hi e2207)) ?_
      refine ops_doesS rfl (guard_none rfl) rfl (does_setElem (vs := [(.string t2205)]) (y := t2205) kStr rfl rfl rfl rfl rfl tsz9 rfl rfl (idx_nat e2207) (fun _ _ h => ⟨rfl, h⟩) (HM.emp.front 1 rfl rfl)) ?_
      rintro w2209 HM
      refine ops_nil ?_
      refine at_then ?_
      refine run_region rfl ?_
      refine ops_ex rfl (guard_none rfl) rfl rfl (ex_move rfl rfl) ?_
      refine ops_ex rfl (guard_none rfl) rfl rfl (ex_add rfl rfl rfl) ?_
      refine ops_ex rfl (guard_none rfl) rfl rfl (ex_assign rfl rfl) ?_
      refine ops_nil ?_
      refine at_block ?_
      refine at_then ?_
      refine run_region rfl ?_
      refine ops_ex rfl (guard_none rfl) rfl rfl (ex_move rfl rfl) ?_
      refine ops_ex rfl (guard_none rfl) rfl rfl (ex_add rfl rfl rfl) ?_
      refine ops_ex rfl (guard_none rfl) rfl rfl (ex_assign rfl rfl) ?_
      refine ops_nil ?_
      exact at_again k2202 (ρ1 := [(0, p0), (1, .int .i64 (wrap64 (a2196 + 1))), (5, .int .i64 (wrap64 (a2197 + 1)))]) (Nat.lt_succ_self _) ⟨_, _, _, ho2189, rfl, HM⟩ (Sub.cons rfl (Sub.cons rfl (Sub.cons rfl Sub.nil)))
    · replace ho2189 := cond_f hb2204 ho2189
      refine run_exit ?_
      refine at_then_exit ?_
      refine at_then_exit ?_
      refine at_block_exit ?_
      exact at_mid (ρ' := [(1, .int .i64 a2196)]) ⟨_, _, (Option.some.inj ho2189), rfl, HM⟩ (Sub.cons rfl Sub.nil)
  · rintro _ w2210 ⟨a2185, a2187, rfl, rfl, HM⟩
    replace H := cur2_mk H
    refine run_seq ?_
    refine run_region rfl ?_
    refine ops_ex rfl (guard_none rfl) rfl rfl (ex_move rfl rfl) ?_
    refine ops_ex rfl (guard_none rfl) rfl rfl (ex_assign rfl rfl) ?_
    refine ops_nil ?_
    refine at_then ?_
    refine run_ret ?_
    have hR := Option.some.inj H
    subst hR
    exact at_ret1 rfl rfl ⟨_, rfl, rfl, HM⟩

def laws_markSignS.l0  : Nat → (List Sign) → Int → Int → Option ((List Sign) × Int)
  | 0, _, _, _ => none
  | k + 1, a2269, a2271, a2272 => (bif (decide (a2272 < (a2269.length : Int))) then (chk (idxOk a2272 a2269.length) (chk (idxOk a2272 (a2269.set (a2272).toNat (⟨a2271, (gt a2269 a2272).fId⟩ : Sign)).length) (laws_markSignS.l0 k ((a2269.set (a2272).toNat (⟨a2271, (gt a2269 a2272).fId⟩ : Sign)).set (a2272).toNat (⟨(gt (a2269.set (a2272).toNat (⟨a2271, (gt a2269 a2272).fId⟩ : Sign)) a2272).fKey, wrap64 (a2271 + 1)⟩ : Sign)) (wrap64 ((wrap64 (a2271 + 1)) + 1)) (wrap64 (a2272 + 1))))) else some (a2269, a2271))
theorem laws_markSignS.l0_z  (a2269 : List Sign) (a2271 : Int) (a2272 : Int) : laws_markSignS.l0 0 a2269 a2271 a2272 = none := rfl
theorem laws_markSignS.l0_s  (k : Nat) (a2269 : List Sign) (a2271 : Int) (a2272 : Int) : laws_markSignS.l0 (k + 1) a2269 a2271 a2272 = (bif (decide (a2272 < (a2269.length : Int))) then (chk (idxOk a2272 a2269.length) (chk (idxOk a2272 (a2269.set (a2272).toNat (⟨a2271, (gt a2269 a2272).fId⟩ : Sign)).length) (laws_markSignS.l0 k ((a2269.set (a2272).toNat (⟨a2271, (gt a2269 a2272).fId⟩ : Sign)).set (a2272).toNat (⟨(gt (a2269.set (a2272).toNat (⟨a2271, (gt a2269 a2272).fId⟩ : Sign)) a2272).fKey, wrap64 (a2271 + 1)⟩ : Sign)) (wrap64 ((wrap64 (a2271 + 1)) + 1)) (wrap64 (a2272 + 1))))) else some (a2269, a2271)) := rfl
def laws_markSignS.f (k : Nat) (x0 : List Sign) (x1 : Int) : Option (Int × (List Sign)) := ((laws_markSignS.l0 k x0 x1 0).bind (cur2 (fun a2261 a2263 => some (a2263, a2261))))
theorem laws_markSignS.calls {k : Nat} {x0 : List Sign} {x1 : Int} {p0 : Value} {w wo : World} {X : List Nat} (hwo : Olds wo w X) (hX : Hold w [own kSign 161 p0 x0] X) (hXn : X.Nodup) (hXl : ∀ b ∈ X, b < w.heap.size)  {r : Int × (List Sign)} (H : laws_markSignS.f k x0 x1 = some r) :
    Calls Try.prog 70 ([p0, .int .i64 x1] : List Value).toArray w (fun e w_ => ∃ v, e = .returned v ∧ v = (.int .i64 r.1) ∧ Mem w X w_ [own kSign 161 p0 r.2]) := by
  have HM := Mem.startX hX hXn hXl
  refine calls_run (N := 27) Try.func70 rfl rfl rfl rfl ?_
  unfold laws_markSignS.f at H
  refine run_seq ?_
  refine run_region rfl ?_
  refine ops_ex rfl (guard_none rfl) rfl rfl (ex_assign rfl rfl) ?_
  refine ops_nil ?_
  refine at_then ?_
  obtain ⟨o2264, ho2265, H⟩ := bind_some H
  refine run_mid (fun ρ_ w_ => ∃ a2261 : List Sign, ∃ a2263 : Int, (a2261, a2263) = o2264 ∧ ρ_ = [(1, .int .i64 a2263)] ∧ Mem w X w_ [own kSign 161 p0 a2261]) ?_ ?_
  · clear H
    refine run_seq ?_
    refine run_region rfl ?_
    refine ops_ex rfl (guard_none rfl) rfl rfl (ex_assign rfl rfl) ?_
    refine ops_nil ?_
    refine at_then ?_
    refine run_block ?_
    refine run_loop (fun k_ ρ_ w_ => ∃ a2269 : List Sign, ∃ a2271 : Int, ∃ a2272 : Int, laws_markSignS.l0 k_ a2269 a2271 a2272 = some o2264 ∧ ρ_ = [(0, p0), (1, .int .i64 a2271), (5, .int .i64 a2272)] ∧ Mem w X w_ [own kSign 161 p0 a2269]) k (ρ1 := [(0, p0), (1, .int .i64 x1), (5, .int .i64 0)]) ⟨_, _, _, ho2265, rfl, HM⟩ (Sub.cons rfl (Sub.cons rfl (Sub.cons rfl Sub.nil))) ?_
    clear HM ho2265
    rintro k2276 _ w2277 ⟨a2269, a2271, a2272, ho2265, rfl, HM⟩
    obtain _ | k2276 := k2276
    · exact nomatch ((laws_markSignS.l0_z a2269 a2271 a2272).symm.trans ho2265)
    replace ho2265 := (laws_markSignS.l0_s k2276 a2269 a2271 a2272).symm.trans ho2265
    refine run_seq ?_
    refine run_seq ?_
    refine run_region rfl ?_
    refine ops_ex rfl (guard_none rfl) rfl rfl (ex_move rfl rfl) ?_
    refine ops_ex rfl (guard_none rfl) rfl rfl (ex_move rfl rfl) ?_
    refine ops_ex rfl (guard_none rfl) rfl rfl (ex_len (d := kSign) (xs := a2269) rfl rfl Try.underlying27 (HM.own_rd 0 rfl)) ?_
    refine ops_ex rfl (guard_none rfl) rfl rfl (ex_lss rfl rfl rfl) ?_
    refine ops_nil ?_
    refine at_then ?_
    refine run_cond (b := (decide (a2272 < (a2269.length : Int)))) rfl (fun hb2278 => ?_) (fun hb2278 => ?_)
    · replace ho2265 := cond_t hb2278 ho2265
      refine run_skip ?_
      refine at_then ?_
      refine run_seq ?_
      refine run_block ?_
      refine run_seq ?_
      obtain ⟨e2279, ho2265⟩ := chk_some ho2265
      refine run_region rfl ?_
      refine ops_ex rfl (guard_none rfl) rfl rfl (ex_move rfl rfl) ?_
      refine ops_ex rfl (guard_none rfl) rfl rfl (ex_move rfl rfl) ?_
      refine ops_ex rfl (guard_none rfl) rfl rfl (ex_move rfl rfl) ?_
      refine ops_ex rfl (guard_none rfl) rfl rfl (ex_indexAddr (d := kSign) rfl rfl rfl Try.underlying27 tsz161 (HM.own_rd 0 rfl) (idx_lo e2279) (idx_hi e2279)) ?_
      refine ops_ex rfl (guard_none rfl) rfl rfl (ex_fieldAddr (off' := so p0 + (a2272).toNat * 2) rfl rfl Try.underlying161 rfl tsz2 rfl) ?_
      refine ops_doesS rfl (guard_none rfl) rfl (does_setField (fo := 0) (vs := [(.int .i64 a2271)]) (y := (⟨a2271, (gt a2269 a2272).fId⟩ : Sign)) kSign rfl rfl rfl rfl rfl tsz2 (Ones.int Ones.nil) rfl rfl (idx_nat e2279) (fun _ _ _ h => by rw [← gt_eq (idx_nat e2279)] at h; obtain ⟨rfl, h2⟩ := h; exact ⟨rfl, h2⟩) HM) ?_
      rintro w2280 HM
      refine ops_nil ?_
      refine at_then ?_
      refine run_seq ?_
      refine run_region rfl ?_
      refine ops_ex rfl (guard_none rfl) rfl rfl (ex_move rfl rfl) ?_
      refine ops_ex rfl (guard_none rfl) rfl rfl (ex_add rfl rfl rfl) ?_
      refine ops_ex rfl (guard_none rfl) rfl rfl (ex_assign rfl rfl) ?_
      refine ops_nil ?_
      refine at_then ?_
      refine run_seq ?_
      obtain ⟨e2281, ho2265⟩ := chk_some ho2265
      refine run_region rfl ?_
      refine ops_ex rfl (guard_none rfl) rfl rfl (ex_move rfl rfl) ?_
      refine ops_ex rfl (guard_none rfl) rfl rfl (ex_move rfl rfl) ?_
      refine ops_ex rfl (guard_none rfl) rfl rfl (ex_move rfl rfl) ?_
      refine ops_ex rfl (guard_none rfl) rfl rfl (ex_indexAddr (d := kSign) rfl rfl rfl Try.underlying27 tsz161 (HM.own_rd 0 rfl) (idx_lo e2281) (idx_hi e2281)) ?_
      refine ops_ex rfl (guard_none rfl) rfl rfl (ex_fieldAddr (off' := so p0 + (a2272).toNat * 2 + 1) rfl rfl Try.underlying161 rfl tsz2 rfl) ?_
      refine ops_doesS rfl (guard_none rfl) rfl (does_setField (fo := 1) (vs := [(.int .i64 (wrap64 (a2271 + 1)))]) (y := (⟨(gt (a2269.set (a2272).toNat (⟨a2271, (gt a2269 a2272).fId⟩ : Sign)) a2272).fKey, wrap64 (a2271 + 1)⟩ : Sign)) kSign rfl rfl rfl rfl rfl tsz2 (Ones.int Ones.nil) rfl rfl (idx_nat e2281) (fun _ _ _ h => by rw [← gt_eq (idx_nat e2281)] at h; obtain ⟨rfl, h2⟩ := h; exact ⟨rfl, h2⟩) HM) ?_
      rintro w2282 HM
      refine ops_nil ?_
      refine at_then ?_
      refine run_region rfl ?_
      refine ops_ex rfl (guard_none rfl) rfl rfl (ex_move rfl rfl) ?_
      refine ops_ex rfl (guard_none rfl) rfl rfl (ex_add rfl rfl rfl) ?_
      refine ops_ex rfl (guard_none rfl) rfl rfl (ex_assign rfl rfl) ?_
      refine ops_nil ?_
      refine at_block ?_
      refine at_then ?_
      refine run_region rfl ?_
      refine ops_ex rfl (guard_none rfl) rfl rfl (ex_move rfl rfl) ?_
      refine ops_ex rfl (guard_none rfl) rfl rfl (ex_add rfl rfl rfl) ?_
      refine ops_ex rfl (guard_none rfl) rfl rfl (ex_assign rfl rfl) ?_
      refine ops_nil ?_
      exact at_again k2276 (ρ1 := [(0, p0), (1, .int .i64 (wrap64 ((wrap64 (a2271 + 1)) + 1))), (5, .int .i64 (wrap64 (a2272 + 1)))]) (Nat.lt_succ_self _) ⟨_, _, _, ho2265, rfl, HM⟩ (Sub.cons rfl (Sub.cons rfl (Sub.cons rfl Sub.nil)))
    · replace ho2265 := cond_f hb2278 ho2265
      refine run_exit ?_
      refine at_then_exit ?_
      refine at_then_exit ?_
      refine at_block_exit ?_
      exact at_mid (ρ' := [(1, .int .i64 a2271)]) ⟨_, _, (Option.some.inj ho2265), rfl, HM⟩ (Sub.cons rfl Sub.nil)
  · rintro _ w2283 ⟨a2261, a2263, rfl, rfl, HM⟩
    replace H := cur2_mk H
    refine run_seq ?_
    refine run_region rfl ?_
    refine ops_ex rfl (guard_none rfl) rfl rfl (ex_move rfl rfl) ?_
    refine ops_ex rfl (guard_none rfl) rfl rfl (ex_assign rfl rfl) ?_
    refine ops_nil ?_
    refine at_then ?_
    refine run_ret ?_
    have hR := Option.some.inj H
    subst hR
    exact at_ret1 rfl rfl ⟨_, rfl, rfl, HM⟩

def laws_markLedger.f (k : Nat) (x0 : Ledger) (x1 : Int) : Option (Int × (List ByteArray) × (List Sign)) := ((laws_markStringS.f k x0.fTexts x1).bind fun t2296 => ((laws_markSignS.f k x0.fSigns t2296.1).bind fun t2305 => some (t2305.1, t2296.2, t2305.2)))
theorem laws_markLedger.calls {k : Nat} {x0 : Ledger} {x1 : Int} {p0_0 : Value} {p0_1 : Value} {w wo : World} {X : List Nat} (hwo : Olds wo w X) (hX : Hold w [own kStr 9 p0_0 x0.fTexts, own kSign 161 p0_1 x0.fSigns] X) (hXn : X.Nodup) (hXl : ∀ b ∈ X, b < w.heap.size)  {r : Int × (List ByteArray) × (List Sign)} (H : laws_markLedger.f k x0 x1 = some r) :
    Calls Try.prog 15 ([.agg #[p0_0, p0_1], .int .i64 x1] : List Value).toArray w (fun e w_ => ∃ v, e = .returned v ∧ v = (.int .i64 r.1) ∧ Mem w X w_ [own kStr 9 p0_0 r.2.1, own kSign 161 p0_1 r.2.2]) := by
  have HM := Mem.startX hX hXn hXl
  refine calls_run (N := 14) Try.func15 rfl rfl rfl rfl ?_
  unfold laws_markLedger.f at H
  refine run_seq ?_
  refine run_region rfl ?_
  refine ops_does rfl (guard_none rfl) rfl rfl (does_box (cs := [p0_0, p0_1]) rfl rfl rfl HM) ?_
  rintro _ w2295 ⟨b2292, rfl, HM⟩
  refine ops_ex rfl (guard_none rfl) rfl rfl (ex_assign rfl rfl) ?_
  refine ops_nil ?_
  refine at_then ?_
  refine run_seq ?_
  obtain ⟨t2296, h2297, H⟩ := bind_some H
  refine run_region rfl ?_
  refine ops_ex rfl (guard_none rfl) rfl rfl (ex_fieldAddr (off' := 0) rfl rfl Try.underlying29 rfl tsz22 rfl) ?_
  refine ops_ex rfl (guard_none rfl) rfl rfl (ex_load1 rfl rfl Try.underlying22 rfl ((HM.box_at 0 rfl) 0 _ rfl)) ?_
  refine ops_ex rfl (guard_none rfl) rfl rfl (ex_move rfl rfl) ?_
  replace HM := HM.front 1 rfl rfl
  obtain ⟨F2298, hF2299, hFn2300, hFl2301, HMh2302, hcl2303⟩ := HM.hide (Ms := [own kStr 9 p0_0 x0.fTexts])
  refine ops_does rfl (guard_none rfl) rfl rfl (does_callk rfl callok69 rfl (laws_markStringS.calls (x0 := x0.fTexts) (x1 := x1) (hide_olds _ _) hF2299 hFn2300 hFl2301 h2297)) ?_
  rintro _ w2304 ⟨rfl, hn⟩
  replace HM : Mem w X w2304 [own kStr 9 p0_0 t2296.2, box b2292 29 [p0_0, p0_1], own kSign 161 p0_1 x0.fSigns] := hcl2303 _ _ hn
  refine ops_ex rfl (guard_none rfl) rfl rfl (ex_assign rfl rfl) ?_
  refine ops_nil ?_
  refine at_then ?_
  refine run_seq ?_
  obtain ⟨t2305, h2306, H⟩ := bind_some H
  refine run_region rfl ?_
  refine ops_ex rfl (guard_none rfl) rfl rfl (ex_fieldAddr (off' := 1) rfl rfl Try.underlying29 rfl tsz27 rfl) ?_
  refine ops_ex rfl (guard_none rfl) rfl rfl (ex_load1 rfl rfl Try.underlying27 rfl ((HM.box_at 1 rfl) 1 _ rfl)) ?_
  refine ops_ex rfl (guard_none rfl) rfl rfl (ex_move rfl rfl) ?_
  replace HM := HM.front 2 rfl rfl
  obtain ⟨F2307, hF2308, hFn2309, hFl2310, HMh2311, hcl2312⟩ := HM.hide (Ms := [own kSign 161 p0_1 x0.fSigns])
  refine ops_does rfl (guard_none rfl) rfl rfl (does_callk rfl callok70 rfl (laws_markSignS.calls (x0 := x0.fSigns) (x1 := t2296.1) (hide_olds _ _) hF2308 hFn2309 hFl2310 h2306)) ?_
  rintro _ w2313 ⟨rfl, hn⟩
  replace HM : Mem w X w2313 [own kSign 161 p0_1 t2305.2, own kStr 9 p0_0 t2296.2, box b2292 29 [p0_0, p0_1]] := hcl2312 _ _ hn
  refine ops_ex rfl (guard_none rfl) rfl rfl (ex_assign rfl rfl) ?_
  refine ops_nil ?_
  refine at_then ?_
  refine run_seq ?_
  refine run_region rfl ?_
  refine ops_ex rfl (guard_none rfl) rfl rfl (ex_move rfl rfl) ?_
  refine ops_ex rfl (guard_none rfl) rfl rfl (ex_assign rfl rfl) ?_
  refine ops_nil ?_
  refine at_then ?_
  refine run_ret ?_
  replace HM := (HM.front 2 rfl rfl).drop
  replace HM := HM.front 1 rfl rfl
  have hR := Option.some.inj H
  subst hR
  exact at_ret1 rfl rfl ⟨_, rfl, rfl, HM⟩

def laws_markLedgerResult.f (k : Nat) (x0 : LedgerResult) (x1 : Int) : Option (Int × (List ByteArray) × (List Sign)) := ((laws_markLedger.f k x0.fLedger x1).bind fun t2350 => some (t2350.1, t2350.2.1, t2350.2.2))
theorem laws_markLedgerResult.calls {k : Nat} {x0 : LedgerResult} {x1 : Int} {p0_0 : Value} {p0_1 : Value} {w wo : World} {X : List Nat} (hwo : Olds wo w X) (hX : Hold w [own kStr 9 p0_0 x0.fLedger.fTexts, own kSign 161 p0_1 x0.fLedger.fSigns] X) (hXn : X.Nodup) (hXl : ∀ b ∈ X, b < w.heap.size)  {r : Int × (List ByteArray) × (List Sign)} (H : laws_markLedgerResult.f k x0 x1 = some r) :
    Calls Try.prog 16 ([.agg #[(.int .i64 x0.fCode), (.int .i64 x0.fId), p0_0, p0_1], .int .i64 x1] : List Value).toArray w (fun e w_ => ∃ v, e = .returned v ∧ v = (.int .i64 r.1) ∧ Mem w X w_ [own kStr 9 p0_0 r.2.1, own kSign 161 p0_1 r.2.2]) := by
  have HM := Mem.startX hX hXn hXl
  refine calls_run (N := 10) Try.func16 rfl rfl rfl rfl ?_
  unfold laws_markLedgerResult.f at H
  refine run_seq ?_
  refine run_region rfl ?_
  refine ops_does rfl (guard_none rfl) rfl rfl (does_box (cs := [.int .i64 x0.fCode, .int .i64 x0.fId, p0_0, p0_1]) rfl rfl rfl HM) ?_
  rintro _ w2349 ⟨b2346, rfl, HM⟩
  refine ops_ex rfl (guard_none rfl) rfl rfl (ex_assign rfl rfl) ?_
  refine ops_nil ?_
  refine at_then ?_
  refine run_seq ?_
  obtain ⟨t2350, h2351, H⟩ := bind_some H
  refine run_region rfl ?_
  refine ops_ex rfl (guard_none rfl) rfl rfl (ex_fieldAddr (off' := 2) rfl rfl Try.underlying31 rfl tsz29 rfl) ?_
  refine ops_ex rfl (guard_none rfl) rfl rfl (ex_loadN (cs := [p0_0, p0_1]) rfl rfl Try.underlying29 rfl tsz29 rfl ((HM.box_at 0 rfl).sub 2 2 rfl)) ?_
  refine ops_ex rfl (guard_none rfl) rfl rfl (ex_move rfl rfl) ?_
  replace HM := HM.front 2 rfl rfl
  replace HM := HM.front 2 rfl rfl
  obtain ⟨F2352, hF2353, hFn2354, hFl2355, HMh2356, hcl2357⟩ := HM.hide (Ms := [own kStr 9 p0_0 x0.fLedger.fTexts, own kSign 161 p0_1 x0.fLedger.fSigns])
  refine ops_does rfl (guard_none rfl) rfl rfl (does_callk rfl callok15 rfl (laws_markLedger.calls (x0 := x0.fLedger) (x1 := x1) (hide_olds _ _) hF2353 hFn2354 hFl2355 h2351)) ?_
  rintro _ w2358 ⟨rfl, hn⟩
  replace HM : Mem w X w2358 [own kStr 9 p0_0 t2350.2.1, own kSign 161 p0_1 t2350.2.2, box b2346 31 [.int .i64 x0.fCode, .int .i64 x0.fId, p0_0, p0_1]] := hcl2357 _ _ hn
  refine ops_ex rfl (guard_none rfl) rfl rfl (ex_assign rfl rfl) ?_
  refine ops_nil ?_
  refine at_then ?_
  refine run_seq ?_
  refine run_region rfl ?_
  refine ops_ex rfl (guard_none rfl) rfl rfl (ex_move rfl rfl) ?_
  refine ops_ex rfl (guard_none rfl) rfl rfl (ex_assign rfl rfl) ?_
  refine ops_nil ?_
  refine at_then ?_
  refine run_ret ?_
  replace HM := (HM.front 2 rfl rfl).drop
  have hR := Option.some.inj H
  subst hR
  exact at_ret1 rfl rfl ⟨_, rfl, rfl, HM⟩

def laws_heldStringS.l0 (x0 : List ByteArray) : Nat → Int → Int → Option (Int ⊕ Int)
  | 0, _, _ => none
  | k + 1, a2425, a2426 => (bif (decide (a2426 < (x0.length : Int))) then (chk (idxOk a2426 x0.length) ((laws_markText.f k a2425).bind fun t2438 => (bif (!sEq (gt x0 a2426) t2438) then some (.inl (-1)) else laws_heldStringS.l0 x0 k (wrap64 (a2425 + 1)) (wrap64 (a2426 + 1))))) else some (.inr a2425))
theorem laws_heldStringS.l0_z (x0 : List ByteArray) (a2425 : Int) (a2426 : Int) : laws_heldStringS.l0 x0 0 a2425 a2426 = none := rfl
theorem laws_heldStringS.l0_s (x0 : List ByteArray) (k : Nat) (a2425 : Int) (a2426 : Int) : laws_heldStringS.l0 x0 (k + 1) a2425 a2426 = (bif (decide (a2426 < (x0.length : Int))) then (chk (idxOk a2426 x0.length) ((laws_markText.f k a2425).bind fun t2438 => (bif (!sEq (gt x0 a2426) t2438) then some (.inl (-1)) else laws_heldStringS.l0 x0 k (wrap64 (a2425 + 1)) (wrap64 (a2426 + 1))))) else some (.inr a2425)) := rfl
def laws_heldStringS.f (k : Nat) (x0 : List ByteArray) (x1 : Int) : Option Int := ((laws_heldStringS.l0 x0 k x1 0).bind fun o2417 => thn o2417 (fun r => some r) (fun a2416 => some a2416))
theorem laws_heldStringS.calls {k : Nat} {x0 : List ByteArray} {x1 : Int} {p0 : Value} {w : World} (hp0 : RdS kStr w p0 x0) {r : Int} (H : laws_heldStringS.f k x0 x1 = some r) :
    Calls Try.prog 119 ([p0, .int .i64 x1] : List Value).toArray w (fun e w_ => ∃ v, e = .returned v ∧ v = (.int .i64 r) ∧ Mem w [] w_ []) := by
  have HM := Mem.start w
  refine calls_run (N := 22) Try.func119 rfl rfl rfl rfl ?_
  unfold laws_heldStringS.f at H
  refine run_seq ?_
  refine run_region rfl ?_
  refine ops_ex rfl (guard_none rfl) rfl rfl (ex_assign rfl rfl) ?_
  refine ops_nil ?_
  refine at_then ?_
  obtain ⟨o2417, ho2418, H⟩ := bind_some H
  refine run_mid (fun ρ_ w_ => ∃ a2416 : Int, Sum.inr a2416 = o2417 ∧ ρ_ = [(1, .int .i64 a2416)] ∧ Mem w [] w_ []) ?_ ?_
  · skip
    refine run_seq ?_
    refine run_region rfl ?_
    refine ops_ex rfl (guard_none rfl) rfl rfl (ex_assign rfl rfl) ?_
    refine ops_nil ?_
    refine at_then ?_
    refine run_block ?_
    refine run_loop (fun k_ ρ_ w_ => ∃ a2425 : Int, ∃ a2426 : Int, laws_heldStringS.l0 x0 k_ a2425 a2426 = some o2417 ∧ ρ_ = [(0, p0), (1, .int .i64 a2425), (5, .int .i64 a2426)] ∧ Mem w [] w_ []) k (ρ1 := [(0, p0), (1, .int .i64 x1), (5, .int .i64 0)]) ⟨_, _, ho2418, rfl, HM⟩ (Sub.cons rfl (Sub.cons rfl (Sub.cons rfl Sub.nil))) ?_
    clear HM ho2418
    rintro k2433 _ w2434 ⟨a2425, a2426, ho2418, rfl, HM⟩
    obtain _ | k2433 := k2433
    · exact nomatch ((laws_heldStringS.l0_z x0 a2425 a2426).symm.trans ho2418)
    replace ho2418 := (laws_heldStringS.l0_s x0 k2433 a2425 a2426).symm.trans ho2418
    refine run_seq ?_
    refine run_seq ?_
    refine run_region rfl ?_
    refine ops_ex rfl (guard_none rfl) rfl rfl (ex_move rfl rfl) ?_
    refine ops_ex rfl (guard_none rfl) rfl rfl (ex_move rfl rfl) ?_
    refine ops_ex rfl (guard_none rfl) rfl rfl (ex_len (d := kStr) (xs := x0) rfl rfl Try.underlying22 hp0) ?_
    refine ops_ex rfl (guard_none rfl) rfl rfl (ex_lss rfl rfl rfl) ?_
    refine ops_nil ?_
    refine at_then ?_
    refine run_cond (b := (decide (a2426 < (x0.length : Int)))) rfl (fun hb2435 => ?_) (fun hb2435 => ?_)
    · replace ho2418 := cond_t hb2435 ho2418
      refine run_skip ?_
      refine at_then ?_
      refine run_seq ?_
      refine run_block ?_
      refine run_seq ?_
      refine run_seq ?_
      obtain ⟨e2436, ho2418⟩ := chk_some ho2418
      obtain ⟨t2438, h2439, ho2418⟩ := bind_some ho2418
      refine run_drawf (fun w_ => Mem w [] w_ []) [(0, true), (1, true), (2, true), (3, true), (4, true), (5, false), (6, true)] mixed rfl rfl (by kernel_rfl) ?_
      replace HM := HM.grow (fr_drew _)
      have hS := Mem.suf (M := []) HM
      refine drwp_take rfl (guard_none rfl) rfl rfl (fun w_ hS_ => (ex_move rfl rfl)) hS ?_
      refine drwp_take rfl (guard_none rfl) rfl rfl (fun w_ hS_ => (ex_move rfl rfl)) hS ?_
      have hc2437 : CellsAt _ (sb p0) (so p0 + (a2426).toNat * 1) [(.string (gt x0 a2426))] := rd_plain hp0 e2436
      refine drwp_take rfl (guard_none rfl) rfl rfl (fun w_ hS_ => (ex_indexAddr (d := kStr) rfl rfl rfl Try.underlying22 tsz9 hp0 (idx_lo e2436) (idx_hi e2436))) hS ?_
      refine drwp_take rfl (guard_none rfl) rfl rfl (fun w_ hS_ => (ex_load1 rfl rfl Try.underlying9 rfl ((hS_.at_ hc2437) 0 _ rfl))) hS ?_
      refine drwp_take rfl (guard_none rfl) rfl rfl (fun w_ hS_ => (ex_move rfl rfl)) hS ?_
      refine drwp_one rfl (guard_none rfl) rfl rfl (does_callk rfl callok118 rfl (laws_markText.calls (x0 := a2425) h2439)) ?_
      rintro _ w2440 ⟨rfl, hn⟩
      replace HM : Mem w [] w2440 [] := HM.call hn
      refine ⟨Mem.suf (M := []) HM, ?_⟩
      have hS := Mem.suf (M := []) HM
      refine drwp_take rfl (guard_none rfl) rfl rfl (fun w_ hS_ => (ex_sneq rfl rfl rfl)) hS ?_
      refine drwp_done ?_
      refine at_then ?_
      refine run_cond (b := (!sEq (gt x0 a2426) t2438)) rfl (fun hb2441 => ?_) (fun hb2441 => ?_)
      · replace ho2418 := cond_t hb2441 ho2418
        refine run_seq ?_
        refine run_region rfl ?_
        refine ops_ex rfl (guard_none rfl) rfl rfl (ex_assign rfl rfl) ?_
        refine ops_nil ?_
        refine at_then ?_
        refine run_ret ?_
        refine at_then_ret ?_
        refine at_block_ret ?_
        refine at_then_ret ?_
        refine at_then_ret ?_
        refine at_block_ret ?_
        refine at_then_ret ?_
        have hR := Option.some.inj ho2418
        subst hR
        have hT := thn_inl H
        have hR := Option.some.inj hT
        subst hR
        exact at_ret1 rfl rfl ⟨_, rfl, rfl, HM⟩
      · replace ho2418 := cond_f hb2441 ho2418
        refine run_skip ?_
        refine at_then ?_
        refine run_region rfl ?_
        refine ops_ex rfl (guard_none rfl) rfl rfl (ex_move rfl rfl) ?_
        refine ops_ex rfl (guard_none rfl) rfl rfl (ex_add rfl rfl rfl) ?_
        refine ops_ex rfl (guard_none rfl) rfl rfl (ex_assign rfl rfl) ?_
        refine ops_nil ?_
        refine at_block ?_
        refine at_then ?_
        refine run_region rfl ?_
        refine ops_ex rfl (guard_none rfl) rfl rfl (ex_move rfl rfl) ?_
        refine ops_ex rfl (guard_none rfl) rfl rfl (ex_add rfl rfl rfl) ?_
        refine ops_ex rfl (guard_none rfl) rfl rfl (ex_assign rfl rfl) ?_
        refine ops_nil ?_
        exact at_again k2433 (ρ1 := [(0, p0), (1, .int .i64 (wrap64 (a2425 + 1))), (5, .int .i64 (wrap64 (a2426 + 1)))]) (Nat.lt_succ_self _) ⟨_, _, ho2418, rfl, HM⟩ (Sub.cons rfl (Sub.cons rfl (Sub.cons rfl Sub.nil)))
    · replace ho2418 := cond_f hb2435 ho2418
      refine run_exit ?_
      refine at_then_exit ?_
      refine at_then_exit ?_
      refine at_block_exit ?_
      exact at_mid (ρ' := [(1, .int .i64 a2425)]) ⟨_, (Option.some.inj ho2418), rfl, HM⟩ (Sub.cons rfl Sub.nil)
  · rintro _ w2442 ⟨a2416, rfl, rfl, HM⟩
    replace H := (thn_inr H)
    refine run_seq ?_
    refine run_region rfl ?_
    refine ops_ex rfl (guard_none rfl) rfl rfl (ex_move rfl rfl) ?_
    refine ops_ex rfl (guard_none rfl) rfl rfl (ex_assign rfl rfl) ?_
    refine ops_nil ?_
    refine at_then ?_
    refine run_ret ?_
    have hR := Option.some.inj H
    subst hR
    exact at_ret1 rfl rfl ⟨_, rfl, rfl, HM⟩

def laws_heldSignS.l0 (x0 : List Sign) : Nat → Int → Int → Option (Int ⊕ Int)
  | 0, _, _ => none
  | k + 1, a2527, a2528 => (bif (decide (a2528 < (x0.length : Int))) then (chk (idxOk a2528 x0.length) (bif (((gt x0 a2528).fKey) != a2527) then some (.inl (-1)) else (chk (idxOk a2528 x0.length) (bif (((gt x0 a2528).fId) != (wrap64 (a2527 + 1))) then some (.inl (-1)) else laws_heldSignS.l0 x0 k (wrap64 ((wrap64 (a2527 + 1)) + 1)) (wrap64 (a2528 + 1)))))) else some (.inr a2527))
theorem laws_heldSignS.l0_z (x0 : List Sign) (a2527 : Int) (a2528 : Int) : laws_heldSignS.l0 x0 0 a2527 a2528 = none := rfl
theorem laws_heldSignS.l0_s (x0 : List Sign) (k : Nat) (a2527 : Int) (a2528 : Int) : laws_heldSignS.l0 x0 (k + 1) a2527 a2528 = (bif (decide (a2528 < (x0.length : Int))) then (chk (idxOk a2528 x0.length) (bif (((gt x0 a2528).fKey) != a2527) then some (.inl (-1)) else (chk (idxOk a2528 x0.length) (bif (((gt x0 a2528).fId) != (wrap64 (a2527 + 1))) then some (.inl (-1)) else laws_heldSignS.l0 x0 k (wrap64 ((wrap64 (a2527 + 1)) + 1)) (wrap64 (a2528 + 1)))))) else some (.inr a2527)) := rfl
def laws_heldSignS.f (k : Nat) (x0 : List Sign) (x1 : Int) : Option Int := ((laws_heldSignS.l0 x0 k x1 0).bind fun o2515 => thn o2515 (fun r => some r) (fun a2514 => some a2514))
theorem laws_heldSignS.calls {k : Nat} {x0 : List Sign} {x1 : Int} {p0 : Value} {w : World} (hp0 : RdS kSign w p0 x0) {r : Int} (H : laws_heldSignS.f k x0 x1 = some r) :
    Calls Try.prog 120 ([p0, .int .i64 x1] : List Value).toArray w (fun e w_ => ∃ v, e = .returned v ∧ v = (.int .i64 r) ∧ Mem w [] w_ []) := by
  have HM := Mem.start w
  refine calls_run (N := 31) Try.func120 rfl rfl rfl rfl ?_
  unfold laws_heldSignS.f at H
  refine run_seq ?_
  refine run_region rfl ?_
  refine ops_ex rfl (guard_none rfl) rfl rfl (ex_assign rfl rfl) ?_
  refine ops_nil ?_
  refine at_then ?_
  obtain ⟨o2515, ho2516, H⟩ := bind_some H
  refine run_mid (fun ρ_ w_ => ∃ a2514 : Int, Sum.inr a2514 = o2515 ∧ ρ_ = [(1, .int .i64 a2514)] ∧ Mem w [] w_ []) ?_ ?_
  · skip
    refine run_seq ?_
    refine run_region rfl ?_
    refine ops_ex rfl (guard_none rfl) rfl rfl (ex_assign rfl rfl) ?_
    refine ops_nil ?_
    refine at_then ?_
    refine run_block ?_
    refine run_loop (fun k_ ρ_ w_ => ∃ a2527 : Int, ∃ a2528 : Int, laws_heldSignS.l0 x0 k_ a2527 a2528 = some o2515 ∧ ρ_ = [(0, p0), (1, .int .i64 a2527), (5, .int .i64 a2528)] ∧ Mem w [] w_ []) k (ρ1 := [(0, p0), (1, .int .i64 x1), (5, .int .i64 0)]) ⟨_, _, ho2516, rfl, HM⟩ (Sub.cons rfl (Sub.cons rfl (Sub.cons rfl Sub.nil))) ?_
    clear HM ho2516
    rintro k2539 _ w2540 ⟨a2527, a2528, ho2516, rfl, HM⟩
    obtain _ | k2539 := k2539
    · exact nomatch ((laws_heldSignS.l0_z x0 a2527 a2528).symm.trans ho2516)
    replace ho2516 := (laws_heldSignS.l0_s x0 k2539 a2527 a2528).symm.trans ho2516
    refine run_seq ?_
    refine run_seq ?_
    refine run_region rfl ?_
    refine ops_ex rfl (guard_none rfl) rfl rfl (ex_move rfl rfl) ?_
    refine ops_ex rfl (guard_none rfl) rfl rfl (ex_move rfl rfl) ?_
    refine ops_ex rfl (guard_none rfl) rfl rfl (ex_len (d := kSign) (xs := x0) rfl rfl Try.underlying27 hp0) ?_
    refine ops_ex rfl (guard_none rfl) rfl rfl (ex_lss rfl rfl rfl) ?_
    refine ops_nil ?_
    refine at_then ?_
    refine run_cond (b := (decide (a2528 < (x0.length : Int)))) rfl (fun hb2541 => ?_) (fun hb2541 => ?_)
    · replace ho2516 := cond_t hb2541 ho2516
      refine run_skip ?_
      refine at_then ?_
      refine run_seq ?_
      refine run_block ?_
      refine run_seq ?_
      refine run_seq ?_
      obtain ⟨e2545, ho2516⟩ := chk_some ho2516
      refine run_region rfl ?_
      refine ops_ex rfl (guard_none rfl) rfl rfl (ex_move rfl rfl) ?_
      refine ops_ex rfl (guard_none rfl) rfl rfl (ex_move rfl rfl) ?_
      have hc2546 : CellsAt _ (sb p0) (so p0 + (a2528).toNat * 2) [(.int .i64 ((gt x0 a2528).fKey)), (.int .i64 ((gt x0 a2528).fId))] := rd_plain hp0 e2545
      refine ops_ex rfl (guard_none rfl) rfl rfl (ex_indexAddr (d := kSign) rfl rfl rfl Try.underlying27 tsz161 hp0 (idx_lo e2545) (idx_hi e2545)) ?_
      refine ops_ex rfl (guard_none rfl) rfl rfl (ex_fieldAddr (off' := so p0 + (a2528).toNat * 2) rfl rfl Try.underlying161 rfl tsz2 rfl) ?_
      refine ops_ex rfl (guard_none rfl) rfl rfl (ex_load1 rfl rfl Try.underlying2 rfl ((HM.at_ hc2546) 0 _ rfl)) ?_
      refine ops_ex rfl (guard_none rfl) rfl rfl (ex_move rfl rfl) ?_
      refine ops_ex rfl (guard_none rfl) rfl rfl (ex_neq rfl rfl rfl) ?_
      refine ops_nil ?_
      refine at_then ?_
      refine run_cond (b := (((gt x0 a2528).fKey) != a2527)) rfl (fun hb2547 => ?_) (fun hb2547 => ?_)
      · replace ho2516 := cond_t hb2547 ho2516
        refine run_seq ?_
        refine run_region rfl ?_
        refine ops_ex rfl (guard_none rfl) rfl rfl (ex_assign rfl rfl) ?_
        refine ops_nil ?_
        refine at_then ?_
        refine run_ret ?_
        refine at_then_ret ?_
        refine at_block_ret ?_
        refine at_then_ret ?_
        refine at_then_ret ?_
        refine at_block_ret ?_
        refine at_then_ret ?_
        have hR := Option.some.inj ho2516
        subst hR
        have hT := thn_inl H
        have hR := Option.some.inj hT
        subst hR
        exact at_ret1 rfl rfl ⟨_, rfl, rfl, HM⟩
      · replace ho2516 := cond_f hb2547 ho2516
        refine run_skip ?_
        refine at_then ?_
        refine run_seq ?_
        refine run_region rfl ?_
        refine ops_ex rfl (guard_none rfl) rfl rfl (ex_move rfl rfl) ?_
        refine ops_ex rfl (guard_none rfl) rfl rfl (ex_add rfl rfl rfl) ?_
        refine ops_ex rfl (guard_none rfl) rfl rfl (ex_assign rfl rfl) ?_
        refine ops_nil ?_
        refine at_then ?_
        refine run_seq ?_
        refine run_seq ?_
        obtain ⟨e2548, ho2516⟩ := chk_some ho2516
        refine run_region rfl ?_
        refine ops_ex rfl (guard_none rfl) rfl rfl (ex_move rfl rfl) ?_
        refine ops_ex rfl (guard_none rfl) rfl rfl (ex_move rfl rfl) ?_
        have hc2549 : CellsAt _ (sb p0) (so p0 + (a2528).toNat * 2) [(.int .i64 ((gt x0 a2528).fKey)), (.int .i64 ((gt x0 a2528).fId))] := rd_plain hp0 e2548
        refine ops_ex rfl (guard_none rfl) rfl rfl (ex_indexAddr (d := kSign) rfl rfl rfl Try.underlying27 tsz161 hp0 (idx_lo e2548) (idx_hi e2548)) ?_
        refine ops_ex rfl (guard_none rfl) rfl rfl (ex_fieldAddr (off' := so p0 + (a2528).toNat * 2 + 1) rfl rfl Try.underlying161 rfl tsz2 rfl) ?_
        refine ops_ex rfl (guard_none rfl) rfl rfl (ex_load1 rfl rfl Try.underlying2 rfl ((HM.at_ hc2549) 1 _ rfl)) ?_
        refine ops_ex rfl (guard_none rfl) rfl rfl (ex_move rfl rfl) ?_
        refine ops_ex rfl (guard_none rfl) rfl rfl (ex_neq rfl rfl rfl) ?_
        refine ops_nil ?_
        refine at_then ?_
        refine run_cond (b := (((gt x0 a2528).fId) != (wrap64 (a2527 + 1)))) rfl (fun hb2550 => ?_) (fun hb2550 => ?_)
        · replace ho2516 := cond_t hb2550 ho2516
          refine run_seq ?_
          refine run_region rfl ?_
          refine ops_ex rfl (guard_none rfl) rfl rfl (ex_assign rfl rfl) ?_
          refine ops_nil ?_
          refine at_then ?_
          refine run_ret ?_
          refine at_then_ret ?_
          refine at_block_ret ?_
          refine at_then_ret ?_
          refine at_then_ret ?_
          refine at_block_ret ?_
          refine at_then_ret ?_
          have hR := Option.some.inj ho2516
          subst hR
          have hT := thn_inl H
          have hR := Option.some.inj hT
          subst hR
          exact at_ret1 rfl rfl ⟨_, rfl, rfl, HM⟩
        · replace ho2516 := cond_f hb2550 ho2516
          refine run_skip ?_
          refine at_then ?_
          refine run_region rfl ?_
          refine ops_ex rfl (guard_none rfl) rfl rfl (ex_move rfl rfl) ?_
          refine ops_ex rfl (guard_none rfl) rfl rfl (ex_add rfl rfl rfl) ?_
          refine ops_ex rfl (guard_none rfl) rfl rfl (ex_assign rfl rfl) ?_
          refine ops_nil ?_
          refine at_block ?_
          refine at_then ?_
          refine run_region rfl ?_
          refine ops_ex rfl (guard_none rfl) rfl rfl (ex_move rfl rfl) ?_
          refine ops_ex rfl (guard_none rfl) rfl rfl (ex_add rfl rfl rfl) ?_
          refine ops_ex rfl (guard_none rfl) rfl rfl (ex_assign rfl rfl) ?_
          refine ops_nil ?_
          exact at_again k2539 (ρ1 := [(0, p0), (1, .int .i64 (wrap64 ((wrap64 (a2527 + 1)) + 1))), (5, .int .i64 (wrap64 (a2528 + 1)))]) (Nat.lt_succ_self _) ⟨_, _, ho2516, rfl, HM⟩ (Sub.cons rfl (Sub.cons rfl (Sub.cons rfl Sub.nil)))
    · replace ho2516 := cond_f hb2541 ho2516
      refine run_exit ?_
      refine at_then_exit ?_
      refine at_then_exit ?_
      refine at_block_exit ?_
      exact at_mid (ρ' := [(1, .int .i64 a2527)]) ⟨_, (Option.some.inj ho2516), rfl, HM⟩ (Sub.cons rfl Sub.nil)
  · rintro _ w2551 ⟨a2514, rfl, rfl, HM⟩
    replace H := (thn_inr H)
    refine run_seq ?_
    refine run_region rfl ?_
    refine ops_ex rfl (guard_none rfl) rfl rfl (ex_move rfl rfl) ?_
    refine ops_ex rfl (guard_none rfl) rfl rfl (ex_assign rfl rfl) ?_
    refine ops_nil ?_
    refine at_then ?_
    refine run_ret ?_
    have hR := Option.some.inj H
    subst hR
    exact at_ret1 rfl rfl ⟨_, rfl, rfl, HM⟩

def laws_heldLedger.f (k : Nat) (x0 : Ledger) (x1 : Int) : Option Int := ((laws_heldStringS.f k x0.fTexts x1).bind fun t2559 => (bif (decide (t2559 < 0)) then some (-1) else ((laws_heldSignS.f k x0.fSigns t2559).bind fun t2564 => (bif (decide (t2564 < 0)) then some (-1) else some t2564))))
theorem laws_heldLedger.calls {k : Nat} {x0 : Ledger} {x1 : Int} {p0_0 : Value} {p0_1 : Value} {w : World} (hp0_0 : RdS kStr w p0_0 x0.fTexts) (hp0_1 : RdS kSign w p0_1 x0.fSigns) {r : Int} (H : laws_heldLedger.f k x0 x1 = some r) :
    Calls Try.prog 71 ([.agg #[p0_0, p0_1], .int .i64 x1] : List Value).toArray w (fun e w_ => ∃ v, e = .returned v ∧ v = (.int .i64 r) ∧ Mem w [] w_ []) := by
  have HM := Mem.start w
  refine calls_run (N := 18) Try.func71 rfl rfl rfl rfl ?_
  unfold laws_heldLedger.f at H
  refine run_seq ?_
  refine run_region rfl ?_
  refine ops_does rfl (guard_none rfl) rfl rfl (does_box (cs := [p0_0, p0_1]) rfl rfl rfl HM) ?_
  rintro _ w2558 ⟨b2555, rfl, HM⟩
  refine ops_ex rfl (guard_none rfl) rfl rfl (ex_assign rfl rfl) ?_
  refine ops_nil ?_
  refine at_then ?_
  refine run_seq ?_
  obtain ⟨t2559, h2560, H⟩ := bind_some H
  refine run_region rfl ?_
  refine ops_ex rfl (guard_none rfl) rfl rfl (ex_fieldAddr (off' := 0) rfl rfl Try.underlying29 rfl tsz22 rfl) ?_
  refine ops_ex rfl (guard_none rfl) rfl rfl (ex_load1 rfl rfl Try.underlying22 rfl ((HM.box_at 0 rfl) 0 _ rfl)) ?_
  refine ops_ex rfl (guard_none rfl) rfl rfl (ex_move rfl rfl) ?_
  refine ops_does rfl (guard_none rfl) rfl rfl (does_callk rfl callok119 rfl (laws_heldStringS.calls (x0 := x0.fTexts) (x1 := x1) (HM.rd hp0_0) h2560)) ?_
  rintro _ w2561 ⟨rfl, hn⟩
  replace HM : Mem w [] w2561 [box b2555 29 [p0_0, p0_1]] := HM.call hn
  refine ops_ex rfl (guard_none rfl) rfl rfl (ex_assign rfl rfl) ?_
  refine ops_nil ?_
  refine at_then ?_
  refine run_seq ?_
  refine run_seq ?_
  refine run_region rfl ?_
  refine ops_ex rfl (guard_none rfl) rfl rfl (ex_move rfl rfl) ?_
  refine ops_ex rfl (guard_none rfl) rfl rfl (ex_lss rfl rfl rfl) ?_
  refine ops_nil ?_
  refine at_then ?_
  refine run_cond (b := (decide (t2559 < 0))) rfl (fun hb2563 => ?_) (fun hb2563 => ?_)
  · replace H := cond_t hb2563 H
    refine run_seq ?_
    refine run_region rfl ?_
    refine ops_ex rfl (guard_none rfl) rfl rfl (ex_assign rfl rfl) ?_
    refine ops_nil ?_
    refine at_then ?_
    refine run_ret ?_
    refine at_then_ret ?_
    replace HM := (HM.front 0 rfl rfl).drop
    have hR := Option.some.inj H
    subst hR
    exact at_ret1 rfl rfl ⟨_, rfl, rfl, HM⟩
  · replace H := cond_f hb2563 H
    refine run_skip ?_
    refine at_then ?_
    refine run_seq ?_
    obtain ⟨t2564, h2565, H⟩ := bind_some H
    refine run_region rfl ?_
    refine ops_ex rfl (guard_none rfl) rfl rfl (ex_fieldAddr (off' := 1) rfl rfl Try.underlying29 rfl tsz27 rfl) ?_
    refine ops_ex rfl (guard_none rfl) rfl rfl (ex_load1 rfl rfl Try.underlying27 rfl ((HM.box_at 0 rfl) 1 _ rfl)) ?_
    refine ops_ex rfl (guard_none rfl) rfl rfl (ex_move rfl rfl) ?_
    refine ops_does rfl (guard_none rfl) rfl rfl (does_callk rfl callok120 rfl (laws_heldSignS.calls (x0 := x0.fSigns) (x1 := t2559) (HM.rd hp0_1) h2565)) ?_
    rintro _ w2566 ⟨rfl, hn⟩
    replace HM : Mem w [] w2566 [box b2555 29 [p0_0, p0_1]] := HM.call hn
    refine ops_ex rfl (guard_none rfl) rfl rfl (ex_assign rfl rfl) ?_
    refine ops_nil ?_
    refine at_then ?_
    refine run_seq ?_
    refine run_seq ?_
    refine run_region rfl ?_
    refine ops_ex rfl (guard_none rfl) rfl rfl (ex_move rfl rfl) ?_
    refine ops_ex rfl (guard_none rfl) rfl rfl (ex_lss rfl rfl rfl) ?_
    refine ops_nil ?_
    refine at_then ?_
    refine run_cond (b := (decide (t2564 < 0))) rfl (fun hb2567 => ?_) (fun hb2567 => ?_)
    · replace H := cond_t hb2567 H
      refine run_seq ?_
      refine run_region rfl ?_
      refine ops_ex rfl (guard_none rfl) rfl rfl (ex_assign rfl rfl) ?_
      refine ops_nil ?_
      refine at_then ?_
      refine run_ret ?_
      refine at_then_ret ?_
      replace HM := (HM.front 0 rfl rfl).drop
      have hR := Option.some.inj H
      subst hR
      exact at_ret1 rfl rfl ⟨_, rfl, rfl, HM⟩
    · replace H := cond_f hb2567 H
      refine run_skip ?_
      refine at_then ?_
      refine run_seq ?_
      refine run_region rfl ?_
      refine ops_ex rfl (guard_none rfl) rfl rfl (ex_move rfl rfl) ?_
      refine ops_ex rfl (guard_none rfl) rfl rfl (ex_assign rfl rfl) ?_
      refine ops_nil ?_
      refine at_then ?_
      refine run_ret ?_
      replace HM := (HM.front 0 rfl rfl).drop
      have hR := Option.some.inj H
      subst hR
      exact at_ret1 rfl rfl ⟨_, rfl, rfl, HM⟩

def laws_heldLedgerResult.f (k : Nat) (x0 : LedgerResult) (x1 : Int) : Option Int := ((laws_heldLedger.f k x0.fLedger x1).bind fun t2575 => (bif (decide (t2575 < 0)) then some (-1) else some t2575))
theorem laws_heldLedgerResult.calls {k : Nat} {x0 : LedgerResult} {x1 : Int} {p0_0 : Value} {p0_1 : Value} {w : World} (hp0_0 : RdS kStr w p0_0 x0.fLedger.fTexts) (hp0_1 : RdS kSign w p0_1 x0.fLedger.fSigns) {r : Int} (H : laws_heldLedgerResult.f k x0 x1 = some r) :
    Calls Try.prog 17 ([.agg #[(.int .i64 x0.fCode), (.int .i64 x0.fId), p0_0, p0_1], .int .i64 x1] : List Value).toArray w (fun e w_ => ∃ v, e = .returned v ∧ v = (.int .i64 r) ∧ Mem w [] w_ []) := by
  have HM := Mem.start w
  refine calls_run (N := 12) Try.func17 rfl rfl rfl rfl ?_
  unfold laws_heldLedgerResult.f at H
  refine run_seq ?_
  refine run_region rfl ?_
  refine ops_does rfl (guard_none rfl) rfl rfl (does_box (cs := [.int .i64 x0.fCode, .int .i64 x0.fId, p0_0, p0_1]) rfl rfl rfl HM) ?_
  rintro _ w2574 ⟨b2571, rfl, HM⟩
  refine ops_ex rfl (guard_none rfl) rfl rfl (ex_assign rfl rfl) ?_
  refine ops_nil ?_
  refine at_then ?_
  refine run_seq ?_
  obtain ⟨t2575, h2576, H⟩ := bind_some H
  refine run_region rfl ?_
  refine ops_ex rfl (guard_none rfl) rfl rfl (ex_fieldAddr (off' := 2) rfl rfl Try.underlying31 rfl tsz29 rfl) ?_
  refine ops_ex rfl (guard_none rfl) rfl rfl (ex_loadN (cs := [p0_0, p0_1]) rfl rfl Try.underlying29 rfl tsz29 rfl ((HM.box_at 0 rfl).sub 2 2 rfl)) ?_
  refine ops_ex rfl (guard_none rfl) rfl rfl (ex_move rfl rfl) ?_
  refine ops_does rfl (guard_none rfl) rfl rfl (does_callk rfl callok71 rfl (laws_heldLedger.calls (x0 := x0.fLedger) (x1 := x1) (HM.rd hp0_0) (HM.rd hp0_1) h2576)) ?_
  rintro _ w2577 ⟨rfl, hn⟩
  replace HM : Mem w [] w2577 [box b2571 31 [.int .i64 x0.fCode, .int .i64 x0.fId, p0_0, p0_1]] := HM.call hn
  refine ops_ex rfl (guard_none rfl) rfl rfl (ex_assign rfl rfl) ?_
  refine ops_nil ?_
  refine at_then ?_
  refine run_seq ?_
  refine run_seq ?_
  refine run_region rfl ?_
  refine ops_ex rfl (guard_none rfl) rfl rfl (ex_move rfl rfl) ?_
  refine ops_ex rfl (guard_none rfl) rfl rfl (ex_lss rfl rfl rfl) ?_
  refine ops_nil ?_
  refine at_then ?_
  refine run_cond (b := (decide (t2575 < 0))) rfl (fun hb2578 => ?_) (fun hb2578 => ?_)
  · replace H := cond_t hb2578 H
    refine run_seq ?_
    refine run_region rfl ?_
    refine ops_ex rfl (guard_none rfl) rfl rfl (ex_assign rfl rfl) ?_
    refine ops_nil ?_
    refine at_then ?_
    refine run_ret ?_
    refine at_then_ret ?_
    replace HM := (HM.front 0 rfl rfl).drop
    have hR := Option.some.inj H
    subst hR
    exact at_ret1 rfl rfl ⟨_, rfl, rfl, HM⟩
  · replace H := cond_f hb2578 H
    refine run_skip ?_
    refine at_then ?_
    refine run_seq ?_
    refine run_region rfl ?_
    refine ops_ex rfl (guard_none rfl) rfl rfl (ex_move rfl rfl) ?_
    refine ops_ex rfl (guard_none rfl) rfl rfl (ex_assign rfl rfl) ?_
    refine ops_nil ?_
    refine at_then ?_
    refine run_ret ?_
    replace HM := (HM.front 0 rfl rfl).drop
    have hR := Option.some.inj H
    subst hR
    exact at_ret1 rfl rfl ⟨_, rfl, rfl, HM⟩

def laws_FnExactNoteText.f (k : Nat) (x0 : Ledger) (x1 : ByteArray) : Option Bool := (bif (decide (1048576 < (x1.size : Int))) then some true else ((laws_szLedger.f k x0 1048576).bind fun t2617 => (bif (decide (t2617 < 0)) then some true else ((laws_toLedger.f k x0).bind fun t2622 => ((spec_NoteText.f k t2622 x1).bind fun t2628 => ((laws_toLedger.f k x0).bind fun t2641 => ((impl_NoteText.f k t2641 x1).bind fun t2653 => ((laws_eqLedgerResult.f k t2653 t2628).bind fun t2668 => (bif !t2668 then some false else ((laws_toLedger.f k x0).bind fun t2681 => ((laws_eqLedger.f k t2641 t2681).bind fun t2687 => (bif !t2687 then some false else ((laws_markLedger.f k t2641 1).bind fun t2692 => ((bif (!(decide (t2692.1 < 0))) then laws_eqLedgerResult.f k t2653 t2628 else some default).bind fun t2704 => (bif ((decide (t2692.1 < 0)) || (!t2704)) then some false else ((laws_markLedgerResult.f k t2653 1).bind fun t2711 => ((laws_heldLedgerResult.f k (⟨t2653.fCode, t2653.fId, (⟨t2711.2.1, t2711.2.2⟩ : Ledger)⟩ : LedgerResult) 1).bind fun t2720 => (bif (decide (t2720 < 0)) then some false else (bif (t2720 != t2711.1) then some false else ((laws_toLedger.f k x0).bind fun t2727 => ((impl_NoteText.f k t2727 x1).bind fun t2733 => ((laws_eqLedgerResult.f k t2733 t2628).bind fun t2749 => (bif !t2749 then some false else ((laws_heldLedgerResult.f k (⟨t2653.fCode, t2653.fId, (⟨t2711.2.1, t2711.2.2⟩ : Ledger)⟩ : LedgerResult) 1).bind fun t2753 => (bif (decide (t2753 < 0)) then some false else (bif (t2753 != t2711.1) then some false else some true))))))))))))))))))))))))))
theorem laws_FnExactNoteText.calls {k : Nat} {x0 : Ledger} {x1 : ByteArray} {p0_0 : Value} {p0_1 : Value} {w : World} (hp0_0 : RdS kStr w p0_0 x0.fTexts) (hp0_1 : RdS kSign w p0_1 x0.fSigns) {r : Bool} (H : laws_FnExactNoteText.f k x0 x1 = some r) :
    Calls Try.prog 3 ([.agg #[p0_0, p0_1], .string x1] : List Value).toArray w (fun e w_ => ∃ v, e = .returned v ∧ v = (.bool r) ∧ Mem w [] w_ []) := by
  have HM := Mem.start w
  refine calls_run (N := 77) Try.func3 rfl rfl rfl rfl ?_
  unfold laws_FnExactNoteText.f at H
  refine run_seq ?_
  refine run_region rfl ?_
  refine ops_does rfl (guard_none rfl) rfl rfl (does_box (cs := [p0_0, p0_1]) rfl rfl rfl HM) ?_
  rintro _ w2614 ⟨b2611, rfl, HM⟩
  refine ops_ex rfl (guard_none rfl) rfl rfl (ex_assign rfl rfl) ?_
  refine ops_nil ?_
  refine at_then ?_
  refine run_seq ?_
  refine run_seq ?_
  refine run_region rfl ?_
  refine ops_ex rfl (guard_none rfl) rfl rfl (ex_move rfl rfl) ?_
  refine ops_ex rfl (guard_none rfl) rfl rfl (ex_strlen rfl rfl Try.underlying9) ?_
  refine ops_ex rfl (guard_none rfl) rfl rfl (ex_gtr rfl rfl rfl) ?_
  refine ops_nil ?_
  refine at_then ?_
  refine run_cond (b := (decide (1048576 < (x1.size : Int)))) rfl (fun hb2616 => ?_) (fun hb2616 => ?_)
  · replace H := cond_t hb2616 H
    refine run_seq ?_
    refine run_region rfl ?_
    refine ops_ex rfl (guard_none rfl) rfl rfl (ex_assign rfl rfl) ?_
    refine ops_nil ?_
    refine at_then ?_
    refine run_ret ?_
    refine at_then_ret ?_
    replace HM := (HM.front 0 rfl rfl).drop
    have hR := Option.some.inj H
    subst hR
    exact at_ret1 rfl rfl ⟨_, rfl, rfl, HM⟩
  · replace H := cond_f hb2616 H
    refine run_skip ?_
    refine at_then ?_
    refine run_seq ?_
    refine run_region rfl ?_
    refine ops_ex rfl (guard_none rfl) rfl rfl (ex_assign rfl rfl) ?_
    refine ops_nil ?_
    refine at_then ?_
    refine run_seq ?_
    obtain ⟨t2617, h2618, H⟩ := bind_some H
    refine run_region rfl ?_
    refine ops_ex rfl (guard_none rfl) rfl rfl (ex_loadN (cs := [p0_0, p0_1]) rfl rfl Try.underlying25 rfl tsz25 rfl ((HM.box_at 0 rfl).sub 0 2 rfl)) ?_
    refine ops_ex rfl (guard_none rfl) rfl rfl (ex_move rfl rfl) ?_
    refine ops_does rfl (guard_none rfl) rfl rfl (does_callk rfl callok9 rfl (laws_szLedger.calls (x0 := x0) (x1 := 1048576) (HM.rd hp0_0) (HM.rd hp0_1) h2618)) ?_
    rintro _ w2619 ⟨rfl, hn⟩
    replace HM : Mem w [] w2619 [box b2611 25 [p0_0, p0_1]] := HM.call hn
    refine ops_ex rfl (guard_none rfl) rfl rfl (ex_assign rfl rfl) ?_
    refine ops_nil ?_
    refine at_then ?_
    refine run_seq ?_
    refine run_seq ?_
    refine run_region rfl ?_
    refine ops_ex rfl (guard_none rfl) rfl rfl (ex_move rfl rfl) ?_
    refine ops_ex rfl (guard_none rfl) rfl rfl (ex_lss rfl rfl rfl) ?_
    refine ops_nil ?_
    refine at_then ?_
    refine run_cond (b := (decide (t2617 < 0))) rfl (fun hb2621 => ?_) (fun hb2621 => ?_)
    · replace H := cond_t hb2621 H
      refine run_seq ?_
      refine run_region rfl ?_
      refine ops_ex rfl (guard_none rfl) rfl rfl (ex_assign rfl rfl) ?_
      refine ops_nil ?_
      refine at_then ?_
      refine run_ret ?_
      refine at_then_ret ?_
      replace HM := (HM.front 0 rfl rfl).drop
      have hR := Option.some.inj H
      subst hR
      exact at_ret1 rfl rfl ⟨_, rfl, rfl, HM⟩
    · replace H := cond_f hb2621 H
      refine run_skip ?_
      refine at_then ?_
      refine run_seq ?_
      obtain ⟨t2622, h2623, H⟩ := bind_some H
      obtain ⟨t2628, h2629, H⟩ := bind_some H
      refine run_region rfl ?_
      refine ops_ex rfl (guard_none rfl) rfl rfl (ex_loadN (cs := [p0_0, p0_1]) rfl rfl Try.underlying25 rfl tsz25 rfl ((HM.box_at 0 rfl).sub 0 2 rfl)) ?_
      refine ops_does rfl (guard_none rfl) rfl rfl (does_callk rfl callok11 rfl (laws_toLedger.calls (x0 := x0) (HM.rd hp0_0) (HM.rd hp0_1) h2623)) ?_
      rintro _ w2637 ⟨u2624, u2626, rfl, hn⟩
      replace HM : Mem w [] w2637 [own kStr 9 u2624 t2622.fTexts, own kSign 161 u2626 t2622.fSigns, box b2611 25 [p0_0, p0_1]] := HM.call hn
      refine ops_ex rfl (guard_none rfl) rfl rfl (ex_move rfl rfl) ?_
      refine ops_does rfl (guard_none rfl) rfl rfl (does_callk rfl callok10 rfl (spec_NoteText.calls (x0 := t2622) (x1 := x1) (HM.own_rd 0 rfl) (HM.own_rd 1 rfl) h2629)) ?_
      rintro _ w2638 ⟨u2630, u2632, rfl, hn⟩
      replace HM : Mem w [] w2638 [own kStr 9 u2630 t2628.fLedger.fTexts, own kSign 161 u2632 t2628.fLedger.fSigns, own kStr 9 u2624 t2622.fTexts, own kSign 161 u2626 t2622.fSigns, box b2611 25 [p0_0, p0_1]] := HM.call hn
      refine ops_does rfl (guard_none rfl) rfl rfl (does_alloc (cs := [.int .i64 0, .int .i64 0, .slice none 0 0, .slice none 0 0]) rfl tz31 rfl HM) ?_
      rintro _ w2639 ⟨b2634, rfl, HM⟩
      refine ops_doesS rfl (guard_none rfl) rfl (does_store (vs := [.int .i64 t2628.fCode, .int .i64 t2628.fId, u2630, u2632]) (cs' := [.int .i64 t2628.fCode, .int .i64 t2628.fId, u2630, u2632]) rfl rfl rfl rfl tsz31 (Ones.int (Ones.int (Ones.rd (HM.own_rd 1 rfl) (Ones.rd (HM.own_rd 2 rfl) Ones.nil)))) rfl rfl HM) ?_
      rintro w2640 HM
      refine ops_nil ?_
      refine at_then ?_
      refine run_seq ?_
      obtain ⟨t2641, h2642, H⟩ := bind_some H
      refine run_region rfl ?_
      refine ops_ex rfl (guard_none rfl) rfl rfl (ex_loadN (cs := [p0_0, p0_1]) rfl rfl Try.underlying25 rfl tsz25 rfl ((HM.box_at 5 rfl).sub 0 2 rfl)) ?_
      refine ops_does rfl (guard_none rfl) rfl rfl (does_callk rfl callok11 rfl (laws_toLedger.calls (x0 := x0) (HM.rd hp0_0) (HM.rd hp0_1) h2642)) ?_
      rintro _ w2650 ⟨u2643, u2645, rfl, hn⟩
      replace HM : Mem w [] w2650 [own kStr 9 u2643 t2641.fTexts, own kSign 161 u2645 t2641.fSigns, box b2634 31 [.int .i64 t2628.fCode, .int .i64 t2628.fId, u2630, u2632], own kStr 9 u2630 t2628.fLedger.fTexts, own kSign 161 u2632 t2628.fLedger.fSigns, own kStr 9 u2624 t2622.fTexts, own kSign 161 u2626 t2622.fSigns, box b2611 25 [p0_0, p0_1]] := HM.call hn
      refine ops_does rfl (guard_none rfl) rfl rfl (does_alloc (cs := [.slice none 0 0, .slice none 0 0]) rfl tz29 rfl HM) ?_
      rintro _ w2651 ⟨b2647, rfl, HM⟩
      refine ops_doesS rfl (guard_none rfl) rfl (does_store (vs := [u2643, u2645]) (cs' := [u2643, u2645]) rfl rfl rfl rfl tsz29 (Ones.rd (HM.own_rd 1 rfl) (Ones.rd (HM.own_rd 2 rfl) Ones.nil)) rfl rfl HM) ?_
      rintro w2652 HM
      refine ops_nil ?_
      refine at_then ?_
      refine run_seq ?_
      obtain ⟨t2653, h2654, H⟩ := bind_some H
      refine run_region rfl ?_
      refine ops_ex rfl (guard_none rfl) rfl rfl (ex_loadN (cs := [u2643, u2645]) rfl rfl Try.underlying29 rfl tsz29 rfl ((HM.box_at 0 rfl).sub 0 2 rfl)) ?_
      refine ops_ex rfl (guard_none rfl) rfl rfl (ex_move rfl rfl) ?_
      refine ops_does rfl (guard_none rfl) rfl rfl (does_callk rfl callok12 rfl (impl_NoteText.calls (x0 := t2641) (x1 := x1) (HM.own_rd 1 rfl) (HM.own_rd 2 rfl) h2654)) ?_
      rintro _ w2662 ⟨u2655, u2657, rfl, hn⟩
      replace HM : Mem w [] w2662 [own kStr 9 u2655 t2653.fLedger.fTexts, own kSign 161 u2657 t2653.fLedger.fSigns, box b2647 29 [u2643, u2645], own kStr 9 u2643 t2641.fTexts, own kSign 161 u2645 t2641.fSigns, box b2634 31 [.int .i64 t2628.fCode, .int .i64 t2628.fId, u2630, u2632], own kStr 9 u2630 t2628.fLedger.fTexts, own kSign 161 u2632 t2628.fLedger.fSigns, own kStr 9 u2624 t2622.fTexts, own kSign 161 u2626 t2622.fSigns, box b2611 25 [p0_0, p0_1]] := HM.call hn
      refine ops_does rfl (guard_none rfl) rfl rfl (does_alloc (cs := [.int .i64 0, .int .i64 0, .slice none 0 0, .slice none 0 0]) rfl tz31 rfl HM) ?_
      rintro _ w2663 ⟨b2659, rfl, HM⟩
      refine ops_doesS rfl (guard_none rfl) rfl (does_store (vs := [.int .i64 t2653.fCode, .int .i64 t2653.fId, u2655, u2657]) (cs' := [.int .i64 t2653.fCode, .int .i64 t2653.fId, u2655, u2657]) rfl rfl rfl rfl tsz31 (Ones.int (Ones.int (Ones.rd (HM.own_rd 1 rfl) (Ones.rd (HM.own_rd 2 rfl) Ones.nil)))) rfl rfl HM) ?_
      rintro w2664 HM
      refine ops_nil ?_
      refine at_then ?_
      refine run_seq ?_
      refine run_seq ?_
      obtain ⟨t2668, h2669, H⟩ := bind_some H
      refine run_region rfl ?_
      refine ops_ex rfl (guard_none rfl) rfl rfl (ex_loadN (cs := [(.int .i64 t2653.fCode), (.int .i64 t2653.fId), u2655, u2657]) rfl rfl Try.underlying31 rfl tsz31 rfl ((HM.box_at 0 rfl).sub 0 4 rfl)) ?_
      refine ops_ex rfl (guard_none rfl) rfl rfl (ex_loadN (cs := [(.int .i64 t2628.fCode), (.int .i64 t2628.fId), u2630, u2632]) rfl rfl Try.underlying31 rfl tsz31 rfl ((HM.box_at 6 rfl).sub 0 4 rfl)) ?_
      refine ops_does rfl (guard_none rfl) rfl rfl (does_callk rfl callok13 rfl (laws_eqLedgerResult.calls (x0 := t2653) (x1 := t2628) (HM.own_rd 1 rfl) (HM.own_rd 2 rfl) (HM.own_rd 7 rfl) (HM.own_rd 8 rfl) h2669)) ?_
      rintro _ w2670 ⟨rfl, hn⟩
      replace HM : Mem w [] w2670 [box b2659 31 [.int .i64 t2653.fCode, .int .i64 t2653.fId, u2655, u2657], own kStr 9 u2655 t2653.fLedger.fTexts, own kSign 161 u2657 t2653.fLedger.fSigns, box b2647 29 [u2643, u2645], own kStr 9 u2643 t2641.fTexts, own kSign 161 u2645 t2641.fSigns, box b2634 31 [.int .i64 t2628.fCode, .int .i64 t2628.fId, u2630, u2632], own kStr 9 u2630 t2628.fLedger.fTexts, own kSign 161 u2632 t2628.fLedger.fSigns, own kStr 9 u2624 t2622.fTexts, own kSign 161 u2626 t2622.fSigns, box b2611 25 [p0_0, p0_1]] := HM.call hn
      refine ops_ex rfl (guard_none rfl) rfl rfl (ex_not rfl rfl) ?_
      refine ops_nil ?_
      refine at_then ?_
      refine run_cond (b := !t2668) rfl (fun hb2671 => ?_) (fun hb2671 => ?_)
      · replace H := cond_t hb2671 H
        refine run_seq ?_
        refine run_region rfl ?_
        refine ops_ex rfl (guard_none rfl) rfl rfl (ex_assign rfl rfl) ?_
        refine ops_nil ?_
        refine at_then ?_
        refine run_ret ?_
        refine at_then_ret ?_
        replace HM := (HM.front 0 rfl rfl).drop
        replace HM := (HM.front 0 rfl rfl).drop
        replace HM := (HM.front 0 rfl rfl).drop
        replace HM := (HM.front 0 rfl rfl).drop
        replace HM := (HM.front 0 rfl rfl).drop
        replace HM := (HM.front 0 rfl rfl).drop
        replace HM := (HM.front 0 rfl rfl).drop
        replace HM := (HM.front 0 rfl rfl).drop
        replace HM := (HM.front 0 rfl rfl).drop
        replace HM := (HM.front 0 rfl rfl).drop
        replace HM := (HM.front 0 rfl rfl).drop
        replace HM := (HM.front 0 rfl rfl).drop
        have hR := Option.some.inj H
        subst hR
        exact at_ret1 rfl rfl ⟨_, rfl, rfl, HM⟩
      · replace H := cond_f hb2671 H
        refine run_skip ?_
        refine at_then ?_
        refine run_seq ?_
        refine run_seq ?_
        obtain ⟨t2681, h2682, H⟩ := bind_some H
        obtain ⟨t2687, h2688, H⟩ := bind_some H
        refine run_drawf (fun w_ => Mem w [] w_ [box b2659 31 [.int .i64 t2653.fCode, .int .i64 t2653.fId, u2655, u2657], own kStr 9 u2655 t2653.fLedger.fTexts, own kSign 161 u2657 t2653.fLedger.fSigns, box b2647 29 [u2643, u2645], own kStr 9 u2643 t2641.fTexts, own kSign 161 u2645 t2641.fSigns, box b2634 31 [.int .i64 t2628.fCode, .int .i64 t2628.fId, u2630, u2632], own kStr 9 u2630 t2628.fLedger.fTexts, own kSign 161 u2632 t2628.fLedger.fSigns, own kStr 9 u2624 t2622.fTexts, own kSign 161 u2626 t2622.fSigns, box b2611 25 [p0_0, p0_1]]) [(0, true), (1, true), (2, false), (3, false), (4, true)] mixed rfl rfl (by kernel_rfl) ?_
        replace HM := HM.grow (fr_drew _)
        have hS := Mem.suf (M := []) HM
        refine drwp_take rfl (guard_none rfl) rfl rfl (fun w_ hS_ => (ex_loadN (cs := [u2643, u2645]) rfl rfl Try.underlying29 rfl tsz29 rfl ((hS_.box_at 3 rfl).sub 0 2 rfl))) hS ?_
        refine drwp_take rfl (guard_none rfl) rfl rfl (fun w_ hS_ => (ex_loadN (cs := [p0_0, p0_1]) rfl rfl Try.underlying25 rfl tsz25 rfl ((hS_.box_at 11 rfl).sub 0 2 rfl))) hS ?_
        refine drwp_one rfl (guard_none rfl) rfl rfl (does_callk rfl callok11 rfl (laws_toLedger.calls (x0 := x0) (HM.rd hp0_0) (HM.rd hp0_1) h2682)) ?_
        rintro _ w2689 ⟨u2683, u2685, rfl, hn⟩
        replace HM : Mem w [] w2689 [own kStr 9 u2683 t2681.fTexts, own kSign 161 u2685 t2681.fSigns, box b2659 31 [.int .i64 t2653.fCode, .int .i64 t2653.fId, u2655, u2657], own kStr 9 u2655 t2653.fLedger.fTexts, own kSign 161 u2657 t2653.fLedger.fSigns, box b2647 29 [u2643, u2645], own kStr 9 u2643 t2641.fTexts, own kSign 161 u2645 t2641.fSigns, box b2634 31 [.int .i64 t2628.fCode, .int .i64 t2628.fId, u2630, u2632], own kStr 9 u2630 t2628.fLedger.fTexts, own kSign 161 u2632 t2628.fLedger.fSigns, own kStr 9 u2624 t2622.fTexts, own kSign 161 u2626 t2622.fSigns, box b2611 25 [p0_0, p0_1]] := HM.call hn
        refine ⟨Mem.suf (M := [own kStr 9 u2683 t2681.fTexts, own kSign 161 u2685 t2681.fSigns]) HM, ?_⟩
        have hS := Mem.suf (M := [own kStr 9 u2683 t2681.fTexts, own kSign 161 u2685 t2681.fSigns]) HM
        refine drwp_one rfl (guard_none rfl) rfl rfl (does_callk rfl callok14 rfl (laws_eqLedger.calls (x0 := t2641) (x1 := t2681) (HM.own_rd 6 rfl) (HM.own_rd 7 rfl) (HM.own_rd 0 rfl) (HM.own_rd 1 rfl) h2688)) ?_
        rintro _ w2690 ⟨rfl, hn⟩
        replace HM : Mem w [] w2690 [own kStr 9 u2683 t2681.fTexts, own kSign 161 u2685 t2681.fSigns, box b2659 31 [.int .i64 t2653.fCode, .int .i64 t2653.fId, u2655, u2657], own kStr 9 u2655 t2653.fLedger.fTexts, own kSign 161 u2657 t2653.fLedger.fSigns, box b2647 29 [u2643, u2645], own kStr 9 u2643 t2641.fTexts, own kSign 161 u2645 t2641.fSigns, box b2634 31 [.int .i64 t2628.fCode, .int .i64 t2628.fId, u2630, u2632], own kStr 9 u2630 t2628.fLedger.fTexts, own kSign 161 u2632 t2628.fLedger.fSigns, own kStr 9 u2624 t2622.fTexts, own kSign 161 u2626 t2622.fSigns, box b2611 25 [p0_0, p0_1]] := HM.call hn
        refine ⟨Mem.suf (M := [own kStr 9 u2683 t2681.fTexts, own kSign 161 u2685 t2681.fSigns]) HM, ?_⟩
        have hS := Mem.suf (M := [own kStr 9 u2683 t2681.fTexts, own kSign 161 u2685 t2681.fSigns]) HM
        refine drwp_take rfl (guard_none rfl) rfl rfl (fun w_ hS_ => (ex_not rfl rfl)) hS ?_
        refine drwp_done ?_
        refine at_then ?_
        refine run_cond (b := !t2687) rfl (fun hb2691 => ?_) (fun hb2691 => ?_)
        · replace H := cond_t hb2691 H
          refine run_seq ?_
          refine run_region rfl ?_
          refine ops_ex rfl (guard_none rfl) rfl rfl (ex_assign rfl rfl) ?_
          refine ops_nil ?_
          refine at_then ?_
          refine run_ret ?_
          refine at_then_ret ?_
          replace HM := (HM.front 0 rfl rfl).drop
          replace HM := (HM.front 0 rfl rfl).drop
          replace HM := (HM.front 0 rfl rfl).drop
          replace HM := (HM.front 0 rfl rfl).drop
          replace HM := (HM.front 0 rfl rfl).drop
          replace HM := (HM.front 0 rfl rfl).drop
          replace HM := (HM.front 0 rfl rfl).drop
          replace HM := (HM.front 0 rfl rfl).drop
          replace HM := (HM.front 0 rfl rfl).drop
          replace HM := (HM.front 0 rfl rfl).drop
          replace HM := (HM.front 0 rfl rfl).drop
          replace HM := (HM.front 0 rfl rfl).drop
          replace HM := (HM.front 0 rfl rfl).drop
          replace HM := (HM.front 0 rfl rfl).drop
          have hR := Option.some.inj H
          subst hR
          exact at_ret1 rfl rfl ⟨_, rfl, rfl, HM⟩
        · replace H := cond_f hb2691 H
          refine run_skip ?_
          refine at_then ?_
          refine run_seq ?_
          refine run_region rfl ?_
          refine ops_ex rfl (guard_none rfl) rfl rfl (ex_assign rfl rfl) ?_
          refine ops_nil ?_
          refine at_then ?_
          refine run_seq ?_
          obtain ⟨t2692, h2693, H⟩ := bind_some H
          refine run_region rfl ?_
          refine ops_ex rfl (guard_none rfl) rfl rfl (ex_loadN (cs := [u2643, u2645]) rfl rfl Try.underlying29 rfl tsz29 rfl ((HM.box_at 5 rfl).sub 0 2 rfl)) ?_
          refine ops_ex rfl (guard_none rfl) rfl rfl (ex_move rfl rfl) ?_
          replace HM := HM.front 7 rfl rfl
          replace HM := HM.front 7 rfl rfl
          obtain ⟨F2694, hF2695, hFn2696, hFl2697, HMh2698, hcl2699⟩ := HM.hide (Ms := [own kStr 9 u2643 t2641.fTexts, own kSign 161 u2645 t2641.fSigns])
          refine ops_does rfl (guard_none rfl) rfl rfl (does_callk rfl callok15 rfl (laws_markLedger.calls (x0 := t2641) (x1 := 1) (hide_olds _ _) hF2695 hFn2696 hFl2697 h2693)) ?_
          rintro _ w2700 ⟨rfl, hn⟩
          replace HM : Mem w [] w2700 [own kStr 9 u2643 t2692.2.1, own kSign 161 u2645 t2692.2.2, own kStr 9 u2683 t2681.fTexts, own kSign 161 u2685 t2681.fSigns, box b2659 31 [.int .i64 t2653.fCode, .int .i64 t2653.fId, u2655, u2657], own kStr 9 u2655 t2653.fLedger.fTexts, own kSign 161 u2657 t2653.fLedger.fSigns, box b2647 29 [u2643, u2645], box b2634 31 [.int .i64 t2628.fCode, .int .i64 t2628.fId, u2630, u2632], own kStr 9 u2630 t2628.fLedger.fTexts, own kSign 161 u2632 t2628.fLedger.fSigns, own kStr 9 u2624 t2622.fTexts, own kSign 161 u2626 t2622.fSigns, box b2611 25 [p0_0, p0_1]] := hcl2699 _ _ hn
          refine ops_ex rfl (guard_none rfl) rfl rfl (ex_assign rfl rfl) ?_
          refine ops_nil ?_
          refine at_then ?_
          refine run_seq ?_
          refine run_seq ?_
          obtain ⟨t2704, h2705, H⟩ := bind_some H
          refine run_meet (fun ρ_ w_ => ρ_ = [(1, .string x1), (2, .pointer (some ⟨b2611, 0, none⟩)), (6, .pointer (some ⟨b2634, 0, none⟩)), (8, .pointer (some ⟨b2659, 0, none⟩)), (49, .bool ((decide (t2692.1 < 0)) || (!t2704)))] ∧ Mem w [] w_ [box b2611 25 [p0_0, p0_1], box b2634 31 [.int .i64 t2628.fCode, .int .i64 t2628.fId, u2630, u2632], own kStr 9 u2630 t2628.fLedger.fTexts, own kSign 161 u2632 t2628.fLedger.fSigns, box b2659 31 [.int .i64 t2653.fCode, .int .i64 t2653.fId, u2655, u2657], own kStr 9 u2655 t2653.fLedger.fTexts, own kSign 161 u2657 t2653.fLedger.fSigns]) ?_ ?_
          · skip
            refine run_region rfl ?_
            refine ops_ex rfl (guard_none rfl) rfl rfl (ex_move rfl rfl) ?_
            refine ops_ex rfl (guard_none rfl) rfl rfl (ex_lss rfl rfl rfl) ?_
            refine ops_ex rfl (guard_none rfl) rfl rfl (ex_move rfl rfl) ?_
            refine bool_cases (decide (t2692.1 < 0)) (fun hg2706 => ?_) (fun hg2706 => ?_)
            · skip
              refine ops_off rfl (guard_off rfl rfl rfl hg2706) rfl rfl ?_
              refine ops_off rfl (guard_off rfl rfl rfl hg2706) rfl rfl ?_
              refine ops_off rfl (guard_off rfl rfl rfl hg2706) rfl rfl ?_
              refine ops_off rfl (guard_off rfl rfl rfl hg2706) rfl rfl ?_
              have hg2707 : ((decide (t2692.1 < 0)) || (!t2704)) = true := by simp only [hg2706, Bool.and_true, Bool.true_and, Bool.and_false, Bool.false_and, Bool.or_true, Bool.true_or, Bool.or_false, Bool.false_or, Bool.not_true, Bool.not_false, Bool.not_not]
              refine ops_ex (v := .bool ((decide (t2692.1 < 0)) || (!t2704))) rfl (guard_none rfl) rfl rfl (ex_por_t rfl rfl hg2706) ?_
              refine ops_nil ?_
              replace HM := (HM.front 0 rfl rfl).drop
              replace HM := (HM.front 0 rfl rfl).drop
              replace HM := (HM.front 0 rfl rfl).drop
              replace HM := (HM.front 0 rfl rfl).drop
              replace HM := (HM.front 3 rfl rfl).drop
              replace HM := (HM.front 6 rfl rfl).drop
              replace HM := (HM.front 6 rfl rfl).drop
              replace HM := HM.front 2 rfl rfl
              replace HM := HM.front 2 rfl rfl
              replace HM := HM.front 2 rfl rfl
              replace HM := HM.front 5 rfl rfl
              replace HM := HM.front 5 rfl rfl
              replace HM := HM.front 5 rfl rfl
              replace HM := HM.front 6 rfl rfl
              exact at_meet [(1, .string x1), (2, .pointer (some ⟨b2611, 0, none⟩)), (6, .pointer (some ⟨b2634, 0, none⟩)), (8, .pointer (some ⟨b2659, 0, none⟩)), (49, .bool ((decide (t2692.1 < 0)) || (!t2704)))] ⟨rfl, HM⟩ (Sub.cons rfl (Sub.cons rfl (Sub.cons rfl (Sub.cons rfl (Sub.cons rfl Sub.nil)))))
            · skip
              refine ops_ex rfl (guard_on rfl rfl rfl hg2706) rfl rfl (ex_loadN (cs := [(.int .i64 t2653.fCode), (.int .i64 t2653.fId), u2655, u2657]) rfl rfl Try.underlying31 rfl tsz31 rfl ((HM.box_at 4 rfl).sub 0 4 rfl)) ?_
              refine ops_ex rfl (guard_on rfl rfl rfl hg2706) rfl rfl (ex_loadN (cs := [(.int .i64 t2628.fCode), (.int .i64 t2628.fId), u2630, u2632]) rfl rfl Try.underlying31 rfl tsz31 rfl ((HM.box_at 8 rfl).sub 0 4 rfl)) ?_
              refine ops_does rfl (guard_on rfl rfl rfl hg2706) rfl rfl (does_callk rfl callok13 rfl (laws_eqLedgerResult.calls (x0 := t2653) (x1 := t2628) (HM.own_rd 5 rfl) (HM.own_rd 6 rfl) (HM.own_rd 9 rfl) (HM.own_rd 10 rfl) (cond_t (not_mk hg2706) h2705))) ?_
              rintro _ w2708 ⟨rfl, hn⟩
              replace HM : Mem w [] w2708 [own kStr 9 u2643 t2692.2.1, own kSign 161 u2645 t2692.2.2, own kStr 9 u2683 t2681.fTexts, own kSign 161 u2685 t2681.fSigns, box b2659 31 [.int .i64 t2653.fCode, .int .i64 t2653.fId, u2655, u2657], own kStr 9 u2655 t2653.fLedger.fTexts, own kSign 161 u2657 t2653.fLedger.fSigns, box b2647 29 [u2643, u2645], box b2634 31 [.int .i64 t2628.fCode, .int .i64 t2628.fId, u2630, u2632], own kStr 9 u2630 t2628.fLedger.fTexts, own kSign 161 u2632 t2628.fLedger.fSigns, own kStr 9 u2624 t2622.fTexts, own kSign 161 u2626 t2622.fSigns, box b2611 25 [p0_0, p0_1]] := HM.call hn
              refine ops_ex rfl (guard_on rfl rfl rfl hg2706) rfl rfl (ex_not rfl rfl) ?_
              refine ops_ex (v := .bool ((decide (t2692.1 < 0)) || (!t2704))) rfl (guard_none rfl) rfl rfl (ex_por_f rfl rfl hg2706 rfl) ?_
              refine ops_nil ?_
              replace HM := (HM.front 0 rfl rfl).drop
              replace HM := (HM.front 0 rfl rfl).drop
              replace HM := (HM.front 0 rfl rfl).drop
              replace HM := (HM.front 0 rfl rfl).drop
              replace HM := (HM.front 3 rfl rfl).drop
              replace HM := (HM.front 6 rfl rfl).drop
              replace HM := (HM.front 6 rfl rfl).drop
              replace HM := HM.front 2 rfl rfl
              replace HM := HM.front 2 rfl rfl
              replace HM := HM.front 2 rfl rfl
              replace HM := HM.front 5 rfl rfl
              replace HM := HM.front 5 rfl rfl
              replace HM := HM.front 5 rfl rfl
              replace HM := HM.front 6 rfl rfl
              exact at_meet [(1, .string x1), (2, .pointer (some ⟨b2611, 0, none⟩)), (6, .pointer (some ⟨b2634, 0, none⟩)), (8, .pointer (some ⟨b2659, 0, none⟩)), (49, .bool ((decide (t2692.1 < 0)) || (!t2704)))] ⟨rfl, HM⟩ (Sub.cons rfl (Sub.cons rfl (Sub.cons rfl (Sub.cons rfl (Sub.cons rfl Sub.nil)))))
          · rintro _ w2709 ⟨rfl, HM⟩
            refine at_then ?_
            refine run_cond (b := ((decide (t2692.1 < 0)) || (!t2704))) rfl (fun hb2710 => ?_) (fun hb2710 => ?_)
            · replace H := cond_t hb2710 H
              refine run_seq ?_
              refine run_region rfl ?_
              refine ops_ex rfl (guard_none rfl) rfl rfl (ex_assign rfl rfl) ?_
              refine ops_nil ?_
              refine at_then ?_
              refine run_ret ?_
              refine at_then_ret ?_
              replace HM := (HM.front 0 rfl rfl).drop
              replace HM := (HM.front 0 rfl rfl).drop
              replace HM := (HM.front 0 rfl rfl).drop
              replace HM := (HM.front 0 rfl rfl).drop
              replace HM := (HM.front 0 rfl rfl).drop
              replace HM := (HM.front 0 rfl rfl).drop
              replace HM := (HM.front 0 rfl rfl).drop
              have hR := Option.some.inj H
              subst hR
              exact at_ret1 rfl rfl ⟨_, rfl, rfl, HM⟩
            · replace H := cond_f hb2710 H
              refine run_skip ?_
              refine at_then ?_
              refine run_seq ?_
              refine run_region rfl ?_
              refine ops_ex rfl (guard_none rfl) rfl rfl (ex_assign rfl rfl) ?_
              refine ops_nil ?_
              refine at_then ?_
              refine run_seq ?_
              obtain ⟨t2711, h2712, H⟩ := bind_some H
              refine run_region rfl ?_
              refine ops_ex rfl (guard_none rfl) rfl rfl (ex_loadN (cs := [(.int .i64 t2653.fCode), (.int .i64 t2653.fId), u2655, u2657]) rfl rfl Try.underlying31 rfl tsz31 rfl ((HM.box_at 4 rfl).sub 0 4 rfl)) ?_
              refine ops_ex rfl (guard_none rfl) rfl rfl (ex_move rfl rfl) ?_
              replace HM := HM.front 6 rfl rfl
              replace HM := HM.front 6 rfl rfl
              obtain ⟨F2713, hF2714, hFn2715, hFl2716, HMh2717, hcl2718⟩ := HM.hide (Ms := [own kStr 9 u2655 t2653.fLedger.fTexts, own kSign 161 u2657 t2653.fLedger.fSigns])
              refine ops_does rfl (guard_none rfl) rfl rfl (does_callk rfl callok16 rfl (laws_markLedgerResult.calls (x0 := t2653) (x1 := 1) (hide_olds _ _) hF2714 hFn2715 hFl2716 h2712)) ?_
              rintro _ w2719 ⟨rfl, hn⟩
              replace HM : Mem w [] w2719 [own kStr 9 u2655 t2711.2.1, own kSign 161 u2657 t2711.2.2, box b2611 25 [p0_0, p0_1], box b2634 31 [.int .i64 t2628.fCode, .int .i64 t2628.fId, u2630, u2632], own kStr 9 u2630 t2628.fLedger.fTexts, own kSign 161 u2632 t2628.fLedger.fSigns, box b2659 31 [.int .i64 t2653.fCode, .int .i64 t2653.fId, u2655, u2657]] := hcl2718 _ _ hn
              refine ops_ex rfl (guard_none rfl) rfl rfl (ex_assign rfl rfl) ?_
              refine ops_nil ?_
              refine at_then ?_
              refine run_seq ?_
              refine run_region rfl ?_
              refine ops_ex rfl (guard_none rfl) rfl rfl (ex_assign rfl rfl) ?_
              refine ops_nil ?_
              refine at_then ?_
              refine run_seq ?_
              obtain ⟨t2720, h2721, H⟩ := bind_some H
              refine run_region rfl ?_
              refine ops_ex rfl (guard_none rfl) rfl rfl (ex_loadN (cs := [(.int .i64 t2653.fCode), (.int .i64 t2653.fId), u2655, u2657]) rfl rfl Try.underlying31 rfl tsz31 rfl ((HM.box_at 6 rfl).sub 0 4 rfl)) ?_
              refine ops_ex rfl (guard_none rfl) rfl rfl (ex_move rfl rfl) ?_
              refine ops_does rfl (guard_none rfl) rfl rfl (does_callk rfl callok17 rfl (laws_heldLedgerResult.calls (x0 := (⟨t2653.fCode, t2653.fId, (⟨t2711.2.1, t2711.2.2⟩ : Ledger)⟩ : LedgerResult)) (x1 := 1) (HM.own_rd 0 rfl) (HM.own_rd 1 rfl) h2721)) ?_
              rintro _ w2722 ⟨rfl, hn⟩
              replace HM : Mem w [] w2722 [own kStr 9 u2655 t2711.2.1, own kSign 161 u2657 t2711.2.2, box b2611 25 [p0_0, p0_1], box b2634 31 [.int .i64 t2628.fCode, .int .i64 t2628.fId, u2630, u2632], own kStr 9 u2630 t2628.fLedger.fTexts, own kSign 161 u2632 t2628.fLedger.fSigns, box b2659 31 [.int .i64 t2653.fCode, .int .i64 t2653.fId, u2655, u2657]] := HM.call hn
              refine ops_ex rfl (guard_none rfl) rfl rfl (ex_assign rfl rfl) ?_
              refine ops_nil ?_
              refine at_then ?_
              refine run_seq ?_
              refine run_seq ?_
              refine run_region rfl ?_
              refine ops_ex rfl (guard_none rfl) rfl rfl (ex_move rfl rfl) ?_
              refine ops_ex rfl (guard_none rfl) rfl rfl (ex_lss rfl rfl rfl) ?_
              refine ops_nil ?_
              refine at_then ?_
              refine run_cond (b := (decide (t2720 < 0))) rfl (fun hb2724 => ?_) (fun hb2724 => ?_)
              · replace H := cond_t hb2724 H
                refine run_seq ?_
                refine run_region rfl ?_
                refine ops_ex rfl (guard_none rfl) rfl rfl (ex_assign rfl rfl) ?_
                refine ops_nil ?_
                refine at_then ?_
                refine run_ret ?_
                refine at_then_ret ?_
                replace HM := (HM.front 0 rfl rfl).drop
                replace HM := (HM.front 0 rfl rfl).drop
                replace HM := (HM.front 0 rfl rfl).drop
                replace HM := (HM.front 0 rfl rfl).drop
                replace HM := (HM.front 0 rfl rfl).drop
                replace HM := (HM.front 0 rfl rfl).drop
                replace HM := (HM.front 0 rfl rfl).drop
                have hR := Option.some.inj H
                subst hR
                exact at_ret1 rfl rfl ⟨_, rfl, rfl, HM⟩
              · replace H := cond_f hb2724 H
                refine run_skip ?_
                refine at_then ?_
                refine run_seq ?_
                refine run_seq ?_
                refine run_region rfl ?_
                refine ops_ex rfl (guard_none rfl) rfl rfl (ex_move rfl rfl) ?_
                refine ops_ex rfl (guard_none rfl) rfl rfl (ex_move rfl rfl) ?_
                refine ops_ex rfl (guard_none rfl) rfl rfl (ex_neq rfl rfl rfl) ?_
                refine ops_nil ?_
                refine at_then ?_
                refine run_cond (b := (t2720 != t2711.1)) rfl (fun hb2726 => ?_) (fun hb2726 => ?_)
                · replace H := cond_t hb2726 H
                  refine run_seq ?_
                  refine run_region rfl ?_
                  refine ops_ex rfl (guard_none rfl) rfl rfl (ex_assign rfl rfl) ?_
                  refine ops_nil ?_
                  refine at_then ?_
                  refine run_ret ?_
                  refine at_then_ret ?_
                  replace HM := (HM.front 0 rfl rfl).drop
                  replace HM := (HM.front 0 rfl rfl).drop
                  replace HM := (HM.front 0 rfl rfl).drop
                  replace HM := (HM.front 0 rfl rfl).drop
                  replace HM := (HM.front 0 rfl rfl).drop
                  replace HM := (HM.front 0 rfl rfl).drop
                  replace HM := (HM.front 0 rfl rfl).drop
                  have hR := Option.some.inj H
                  subst hR
                  exact at_ret1 rfl rfl ⟨_, rfl, rfl, HM⟩
                · replace H := cond_f hb2726 H
                  refine run_skip ?_
                  refine at_then ?_
                  refine run_seq ?_
                  obtain ⟨t2727, h2728, H⟩ := bind_some H
                  obtain ⟨t2733, h2734, H⟩ := bind_some H
                  refine run_region rfl ?_
                  refine ops_ex rfl (guard_none rfl) rfl rfl (ex_loadN (cs := [p0_0, p0_1]) rfl rfl Try.underlying25 rfl tsz25 rfl ((HM.box_at 2 rfl).sub 0 2 rfl)) ?_
                  refine ops_does rfl (guard_none rfl) rfl rfl (does_callk rfl callok11 rfl (laws_toLedger.calls (x0 := x0) (HM.rd hp0_0) (HM.rd hp0_1) h2728)) ?_
                  rintro _ w2742 ⟨u2729, u2731, rfl, hn⟩
                  replace HM : Mem w [] w2742 [own kStr 9 u2729 t2727.fTexts, own kSign 161 u2731 t2727.fSigns, own kStr 9 u2655 t2711.2.1, own kSign 161 u2657 t2711.2.2, box b2611 25 [p0_0, p0_1], box b2634 31 [.int .i64 t2628.fCode, .int .i64 t2628.fId, u2630, u2632], own kStr 9 u2630 t2628.fLedger.fTexts, own kSign 161 u2632 t2628.fLedger.fSigns, box b2659 31 [.int .i64 t2653.fCode, .int .i64 t2653.fId, u2655, u2657]] := HM.call hn
                  refine ops_ex rfl (guard_none rfl) rfl rfl (ex_move rfl rfl) ?_
                  refine ops_does rfl (guard_none rfl) rfl rfl (does_callk rfl callok12 rfl (impl_NoteText.calls (x0 := t2727) (x1 := x1) (HM.own_rd 0 rfl) (HM.own_rd 1 rfl) h2734)) ?_
                  rintro _ w2743 ⟨u2735, u2737, rfl, hn⟩
                  replace HM : Mem w [] w2743 [own kStr 9 u2735 t2733.fLedger.fTexts, own kSign 161 u2737 t2733.fLedger.fSigns, own kStr 9 u2729 t2727.fTexts, own kSign 161 u2731 t2727.fSigns, own kStr 9 u2655 t2711.2.1, own kSign 161 u2657 t2711.2.2, box b2611 25 [p0_0, p0_1], box b2634 31 [.int .i64 t2628.fCode, .int .i64 t2628.fId, u2630, u2632], own kStr 9 u2630 t2628.fLedger.fTexts, own kSign 161 u2632 t2628.fLedger.fSigns, box b2659 31 [.int .i64 t2653.fCode, .int .i64 t2653.fId, u2655, u2657]] := HM.call hn
                  refine ops_does rfl (guard_none rfl) rfl rfl (does_alloc (cs := [.int .i64 0, .int .i64 0, .slice none 0 0, .slice none 0 0]) rfl tz31 rfl HM) ?_
                  rintro _ w2744 ⟨b2739, rfl, HM⟩
                  refine ops_doesS rfl (guard_none rfl) rfl (does_store (vs := [.int .i64 t2733.fCode, .int .i64 t2733.fId, u2735, u2737]) (cs' := [.int .i64 t2733.fCode, .int .i64 t2733.fId, u2735, u2737]) rfl rfl rfl rfl tsz31 (Ones.int (Ones.int (Ones.rd (HM.own_rd 1 rfl) (Ones.rd (HM.own_rd 2 rfl) Ones.nil)))) rfl rfl HM) ?_
                  rintro w2745 HM
                  refine ops_nil ?_
                  refine at_then ?_
                  refine run_seq ?_
                  refine run_seq ?_
                  obtain ⟨t2749, h2750, H⟩ := bind_some H
                  refine run_region rfl ?_
                  refine ops_ex rfl (guard_none rfl) rfl rfl (ex_loadN (cs := [(.int .i64 t2733.fCode), (.int .i64 t2733.fId), u2735, u2737]) rfl rfl Try.underlying31 rfl tsz31 rfl ((HM.box_at 0 rfl).sub 0 4 rfl)) ?_
                  refine ops_ex rfl (guard_none rfl) rfl rfl (ex_loadN (cs := [(.int .i64 t2628.fCode), (.int .i64 t2628.fId), u2630, u2632]) rfl rfl Try.underlying31 rfl tsz31 rfl ((HM.box_at 8 rfl).sub 0 4 rfl)) ?_
                  refine ops_does rfl (guard_none rfl) rfl rfl (does_callk rfl callok13 rfl (laws_eqLedgerResult.calls (x0 := t2733) (x1 := t2628) (HM.own_rd 1 rfl) (HM.own_rd 2 rfl) (HM.own_rd 9 rfl) (HM.own_rd 10 rfl) h2750)) ?_
                  rintro _ w2751 ⟨rfl, hn⟩
                  replace HM : Mem w [] w2751 [box b2739 31 [.int .i64 t2733.fCode, .int .i64 t2733.fId, u2735, u2737], own kStr 9 u2735 t2733.fLedger.fTexts, own kSign 161 u2737 t2733.fLedger.fSigns, own kStr 9 u2729 t2727.fTexts, own kSign 161 u2731 t2727.fSigns, own kStr 9 u2655 t2711.2.1, own kSign 161 u2657 t2711.2.2, box b2611 25 [p0_0, p0_1], box b2634 31 [.int .i64 t2628.fCode, .int .i64 t2628.fId, u2630, u2632], own kStr 9 u2630 t2628.fLedger.fTexts, own kSign 161 u2632 t2628.fLedger.fSigns, box b2659 31 [.int .i64 t2653.fCode, .int .i64 t2653.fId, u2655, u2657]] := HM.call hn
                  refine ops_ex rfl (guard_none rfl) rfl rfl (ex_not rfl rfl) ?_
                  refine ops_nil ?_
                  refine at_then ?_
                  refine run_cond (b := !t2749) rfl (fun hb2752 => ?_) (fun hb2752 => ?_)
                  · replace H := cond_t hb2752 H
                    refine run_seq ?_
                    refine run_region rfl ?_
                    refine ops_ex rfl (guard_none rfl) rfl rfl (ex_assign rfl rfl) ?_
                    refine ops_nil ?_
                    refine at_then ?_
                    refine run_ret ?_
                    refine at_then_ret ?_
                    replace HM := (HM.front 0 rfl rfl).drop
                    replace HM := (HM.front 0 rfl rfl).drop
                    replace HM := (HM.front 0 rfl rfl).drop
                    replace HM := (HM.front 0 rfl rfl).drop
                    replace HM := (HM.front 0 rfl rfl).drop
                    replace HM := (HM.front 0 rfl rfl).drop
                    replace HM := (HM.front 0 rfl rfl).drop
                    replace HM := (HM.front 0 rfl rfl).drop
                    replace HM := (HM.front 0 rfl rfl).drop
                    replace HM := (HM.front 0 rfl rfl).drop
                    replace HM := (HM.front 0 rfl rfl).drop
                    replace HM := (HM.front 0 rfl rfl).drop
                    have hR := Option.some.inj H
                    subst hR
                    exact at_ret1 rfl rfl ⟨_, rfl, rfl, HM⟩
                  · replace H := cond_f hb2752 H
                    refine run_skip ?_
                    refine at_then ?_
                    refine run_seq ?_
                    refine run_region rfl ?_
                    refine ops_ex rfl (guard_none rfl) rfl rfl (ex_assign rfl rfl) ?_
                    refine ops_nil ?_
                    refine at_then ?_
                    refine run_seq ?_
                    obtain ⟨t2753, h2754, H⟩ := bind_some H
                    refine run_region rfl ?_
                    refine ops_ex rfl (guard_none rfl) rfl rfl (ex_loadN (cs := [(.int .i64 t2653.fCode), (.int .i64 t2653.fId), u2655, u2657]) rfl rfl Try.underlying31 rfl tsz31 rfl ((HM.box_at 11 rfl).sub 0 4 rfl)) ?_
                    refine ops_ex rfl (guard_none rfl) rfl rfl (ex_move rfl rfl) ?_
                    refine ops_does rfl (guard_none rfl) rfl rfl (does_callk rfl callok17 rfl (laws_heldLedgerResult.calls (x0 := (⟨t2653.fCode, t2653.fId, (⟨t2711.2.1, t2711.2.2⟩ : Ledger)⟩ : LedgerResult)) (x1 := 1) (HM.own_rd 5 rfl) (HM.own_rd 6 rfl) h2754)) ?_
                    rintro _ w2755 ⟨rfl, hn⟩
                    replace HM : Mem w [] w2755 [box b2739 31 [.int .i64 t2733.fCode, .int .i64 t2733.fId, u2735, u2737], own kStr 9 u2735 t2733.fLedger.fTexts, own kSign 161 u2737 t2733.fLedger.fSigns, own kStr 9 u2729 t2727.fTexts, own kSign 161 u2731 t2727.fSigns, own kStr 9 u2655 t2711.2.1, own kSign 161 u2657 t2711.2.2, box b2611 25 [p0_0, p0_1], box b2634 31 [.int .i64 t2628.fCode, .int .i64 t2628.fId, u2630, u2632], own kStr 9 u2630 t2628.fLedger.fTexts, own kSign 161 u2632 t2628.fLedger.fSigns, box b2659 31 [.int .i64 t2653.fCode, .int .i64 t2653.fId, u2655, u2657]] := HM.call hn
                    refine ops_ex rfl (guard_none rfl) rfl rfl (ex_assign rfl rfl) ?_
                    refine ops_nil ?_
                    refine at_then ?_
                    refine run_seq ?_
                    refine run_seq ?_
                    refine run_region rfl ?_
                    refine ops_ex rfl (guard_none rfl) rfl rfl (ex_move rfl rfl) ?_
                    refine ops_ex rfl (guard_none rfl) rfl rfl (ex_lss rfl rfl rfl) ?_
                    refine ops_nil ?_
                    refine at_then ?_
                    refine run_cond (b := (decide (t2753 < 0))) rfl (fun hb2757 => ?_) (fun hb2757 => ?_)
                    · replace H := cond_t hb2757 H
                      refine run_seq ?_
                      refine run_region rfl ?_
                      refine ops_ex rfl (guard_none rfl) rfl rfl (ex_assign rfl rfl) ?_
                      refine ops_nil ?_
                      refine at_then ?_
                      refine run_ret ?_
                      refine at_then_ret ?_
                      replace HM := (HM.front 0 rfl rfl).drop
                      replace HM := (HM.front 0 rfl rfl).drop
                      replace HM := (HM.front 0 rfl rfl).drop
                      replace HM := (HM.front 0 rfl rfl).drop
                      replace HM := (HM.front 0 rfl rfl).drop
                      replace HM := (HM.front 0 rfl rfl).drop
                      replace HM := (HM.front 0 rfl rfl).drop
                      replace HM := (HM.front 0 rfl rfl).drop
                      replace HM := (HM.front 0 rfl rfl).drop
                      replace HM := (HM.front 0 rfl rfl).drop
                      replace HM := (HM.front 0 rfl rfl).drop
                      replace HM := (HM.front 0 rfl rfl).drop
                      have hR := Option.some.inj H
                      subst hR
                      exact at_ret1 rfl rfl ⟨_, rfl, rfl, HM⟩
                    · replace H := cond_f hb2757 H
                      refine run_skip ?_
                      refine at_then ?_
                      refine run_seq ?_
                      refine run_seq ?_
                      refine run_region rfl ?_
                      refine ops_ex rfl (guard_none rfl) rfl rfl (ex_move rfl rfl) ?_
                      refine ops_ex rfl (guard_none rfl) rfl rfl (ex_move rfl rfl) ?_
                      refine ops_ex rfl (guard_none rfl) rfl rfl (ex_neq rfl rfl rfl) ?_
                      refine ops_nil ?_
                      refine at_then ?_
                      refine run_cond (b := (t2753 != t2711.1)) rfl (fun hb2758 => ?_) (fun hb2758 => ?_)
                      · replace H := cond_t hb2758 H
                        refine run_seq ?_
                        refine run_region rfl ?_
                        refine ops_ex rfl (guard_none rfl) rfl rfl (ex_assign rfl rfl) ?_
                        refine ops_nil ?_
                        refine at_then ?_
                        refine run_ret ?_
                        refine at_then_ret ?_
                        replace HM := (HM.front 0 rfl rfl).drop
                        replace HM := (HM.front 0 rfl rfl).drop
                        replace HM := (HM.front 0 rfl rfl).drop
                        replace HM := (HM.front 0 rfl rfl).drop
                        replace HM := (HM.front 0 rfl rfl).drop
                        replace HM := (HM.front 0 rfl rfl).drop
                        replace HM := (HM.front 0 rfl rfl).drop
                        replace HM := (HM.front 0 rfl rfl).drop
                        replace HM := (HM.front 0 rfl rfl).drop
                        replace HM := (HM.front 0 rfl rfl).drop
                        replace HM := (HM.front 0 rfl rfl).drop
                        replace HM := (HM.front 0 rfl rfl).drop
                        have hR := Option.some.inj H
                        subst hR
                        exact at_ret1 rfl rfl ⟨_, rfl, rfl, HM⟩
                      · replace H := cond_f hb2758 H
                        refine run_skip ?_
                        refine at_then ?_
                        refine run_seq ?_
                        refine run_region rfl ?_
                        refine ops_ex rfl (guard_none rfl) rfl rfl (ex_assign rfl rfl) ?_
                        refine ops_nil ?_
                        refine at_then ?_
                        refine run_ret ?_
                        replace HM := (HM.front 0 rfl rfl).drop
                        replace HM := (HM.front 0 rfl rfl).drop
                        replace HM := (HM.front 0 rfl rfl).drop
                        replace HM := (HM.front 0 rfl rfl).drop
                        replace HM := (HM.front 0 rfl rfl).drop
                        replace HM := (HM.front 0 rfl rfl).drop
                        replace HM := (HM.front 0 rfl rfl).drop
                        replace HM := (HM.front 0 rfl rfl).drop
                        replace HM := (HM.front 0 rfl rfl).drop
                        replace HM := (HM.front 0 rfl rfl).drop
                        replace HM := (HM.front 0 rfl rfl).drop
                        replace HM := (HM.front 0 rfl rfl).drop
                        have hR := Option.some.inj H
                        subst hR
                        exact at_ret1 rfl rfl ⟨_, rfl, rfl, HM⟩
end Go.Proofs.Ytigojhglkilodaa.Zk
