/- What functions of the program compute, each as a plain function, and that they do. Conditions: as each theorem states them. -/
import Derived.Test.YtigojhglkilodaaOwnedByZkF2
namespace Go.Proofs.Ytigojhglkilodaa.Zk
open Go Go.RowKit Go.IntWalk Go.Proofs
set_option linter.unusedVariables false
set_option linter.unusedSimpArgs false
set_option maxRecDepth 100000
set_option maxHeartbeats 4000000
def slices_Index_int64.l0 (x0 : List Int) (x1 : Int) : Nat → Int → Option (Int ⊕ Unit)
  | 0, _ => none
  | k + 1, a2180 => (bif (decide (a2180 < (x0.length : Int))) then (chk (idxOk a2180 x0.length) (bif (x1 == (gt x0 a2180)) then some (.inl a2180) else slices_Index_int64.l0 x0 x1 k (wrap64 (a2180 + 1)))) else some (.inr ()))
theorem slices_Index_int64.l0_z (x0 : List Int) (x1 : Int) (a2180 : Int) : slices_Index_int64.l0 x0 x1 0 a2180 = none := rfl
theorem slices_Index_int64.l0_s (x0 : List Int) (x1 : Int) (k : Nat) (a2180 : Int) : slices_Index_int64.l0 x0 x1 (k + 1) a2180 = (bif (decide (a2180 < (x0.length : Int))) then (chk (idxOk a2180 x0.length) (bif (x1 == (gt x0 a2180)) then some (.inl a2180) else slices_Index_int64.l0 x0 x1 k (wrap64 (a2180 + 1)))) else some (.inr ())) := rfl
def slices_Index_int64.f (k : Nat) (x0 : List Int) (x1 : Int) : Option Int := ((slices_Index_int64.l0 x0 x1 k 0).bind fun o2174 => thn o2174 (fun r => some r) (fun _ => some (-1)))
theorem slices_Index_int64.calls {k : Nat} {x0 : List Int} {x1 : Int} {p0 : Value} {w : World} (hp0 : RdS kInt w p0 x0) {r : Int} (H : slices_Index_int64.f k x0 x1 = some r) :
    Calls Try.prog 127 ([p0, .int .i64 x1] : List Value).toArray w (fun e w_ => ∃ v, e = .returned v ∧ v = (.int .i64 r) ∧ Mem w [] w_ []) := by
  have HM := Mem.start w
  refine calls_run (N := 19) Try.func127 rfl rfl rfl rfl ?_
  unfold slices_Index_int64.f at H
  refine run_seq ?_
  refine run_region rfl ?_
  refine ops_ex rfl (guard_none rfl) rfl rfl (ex_assign rfl rfl) ?_
  refine ops_nil ?_
  refine at_then ?_
  obtain ⟨o2174, ho2175, H⟩ := bind_some H
  refine run_mid (fun ρ_ w_ => Sum.inr () = o2174 ∧ ρ_ = [] ∧ Mem w [] w_ []) ?_ ?_
  · skip
    refine run_seq ?_
    refine run_region rfl ?_
    refine ops_ex rfl (guard_none rfl) rfl rfl (ex_move rfl rfl) ?_
    refine ops_ex rfl (guard_none rfl) rfl rfl (ex_len (d := kInt) (xs := x0) rfl rfl Try.underlying111 hp0) ?_
    refine ops_ex rfl (guard_none rfl) rfl rfl (ex_move rfl rfl) ?_
    refine ops_nil ?_
    refine at_then ?_
    refine run_block ?_
    refine run_loop (fun k_ ρ_ w_ => ∃ a2180 : Int, slices_Index_int64.l0 x0 x1 k_ a2180 = some o2174 ∧ ρ_ = [(0, p0), (1, .int .i64 x1), (7, .int .i64 (x0.length : Int)), (8, .int .i64 a2180)] ∧ Mem w [] w_ []) k (ρ1 := [(0, p0), (1, .int .i64 x1), (7, .int .i64 (x0.length : Int)), (8, .int .i64 0)]) ⟨_, ho2175, rfl, HM⟩ (Sub.cons rfl (Sub.cons rfl (Sub.cons rfl (Sub.cons rfl Sub.nil)))) ?_
    clear HM ho2175
    rintro k2185 _ w2186 ⟨a2180, ho2175, rfl, HM⟩
    obtain _ | k2185 := k2185
    · exact nomatch ((slices_Index_int64.l0_z x0 x1 a2180).symm.trans ho2175)
    replace ho2175 := (slices_Index_int64.l0_s x0 x1 k2185 a2180).symm.trans ho2175
    refine run_seq ?_
    refine run_region rfl ?_
    refine ops_ex rfl (guard_none rfl) rfl rfl (ex_lss rfl rfl rfl) ?_
    refine ops_nil ?_
    refine at_then ?_
    refine run_seq ?_
    refine run_cond (b := (decide (a2180 < (x0.length : Int)))) rfl (fun hb2187 => ?_) (fun hb2187 => ?_)
    · replace ho2175 := cond_t hb2187 ho2175
      refine run_skip ?_
      refine at_then ?_
      refine run_seq ?_
      refine run_block ?_
      refine run_seq ?_
      refine run_region rfl ?_
      refine ops_ex rfl (guard_none rfl) rfl rfl (ex_move rfl rfl) ?_
      refine ops_ex rfl (guard_none rfl) rfl rfl (ex_assign rfl rfl) ?_
      refine ops_nil ?_
      refine at_then ?_
      refine run_seq ?_
      obtain ⟨e2188, ho2175⟩ := chk_some ho2175
      refine run_region rfl ?_
      refine ops_ex rfl (guard_none rfl) rfl rfl (ex_move rfl rfl) ?_
      refine ops_ex rfl (guard_none rfl) rfl rfl (ex_move rfl rfl) ?_
      refine ops_ex rfl (guard_none rfl) rfl rfl (ex_move rfl rfl) ?_
      have hc2189 : CellsAt _ (sb p0) (so p0 + (a2180).toNat * 1) [(.int .i64 (gt x0 a2180))] := rd_plain hp0 e2188
      refine ops_ex rfl (guard_none rfl) rfl rfl (ex_indexAddr (d := kInt) rfl rfl rfl Try.underlying111 tsz2 hp0 (idx_lo e2188) (idx_hi e2188)) ?_
      refine ops_ex rfl (guard_none rfl) rfl rfl (ex_load1 rfl rfl Try.underlying2 rfl ((HM.at_ hc2189) 0 _ rfl)) ?_
      refine ops_ex rfl (guard_none rfl) rfl rfl (ex_eql rfl rfl rfl) ?_
      refine ops_nil ?_
      refine at_then ?_
      refine run_cond (b := (x1 == (gt x0 a2180))) rfl (fun hb2190 => ?_) (fun hb2190 => ?_)
      · replace ho2175 := cond_t hb2190 ho2175
        refine run_seq ?_
        refine run_region rfl ?_
        refine ops_ex rfl (guard_none rfl) rfl rfl (ex_move rfl rfl) ?_
        refine ops_ex rfl (guard_none rfl) rfl rfl (ex_assign rfl rfl) ?_
        refine ops_nil ?_
        refine at_then ?_
        refine run_ret ?_
        refine at_block_ret ?_
        refine at_then_ret ?_
        refine at_then_ret ?_
        refine at_block_ret ?_
        refine at_then_ret ?_
        have hR := Option.some.inj ho2175
        subst hR
        have hT := thn_inl H
        have hR := Option.some.inj hT
        subst hR
        exact at_ret1 rfl rfl ⟨_, rfl, rfl, HM⟩
      · replace ho2175 := cond_f hb2190 ho2175
        refine run_skip ?_
        refine at_block ?_
        refine at_then ?_
        refine run_region rfl ?_
        refine ops_ex rfl (guard_none rfl) rfl rfl (ex_add rfl rfl rfl) ?_
        refine ops_ex rfl (guard_none rfl) rfl rfl (ex_move rfl rfl) ?_
        refine ops_nil ?_
        exact at_again k2185 (ρ1 := [(0, p0), (1, .int .i64 x1), (7, .int .i64 (x0.length : Int)), (8, .int .i64 (wrap64 (a2180 + 1)))]) (Nat.lt_succ_self _) ⟨_, ho2175, rfl, HM⟩ (Sub.cons rfl (Sub.cons rfl (Sub.cons rfl (Sub.cons rfl Sub.nil))))
    · replace ho2175 := cond_f hb2187 ho2175
      refine run_exit ?_
      refine at_then_exit ?_
      refine at_then_exit ?_
      refine at_block_exit ?_
      exact at_mid (ρ' := []) ⟨(Option.some.inj ho2175), rfl, HM⟩ Sub.nil
  · rintro _ w2191 ⟨rfl, rfl, HM⟩
    replace H := (thn_inr H)
    refine run_seq ?_
    refine run_region rfl ?_
    refine ops_ex rfl (guard_none rfl) rfl rfl (ex_assign rfl rfl) ?_
    refine ops_nil ?_
    refine at_then ?_
    refine run_ret ?_
    have hR := Option.some.inj H
    subst hR
    exact at_ret1 rfl rfl ⟨_, rfl, rfl, HM⟩

def slices_Contains_int64.f (k : Nat) (x0 : List Int) (x1 : Int) : Option Bool := ((slices_Index_int64.f k x0 x1).bind fun t2194 => some (decide (0 ≤ t2194)))
theorem slices_Contains_int64.calls {k : Nat} {x0 : List Int} {x1 : Int} {p0 : Value} {w : World} (hp0 : RdS kInt w p0 x0) {r : Bool} (H : slices_Contains_int64.f k x0 x1 = some r) :
    Calls Try.prog 77 ([p0, .int .i64 x1] : List Value).toArray w (fun e w_ => ∃ v, e = .returned v ∧ v = (.bool r) ∧ Mem w [] w_ []) := by
  have HM := Mem.start w
  refine calls_run (N := 9) Try.func77 rfl rfl rfl rfl ?_
  unfold slices_Contains_int64.f at H
  refine run_seq ?_
  refine run_region rfl ?_
  refine ops_ex rfl (guard_none rfl) rfl rfl (ex_assign rfl rfl) ?_
  refine ops_nil ?_
  refine at_then ?_
  refine run_seq ?_
  obtain ⟨t2194, h2195, H⟩ := bind_some H
  refine run_region rfl ?_
  refine ops_ex rfl (guard_none rfl) rfl rfl (ex_move rfl rfl) ?_
  refine ops_ex rfl (guard_none rfl) rfl rfl (ex_move rfl rfl) ?_
  refine ops_does rfl (guard_none rfl) rfl rfl (does_callk rfl callok127 rfl (slices_Index_int64.calls (x0 := x0) (x1 := x1) (HM.rd hp0) h2195)) ?_
  rintro _ w2196 ⟨rfl, hn⟩
  replace HM : Mem w [] w2196 [] := HM.call hn
  refine ops_ex rfl (guard_none rfl) rfl rfl (ex_geq rfl rfl rfl) ?_
  refine ops_ex rfl (guard_none rfl) rfl rfl (ex_assign rfl rfl) ?_
  refine ops_nil ?_
  refine at_then ?_
  refine run_ret ?_
  have hR := Option.some.inj H
  subst hR
  exact at_ret1 rfl rfl ⟨_, rfl, rfl, HM⟩

def impl_sumOf.l0 (x0 : List Coin) : Nat → Int → Int → Option Int
  | 0, _, _ => none
  | k + 1, a2315, a2316 => (bif (decide (a2316 < (x0.length : Int))) then (chk (idxOk a2316 x0.length) (impl_sumOf.l0 x0 k (wrap64 (a2315 + ((gt x0 a2316).fOut.fValue))) (wrap64 (a2316 + 1)))) else some a2315)
theorem impl_sumOf.l0_z (x0 : List Coin) (a2315 : Int) (a2316 : Int) : impl_sumOf.l0 x0 0 a2315 a2316 = none := rfl
theorem impl_sumOf.l0_s (x0 : List Coin) (k : Nat) (a2315 : Int) (a2316 : Int) : impl_sumOf.l0 x0 (k + 1) a2315 a2316 = (bif (decide (a2316 < (x0.length : Int))) then (chk (idxOk a2316 x0.length) (impl_sumOf.l0 x0 k (wrap64 (a2315 + ((gt x0 a2316).fOut.fValue))) (wrap64 (a2316 + 1)))) else some a2315) := rfl
def impl_sumOf.f (k : Nat) (x0 : List Coin) : Option Int := ((impl_sumOf.l0 x0 k 0 0).bind (fun a2304 => some a2304))
theorem impl_sumOf.calls {k : Nat} {x0 : List Coin} {p0 : Value} {w : World} (hp0 : RdS kCoin w p0 x0) {r : Int} (H : impl_sumOf.f k x0 = some r) :
    Calls Try.prog 78 ([p0] : List Value).toArray w (fun e w_ => ∃ v, e = .returned v ∧ v = (.int .i64 r) ∧ Mem w [] w_ []) := by
  have HM := Mem.start w
  refine calls_run (N := 19) Try.func78 rfl rfl rfl rfl ?_
  unfold impl_sumOf.f at H
  refine run_seq ?_
  refine run_region rfl ?_
  refine ops_ex rfl (guard_none rfl) rfl rfl (ex_assign rfl rfl) ?_
  refine ops_nil ?_
  refine at_then ?_
  refine run_seq ?_
  refine run_region rfl ?_
  refine ops_ex rfl (guard_none rfl) rfl rfl (ex_assign rfl rfl) ?_
  refine ops_nil ?_
  refine at_then ?_
  obtain ⟨o2305, ho2306, H⟩ := bind_some H
  refine run_mid (fun ρ_ w_ => ∃ a2304 : Int, a2304 = o2305 ∧ ρ_ = [(3, .int .i64 a2304)] ∧ Mem w [] w_ []) ?_ ?_
  · clear H
    refine run_seq ?_
    refine run_region rfl ?_
    refine ops_ex rfl (guard_none rfl) rfl rfl (ex_move rfl rfl) ?_
    refine ops_ex rfl (guard_none rfl) rfl rfl (ex_len (d := kCoin) (xs := x0) rfl rfl Try.underlying44 hp0) ?_
    refine ops_ex rfl (guard_none rfl) rfl rfl (ex_move rfl rfl) ?_
    refine ops_nil ?_
    refine at_then ?_
    refine run_block ?_
    refine run_loop (fun k_ ρ_ w_ => ∃ a2315 : Int, ∃ a2316 : Int, impl_sumOf.l0 x0 k_ a2315 a2316 = some o2305 ∧ ρ_ = [(3, .int .i64 a2315), (6, p0), (7, .int .i64 (x0.length : Int)), (8, .int .i64 a2316)] ∧ Mem w [] w_ []) k (ρ1 := [(3, .int .i64 0), (6, p0), (7, .int .i64 (x0.length : Int)), (8, .int .i64 0)]) ⟨_, _, ho2306, rfl, HM⟩ (Sub.cons rfl (Sub.cons rfl (Sub.cons rfl (Sub.cons rfl Sub.nil)))) ?_
    clear HM ho2306
    rintro k2325 _ w2326 ⟨a2315, a2316, ho2306, rfl, HM⟩
    obtain _ | k2325 := k2325
    · exact nomatch ((impl_sumOf.l0_z x0 a2315 a2316).symm.trans ho2306)
    replace ho2306 := (impl_sumOf.l0_s x0 k2325 a2315 a2316).symm.trans ho2306
    refine run_seq ?_
    refine run_region rfl ?_
    refine ops_ex rfl (guard_none rfl) rfl rfl (ex_lss rfl rfl rfl) ?_
    refine ops_nil ?_
    refine at_then ?_
    refine run_seq ?_
    refine run_cond (b := (decide (a2316 < (x0.length : Int)))) rfl (fun hb2327 => ?_) (fun hb2327 => ?_)
    · replace ho2306 := cond_t hb2327 ho2306
      refine run_skip ?_
      refine at_then ?_
      refine run_seq ?_
      refine run_block ?_
      refine run_seq ?_
      obtain ⟨e2328, ho2306⟩ := chk_some ho2306
      refine run_region rfl ?_
      obtain ⟨kv2330, hc2329, hk2331⟩ : ∃ u, CellsAt _ (sb p0) (so p0 + (a2316).toNat * 8) [(.int .i64 ((gt x0 a2316).fRef.fTx)), (.int .i64 ((gt x0 a2316).fRef.fAt)), (.int .i64 ((gt x0 a2316).fOut.fValue)), u, (.int .i64 ((gt x0 a2316).fOut.fRule.fNeed)), (.int .i64 ((gt x0 a2316).fOut.fRule.fAfter)), (.int .i64 ((gt x0 a2316).fHeight)), (.bool ((gt x0 a2316).fMined))] ∧ RdS kInt _ u ((gt x0 a2316).fOut.fRule.fKeys) := rd_with1 hp0 e2328
      refine ops_ex rfl (guard_none rfl) rfl rfl (ex_indexAddr (d := kCoin) rfl rfl rfl Try.underlying44 tsz123 hp0 (idx_lo e2328) (idx_hi e2328)) ?_
      refine ops_ex rfl (guard_none rfl) rfl rfl (ex_loadN (cs := [(.int .i64 ((gt x0 a2316).fRef.fTx)), (.int .i64 ((gt x0 a2316).fRef.fAt)), (.int .i64 ((gt x0 a2316).fOut.fValue)), kv2330, (.int .i64 ((gt x0 a2316).fOut.fRule.fNeed)), (.int .i64 ((gt x0 a2316).fOut.fRule.fAfter)), (.int .i64 ((gt x0 a2316).fHeight)), (.bool ((gt x0 a2316).fMined))]) rfl rfl Try.underlying123 rfl tsz123 rfl ((HM.at_ hc2329).sub 0 8 rfl)) ?_
      refine ops_does rfl (guard_none rfl) rfl rfl (does_alloc (cs := [.int .i64 0, .int .i64 0, .int .i64 0, .slice none 0 0, .int .i64 0, .int .i64 0, .int .i64 0, .bool false]) rfl tz123 rfl HM) ?_
      rintro _ w2335 ⟨b2332, rfl, HM⟩
      refine ops_doesS rfl (guard_none rfl) rfl (does_store (vs := [.int .i64 ((gt x0 a2316).fRef.fTx), .int .i64 ((gt x0 a2316).fRef.fAt), .int .i64 ((gt x0 a2316).fOut.fValue), kv2330, .int .i64 ((gt x0 a2316).fOut.fRule.fNeed), .int .i64 ((gt x0 a2316).fOut.fRule.fAfter), .int .i64 ((gt x0 a2316).fHeight), .bool ((gt x0 a2316).fMined)]) (cs' := [.int .i64 ((gt x0 a2316).fRef.fTx), .int .i64 ((gt x0 a2316).fRef.fAt), .int .i64 ((gt x0 a2316).fOut.fValue), kv2330, .int .i64 ((gt x0 a2316).fOut.fRule.fNeed), .int .i64 ((gt x0 a2316).fOut.fRule.fAfter), .int .i64 ((gt x0 a2316).fHeight), .bool ((gt x0 a2316).fMined)]) rfl rfl rfl rfl tsz123 (Ones.int (Ones.int (Ones.int (Ones.rd hk2331 (Ones.int (Ones.int (Ones.int (Ones.bool Ones.nil)))))))) rfl rfl HM) ?_
      rintro w2336 HM
      refine ops_nil ?_
      refine at_then ?_
      refine run_region rfl ?_
      refine ops_ex rfl (guard_none rfl) rfl rfl (ex_move rfl rfl) ?_
      refine ops_ex rfl (guard_none rfl) rfl rfl (ex_fieldAddr (off' := 2) rfl rfl Try.underlying123 rfl tsz121 rfl) ?_
      refine ops_ex rfl (guard_none rfl) rfl rfl (ex_fieldAddr (off' := 2) rfl rfl Try.underlying121 rfl tsz2 rfl) ?_
      refine ops_ex rfl (guard_none rfl) rfl rfl (ex_load1 rfl rfl Try.underlying2 rfl ((HM.box_at 0 rfl) 2 _ rfl)) ?_
      refine ops_ex rfl (guard_none rfl) rfl rfl (ex_add rfl rfl rfl) ?_
      refine ops_ex rfl (guard_none rfl) rfl rfl (ex_assign rfl rfl) ?_
      refine ops_nil ?_
      refine at_block ?_
      refine at_then ?_
      refine run_region rfl ?_
      refine ops_ex rfl (guard_none rfl) rfl rfl (ex_add rfl rfl rfl) ?_
      refine ops_ex rfl (guard_none rfl) rfl rfl (ex_move rfl rfl) ?_
      refine ops_nil ?_
      replace HM := (HM.front 0 rfl rfl).drop
      exact at_again k2325 (ρ1 := [(3, .int .i64 (wrap64 (a2315 + ((gt x0 a2316).fOut.fValue)))), (6, p0), (7, .int .i64 (x0.length : Int)), (8, .int .i64 (wrap64 (a2316 + 1)))]) (Nat.lt_succ_self _) ⟨_, _, ho2306, rfl, HM⟩ (Sub.cons rfl (Sub.cons rfl (Sub.cons rfl (Sub.cons rfl Sub.nil))))
    · replace ho2306 := cond_f hb2327 ho2306
      refine run_exit ?_
      refine at_then_exit ?_
      refine at_then_exit ?_
      refine at_block_exit ?_
      exact at_mid (ρ' := [(3, .int .i64 a2315)]) ⟨_, (Option.some.inj ho2306), rfl, HM⟩ (Sub.cons rfl Sub.nil)
  · rintro _ w2337 ⟨a2304, rfl, rfl, HM⟩
    refine run_seq ?_
    refine run_region rfl ?_
    refine ops_ex rfl (guard_none rfl) rfl rfl (ex_move rfl rfl) ?_
    refine ops_ex rfl (guard_none rfl) rfl rfl (ex_assign rfl rfl) ?_
    refine ops_nil ?_
    refine at_then ?_
    refine run_ret ?_
    have hR := Option.some.inj H
    subst hR
    exact at_ret1 rfl rfl ⟨_, rfl, rfl, HM⟩

def impl_OwnedBy.l0 (x0 : List Coin) (x1 : Int) : Nat → (List Coin) → Int → Option ((List Coin))
  | 0, _, _ => none
  | k + 1, a2434, a2436 => (bif (decide (a2436 < (x0.length : Int))) then (chk (idxOk a2436 x0.length) ((bif (((gt x0 a2436).fOut.fRule.fNeed) == 1) then slices_Contains_int64.f k ((gt x0 a2436).fOut.fRule.fKeys) x1 else some default).bind fun t2466 => (bif ((((gt x0 a2436).fOut.fRule.fNeed) == 1) && t2466) then (chk (leB ((a2434.length + ([(gt x0 a2436)] : List Coin).length) * 80) 140737488355328) (impl_OwnedBy.l0 x0 x1 k (a2434 ++ ([(gt x0 a2436)] : List Coin)) (wrap64 (a2436 + 1)))) else impl_OwnedBy.l0 x0 x1 k a2434 (wrap64 (a2436 + 1))))) else some a2434)
theorem impl_OwnedBy.l0_z (x0 : List Coin) (x1 : Int) (a2434 : List Coin) (a2436 : Int) : impl_OwnedBy.l0 x0 x1 0 a2434 a2436 = none := rfl
theorem impl_OwnedBy.l0_s (x0 : List Coin) (x1 : Int) (k : Nat) (a2434 : List Coin) (a2436 : Int) : impl_OwnedBy.l0 x0 x1 (k + 1) a2434 a2436 = (bif (decide (a2436 < (x0.length : Int))) then (chk (idxOk a2436 x0.length) ((bif (((gt x0 a2436).fOut.fRule.fNeed) == 1) then slices_Contains_int64.f k ((gt x0 a2436).fOut.fRule.fKeys) x1 else some default).bind fun t2466 => (bif ((((gt x0 a2436).fOut.fRule.fNeed) == 1) && t2466) then (chk (leB ((a2434.length + ([(gt x0 a2436)] : List Coin).length) * 80) 140737488355328) (impl_OwnedBy.l0 x0 x1 k (a2434 ++ ([(gt x0 a2436)] : List Coin)) (wrap64 (a2436 + 1)))) else impl_OwnedBy.l0 x0 x1 k a2434 (wrap64 (a2436 + 1))))) else some a2434) := rfl
def impl_OwnedBy.f (k : Nat) (x0 : List Coin) (x1 : Int) : Option IntResult := ((impl_CoinsFault.f k x0).bind fun t2347 => (bif (t2347 != 0) then some (⟨t2347, 0⟩ : IntResult) else ((impl_OwnedBy.l0 x0 x1 k ([] : List Coin) 0).bind (fun a2412 => ((impl_sumOf.f k a2412).bind fun t2482 => some (⟨0, t2482⟩ : IntResult))))))
theorem impl_OwnedBy.calls {k : Nat} {x0 : List Coin} {x1 : Int} {p0 : Value} {w : World} (hp0 : RdS kCoin w p0 x0) {r : IntResult} (H : impl_OwnedBy.f k x0 x1 = some r) :
    Calls Try.prog 21 ([p0, .int .i64 x1] : List Value).toArray w (fun e w_ => ∃ v, e = .returned v ∧ v = (.agg #[.int .i64 r.fCode, .int .i64 r.fValue]) ∧ Mem w [] w_ []) := by
  have HM := Mem.start w
  refine calls_run (N := 43) Try.func21 rfl rfl rfl rfl ?_
  unfold impl_OwnedBy.f at H
  refine run_seq ?_
  refine run_region rfl ?_
  refine ops_does rfl (guard_none rfl) rfl rfl (does_alloc (cs := [.int .i64 0, .int .i64 0]) rfl tz42 rfl HM) ?_
  rintro _ w2343 ⟨b2340, rfl, HM⟩
  refine ops_nil ?_
  refine at_then ?_
  refine run_seq ?_
  refine run_seq ?_
  obtain ⟨t2347, h2348, H⟩ := bind_some H
  refine run_region rfl ?_
  refine ops_ex rfl (guard_none rfl) rfl rfl (ex_move rfl rfl) ?_
  refine ops_does rfl (guard_none rfl) rfl rfl (does_callk rfl callok76 rfl (impl_CoinsFault.calls (x0 := x0) (HM.rd hp0) h2348)) ?_
  rintro _ w2349 ⟨rfl, hn⟩
  replace HM : Mem w [] w2349 [box b2340 42 [.int .i64 0, .int .i64 0]] := HM.call hn
  refine ops_ex rfl (guard_none rfl) rfl rfl (ex_assign rfl rfl) ?_
  refine ops_nil ?_
  refine at_then ?_
  refine run_seq ?_
  refine run_region rfl ?_
  refine ops_ex rfl (guard_none rfl) rfl rfl (ex_move rfl rfl) ?_
  refine ops_ex rfl (guard_none rfl) rfl rfl (ex_neq rfl rfl rfl) ?_
  refine ops_nil ?_
  refine at_then ?_
  refine run_cond (b := (t2347 != 0)) rfl (fun hb2350 => ?_) (fun hb2350 => ?_)
  · replace H := cond_t hb2350 H
    refine run_seq ?_
    refine run_region rfl ?_
    refine ops_ex rfl (guard_none rfl) rfl rfl (ex_move rfl rfl) ?_
    refine ops_ex rfl (guard_none rfl) rfl rfl (ex_build (cells := #[(.int .i64 t2347), (.int .i64 0)]) rfl rfl (by kernel_rfl)) ?_
    refine ops_doesS rfl (guard_none rfl) rfl (does_store (vs := [.int .i64 t2347, .int .i64 0]) (cs' := [.int .i64 t2347, .int .i64 0]) rfl rfl rfl rfl tsz42 (Ones.int (Ones.int Ones.nil)) rfl rfl HM) ?_
    rintro w2351 HM
    refine ops_nil ?_
    refine at_then ?_
    refine run_ret ?_
    refine at_then_ret ?_
    have hcb0 := HM.box_at 0 rfl
    replace HM := (HM.front 0 rfl rfl).drop
    have hR := Option.some.inj H
    subst hR
    exact at_retN rfl rfl Try.underlying42 rfl tsz42 rfl hcb0 ⟨_, rfl, rfl, HM⟩
  · replace H := cond_f hb2350 H
    refine run_skip ?_
    refine at_then ?_
    refine run_seq ?_
    refine run_region rfl ?_
    refine ops_does rfl (guard_none rfl) rfl rfl (does_lit (e := 123) (cs := []) (xs := ([] : List Coin)) kCoin rfl rfl (fun _ => by kernel_rfl) rfl rfl (fun _ _ h => by have h' : _ = [] := h; subst h'; exact .nil) HM.emp) ?_
    rintro v2352 w2355 HM
    refine ops_ex rfl (guard_none rfl) rfl rfl (ex_assign rfl rfl) ?_
    refine ops_nil ?_
    refine at_then ?_
    obtain ⟨o2414, ho2415, H⟩ := bind_some H
    refine run_mid (fun ρ_ w_ => ∃ v2411 : Value, ∃ a2412 : List Coin, a2412 = o2414 ∧ ρ_ = [(4, .pointer (some ⟨b2340, 0, none⟩)), (6, v2411)] ∧ Mem w [] w_ [box b2340 42 [.int .i64 0, .int .i64 0], own (Kd.lent w kCoin with1_one) 123 v2411 a2412]) ?_ ?_
    · clear H
      refine run_seq ?_
      refine run_region rfl ?_
      refine ops_ex rfl (guard_none rfl) rfl rfl (ex_move rfl rfl) ?_
      refine ops_ex rfl (guard_none rfl) rfl rfl (ex_len (d := kCoin) (xs := x0) rfl rfl Try.underlying44 hp0) ?_
      refine ops_ex rfl (guard_none rfl) rfl rfl (ex_move rfl rfl) ?_
      refine ops_nil ?_
      refine at_then ?_
      refine run_block ?_
      replace HM := Mem.relent (d := kCoin) (d' := (Kd.lent w kCoin with1_one)) rfl HM
      replace HM := HM.front 1 rfl rfl
      refine run_loop (fun k_ ρ_ w_ => ∃ v2433 : Value, ∃ a2434 : List Coin, ∃ a2436 : Int, impl_OwnedBy.l0 x0 x1 k_ a2434 a2436 = some o2414 ∧ ρ_ = [(1, .int .i64 x1), (4, .pointer (some ⟨b2340, 0, none⟩)), (6, v2433), (16, p0), (17, .int .i64 (x0.length : Int)), (18, .int .i64 a2436)] ∧ Mem w [] w_ [box b2340 42 [.int .i64 0, .int .i64 0], own (Kd.lent w kCoin with1_one) 123 v2433 a2434]) k (ρ1 := [(1, .int .i64 x1), (4, .pointer (some ⟨b2340, 0, none⟩)), (6, v2352), (16, p0), (17, .int .i64 (x0.length : Int)), (18, .int .i64 0)]) ⟨_, _, _, ho2415, rfl, HM⟩ (Sub.cons rfl (Sub.cons rfl (Sub.cons rfl (Sub.cons rfl (Sub.cons rfl (Sub.cons rfl Sub.nil)))))) ?_
      clear HM ho2415
      rintro k2454 _ w2455 ⟨v2433, a2434, a2436, ho2415, rfl, HM⟩
      obtain _ | k2454 := k2454
      · exact nomatch ((impl_OwnedBy.l0_z x0 x1 a2434 a2436).symm.trans ho2415)
      replace ho2415 := (impl_OwnedBy.l0_s x0 x1 k2454 a2434 a2436).symm.trans ho2415
      refine run_seq ?_
      refine run_region rfl ?_
      refine ops_ex rfl (guard_none rfl) rfl rfl (ex_lss rfl rfl rfl) ?_
      refine ops_nil ?_
      refine at_then ?_
      refine run_seq ?_
      refine run_cond (b := (decide (a2436 < (x0.length : Int)))) rfl (fun hb2456 => ?_) (fun hb2456 => ?_)
      · replace ho2415 := cond_t hb2456 ho2415
        refine run_skip ?_
        refine at_then ?_
        refine run_seq ?_
        refine run_block ?_
        refine run_seq ?_
        obtain ⟨e2457, ho2415⟩ := chk_some ho2415
        refine run_region rfl ?_
        obtain ⟨kv2459, hc2458, hk2460⟩ : ∃ u, CellsAt _ (sb p0) (so p0 + (a2436).toNat * 8) [(.int .i64 ((gt x0 a2436).fRef.fTx)), (.int .i64 ((gt x0 a2436).fRef.fAt)), (.int .i64 ((gt x0 a2436).fOut.fValue)), u, (.int .i64 ((gt x0 a2436).fOut.fRule.fNeed)), (.int .i64 ((gt x0 a2436).fOut.fRule.fAfter)), (.int .i64 ((gt x0 a2436).fHeight)), (.bool ((gt x0 a2436).fMined))] ∧ RdS kInt _ u ((gt x0 a2436).fOut.fRule.fKeys) := rd_with1 hp0 e2457
        refine ops_ex rfl (guard_none rfl) rfl rfl (ex_indexAddr (d := kCoin) rfl rfl rfl Try.underlying44 tsz123 hp0 (idx_lo e2457) (idx_hi e2457)) ?_
        refine ops_ex rfl (guard_none rfl) rfl rfl (ex_loadN (cs := [(.int .i64 ((gt x0 a2436).fRef.fTx)), (.int .i64 ((gt x0 a2436).fRef.fAt)), (.int .i64 ((gt x0 a2436).fOut.fValue)), kv2459, (.int .i64 ((gt x0 a2436).fOut.fRule.fNeed)), (.int .i64 ((gt x0 a2436).fOut.fRule.fAfter)), (.int .i64 ((gt x0 a2436).fHeight)), (.bool ((gt x0 a2436).fMined))]) rfl rfl Try.underlying123 rfl tsz123 rfl ((HM.at_ hc2458).sub 0 8 rfl)) ?_
        refine ops_does rfl (guard_none rfl) rfl rfl (does_alloc (cs := [.int .i64 0, .int .i64 0, .int .i64 0, .slice none 0 0, .int .i64 0, .int .i64 0, .int .i64 0, .bool false]) rfl tz123 rfl HM) ?_
        rintro _ w2464 ⟨b2461, rfl, HM⟩
        refine ops_doesS rfl (guard_none rfl) rfl (does_store (vs := [.int .i64 ((gt x0 a2436).fRef.fTx), .int .i64 ((gt x0 a2436).fRef.fAt), .int .i64 ((gt x0 a2436).fOut.fValue), kv2459, .int .i64 ((gt x0 a2436).fOut.fRule.fNeed), .int .i64 ((gt x0 a2436).fOut.fRule.fAfter), .int .i64 ((gt x0 a2436).fHeight), .bool ((gt x0 a2436).fMined)]) (cs' := [.int .i64 ((gt x0 a2436).fRef.fTx), .int .i64 ((gt x0 a2436).fRef.fAt), .int .i64 ((gt x0 a2436).fOut.fValue), kv2459, .int .i64 ((gt x0 a2436).fOut.fRule.fNeed), .int .i64 ((gt x0 a2436).fOut.fRule.fAfter), .int .i64 ((gt x0 a2436).fHeight), .bool ((gt x0 a2436).fMined)]) rfl rfl rfl rfl tsz123 (Ones.int (Ones.int (Ones.int (Ones.rd hk2460 (Ones.int (Ones.int (Ones.int (Ones.bool Ones.nil)))))))) rfl rfl HM) ?_
        rintro w2465 HM
        refine ops_nil ?_
        refine at_then ?_
        refine run_seq ?_
        obtain ⟨t2466, h2467, ho2415⟩ := bind_some ho2415
        refine run_meet (fun ρ_ w_ => ρ_ = [(1, .int .i64 x1), (4, .pointer (some ⟨b2340, 0, none⟩)), (6, v2433), (16, p0), (17, .int .i64 (x0.length : Int)), (18, .int .i64 a2436), (8, .pointer (some ⟨b2461, 0, none⟩)), (34, .bool ((((gt x0 a2436).fOut.fRule.fNeed) == 1) && t2466))] ∧ Mem w [] w_ [box b2340 42 [.int .i64 0, .int .i64 0], own (Kd.lent w kCoin with1_one) 123 v2433 a2434, box b2461 123 [.int .i64 ((gt x0 a2436).fRef.fTx), .int .i64 ((gt x0 a2436).fRef.fAt), .int .i64 ((gt x0 a2436).fOut.fValue), kv2459, .int .i64 ((gt x0 a2436).fOut.fRule.fNeed), .int .i64 ((gt x0 a2436).fOut.fRule.fAfter), .int .i64 ((gt x0 a2436).fHeight), .bool ((gt x0 a2436).fMined)]]) ?_ ?_
        · skip
          refine run_region rfl ?_
          refine ops_ex rfl (guard_none rfl) rfl rfl (ex_fieldAddr (off' := 2) rfl rfl Try.underlying123 rfl tsz121 rfl) ?_
          refine ops_ex rfl (guard_none rfl) rfl rfl (ex_fieldAddr (off' := 3) rfl rfl Try.underlying121 rfl tsz119 rfl) ?_
          refine ops_ex rfl (guard_none rfl) rfl rfl (ex_fieldAddr (off' := 4) rfl rfl Try.underlying119 rfl tsz2 rfl) ?_
          refine ops_ex rfl (guard_none rfl) rfl rfl (ex_load1 rfl rfl Try.underlying2 rfl ((HM.box_at 0 rfl) 4 _ rfl)) ?_
          refine ops_ex rfl (guard_none rfl) rfl rfl (ex_eql rfl rfl rfl) ?_
          refine ops_ex rfl (guard_none rfl) rfl rfl (ex_move rfl rfl) ?_
          refine bool_cases (((gt x0 a2436).fOut.fRule.fNeed) == 1) (fun hg2468 => ?_) (fun hg2468 => ?_)
          · skip
            refine ops_ex rfl (guard_on rfl rfl rfl hg2468) rfl rfl (ex_fieldAddr (off' := 2) rfl rfl Try.underlying123 rfl tsz121 rfl) ?_
            refine ops_ex rfl (guard_on rfl rfl rfl hg2468) rfl rfl (ex_fieldAddr (off' := 3) rfl rfl Try.underlying121 rfl tsz119 rfl) ?_
            refine ops_ex rfl (guard_on rfl rfl rfl hg2468) rfl rfl (ex_fieldAddr (off' := 3) rfl rfl Try.underlying119 rfl tsz111 rfl) ?_
            refine ops_ex rfl (guard_on rfl rfl rfl hg2468) rfl rfl (ex_load1 rfl rfl Try.underlying111 rfl ((HM.box_at 0 rfl) 3 _ rfl)) ?_
            refine ops_ex rfl (guard_on rfl rfl rfl hg2468) rfl rfl (ex_move rfl rfl) ?_
            refine ops_does rfl (guard_on rfl rfl rfl hg2468) rfl rfl (does_callk rfl callok77 rfl (slices_Contains_int64.calls (x0 := (gt x0 a2436).fOut.fRule.fKeys) (x1 := x1) (HM.rd hk2460) (cond_t hg2468 h2467))) ?_
            rintro _ w2469 ⟨rfl, hn⟩
            replace HM : Mem w [] w2469 [box b2461 123 [.int .i64 ((gt x0 a2436).fRef.fTx), .int .i64 ((gt x0 a2436).fRef.fAt), .int .i64 ((gt x0 a2436).fOut.fValue), kv2459, .int .i64 ((gt x0 a2436).fOut.fRule.fNeed), .int .i64 ((gt x0 a2436).fOut.fRule.fAfter), .int .i64 ((gt x0 a2436).fHeight), .bool ((gt x0 a2436).fMined)], box b2340 42 [.int .i64 0, .int .i64 0], own (Kd.lent w kCoin with1_one) 123 v2433 a2434] := HM.call hn
            refine ops_ex (v := .bool ((((gt x0 a2436).fOut.fRule.fNeed) == 1) && t2466)) rfl (guard_none rfl) rfl rfl (ex_pand_t rfl rfl hg2468 rfl) ?_
            refine ops_nil ?_
            replace HM := HM.front 2 rfl rfl
            replace HM := HM.front 2 rfl rfl
            exact at_meet [(1, .int .i64 x1), (4, .pointer (some ⟨b2340, 0, none⟩)), (6, v2433), (16, p0), (17, .int .i64 (x0.length : Int)), (18, .int .i64 a2436), (8, .pointer (some ⟨b2461, 0, none⟩)), (34, .bool ((((gt x0 a2436).fOut.fRule.fNeed) == 1) && t2466))] ⟨rfl, HM⟩ (Sub.cons rfl (Sub.cons rfl (Sub.cons rfl (Sub.cons rfl (Sub.cons rfl (Sub.cons rfl (Sub.cons rfl (Sub.cons rfl Sub.nil))))))))
          · skip
            refine ops_off rfl (guard_off rfl rfl rfl hg2468) rfl rfl ?_
            refine ops_off rfl (guard_off rfl rfl rfl hg2468) rfl rfl ?_
            refine ops_off rfl (guard_off rfl rfl rfl hg2468) rfl rfl ?_
            refine ops_off rfl (guard_off rfl rfl rfl hg2468) rfl rfl ?_
            refine ops_off rfl (guard_off rfl rfl rfl hg2468) rfl rfl ?_
            refine ops_off rfl (guard_off rfl rfl rfl hg2468) rfl rfl ?_
            have hg2470 : ((((gt x0 a2436).fOut.fRule.fNeed) == 1) && t2466) = false := by simp only [hg2468, Bool.and_true, Bool.true_and, Bool.and_false, Bool.false_and, Bool.or_true, Bool.true_or, Bool.or_false, Bool.false_or, Bool.not_true, Bool.not_false, Bool.not_not]
            refine ops_ex (v := .bool ((((gt x0 a2436).fOut.fRule.fNeed) == 1) && t2466)) rfl (guard_none rfl) rfl rfl (ex_pand_f rfl rfl hg2468) ?_
            refine ops_nil ?_
            replace HM := HM.front 2 rfl rfl
            replace HM := HM.front 2 rfl rfl
            exact at_meet [(1, .int .i64 x1), (4, .pointer (some ⟨b2340, 0, none⟩)), (6, v2433), (16, p0), (17, .int .i64 (x0.length : Int)), (18, .int .i64 a2436), (8, .pointer (some ⟨b2461, 0, none⟩)), (34, .bool ((((gt x0 a2436).fOut.fRule.fNeed) == 1) && t2466))] ⟨rfl, HM⟩ (Sub.cons rfl (Sub.cons rfl (Sub.cons rfl (Sub.cons rfl (Sub.cons rfl (Sub.cons rfl (Sub.cons rfl (Sub.cons rfl Sub.nil))))))))
        · rintro _ w2471 ⟨rfl, HM⟩
          refine at_then ?_
          refine run_cond (b := ((((gt x0 a2436).fOut.fRule.fNeed) == 1) && t2466)) rfl (fun hb2472 => ?_) (fun hb2472 => ?_)
          · replace ho2415 := cond_t hb2472 ho2415
            obtain ⟨e2476, ho2415⟩ := chk_some ho2415
            refine run_region rfl ?_
            refine ops_ex rfl (guard_none rfl) rfl rfl (ex_move rfl rfl) ?_
            refine ops_ex rfl (guard_none rfl) rfl rfl (ex_loadN (cs := [(.int .i64 ((gt x0 a2436).fRef.fTx)), (.int .i64 ((gt x0 a2436).fRef.fAt)), (.int .i64 ((gt x0 a2436).fOut.fValue)), kv2459, (.int .i64 ((gt x0 a2436).fOut.fRule.fNeed)), (.int .i64 ((gt x0 a2436).fOut.fRule.fAfter)), (.int .i64 ((gt x0 a2436).fHeight)), (.bool ((gt x0 a2436).fMined))]) rfl rfl Try.underlying123 rfl tsz123 rfl ((HM.box_at 2 rfl).sub 0 8 rfl)) ?_
            refine ops_does rfl (guard_none rfl) rfl rfl (does_lit (e := 123) (cs := [.int .i64 ((gt x0 a2436).fRef.fTx), .int .i64 ((gt x0 a2436).fRef.fAt), .int .i64 ((gt x0 a2436).fOut.fValue), kv2459, .int .i64 ((gt x0 a2436).fOut.fRule.fNeed), .int .i64 ((gt x0 a2436).fOut.fRule.fAfter), .int .i64 ((gt x0 a2436).fHeight), .bool ((gt x0 a2436).fMined)]) (xs := ([(gt x0 a2436)] : List Coin)) (Kd.lent w kCoin with1_one) rfl rfl (fun _ => by kernel_rfl) rfl rfl (fun _ _ h => by have h' : _ = [] := h; subst h'; exact (Elems.cons (d := (Kd.lent w kCoin with1_one)) (f := []) ⟨⟨_, rfl, hk2460⟩, rfl⟩ .nil)) HM.emp) ?_
            rintro v2473 w2479 HM
            replace HM := HM.front 2 rfl rfl
            refine ops_does rfl (guard_none rfl) rfl rfl (does_append (Kd.lent w kCoin with1_one) rfl rfl rfl Try.underlying44 tsz123 rfl tby123 tz123 rfl rfl (leB_le e2476) HM) ?_
            rintro v2477 w2480 HM
            refine ops_ex rfl (guard_none rfl) rfl rfl (ex_assign rfl rfl) ?_
            refine ops_nil ?_
            refine at_block ?_
            refine at_then ?_
            refine run_region rfl ?_
            refine ops_ex rfl (guard_none rfl) rfl rfl (ex_add rfl rfl rfl) ?_
            refine ops_ex rfl (guard_none rfl) rfl rfl (ex_move rfl rfl) ?_
            refine ops_nil ?_
            replace HM := (HM.front 2 rfl rfl).drop
            replace HM := HM.front 1 rfl rfl
            exact at_again k2454 (ρ1 := [(1, .int .i64 x1), (4, .pointer (some ⟨b2340, 0, none⟩)), (6, v2477), (16, p0), (17, .int .i64 (x0.length : Int)), (18, .int .i64 (wrap64 (a2436 + 1)))]) (Nat.lt_succ_self _) ⟨_, _, _, ho2415, rfl, HM⟩ (Sub.cons rfl (Sub.cons rfl (Sub.cons rfl (Sub.cons rfl (Sub.cons rfl (Sub.cons rfl Sub.nil))))))
          · replace ho2415 := cond_f hb2472 ho2415
            refine run_skip ?_
            refine at_block ?_
            refine at_then ?_
            refine run_region rfl ?_
            refine ops_ex rfl (guard_none rfl) rfl rfl (ex_add rfl rfl rfl) ?_
            refine ops_ex rfl (guard_none rfl) rfl rfl (ex_move rfl rfl) ?_
            refine ops_nil ?_
            replace HM := (HM.front 2 rfl rfl).drop
            exact at_again k2454 (ρ1 := [(1, .int .i64 x1), (4, .pointer (some ⟨b2340, 0, none⟩)), (6, v2433), (16, p0), (17, .int .i64 (x0.length : Int)), (18, .int .i64 (wrap64 (a2436 + 1)))]) (Nat.lt_succ_self _) ⟨_, _, _, ho2415, rfl, HM⟩ (Sub.cons rfl (Sub.cons rfl (Sub.cons rfl (Sub.cons rfl (Sub.cons rfl (Sub.cons rfl Sub.nil))))))
      · replace ho2415 := cond_f hb2456 ho2415
        refine run_exit ?_
        refine at_then_exit ?_
        refine at_then_exit ?_
        refine at_block_exit ?_
        exact at_mid (ρ' := [(4, .pointer (some ⟨b2340, 0, none⟩)), (6, v2433)]) ⟨_, _, (Option.some.inj ho2415), rfl, HM⟩ (Sub.cons rfl (Sub.cons rfl Sub.nil))
    · rintro _ w2481 ⟨v2411, a2412, rfl, rfl, HM⟩
      refine run_seq ?_
      obtain ⟨t2482, h2483, H⟩ := bind_some H
      refine run_region rfl ?_
      refine ops_ex rfl (guard_none rfl) rfl rfl (ex_move rfl rfl) ?_
      refine ops_does rfl (guard_none rfl) rfl rfl (does_callk rfl callok78 rfl (impl_sumOf.calls (x0 := a2412) ((HM.own_rd 1 rfl).unlent (HM.old)) h2483)) ?_
      rintro _ w2484 ⟨rfl, hn⟩
      replace HM : Mem w [] w2484 [box b2340 42 [.int .i64 0, .int .i64 0], own (Kd.lent w kCoin with1_one) 123 v2411 a2412] := HM.call hn
      refine ops_ex rfl (guard_none rfl) rfl rfl (ex_build (cells := #[(.int .i64 0), (.int .i64 t2482)]) rfl rfl (by kernel_rfl)) ?_
      refine ops_doesS rfl (guard_none rfl) rfl (does_store (vs := [.int .i64 0, .int .i64 t2482]) (cs' := [.int .i64 0, .int .i64 t2482]) rfl rfl rfl rfl tsz42 (Ones.int (Ones.int Ones.nil)) rfl rfl HM) ?_
      rintro w2485 HM
      refine ops_nil ?_
      refine at_then ?_
      refine run_ret ?_
      replace HM := (HM.front 1 rfl rfl).drop
      have hcb0 := HM.box_at 0 rfl
      replace HM := (HM.front 0 rfl rfl).drop
      have hR := Option.some.inj H
      subst hR
      exact at_retN rfl rfl Try.underlying42 rfl tsz42 rfl hcb0 ⟨_, rfl, rfl, HM⟩

def laws_eqIntResult.f (k : Nat) (x0 : IntResult) (x1 : IntResult) : Option Bool := (bif (x0.fCode != x1.fCode) then some false else (bif (x0.fValue != x1.fValue) then some false else some true))
theorem laws_eqIntResult.calls {k : Nat} {x0 : IntResult} {x1 : IntResult}  {w : World}  {r : Bool} (H : laws_eqIntResult.f k x0 x1 = some r) :
    Calls Try.prog 22 ([.agg #[(.int .i64 x0.fCode), (.int .i64 x0.fValue)], .agg #[(.int .i64 x1.fCode), (.int .i64 x1.fValue)]] : List Value).toArray w (fun e w_ => ∃ v, e = .returned v ∧ v = (.bool r) ∧ Mem w [] w_ []) := by
  have HM := Mem.start w
  refine calls_run (N := 15) Try.func22 rfl rfl rfl rfl ?_
  unfold laws_eqIntResult.f at H
  refine run_seq ?_
  refine run_region rfl ?_
  refine ops_does rfl (guard_none rfl) rfl rfl (does_box (cs := [.int .i64 x0.fCode, .int .i64 x0.fValue]) rfl rfl rfl HM) ?_
  rintro _ w2506 ⟨b2500, rfl, HM⟩
  refine ops_does rfl (guard_none rfl) rfl rfl (does_box (cs := [.int .i64 x1.fCode, .int .i64 x1.fValue]) rfl rfl rfl HM) ?_
  rintro _ w2507 ⟨b2503, rfl, HM⟩
  refine ops_ex rfl (guard_none rfl) rfl rfl (ex_assign rfl rfl) ?_
  refine ops_nil ?_
  refine at_then ?_
  refine run_seq ?_
  refine run_seq ?_
  refine run_region rfl ?_
  refine ops_ex rfl (guard_none rfl) rfl rfl (ex_fieldAddr (off' := 0) rfl rfl Try.underlying42 rfl tsz2 rfl) ?_
  refine ops_ex rfl (guard_none rfl) rfl rfl (ex_load1 rfl rfl Try.underlying2 rfl ((HM.box_at 1 rfl) 0 _ rfl)) ?_
  refine ops_ex rfl (guard_none rfl) rfl rfl (ex_fieldAddr (off' := 0) rfl rfl Try.underlying42 rfl tsz2 rfl) ?_
  refine ops_ex rfl (guard_none rfl) rfl rfl (ex_load1 rfl rfl Try.underlying2 rfl ((HM.box_at 0 rfl) 0 _ rfl)) ?_
  refine ops_ex rfl (guard_none rfl) rfl rfl (ex_neq rfl rfl rfl) ?_
  refine ops_nil ?_
  refine at_then ?_
  refine run_cond (b := (x0.fCode != x1.fCode)) rfl (fun hb2509 => ?_) (fun hb2509 => ?_)
  · replace H := cond_t hb2509 H
    refine run_seq ?_
    refine run_region rfl ?_
    refine ops_ex rfl (guard_none rfl) rfl rfl (ex_assign rfl rfl) ?_
    refine ops_nil ?_
    refine at_then ?_
    refine run_ret ?_
    refine at_then_ret ?_
    replace HM := (HM.front 0 rfl rfl).drop
    replace HM := (HM.front 0 rfl rfl).drop
    have hR := Option.some.inj H
    subst hR
    exact at_ret1 rfl rfl ⟨_, rfl, rfl, HM⟩
  · replace H := cond_f hb2509 H
    refine run_skip ?_
    refine at_then ?_
    refine run_seq ?_
    refine run_seq ?_
    refine run_region rfl ?_
    refine ops_ex rfl (guard_none rfl) rfl rfl (ex_fieldAddr (off' := 1) rfl rfl Try.underlying42 rfl tsz2 rfl) ?_
    refine ops_ex rfl (guard_none rfl) rfl rfl (ex_load1 rfl rfl Try.underlying2 rfl ((HM.box_at 1 rfl) 1 _ rfl)) ?_
    refine ops_ex rfl (guard_none rfl) rfl rfl (ex_fieldAddr (off' := 1) rfl rfl Try.underlying42 rfl tsz2 rfl) ?_
    refine ops_ex rfl (guard_none rfl) rfl rfl (ex_load1 rfl rfl Try.underlying2 rfl ((HM.box_at 0 rfl) 1 _ rfl)) ?_
    refine ops_ex rfl (guard_none rfl) rfl rfl (ex_neq rfl rfl rfl) ?_
    refine ops_nil ?_
    refine at_then ?_
    refine run_cond (b := (x0.fValue != x1.fValue)) rfl (fun hb2510 => ?_) (fun hb2510 => ?_)
    · replace H := cond_t hb2510 H
      refine run_seq ?_
      refine run_region rfl ?_
      refine ops_ex rfl (guard_none rfl) rfl rfl (ex_assign rfl rfl) ?_
      refine ops_nil ?_
      refine at_then ?_
      refine run_ret ?_
      refine at_then_ret ?_
      replace HM := (HM.front 0 rfl rfl).drop
      replace HM := (HM.front 0 rfl rfl).drop
      have hR := Option.some.inj H
      subst hR
      exact at_ret1 rfl rfl ⟨_, rfl, rfl, HM⟩
    · replace H := cond_f hb2510 H
      refine run_skip ?_
      refine at_then ?_
      refine run_seq ?_
      refine run_region rfl ?_
      refine ops_ex rfl (guard_none rfl) rfl rfl (ex_assign rfl rfl) ?_
      refine ops_nil ?_
      refine at_then ?_
      refine run_ret ?_
      replace HM := (HM.front 0 rfl rfl).drop
      replace HM := (HM.front 0 rfl rfl).drop
      have hR := Option.some.inj H
      subst hR
      exact at_ret1 rfl rfl ⟨_, rfl, rfl, HM⟩

def laws_eqRef.f (k : Nat) (x0 : Ref) (x1 : Ref) : Option Bool := (bif (x0.fTx != x1.fTx) then some false else (bif (x0.fAt != x1.fAt) then some false else some true))
theorem laws_eqRef.calls {k : Nat} {x0 : Ref} {x1 : Ref}  {w : World}  {r : Bool} (H : laws_eqRef.f k x0 x1 = some r) :
    Calls Try.prog 98 ([.agg #[(.int .i64 x0.fTx), (.int .i64 x0.fAt)], .agg #[(.int .i64 x1.fTx), (.int .i64 x1.fAt)]] : List Value).toArray w (fun e w_ => ∃ v, e = .returned v ∧ v = (.bool r) ∧ Mem w [] w_ []) := by
  have HM := Mem.start w
  refine calls_run (N := 15) Try.func98 rfl rfl rfl rfl ?_
  unfold laws_eqRef.f at H
  refine run_seq ?_
  refine run_region rfl ?_
  refine ops_does rfl (guard_none rfl) rfl rfl (does_box (cs := [.int .i64 x0.fTx, .int .i64 x0.fAt]) rfl rfl rfl HM) ?_
  rintro _ w2553 ⟨b2547, rfl, HM⟩
  refine ops_does rfl (guard_none rfl) rfl rfl (does_box (cs := [.int .i64 x1.fTx, .int .i64 x1.fAt]) rfl rfl rfl HM) ?_
  rintro _ w2554 ⟨b2550, rfl, HM⟩
  refine ops_ex rfl (guard_none rfl) rfl rfl (ex_assign rfl rfl) ?_
  refine ops_nil ?_
  refine at_then ?_
  refine run_seq ?_
  refine run_seq ?_
  refine run_region rfl ?_
  refine ops_ex rfl (guard_none rfl) rfl rfl (ex_fieldAddr (off' := 0) rfl rfl Try.underlying54 rfl tsz2 rfl) ?_
  refine ops_ex rfl (guard_none rfl) rfl rfl (ex_load1 rfl rfl Try.underlying2 rfl ((HM.box_at 1 rfl) 0 _ rfl)) ?_
  refine ops_ex rfl (guard_none rfl) rfl rfl (ex_fieldAddr (off' := 0) rfl rfl Try.underlying54 rfl tsz2 rfl) ?_
  refine ops_ex rfl (guard_none rfl) rfl rfl (ex_load1 rfl rfl Try.underlying2 rfl ((HM.box_at 0 rfl) 0 _ rfl)) ?_
  refine ops_ex rfl (guard_none rfl) rfl rfl (ex_neq rfl rfl rfl) ?_
  refine ops_nil ?_
  refine at_then ?_
  refine run_cond (b := (x0.fTx != x1.fTx)) rfl (fun hb2556 => ?_) (fun hb2556 => ?_)
  · replace H := cond_t hb2556 H
    refine run_seq ?_
    refine run_region rfl ?_
    refine ops_ex rfl (guard_none rfl) rfl rfl (ex_assign rfl rfl) ?_
    refine ops_nil ?_
    refine at_then ?_
    refine run_ret ?_
    refine at_then_ret ?_
    replace HM := (HM.front 0 rfl rfl).drop
    replace HM := (HM.front 0 rfl rfl).drop
    have hR := Option.some.inj H
    subst hR
    exact at_ret1 rfl rfl ⟨_, rfl, rfl, HM⟩
  · replace H := cond_f hb2556 H
    refine run_skip ?_
    refine at_then ?_
    refine run_seq ?_
    refine run_seq ?_
    refine run_region rfl ?_
    refine ops_ex rfl (guard_none rfl) rfl rfl (ex_fieldAddr (off' := 1) rfl rfl Try.underlying54 rfl tsz2 rfl) ?_
    refine ops_ex rfl (guard_none rfl) rfl rfl (ex_load1 rfl rfl Try.underlying2 rfl ((HM.box_at 1 rfl) 1 _ rfl)) ?_
    refine ops_ex rfl (guard_none rfl) rfl rfl (ex_fieldAddr (off' := 1) rfl rfl Try.underlying54 rfl tsz2 rfl) ?_
    refine ops_ex rfl (guard_none rfl) rfl rfl (ex_load1 rfl rfl Try.underlying2 rfl ((HM.box_at 0 rfl) 1 _ rfl)) ?_
    refine ops_ex rfl (guard_none rfl) rfl rfl (ex_neq rfl rfl rfl) ?_
    refine ops_nil ?_
    refine at_then ?_
    refine run_cond (b := (x0.fAt != x1.fAt)) rfl (fun hb2557 => ?_) (fun hb2557 => ?_)
    · replace H := cond_t hb2557 H
      refine run_seq ?_
      refine run_region rfl ?_
      refine ops_ex rfl (guard_none rfl) rfl rfl (ex_assign rfl rfl) ?_
      refine ops_nil ?_
      refine at_then ?_
      refine run_ret ?_
      refine at_then_ret ?_
      replace HM := (HM.front 0 rfl rfl).drop
      replace HM := (HM.front 0 rfl rfl).drop
      have hR := Option.some.inj H
      subst hR
      exact at_ret1 rfl rfl ⟨_, rfl, rfl, HM⟩
    · replace H := cond_f hb2557 H
      refine run_skip ?_
      refine at_then ?_
      refine run_seq ?_
      refine run_region rfl ?_
      refine ops_ex rfl (guard_none rfl) rfl rfl (ex_assign rfl rfl) ?_
      refine ops_nil ?_
      refine at_then ?_
      refine run_ret ?_
      replace HM := (HM.front 0 rfl rfl).drop
      replace HM := (HM.front 0 rfl rfl).drop
      have hR := Option.some.inj H
      subst hR
      exact at_ret1 rfl rfl ⟨_, rfl, rfl, HM⟩

def laws_eqInt64S.l0 (x0 : List Int) (x1 : List Int) : Nat → Int → Option (Bool ⊕ Unit)
  | 0, _ => none
  | k + 1, a2630 => (bif (decide (a2630 < (x0.length : Int))) then (chk (idxOk a2630 x0.length) (chk (idxOk a2630 x1.length) (bif ((gt x0 a2630) != (gt x1 a2630)) then some (.inl false) else laws_eqInt64S.l0 x0 x1 k (wrap64 (a2630 + 1))))) else some (.inr ()))
theorem laws_eqInt64S.l0_z (x0 : List Int) (x1 : List Int) (a2630 : Int) : laws_eqInt64S.l0 x0 x1 0 a2630 = none := rfl
theorem laws_eqInt64S.l0_s (x0 : List Int) (x1 : List Int) (k : Nat) (a2630 : Int) : laws_eqInt64S.l0 x0 x1 (k + 1) a2630 = (bif (decide (a2630 < (x0.length : Int))) then (chk (idxOk a2630 x0.length) (chk (idxOk a2630 x1.length) (bif ((gt x0 a2630) != (gt x1 a2630)) then some (.inl false) else laws_eqInt64S.l0 x0 x1 k (wrap64 (a2630 + 1))))) else some (.inr ())) := rfl
def laws_eqInt64S.f (k : Nat) (x0 : List Int) (x1 : List Int) : Option Bool := (bif ((x0.length : Int) != (x1.length : Int)) then some false else ((laws_eqInt64S.l0 x0 x1 k 0).bind fun o2622 => thn o2622 (fun r => some r) (fun _ => some true)))
theorem laws_eqInt64S.calls {k : Nat} {x0 : List Int} {x1 : List Int} {p0 : Value} {p1 : Value} {w : World} (hp0 : RdS kInt w p0 x0) (hp1 : RdS kInt w p1 x1) {r : Bool} (H : laws_eqInt64S.f k x0 x1 = some r) :
    Calls Try.prog 176 ([p0, p1] : List Value).toArray w (fun e w_ => ∃ v, e = .returned v ∧ v = (.bool r) ∧ Mem w [] w_ []) := by
  have HM := Mem.start w
  refine calls_run (N := 26) Try.func176 rfl rfl rfl rfl ?_
  unfold laws_eqInt64S.f at H
  refine run_seq ?_
  refine run_region rfl ?_
  refine ops_ex rfl (guard_none rfl) rfl rfl (ex_assign rfl rfl) ?_
  refine ops_nil ?_
  refine at_then ?_
  refine run_seq ?_
  refine run_seq ?_
  refine run_region rfl ?_
  refine ops_ex rfl (guard_none rfl) rfl rfl (ex_move rfl rfl) ?_
  refine ops_ex rfl (guard_none rfl) rfl rfl (ex_len (d := kInt) (xs := x0) rfl rfl Try.underlying111 hp0) ?_
  refine ops_ex rfl (guard_none rfl) rfl rfl (ex_move rfl rfl) ?_
  refine ops_ex rfl (guard_none rfl) rfl rfl (ex_len (d := kInt) (xs := x1) rfl rfl Try.underlying111 hp1) ?_
  refine ops_ex rfl (guard_none rfl) rfl rfl (ex_neq rfl rfl rfl) ?_
  refine ops_nil ?_
  refine at_then ?_
  refine run_cond (b := ((x0.length : Int) != (x1.length : Int))) rfl (fun hb2602 => ?_) (fun hb2602 => ?_)
  · replace H := cond_t hb2602 H
    refine run_seq ?_
    refine run_region rfl ?_
    refine ops_ex rfl (guard_none rfl) rfl rfl (ex_assign rfl rfl) ?_
    refine ops_nil ?_
    refine at_then ?_
    refine run_ret ?_
    refine at_then_ret ?_
    have hR := Option.some.inj H
    subst hR
    exact at_ret1 rfl rfl ⟨_, rfl, rfl, HM⟩
  · replace H := cond_f hb2602 H
    refine run_skip ?_
    refine at_then ?_
    obtain ⟨o2622, ho2623, H⟩ := bind_some H
    refine run_mid (fun ρ_ w_ => Sum.inr () = o2622 ∧ ρ_ = [] ∧ Mem w [] w_ []) ?_ ?_
    · skip
      refine run_seq ?_
      refine run_region rfl ?_
      refine ops_ex rfl (guard_none rfl) rfl rfl (ex_assign rfl rfl) ?_
      refine ops_nil ?_
      refine at_then ?_
      refine run_block ?_
      refine run_loop (fun k_ ρ_ w_ => ∃ a2630 : Int, laws_eqInt64S.l0 x0 x1 k_ a2630 = some o2622 ∧ ρ_ = [(0, p0), (1, p1), (5, .int .i64 a2630)] ∧ Mem w [] w_ []) k (ρ1 := [(0, p0), (1, p1), (5, .int .i64 0)]) ⟨_, ho2623, rfl, HM⟩ (Sub.cons rfl (Sub.cons rfl (Sub.cons rfl Sub.nil))) ?_
      clear HM ho2623
      rintro k2637 _ w2638 ⟨a2630, ho2623, rfl, HM⟩
      obtain _ | k2637 := k2637
      · exact nomatch ((laws_eqInt64S.l0_z x0 x1 a2630).symm.trans ho2623)
      replace ho2623 := (laws_eqInt64S.l0_s x0 x1 k2637 a2630).symm.trans ho2623
      refine run_seq ?_
      refine run_seq ?_
      refine run_region rfl ?_
      refine ops_ex rfl (guard_none rfl) rfl rfl (ex_move rfl rfl) ?_
      refine ops_ex rfl (guard_none rfl) rfl rfl (ex_move rfl rfl) ?_
      refine ops_ex rfl (guard_none rfl) rfl rfl (ex_len (d := kInt) (xs := x0) rfl rfl Try.underlying111 hp0) ?_
      refine ops_ex rfl (guard_none rfl) rfl rfl (ex_lss rfl rfl rfl) ?_
      refine ops_nil ?_
      refine at_then ?_
      refine run_cond (b := (decide (a2630 < (x0.length : Int)))) rfl (fun hb2639 => ?_) (fun hb2639 => ?_)
      · replace ho2623 := cond_t hb2639 ho2623
        refine run_skip ?_
        refine at_then ?_
        refine run_seq ?_
        refine run_block ?_
        refine run_seq ?_
        obtain ⟨e2640, ho2623⟩ := chk_some ho2623
        obtain ⟨e2642, ho2623⟩ := chk_some ho2623
        refine run_drawf (fun w_ => Mem w [] w_ []) [(0, true), (1, true), (2, true), (3, true), (4, true), (5, true), (6, true), (7, true), (8, true)] mixed rfl rfl (by kernel_rfl) ?_
        replace HM := HM.grow (fr_drew _)
        have hS := Mem.suf (M := []) HM
        refine drwp_take rfl (guard_none rfl) rfl rfl (fun w_ hS_ => (ex_move rfl rfl)) hS ?_
        refine drwp_take rfl (guard_none rfl) rfl rfl (fun w_ hS_ => (ex_move rfl rfl)) hS ?_
        have hc2641 : CellsAt _ (sb p0) (so p0 + (a2630).toNat * 1) [(.int .i64 (gt x0 a2630))] := rd_plain hp0 e2640
        refine drwp_take rfl (guard_none rfl) rfl rfl (fun w_ hS_ => (ex_indexAddr (d := kInt) rfl rfl rfl Try.underlying111 tsz2 hp0 (idx_lo e2640) (idx_hi e2640))) hS ?_
        refine drwp_take rfl (guard_none rfl) rfl rfl (fun w_ hS_ => (ex_load1 rfl rfl Try.underlying2 rfl ((hS_.at_ hc2641) 0 _ rfl))) hS ?_
        refine drwp_take rfl (guard_none rfl) rfl rfl (fun w_ hS_ => (ex_move rfl rfl)) hS ?_
        refine drwp_take rfl (guard_none rfl) rfl rfl (fun w_ hS_ => (ex_move rfl rfl)) hS ?_
        have hc2643 : CellsAt _ (sb p1) (so p1 + (a2630).toNat * 1) [(.int .i64 (gt x1 a2630))] := rd_plain hp1 e2642
        refine drwp_take rfl (guard_none rfl) rfl rfl (fun w_ hS_ => (ex_indexAddr (d := kInt) rfl rfl rfl Try.underlying111 tsz2 hp1 (idx_lo e2642) (idx_hi e2642))) hS ?_
        refine drwp_take rfl (guard_none rfl) rfl rfl (fun w_ hS_ => (ex_load1 rfl rfl Try.underlying2 rfl ((hS_.at_ hc2643) 0 _ rfl))) hS ?_
        refine drwp_take rfl (guard_none rfl) rfl rfl (fun w_ hS_ => (ex_neq rfl rfl rfl)) hS ?_
        refine drwp_done ?_
        refine at_then ?_
        refine run_cond (b := ((gt x0 a2630) != (gt x1 a2630))) rfl (fun hb2644 => ?_) (fun hb2644 => ?_)
        · replace ho2623 := cond_t hb2644 ho2623
          refine run_seq ?_
          refine run_region rfl ?_
          refine ops_ex rfl (guard_none rfl) rfl rfl (ex_assign rfl rfl) ?_
          refine ops_nil ?_
          refine at_then ?_
          refine run_ret ?_
          refine at_block_ret ?_
          refine at_then_ret ?_
          refine at_then_ret ?_
          refine at_block_ret ?_
          refine at_then_ret ?_
          have hR := Option.some.inj ho2623
          subst hR
          have hT := thn_inl H
          have hR := Option.some.inj hT
          subst hR
          exact at_ret1 rfl rfl ⟨_, rfl, rfl, HM⟩
        · replace ho2623 := cond_f hb2644 ho2623
          refine run_skip ?_
          refine at_block ?_
          refine at_then ?_
          refine run_region rfl ?_
          refine ops_ex rfl (guard_none rfl) rfl rfl (ex_move rfl rfl) ?_
          refine ops_ex rfl (guard_none rfl) rfl rfl (ex_add rfl rfl rfl) ?_
          refine ops_ex rfl (guard_none rfl) rfl rfl (ex_assign rfl rfl) ?_
          refine ops_nil ?_
          exact at_again k2637 (ρ1 := [(0, p0), (1, p1), (5, .int .i64 (wrap64 (a2630 + 1)))]) (Nat.lt_succ_self _) ⟨_, ho2623, rfl, HM⟩ (Sub.cons rfl (Sub.cons rfl (Sub.cons rfl Sub.nil)))
      · replace ho2623 := cond_f hb2639 ho2623
        refine run_exit ?_
        refine at_then_exit ?_
        refine at_then_exit ?_
        refine at_block_exit ?_
        exact at_mid (ρ' := []) ⟨(Option.some.inj ho2623), rfl, HM⟩ Sub.nil
    · rintro _ w2645 ⟨rfl, rfl, HM⟩
      replace H := (thn_inr H)
      refine run_seq ?_
      refine run_region rfl ?_
      refine ops_ex rfl (guard_none rfl) rfl rfl (ex_assign rfl rfl) ?_
      refine ops_nil ?_
      refine at_then ?_
      refine run_ret ?_
      have hR := Option.some.inj H
      subst hR
      exact at_ret1 rfl rfl ⟨_, rfl, rfl, HM⟩

def laws_eqRule.f (k : Nat) (x0 : Rule) (x1 : Rule) : Option Bool := ((laws_eqInt64S.f k x0.fKeys x1.fKeys).bind fun t2666 => (bif !t2666 then some false else (bif (x0.fNeed != x1.fNeed) then some false else (bif (x0.fAfter != x1.fAfter) then some false else some true))))
theorem laws_eqRule.calls {k : Nat} {x0 : Rule} {x1 : Rule} {p0_0 : Value} {p1_0 : Value} {w : World} (hp0_0 : RdS kInt w p0_0 x0.fKeys) (hp1_0 : RdS kInt w p1_0 x1.fKeys) {r : Bool} (H : laws_eqRule.f k x0 x1 = some r) :
    Calls Try.prog 157 ([.agg #[p0_0, (.int .i64 x0.fNeed), (.int .i64 x0.fAfter)], .agg #[p1_0, (.int .i64 x1.fNeed), (.int .i64 x1.fAfter)]] : List Value).toArray w (fun e w_ => ∃ v, e = .returned v ∧ v = (.bool r) ∧ Mem w [] w_ []) := by
  have HM := Mem.start w
  refine calls_run (N := 21) Try.func157 rfl rfl rfl rfl ?_
  unfold laws_eqRule.f at H
  refine run_seq ?_
  refine run_region rfl ?_
  refine ops_does rfl (guard_none rfl) rfl rfl (does_box (cs := [p0_0, .int .i64 x0.fNeed, .int .i64 x0.fAfter]) rfl rfl rfl HM) ?_
  rintro _ w2661 ⟨b2655, rfl, HM⟩
  refine ops_does rfl (guard_none rfl) rfl rfl (does_box (cs := [p1_0, .int .i64 x1.fNeed, .int .i64 x1.fAfter]) rfl rfl rfl HM) ?_
  rintro _ w2662 ⟨b2658, rfl, HM⟩
  refine ops_ex rfl (guard_none rfl) rfl rfl (ex_assign rfl rfl) ?_
  refine ops_nil ?_
  refine at_then ?_
  refine run_seq ?_
  refine run_seq ?_
  obtain ⟨t2666, h2667, H⟩ := bind_some H
  refine run_region rfl ?_
  refine ops_ex rfl (guard_none rfl) rfl rfl (ex_fieldAddr (off' := 0) rfl rfl Try.underlying119 rfl tsz111 rfl) ?_
  refine ops_ex rfl (guard_none rfl) rfl rfl (ex_load1 rfl rfl Try.underlying111 rfl ((HM.box_at 1 rfl) 0 _ rfl)) ?_
  refine ops_ex rfl (guard_none rfl) rfl rfl (ex_fieldAddr (off' := 0) rfl rfl Try.underlying119 rfl tsz111 rfl) ?_
  refine ops_ex rfl (guard_none rfl) rfl rfl (ex_load1 rfl rfl Try.underlying111 rfl ((HM.box_at 0 rfl) 0 _ rfl)) ?_
  refine ops_does rfl (guard_none rfl) rfl rfl (does_callk rfl callok176 rfl (laws_eqInt64S.calls (x0 := x0.fKeys) (x1 := x1.fKeys) (HM.rd hp0_0) (HM.rd hp1_0) h2667)) ?_
  rintro _ w2668 ⟨rfl, hn⟩
  replace HM : Mem w [] w2668 [box b2658 119 [p1_0, .int .i64 x1.fNeed, .int .i64 x1.fAfter], box b2655 119 [p0_0, .int .i64 x0.fNeed, .int .i64 x0.fAfter]] := HM.call hn
  refine ops_ex rfl (guard_none rfl) rfl rfl (ex_not rfl rfl) ?_
  refine ops_nil ?_
  refine at_then ?_
  refine run_cond (b := !t2666) rfl (fun hb2669 => ?_) (fun hb2669 => ?_)
  · replace H := cond_t hb2669 H
    refine run_seq ?_
    refine run_region rfl ?_
    refine ops_ex rfl (guard_none rfl) rfl rfl (ex_assign rfl rfl) ?_
    refine ops_nil ?_
    refine at_then ?_
    refine run_ret ?_
    refine at_then_ret ?_
    replace HM := (HM.front 0 rfl rfl).drop
    replace HM := (HM.front 0 rfl rfl).drop
    have hR := Option.some.inj H
    subst hR
    exact at_ret1 rfl rfl ⟨_, rfl, rfl, HM⟩
  · replace H := cond_f hb2669 H
    refine run_skip ?_
    refine at_then ?_
    refine run_seq ?_
    refine run_seq ?_
    refine run_region rfl ?_
    refine ops_ex rfl (guard_none rfl) rfl rfl (ex_fieldAddr (off' := 1) rfl rfl Try.underlying119 rfl tsz2 rfl) ?_
    refine ops_ex rfl (guard_none rfl) rfl rfl (ex_load1 rfl rfl Try.underlying2 rfl ((HM.box_at 1 rfl) 1 _ rfl)) ?_
    refine ops_ex rfl (guard_none rfl) rfl rfl (ex_fieldAddr (off' := 1) rfl rfl Try.underlying119 rfl tsz2 rfl) ?_
    refine ops_ex rfl (guard_none rfl) rfl rfl (ex_load1 rfl rfl Try.underlying2 rfl ((HM.box_at 0 rfl) 1 _ rfl)) ?_
    refine ops_ex rfl (guard_none rfl) rfl rfl (ex_neq rfl rfl rfl) ?_
    refine ops_nil ?_
    refine at_then ?_
    refine run_cond (b := (x0.fNeed != x1.fNeed)) rfl (fun hb2671 => ?_) (fun hb2671 => ?_)
    · replace H := cond_t hb2671 H
      refine run_seq ?_
      refine run_region rfl ?_
      refine ops_ex rfl (guard_none rfl) rfl rfl (ex_assign rfl rfl) ?_
      refine ops_nil ?_
      refine at_then ?_
      refine run_ret ?_
      refine at_then_ret ?_
      replace HM := (HM.front 0 rfl rfl).drop
      replace HM := (HM.front 0 rfl rfl).drop
      have hR := Option.some.inj H
      subst hR
      exact at_ret1 rfl rfl ⟨_, rfl, rfl, HM⟩
    · replace H := cond_f hb2671 H
      refine run_skip ?_
      refine at_then ?_
      refine run_seq ?_
      refine run_seq ?_
      refine run_region rfl ?_
      refine ops_ex rfl (guard_none rfl) rfl rfl (ex_fieldAddr (off' := 2) rfl rfl Try.underlying119 rfl tsz2 rfl) ?_
      refine ops_ex rfl (guard_none rfl) rfl rfl (ex_load1 rfl rfl Try.underlying2 rfl ((HM.box_at 1 rfl) 2 _ rfl)) ?_
      refine ops_ex rfl (guard_none rfl) rfl rfl (ex_fieldAddr (off' := 2) rfl rfl Try.underlying119 rfl tsz2 rfl) ?_
      refine ops_ex rfl (guard_none rfl) rfl rfl (ex_load1 rfl rfl Try.underlying2 rfl ((HM.box_at 0 rfl) 2 _ rfl)) ?_
      refine ops_ex rfl (guard_none rfl) rfl rfl (ex_neq rfl rfl rfl) ?_
      refine ops_nil ?_
      refine at_then ?_
      refine run_cond (b := (x0.fAfter != x1.fAfter)) rfl (fun hb2672 => ?_) (fun hb2672 => ?_)
      · replace H := cond_t hb2672 H
        refine run_seq ?_
        refine run_region rfl ?_
        refine ops_ex rfl (guard_none rfl) rfl rfl (ex_assign rfl rfl) ?_
        refine ops_nil ?_
        refine at_then ?_
        refine run_ret ?_
        refine at_then_ret ?_
        replace HM := (HM.front 0 rfl rfl).drop
        replace HM := (HM.front 0 rfl rfl).drop
        have hR := Option.some.inj H
        subst hR
        exact at_ret1 rfl rfl ⟨_, rfl, rfl, HM⟩
      · replace H := cond_f hb2672 H
        refine run_skip ?_
        refine at_then ?_
        refine run_seq ?_
        refine run_region rfl ?_
        refine ops_ex rfl (guard_none rfl) rfl rfl (ex_assign rfl rfl) ?_
        refine ops_nil ?_
        refine at_then ?_
        refine run_ret ?_
        replace HM := (HM.front 0 rfl rfl).drop
        replace HM := (HM.front 0 rfl rfl).drop
        have hR := Option.some.inj H
        subst hR
        exact at_ret1 rfl rfl ⟨_, rfl, rfl, HM⟩

def laws_eqOut.f (k : Nat) (x0 : Out) (x1 : Out) : Option Bool := (bif (x0.fValue != x1.fValue) then some false else ((laws_eqRule.f k x0.fRule x1.fRule).bind fun t2686 => (bif !t2686 then some false else some true)))
theorem laws_eqOut.calls {k : Nat} {x0 : Out} {x1 : Out} {p0_0 : Value} {p1_0 : Value} {w : World} (hp0_0 : RdS kInt w p0_0 x0.fRule.fKeys) (hp1_0 : RdS kInt w p1_0 x1.fRule.fKeys) {r : Bool} (H : laws_eqOut.f k x0 x1 = some r) :
    Calls Try.prog 106 ([.agg #[(.int .i64 x0.fValue), p0_0, (.int .i64 x0.fRule.fNeed), (.int .i64 x0.fRule.fAfter)], .agg #[(.int .i64 x1.fValue), p1_0, (.int .i64 x1.fRule.fNeed), (.int .i64 x1.fRule.fAfter)]] : List Value).toArray w (fun e w_ => ∃ v, e = .returned v ∧ v = (.bool r) ∧ Mem w [] w_ []) := by
  have HM := Mem.start w
  refine calls_run (N := 16) Try.func106 rfl rfl rfl rfl ?_
  unfold laws_eqOut.f at H
  refine run_seq ?_
  refine run_region rfl ?_
  refine ops_does rfl (guard_none rfl) rfl rfl (does_box (cs := [.int .i64 x0.fValue, p0_0, .int .i64 x0.fRule.fNeed, .int .i64 x0.fRule.fAfter]) rfl rfl rfl HM) ?_
  rintro _ w2682 ⟨b2676, rfl, HM⟩
  refine ops_does rfl (guard_none rfl) rfl rfl (does_box (cs := [.int .i64 x1.fValue, p1_0, .int .i64 x1.fRule.fNeed, .int .i64 x1.fRule.fAfter]) rfl rfl rfl HM) ?_
  rintro _ w2683 ⟨b2679, rfl, HM⟩
  refine ops_ex rfl (guard_none rfl) rfl rfl (ex_assign rfl rfl) ?_
  refine ops_nil ?_
  refine at_then ?_
  refine run_seq ?_
  refine run_seq ?_
  refine run_region rfl ?_
  refine ops_ex rfl (guard_none rfl) rfl rfl (ex_fieldAddr (off' := 0) rfl rfl Try.underlying121 rfl tsz2 rfl) ?_
  refine ops_ex rfl (guard_none rfl) rfl rfl (ex_load1 rfl rfl Try.underlying2 rfl ((HM.box_at 1 rfl) 0 _ rfl)) ?_
  refine ops_ex rfl (guard_none rfl) rfl rfl (ex_fieldAddr (off' := 0) rfl rfl Try.underlying121 rfl tsz2 rfl) ?_
  refine ops_ex rfl (guard_none rfl) rfl rfl (ex_load1 rfl rfl Try.underlying2 rfl ((HM.box_at 0 rfl) 0 _ rfl)) ?_
  refine ops_ex rfl (guard_none rfl) rfl rfl (ex_neq rfl rfl rfl) ?_
  refine ops_nil ?_
  refine at_then ?_
  refine run_cond (b := (x0.fValue != x1.fValue)) rfl (fun hb2685 => ?_) (fun hb2685 => ?_)
  · replace H := cond_t hb2685 H
    refine run_seq ?_
    refine run_region rfl ?_
    refine ops_ex rfl (guard_none rfl) rfl rfl (ex_assign rfl rfl) ?_
    refine ops_nil ?_
    refine at_then ?_
    refine run_ret ?_
    refine at_then_ret ?_
    replace HM := (HM.front 0 rfl rfl).drop
    replace HM := (HM.front 0 rfl rfl).drop
    have hR := Option.some.inj H
    subst hR
    exact at_ret1 rfl rfl ⟨_, rfl, rfl, HM⟩
  · replace H := cond_f hb2685 H
    refine run_skip ?_
    refine at_then ?_
    refine run_seq ?_
    refine run_seq ?_
    obtain ⟨t2686, h2687, H⟩ := bind_some H
    refine run_region rfl ?_
    refine ops_ex rfl (guard_none rfl) rfl rfl (ex_fieldAddr (off' := 1) rfl rfl Try.underlying121 rfl tsz119 rfl) ?_
    refine ops_ex rfl (guard_none rfl) rfl rfl (ex_loadN (cs := [p0_0, (.int .i64 x0.fRule.fNeed), (.int .i64 x0.fRule.fAfter)]) rfl rfl Try.underlying119 rfl tsz119 rfl ((HM.box_at 1 rfl).sub 1 3 rfl)) ?_
    refine ops_ex rfl (guard_none rfl) rfl rfl (ex_fieldAddr (off' := 1) rfl rfl Try.underlying121 rfl tsz119 rfl) ?_
    refine ops_ex rfl (guard_none rfl) rfl rfl (ex_loadN (cs := [p1_0, (.int .i64 x1.fRule.fNeed), (.int .i64 x1.fRule.fAfter)]) rfl rfl Try.underlying119 rfl tsz119 rfl ((HM.box_at 0 rfl).sub 1 3 rfl)) ?_
    refine ops_does rfl (guard_none rfl) rfl rfl (does_callk rfl callok157 rfl (laws_eqRule.calls (x0 := x0.fRule) (x1 := x1.fRule) (HM.rd hp0_0) (HM.rd hp1_0) h2687)) ?_
    rintro _ w2688 ⟨rfl, hn⟩
    replace HM : Mem w [] w2688 [box b2679 121 [.int .i64 x1.fValue, p1_0, .int .i64 x1.fRule.fNeed, .int .i64 x1.fRule.fAfter], box b2676 121 [.int .i64 x0.fValue, p0_0, .int .i64 x0.fRule.fNeed, .int .i64 x0.fRule.fAfter]] := HM.call hn
    refine ops_ex rfl (guard_none rfl) rfl rfl (ex_not rfl rfl) ?_
    refine ops_nil ?_
    refine at_then ?_
    refine run_cond (b := !t2686) rfl (fun hb2689 => ?_) (fun hb2689 => ?_)
    · replace H := cond_t hb2689 H
      refine run_seq ?_
      refine run_region rfl ?_
      refine ops_ex rfl (guard_none rfl) rfl rfl (ex_assign rfl rfl) ?_
      refine ops_nil ?_
      refine at_then ?_
      refine run_ret ?_
      refine at_then_ret ?_
      replace HM := (HM.front 0 rfl rfl).drop
      replace HM := (HM.front 0 rfl rfl).drop
      have hR := Option.some.inj H
      subst hR
      exact at_ret1 rfl rfl ⟨_, rfl, rfl, HM⟩
    · replace H := cond_f hb2689 H
      refine run_skip ?_
      refine at_then ?_
      refine run_seq ?_
      refine run_region rfl ?_
      refine ops_ex rfl (guard_none rfl) rfl rfl (ex_assign rfl rfl) ?_
      refine ops_nil ?_
      refine at_then ?_
      refine run_ret ?_
      replace HM := (HM.front 0 rfl rfl).drop
      replace HM := (HM.front 0 rfl rfl).drop
      have hR := Option.some.inj H
      subst hR
      exact at_ret1 rfl rfl ⟨_, rfl, rfl, HM⟩
end Go.Proofs.Ytigojhglkilodaa.Zk
