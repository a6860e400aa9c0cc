/- What functions of the program compute, each as a plain function, and that they do. Conditions: as each theorem states them. -/
import Derived.Test.YtcamddjlhchkfaaGreatSpendTxZkF2
namespace Go.Proofs.YtcamddjlhchkfaaGreat.Zk
open Go Go.RowKit Go.IntWalk Go.Proofs
set_option linter.unusedVariables false
set_option linter.unusedSimpArgs false
set_option maxRecDepth 100000
set_option maxHeartbeats 4000000
def spec_l2Copy.f (k : Nat) (x0 : Rule) : Option Rule := (chk (leB ((([] : List Int).length + x0.fKeys.length) * 8) 140737488355328) (some (⟨([] : List Int) ++ x0.fKeys, x0.fNeed, x0.fAfter⟩ : Rule)))
theorem spec_l2Copy.calls {k : Nat} {x0 : Rule} {p0_0 : Value} {w : World} (hp0_0 : RdS kInt w p0_0 x0.fKeys) {r : Rule} (H : spec_l2Copy.f k x0 = some r) :
    Calls Tryz.prog 115 ([.agg #[p0_0, (.int .i64 x0.fNeed), (.int .i64 x0.fAfter)]] : List Value).toArray w (fun e w_ => ∃ v, e = .returned v ∧ ∃ u0 : Value, v = (.agg #[u0, .int .i64 r.fNeed, .int .i64 r.fAfter]) ∧ Mem w [] w_ [own kInt 2 u0 r.fKeys]) := by
  have HM := Mem.start w
  refine calls_run (N := 9) Tryz.func115 rfl rfl rfl rfl ?_
  unfold spec_l2Copy.f at H
  refine run_seq ?_
  refine run_region rfl ?_
  refine ops_does rfl (guard_none rfl) rfl rfl (does_box (cs := [p0_0, .int .i64 x0.fNeed, .int .i64 x0.fAfter]) rfl rfl rfl HM) ?_
  rintro _ w2248 ⟨b2242, rfl, HM⟩
  refine ops_does rfl (guard_none rfl) rfl rfl (does_alloc (cs := [.slice none 0 0, .int .i64 0, .int .i64 0]) rfl tz73 rfl HM) ?_
  rintro _ w2249 ⟨b2245, rfl, HM⟩
  refine ops_nil ?_
  refine at_then ?_
  refine run_seq ?_
  obtain ⟨e2253, H⟩ := chk_some H
  refine run_region rfl ?_
  refine ops_does rfl (guard_none rfl) rfl rfl (does_lit (e := 2) (cs := []) (xs := ([] : List Int)) kInt rfl rfl (fun _ => by kernel_rfl) rfl rfl (fun _ _ h => by have h' : _ = [] := h; subst h'; exact .nil) HM.emp) ?_
  rintro v2250 w2256 HM
  refine ops_ex rfl (guard_none rfl) rfl rfl (ex_fieldAddr (off' := 0) rfl rfl Tryz.underlying73 rfl tsz60 rfl) ?_
  refine ops_ex rfl (guard_none rfl) rfl rfl (ex_load1 rfl rfl Tryz.underlying60 rfl ((HM.box_at 2 rfl) 0 _ rfl)) ?_
  refine ops_does rfl (guard_none rfl) rfl rfl (does_appendR kInt flat_plain rfl rfl rfl Tryz.underlying60 tsz2 rfl tby2 tz2 rfl rfl (leB_le e2253) (HM.rd hp0_0) HM) ?_
  rintro v2254 w2257 HM
  refine ops_ex rfl (guard_none rfl) rfl rfl (ex_fieldAddr (off' := 0) rfl rfl Tryz.underlying73 rfl tsz60 rfl) ?_
  replace HM := HM.front 2 rfl rfl
  refine ops_doesS rfl (guard_none rfl) rfl (does_store (vs := [v2254]) (cs' := [v2254, .int .i64 x0.fNeed, .int .i64 x0.fAfter]) rfl rfl rfl (rd_cells (HM.own_rd 1 rfl)) tsz60 (Ones.rd (HM.own_rd 1 rfl) Ones.nil) rfl rfl HM) ?_
  rintro w2258 HM
  refine ops_nil ?_
  refine at_then ?_
  refine run_seq ?_
  refine run_region rfl ?_
  refine ops_ex rfl (guard_none rfl) rfl rfl (ex_loadN (cs := [v2254, (.int .i64 x0.fNeed), (.int .i64 x0.fAfter)]) rfl rfl Tryz.underlying73 rfl tsz73 rfl ((HM.box_at 0 rfl).sub 0 3 rfl)) ?_
  replace HM := HM.front 2 rfl rfl
  refine ops_doesS rfl (guard_none rfl) rfl (does_store (vs := [v2254, .int .i64 x0.fNeed, .int .i64 x0.fAfter]) (cs' := [v2254, .int .i64 x0.fNeed, .int .i64 x0.fAfter]) rfl rfl rfl rfl tsz73 (Ones.rd (HM.own_rd 2 rfl) (Ones.int (Ones.int Ones.nil))) rfl rfl HM) ?_
  rintro w2259 HM
  refine ops_nil ?_
  refine at_then ?_
  refine run_ret ?_
  replace HM := (HM.front 1 rfl rfl).drop
  have hcb0 := HM.box_at 0 rfl
  replace HM := (HM.front 0 rfl rfl).drop
  have hR := Option.some.inj H
  subst hR
  exact at_retN rfl rfl Tryz.underlying73 rfl tsz73 rfl hcb0 ⟨_, rfl, _, rfl, HM⟩

def spec_l4Copy.l0 (x0 : List Coin) : Nat → (List Coin) → Int → Option ((List Coin))
  | 0, _, _ => none
  | k + 1, a2401, a2403 => (bif (decide (a2403 < (x0.length : Int))) then (chk (idxOk a2403 x0.length) ((spec_l2Copy.f k ((gt x0 a2403).fOut.fRule)).bind fun t2434 => (chk (leB ((a2401.length + ([(⟨(gt x0 a2403).fRef, (⟨(gt x0 a2403).fOut.fValue, t2434⟩ : Out), (gt x0 a2403).fHeight, (gt x0 a2403).fMined⟩ : Coin)] : List Coin).length) * 80) 140737488355328) (spec_l4Copy.l0 x0 k (a2401 ++ ([(⟨(gt x0 a2403).fRef, (⟨(gt x0 a2403).fOut.fValue, t2434⟩ : Out), (gt x0 a2403).fHeight, (gt x0 a2403).fMined⟩ : Coin)] : List Coin)) (wrap64 (a2403 + 1)))))) else some a2401)
theorem spec_l4Copy.l0_z (x0 : List Coin) (a2401 : List Coin) (a2403 : Int) : spec_l4Copy.l0 x0 0 a2401 a2403 = none := rfl
theorem spec_l4Copy.l0_s (x0 : List Coin) (k : Nat) (a2401 : List Coin) (a2403 : Int) : spec_l4Copy.l0 x0 (k + 1) a2401 a2403 = (bif (decide (a2403 < (x0.length : Int))) then (chk (idxOk a2403 x0.length) ((spec_l2Copy.f k ((gt x0 a2403).fOut.fRule)).bind fun t2434 => (chk (leB ((a2401.length + ([(⟨(gt x0 a2403).fRef, (⟨(gt x0 a2403).fOut.fValue, t2434⟩ : Out), (gt x0 a2403).fHeight, (gt x0 a2403).fMined⟩ : Coin)] : List Coin).length) * 80) 140737488355328) (spec_l4Copy.l0 x0 k (a2401 ++ ([(⟨(gt x0 a2403).fRef, (⟨(gt x0 a2403).fOut.fValue, t2434⟩ : Out), (gt x0 a2403).fHeight, (gt x0 a2403).fMined⟩ : Coin)] : List Coin)) (wrap64 (a2403 + 1)))))) else some a2401) := rfl
def spec_l4Copy.f (k : Nat) (x0 : List Coin) : Option ((List Coin)) := ((spec_l4Copy.l0 x0 k ([] : List Coin) 0).bind (fun a2378 => some a2378))
theorem spec_l4Copy.calls {k : Nat} {x0 : List Coin} {p0 : Value} {w : World} (hp0 : RdS kCoin w p0 x0) {r : (List Coin)} (H : spec_l4Copy.f k x0 = some r) :
    Calls Tryz.prog 77 ([p0] : List Value).toArray w (fun e w_ => ∃ v, e = .returned v ∧ ∃ u0 : Value, v = u0 ∧ Mem w [] w_ [own kCoin 77 u0 r]) := by
  have HM := Mem.start w
  refine calls_run (N := 28) Tryz.func77 rfl rfl rfl rfl ?_
  unfold spec_l4Copy.f at H
  refine run_seq ?_
  refine run_region rfl ?_
  refine ops_ex rfl (guard_none rfl) rfl rfl (ex_assign rfl rfl) ?_
  refine ops_nil ?_
  refine at_then ?_
  refine run_seq ?_
  refine run_region rfl ?_
  refine ops_does rfl (guard_none rfl) rfl rfl (does_lit (e := 77) (cs := []) (xs := ([] : List Coin)) kCoin rfl rfl (fun _ => by kernel_rfl) rfl rfl (fun _ _ h => by have h' : _ = [] := h; subst h'; exact .nil) HM.emp) ?_
  rintro v2315 w2318 HM
  refine ops_ex rfl (guard_none rfl) rfl rfl (ex_assign rfl rfl) ?_
  refine ops_nil ?_
  refine at_then ?_
  obtain ⟨o2380, ho2381, H⟩ := bind_some H
  refine run_mid (fun ρ_ w_ => ∃ v2377 : Value, ∃ a2378 : List Coin, a2378 = o2380 ∧ ρ_ = [(3, v2377)] ∧ Mem w [] w_ [own kCoin 77 v2377 a2378]) ?_ ?_
  · clear H
    refine run_seq ?_
    refine run_region rfl ?_
    refine ops_ex rfl (guard_none rfl) rfl rfl (ex_assign rfl rfl) ?_
    refine ops_nil ?_
    refine at_then ?_
    refine run_block ?_
    refine run_loop (fun k_ ρ_ w_ => ∃ v2400 : Value, ∃ a2401 : List Coin, ∃ a2403 : Int, spec_l4Copy.l0 x0 k_ a2401 a2403 = some o2380 ∧ ρ_ = [(0, p0), (3, v2400), (4, .int .i64 a2403)] ∧ Mem w [] w_ [own kCoin 77 v2400 a2401]) k (ρ1 := [(0, p0), (3, v2315), (4, .int .i64 0)]) ⟨_, _, _, ho2381, rfl, HM⟩ (Sub.cons rfl (Sub.cons rfl (Sub.cons rfl Sub.nil))) ?_
    clear HM ho2381
    rintro k2422 _ w2423 ⟨v2400, a2401, a2403, ho2381, rfl, HM⟩
    obtain _ | k2422 := k2422
    · exact nomatch ((spec_l4Copy.l0_z x0 a2401 a2403).symm.trans ho2381)
    replace ho2381 := (spec_l4Copy.l0_s x0 k2422 a2401 a2403).symm.trans ho2381
    refine run_seq ?_
    refine run_seq ?_
    refine run_region rfl ?_
    refine ops_ex rfl (guard_none rfl) rfl rfl (ex_move rfl rfl) ?_
    refine ops_ex rfl (guard_none rfl) rfl rfl (ex_move rfl rfl) ?_
    refine ops_ex rfl (guard_none rfl) rfl rfl (ex_len (d := kCoin) (xs := x0) rfl rfl Tryz.underlying29 hp0) ?_
    refine ops_ex rfl (guard_none rfl) rfl rfl (ex_lss rfl rfl rfl) ?_
    refine ops_nil ?_
    refine at_then ?_
    refine run_cond (b := (decide (a2403 < (x0.length : Int)))) rfl (fun hb2424 => ?_) (fun hb2424 => ?_)
    · replace ho2381 := cond_t hb2424 ho2381
      refine run_skip ?_
      refine at_then ?_
      refine run_seq ?_
      refine run_block ?_
      refine run_seq ?_
      obtain ⟨e2425, ho2381⟩ := chk_some ho2381
      refine run_region rfl ?_
      refine ops_ex rfl (guard_none rfl) rfl rfl (ex_move rfl rfl) ?_
      refine ops_ex rfl (guard_none rfl) rfl rfl (ex_move rfl rfl) ?_
      obtain ⟨kv2427, hc2426, hk2428⟩ : ∃ u, CellsAt _ (sb p0) (so p0 + (a2403).toNat * 8) [(.int .i64 ((gt x0 a2403).fRef.fTx)), (.int .i64 ((gt x0 a2403).fRef.fAt)), (.int .i64 ((gt x0 a2403).fOut.fValue)), u, (.int .i64 ((gt x0 a2403).fOut.fRule.fNeed)), (.int .i64 ((gt x0 a2403).fOut.fRule.fAfter)), (.int .i64 ((gt x0 a2403).fHeight)), (.bool ((gt x0 a2403).fMined))] ∧ RdS kInt _ u ((gt x0 a2403).fOut.fRule.fKeys) := rd_with1 hp0 e2425
      refine ops_ex rfl (guard_none rfl) rfl rfl (ex_indexAddr (d := kCoin) rfl rfl rfl Tryz.underlying29 tsz77 hp0 (idx_lo e2425) (idx_hi e2425)) ?_
      refine ops_ex rfl (guard_none rfl) rfl rfl (ex_loadN (cs := [(.int .i64 ((gt x0 a2403).fRef.fTx)), (.int .i64 ((gt x0 a2403).fRef.fAt)), (.int .i64 ((gt x0 a2403).fOut.fValue)), kv2427, (.int .i64 ((gt x0 a2403).fOut.fRule.fNeed)), (.int .i64 ((gt x0 a2403).fOut.fRule.fAfter)), (.int .i64 ((gt x0 a2403).fHeight)), (.bool ((gt x0 a2403).fMined))]) rfl rfl Tryz.underlying77 rfl tsz77 rfl ((HM.at_ hc2426).sub 0 8 rfl)) ?_
      refine ops_does rfl (guard_none rfl) rfl rfl (does_alloc (cs := [.int .i64 0, .int .i64 0, .int .i64 0, .slice none 0 0, .int .i64 0, .int .i64 0, .int .i64 0, .bool false]) rfl tz77 rfl HM) ?_
      rintro _ w2432 ⟨b2429, rfl, HM⟩
      refine ops_doesS rfl (guard_none rfl) rfl (does_store (vs := [.int .i64 ((gt x0 a2403).fRef.fTx), .int .i64 ((gt x0 a2403).fRef.fAt), .int .i64 ((gt x0 a2403).fOut.fValue), kv2427, .int .i64 ((gt x0 a2403).fOut.fRule.fNeed), .int .i64 ((gt x0 a2403).fOut.fRule.fAfter), .int .i64 ((gt x0 a2403).fHeight), .bool ((gt x0 a2403).fMined)]) (cs' := [.int .i64 ((gt x0 a2403).fRef.fTx), .int .i64 ((gt x0 a2403).fRef.fAt), .int .i64 ((gt x0 a2403).fOut.fValue), kv2427, .int .i64 ((gt x0 a2403).fOut.fRule.fNeed), .int .i64 ((gt x0 a2403).fOut.fRule.fAfter), .int .i64 ((gt x0 a2403).fHeight), .bool ((gt x0 a2403).fMined)]) rfl rfl rfl rfl tsz77 (Ones.int (Ones.int (Ones.int (Ones.rd hk2428 (Ones.int (Ones.int (Ones.int (Ones.bool Ones.nil)))))))) rfl rfl HM) ?_
      rintro w2433 HM
      refine ops_nil ?_
      refine at_then ?_
      refine run_seq ?_
      obtain ⟨t2434, h2435, ho2381⟩ := bind_some ho2381
      refine run_region rfl ?_
      refine ops_ex rfl (guard_none rfl) rfl rfl (ex_fieldAddr (off' := 2) rfl rfl Tryz.underlying77 rfl tsz75 rfl) ?_
      refine ops_ex rfl (guard_none rfl) rfl rfl (ex_fieldAddr (off' := 3) rfl rfl Tryz.underlying75 rfl tsz73 rfl) ?_
      refine ops_ex rfl (guard_none rfl) rfl rfl (ex_loadN (cs := [kv2427, (.int .i64 ((gt x0 a2403).fOut.fRule.fNeed)), (.int .i64 ((gt x0 a2403).fOut.fRule.fAfter))]) rfl rfl Tryz.underlying73 rfl tsz73 rfl ((HM.box_at 0 rfl).sub 3 3 rfl)) ?_
      refine ops_does rfl (guard_none rfl) rfl rfl (does_callk rfl callok115 rfl (spec_l2Copy.calls (x0 := (gt x0 a2403).fOut.fRule) (HM.rd hk2428) h2435)) ?_
      rintro _ w2438 ⟨u2436, rfl, hn⟩
      replace HM : Mem w [] w2438 [own kInt 2 u2436 t2434.fKeys, box b2429 77 [.int .i64 ((gt x0 a2403).fRef.fTx), .int .i64 ((gt x0 a2403).fRef.fAt), .int .i64 ((gt x0 a2403).fOut.fValue), kv2427, .int .i64 ((gt x0 a2403).fOut.fRule.fNeed), .int .i64 ((gt x0 a2403).fOut.fRule.fAfter), .int .i64 ((gt x0 a2403).fHeight), .bool ((gt x0 a2403).fMined)], own kCoin 77 v2400 a2401] := HM.call hn
      refine ops_ex rfl (guard_none rfl) rfl rfl (ex_fieldAddr (off' := 2) rfl rfl Tryz.underlying77 rfl tsz75 rfl) ?_
      refine ops_ex rfl (guard_none rfl) rfl rfl (ex_fieldAddr (off' := 3) rfl rfl Tryz.underlying75 rfl tsz73 rfl) ?_
      replace HM := HM.front 1 rfl rfl
      refine ops_doesS rfl (guard_none rfl) rfl (does_store (vs := [u2436, .int .i64 t2434.fNeed, .int .i64 t2434.fAfter]) (cs' := [.int .i64 ((gt x0 a2403).fRef.fTx), .int .i64 ((gt x0 a2403).fRef.fAt), .int .i64 ((gt x0 a2403).fOut.fValue), u2436, .int .i64 t2434.fNeed, .int .i64 t2434.fAfter, .int .i64 ((gt x0 a2403).fHeight), .bool ((gt x0 a2403).fMined)]) rfl rfl rfl rfl tsz73 (Ones.rd (HM.own_rd 1 rfl) (Ones.int (Ones.int Ones.nil))) rfl rfl HM) ?_
      rintro w2439 HM
      refine ops_nil ?_
      refine at_then ?_
      obtain ⟨e2443, ho2381⟩ := chk_some ho2381
      refine run_region rfl ?_
      refine ops_ex rfl (guard_none rfl) rfl rfl (ex_move rfl rfl) ?_
      refine ops_ex rfl (guard_none rfl) rfl rfl (ex_loadN (cs := [(.int .i64 ((gt x0 a2403).fRef.fTx)), (.int .i64 ((gt x0 a2403).fRef.fAt)), (.int .i64 ((gt x0 a2403).fOut.fValue)), u2436, (.int .i64 t2434.fNeed), (.int .i64 t2434.fAfter), (.int .i64 ((gt x0 a2403).fHeight)), (.bool ((gt x0 a2403).fMined))]) rfl rfl Tryz.underlying77 rfl tsz77 rfl ((HM.box_at 0 rfl).sub 0 8 rfl)) ?_
      replace HM := HM.front 1 rfl rfl
      refine ops_does rfl (guard_none rfl) rfl rfl (does_lit (e := 77) (cs := [(.int .i64 ((gt x0 a2403).fRef.fTx)), (.int .i64 ((gt x0 a2403).fRef.fAt)), (.int .i64 ((gt x0 a2403).fOut.fValue)), u2436, (.int .i64 t2434.fNeed), (.int .i64 t2434.fAfter), (.int .i64 ((gt x0 a2403).fHeight)), (.bool ((gt x0 a2403).fMined))]) (xs := ([(⟨(gt x0 a2403).fRef, (⟨(gt x0 a2403).fOut.fValue, t2434⟩ : Out), (gt x0 a2403).fHeight, (gt x0 a2403).fMined⟩ : Coin)] : List Coin)) kCoin rfl rfl (fun _ => by kernel_rfl) rfl rfl (fun _ _ h => by have := Elems.cons (d := kCoin) (x := (⟨(gt x0 a2403).fRef, (⟨(gt x0 a2403).fOut.fValue, t2434⟩ : Out), (gt x0 a2403).fHeight, (gt x0 a2403).fMined⟩ : Coin)) ⟨_, rfl, h⟩ .nil; rw [List.append_nil, List.append_nil] at this; exact this) HM) ?_
      rintro v2440 w2446 HM
      replace HM := HM.front 2 rfl rfl
      refine ops_does rfl (guard_none rfl) rfl rfl (does_append kCoin rfl rfl rfl Tryz.underlying29 tsz77 rfl tby77 tz77 rfl rfl (leB_le e2443) HM) ?_
      rintro v2444 w2447 HM
      refine ops_ex rfl (guard_none rfl) rfl rfl (ex_assign rfl rfl) ?_
      refine ops_nil ?_
      refine at_block ?_
      refine at_then ?_
      refine run_region rfl ?_
      refine ops_ex rfl (guard_none rfl) rfl rfl (ex_move rfl rfl) ?_
      refine ops_ex rfl (guard_none rfl) rfl rfl (ex_add rfl rfl rfl) ?_
      refine ops_ex rfl (guard_none rfl) rfl rfl (ex_assign rfl rfl) ?_
      refine ops_nil ?_
      replace HM := (HM.front 1 rfl rfl).drop
      exact at_again k2422 (ρ1 := [(0, p0), (3, v2444), (4, .int .i64 (wrap64 (a2403 + 1)))]) (Nat.lt_succ_self _) ⟨_, _, _, ho2381, rfl, HM⟩ (Sub.cons rfl (Sub.cons rfl (Sub.cons rfl Sub.nil)))
    · replace ho2381 := cond_f hb2424 ho2381
      refine run_exit ?_
      refine at_then_exit ?_
      refine at_then_exit ?_
      refine at_block_exit ?_
      exact at_mid (ρ' := [(3, v2400)]) ⟨_, _, (Option.some.inj ho2381), rfl, HM⟩ (Sub.cons rfl Sub.nil)
  · rintro _ w2448 ⟨v2377, a2378, rfl, rfl, HM⟩
    refine run_seq ?_
    refine run_region rfl ?_
    refine ops_ex rfl (guard_none rfl) rfl rfl (ex_move rfl rfl) ?_
    refine ops_ex rfl (guard_none rfl) rfl rfl (ex_assign rfl rfl) ?_
    refine ops_nil ?_
    refine at_then ?_
    refine run_ret ?_
    have hR := Option.some.inj H
    subst hR
    exact at_ret1 rfl rfl ⟨_, rfl, _, rfl, HM⟩

def spec_l5Spent.l0 (x0 : List Coin) (x1 : Tx) : Nat → (List Coin) → Int → Option ((List Coin))
  | 0, _, _ => none
  | k + 1, a2539, a2541 => (bif (decide (a2541 < (x0.length : Int))) then (chk (idxOk a2541 x0.length) ((spec_l3Among.f k x1.fIns ((gt x0 a2541).fRef)).bind fun t2567 => (bif t2567 then (chk (idxOk a2541 x0.length) (chk (leB ((a2539.length + ([(gt x0 a2541)] : List Coin).length) * 80) 140737488355328) (spec_l5Spent.l0 x0 x1 k (a2539 ++ ([(gt x0 a2541)] : List Coin)) (wrap64 (a2541 + 1))))) else spec_l5Spent.l0 x0 x1 k a2539 (wrap64 (a2541 + 1))))) else some a2539)
theorem spec_l5Spent.l0_z (x0 : List Coin) (x1 : Tx) (a2539 : List Coin) (a2541 : Int) : spec_l5Spent.l0 x0 x1 0 a2539 a2541 = none := rfl
theorem spec_l5Spent.l0_s (x0 : List Coin) (x1 : Tx) (k : Nat) (a2539 : List Coin) (a2541 : Int) : spec_l5Spent.l0 x0 x1 (k + 1) a2539 a2541 = (bif (decide (a2541 < (x0.length : Int))) then (chk (idxOk a2541 x0.length) ((spec_l3Among.f k x1.fIns ((gt x0 a2541).fRef)).bind fun t2567 => (bif t2567 then (chk (idxOk a2541 x0.length) (chk (leB ((a2539.length + ([(gt x0 a2541)] : List Coin).length) * 80) 140737488355328) (spec_l5Spent.l0 x0 x1 k (a2539 ++ ([(gt x0 a2541)] : List Coin)) (wrap64 (a2541 + 1))))) else spec_l5Spent.l0 x0 x1 k a2539 (wrap64 (a2541 + 1))))) else some a2539) := rfl
def spec_l5Spent.f (k : Nat) (x0 : List Coin) (x1 : Tx) : Option ((List Coin) × Bool) := ((spec_l5Spent.l0 x0 x1 k ([] : List Coin) 0).bind (fun a2516 => ((spec_l4Copy.f k a2516).bind fun t2584 => some (t2584, ((a2516.length : Int) == (x1.fIns.length : Int))))))
theorem spec_l5Spent.calls {k : Nat} {x0 : List Coin} {x1 : Tx} {p0 : Value} {b1 f1 : Nat} {p1_0 : Value} {p1_1 : Value} {w : World} (hp0 : RdS kCoin w p0 x0) (hc1 : CellsAt w b1 f1 [.int .i64 x1.fKind, .int .i64 x1.fMember, p1_0, p1_1]) (hp1_0 : RdS kRef w p1_0 x1.fIns) (hp1_1 : RdS kOut w p1_1 x1.fOuts) {r : (List Coin) × Bool} (H : spec_l5Spent.f k x0 x1 = some r) :
    Calls Tryz.prog 34 ([p0, .pointer (some ⟨b1, f1, none⟩)] : List Value).toArray w (fun e w_ => ∃ v, e = .returned v ∧ ∃ u0 : Value, v = (.tuple #[u0, .bool r.2]) ∧ Mem w [] w_ [own kCoin 77 u0 r.1]) := by
  have HM := Mem.start w
  refine calls_run (N := 42) Tryz.func34 rfl rfl rfl rfl ?_
  unfold spec_l5Spent.f at H
  refine run_seq ?_
  refine run_region rfl ?_
  refine ops_ex rfl (guard_none rfl) rfl rfl (ex_assign rfl rfl) ?_
  refine ops_ex rfl (guard_none rfl) rfl rfl (ex_assign rfl rfl) ?_
  refine ops_nil ?_
  refine at_then ?_
  refine run_seq ?_
  refine run_region rfl ?_
  refine ops_does rfl (guard_none rfl) rfl rfl (does_lit (e := 77) (cs := []) (xs := ([] : List Coin)) kCoin rfl rfl (fun _ => by kernel_rfl) rfl rfl (fun _ _ h => by have h' : _ = [] := h; subst h'; exact .nil) HM.emp) ?_
  rintro v2453 w2456 HM
  refine ops_ex rfl (guard_none rfl) rfl rfl (ex_assign rfl rfl) ?_
  refine ops_nil ?_
  refine at_then ?_
  obtain ⟨o2518, ho2519, H⟩ := bind_some H
  refine run_mid (fun ρ_ w_ => ∃ v2515 : Value, ∃ a2516 : List Coin, a2516 = o2518 ∧ ρ_ = [(1, .pointer (some ⟨b1, f1, none⟩)), (6, v2515)] ∧ Mem w [] w_ [own (Kd.lent w kCoin with1_one) 77 v2515 a2516]) ?_ ?_
  · clear H
    refine run_seq ?_
    refine run_region rfl ?_
    refine ops_ex rfl (guard_none rfl) rfl rfl (ex_assign rfl rfl) ?_
    refine ops_nil ?_
    refine at_then ?_
    refine run_block ?_
    replace HM := Mem.relent (d := kCoin) (d' := (Kd.lent w kCoin with1_one)) rfl HM
    refine run_loop (fun k_ ρ_ w_ => ∃ v2538 : Value, ∃ a2539 : List Coin, ∃ a2541 : Int, spec_l5Spent.l0 x0 x1 k_ a2539 a2541 = some o2518 ∧ ρ_ = [(0, p0), (1, .pointer (some ⟨b1, f1, none⟩)), (6, v2538), (7, .int .i64 a2541)] ∧ Mem w [] w_ [own (Kd.lent w kCoin with1_one) 77 v2538 a2539]) k (ρ1 := [(0, p0), (1, .pointer (some ⟨b1, f1, none⟩)), (6, v2453), (7, .int .i64 0)]) ⟨_, _, _, ho2519, rfl, HM⟩ (Sub.cons rfl (Sub.cons rfl (Sub.cons rfl (Sub.cons rfl Sub.nil)))) ?_
    clear HM ho2519
    rintro k2560 _ w2561 ⟨v2538, a2539, a2541, ho2519, rfl, HM⟩
    obtain _ | k2560 := k2560
    · exact nomatch ((spec_l5Spent.l0_z x0 x1 a2539 a2541).symm.trans ho2519)
    replace ho2519 := (spec_l5Spent.l0_s x0 x1 k2560 a2539 a2541).symm.trans ho2519
    refine run_seq ?_
    refine run_seq ?_
    refine run_region rfl ?_
    refine ops_ex rfl (guard_none rfl) rfl rfl (ex_move rfl rfl) ?_
    refine ops_ex rfl (guard_none rfl) rfl rfl (ex_move rfl rfl) ?_
    refine ops_ex rfl (guard_none rfl) rfl rfl (ex_len (d := kCoin) (xs := x0) rfl rfl Tryz.underlying29 hp0) ?_
    refine ops_ex rfl (guard_none rfl) rfl rfl (ex_lss rfl rfl rfl) ?_
    refine ops_nil ?_
    refine at_then ?_
    refine run_cond (b := (decide (a2541 < (x0.length : Int)))) rfl (fun hb2562 => ?_) (fun hb2562 => ?_)
    · replace ho2519 := cond_t hb2562 ho2519
      refine run_skip ?_
      refine at_then ?_
      refine run_seq ?_
      refine run_block ?_
      refine run_seq ?_
      obtain ⟨e2563, ho2519⟩ := chk_some ho2519
      obtain ⟨t2567, h2568, ho2519⟩ := bind_some ho2519
      refine run_drawf (fun w_ => Mem w [] w_ [own (Kd.lent w kCoin with1_one) 77 v2538 a2539]) [(0, true), (1, true), (2, true), (3, true), (4, true), (5, true), (6, true), (7, true), (8, true), (9, false)] mixed rfl rfl (by kernel_rfl) ?_
      replace HM := HM.grow (fr_drew _)
      have hS := Mem.suf (M := []) HM
      refine drwp_take rfl (guard_none rfl) rfl rfl (fun w_ hS_ => (ex_move rfl rfl)) hS ?_
      refine drwp_take rfl (guard_none rfl) rfl rfl (fun w_ hS_ => (ex_nilCheck rfl rfl)) hS ?_
      refine drwp_take rfl (guard_none rfl) rfl rfl (fun w_ hS_ => (ex_fieldAddr (off' := f1 + 2) rfl rfl Tryz.underlying37 rfl tsz34 rfl)) hS ?_
      refine drwp_take rfl (guard_none rfl) rfl rfl (fun w_ hS_ => (ex_load1 rfl rfl Tryz.underlying34 rfl ((hS_.at_ hc1) 2 _ rfl))) hS ?_
      refine drwp_take rfl (guard_none rfl) rfl rfl (fun w_ hS_ => (ex_move rfl rfl)) hS ?_
      refine drwp_take rfl (guard_none rfl) rfl rfl (fun w_ hS_ => (ex_move rfl rfl)) hS ?_
      obtain ⟨kv2565, hc2564, hk2566⟩ : ∃ u, CellsAt _ (sb p0) (so p0 + (a2541).toNat * 8) [(.int .i64 ((gt x0 a2541).fRef.fTx)), (.int .i64 ((gt x0 a2541).fRef.fAt)), (.int .i64 ((gt x0 a2541).fOut.fValue)), u, (.int .i64 ((gt x0 a2541).fOut.fRule.fNeed)), (.int .i64 ((gt x0 a2541).fOut.fRule.fAfter)), (.int .i64 ((gt x0 a2541).fHeight)), (.bool ((gt x0 a2541).fMined))] ∧ RdS kInt _ u ((gt x0 a2541).fOut.fRule.fKeys) := rd_with1 hp0 e2563
      refine drwp_take rfl (guard_none rfl) rfl rfl (fun w_ hS_ => (ex_indexAddr (d := kCoin) rfl rfl rfl Tryz.underlying29 tsz77 hp0 (idx_lo e2563) (idx_hi e2563))) hS ?_
      refine drwp_take rfl (guard_none rfl) rfl rfl (fun w_ hS_ => (ex_fieldAddr (off' := so p0 + (a2541).toNat * 8) rfl rfl Tryz.underlying77 rfl tsz56 rfl)) hS ?_
      refine drwp_take rfl (guard_none rfl) rfl rfl (fun w_ hS_ => (ex_loadN (cs := [(.int .i64 ((gt x0 a2541).fRef.fTx)), (.int .i64 ((gt x0 a2541).fRef.fAt))]) rfl rfl Tryz.underlying56 rfl tsz56 rfl ((hS_.at_ hc2564).sub 0 2 rfl))) hS ?_
      refine drwp_one rfl (guard_none rfl) rfl rfl (does_callk rfl callok75 rfl (spec_l3Among.calls (x0 := x1.fIns) (x1 := (gt x0 a2541).fRef) (HM.rd hp1_0) h2568)) ?_
      rintro _ w2569 ⟨rfl, hn⟩
      replace HM : Mem w [] w2569 [own (Kd.lent w kCoin with1_one) 77 v2538 a2539] := HM.call hn
      refine ⟨Mem.suf (M := []) HM, ?_⟩
      have hS := Mem.suf (M := []) HM
      refine drwp_done ?_
      refine at_then ?_
      refine run_cond (b := t2567) rfl (fun hb2570 => ?_) (fun hb2570 => ?_)
      · replace ho2519 := cond_t hb2570 ho2519
        obtain ⟨e2571, ho2519⟩ := chk_some ho2519
        obtain ⟨e2578, ho2519⟩ := chk_some ho2519
        refine run_region rfl ?_
        refine ops_ex rfl (guard_none rfl) rfl rfl (ex_move rfl rfl) ?_
        refine ops_ex rfl (guard_none rfl) rfl rfl (ex_move rfl rfl) ?_
        refine ops_ex rfl (guard_none rfl) rfl rfl (ex_move rfl rfl) ?_
        obtain ⟨kv2573, hc2572, hk2574⟩ : ∃ u, CellsAt _ (sb p0) (so p0 + (a2541).toNat * 8) [(.int .i64 ((gt x0 a2541).fRef.fTx)), (.int .i64 ((gt x0 a2541).fRef.fAt)), (.int .i64 ((gt x0 a2541).fOut.fValue)), u, (.int .i64 ((gt x0 a2541).fOut.fRule.fNeed)), (.int .i64 ((gt x0 a2541).fOut.fRule.fAfter)), (.int .i64 ((gt x0 a2541).fHeight)), (.bool ((gt x0 a2541).fMined))] ∧ RdS kInt _ u ((gt x0 a2541).fOut.fRule.fKeys) := rd_with1 hp0 e2571
        refine ops_ex rfl (guard_none rfl) rfl rfl (ex_indexAddr (d := kCoin) rfl rfl rfl Tryz.underlying29 tsz77 hp0 (idx_lo e2571) (idx_hi e2571)) ?_
        refine ops_ex rfl (guard_none rfl) rfl rfl (ex_loadN (cs := [(.int .i64 ((gt x0 a2541).fRef.fTx)), (.int .i64 ((gt x0 a2541).fRef.fAt)), (.int .i64 ((gt x0 a2541).fOut.fValue)), kv2573, (.int .i64 ((gt x0 a2541).fOut.fRule.fNeed)), (.int .i64 ((gt x0 a2541).fOut.fRule.fAfter)), (.int .i64 ((gt x0 a2541).fHeight)), (.bool ((gt x0 a2541).fMined))]) rfl rfl Tryz.underlying77 rfl tsz77 rfl ((HM.at_ hc2572).sub 0 8 rfl)) ?_
        refine ops_does rfl (guard_none rfl) rfl rfl (does_lit (e := 77) (cs := [.int .i64 ((gt x0 a2541).fRef.fTx), .int .i64 ((gt x0 a2541).fRef.fAt), .int .i64 ((gt x0 a2541).fOut.fValue), kv2573, .int .i64 ((gt x0 a2541).fOut.fRule.fNeed), .int .i64 ((gt x0 a2541).fOut.fRule.fAfter), .int .i64 ((gt x0 a2541).fHeight), .bool ((gt x0 a2541).fMined)]) (xs := ([(gt x0 a2541)] : List Coin)) (Kd.lent w kCoin with1_one) rfl rfl (fun _ => by kernel_rfl) rfl rfl (fun _ _ h => by have h' : _ = [] := h; subst h'; exact (Elems.cons (d := (Kd.lent w kCoin with1_one)) (f := []) ⟨⟨_, rfl, hk2574⟩, rfl⟩ .nil)) HM.emp) ?_
        rintro v2575 w2581 HM
        replace HM := HM.front 1 rfl rfl
        refine ops_does rfl (guard_none rfl) rfl rfl (does_append (Kd.lent w kCoin with1_one) rfl rfl rfl Tryz.underlying29 tsz77 rfl tby77 tz77 rfl rfl (leB_le e2578) HM) ?_
        rintro v2579 w2582 HM
        refine ops_ex rfl (guard_none rfl) rfl rfl (ex_assign rfl rfl) ?_
        refine ops_nil ?_
        refine at_block ?_
        refine at_then ?_
        refine run_region rfl ?_
        refine ops_ex rfl (guard_none rfl) rfl rfl (ex_move rfl rfl) ?_
        refine ops_ex rfl (guard_none rfl) rfl rfl (ex_add rfl rfl rfl) ?_
        refine ops_ex rfl (guard_none rfl) rfl rfl (ex_assign rfl rfl) ?_
        refine ops_nil ?_
        exact at_again k2560 (ρ1 := [(0, p0), (1, .pointer (some ⟨b1, f1, none⟩)), (6, v2579), (7, .int .i64 (wrap64 (a2541 + 1)))]) (Nat.lt_succ_self _) ⟨_, _, _, ho2519, rfl, HM⟩ (Sub.cons rfl (Sub.cons rfl (Sub.cons rfl (Sub.cons rfl Sub.nil))))
      · replace ho2519 := cond_f hb2570 ho2519
        refine run_skip ?_
        refine at_block ?_
        refine at_then ?_
        refine run_region rfl ?_
        refine ops_ex rfl (guard_none rfl) rfl rfl (ex_move rfl rfl) ?_
        refine ops_ex rfl (guard_none rfl) rfl rfl (ex_add rfl rfl rfl) ?_
        refine ops_ex rfl (guard_none rfl) rfl rfl (ex_assign rfl rfl) ?_
        refine ops_nil ?_
        exact at_again k2560 (ρ1 := [(0, p0), (1, .pointer (some ⟨b1, f1, none⟩)), (6, v2538), (7, .int .i64 (wrap64 (a2541 + 1)))]) (Nat.lt_succ_self _) ⟨_, _, _, ho2519, rfl, HM⟩ (Sub.cons rfl (Sub.cons rfl (Sub.cons rfl (Sub.cons rfl Sub.nil))))
    · replace ho2519 := cond_f hb2562 ho2519
      refine run_exit ?_
      refine at_then_exit ?_
      refine at_then_exit ?_
      refine at_block_exit ?_
      exact at_mid (ρ' := [(1, .pointer (some ⟨b1, f1, none⟩)), (6, v2538)]) ⟨_, _, (Option.some.inj ho2519), rfl, HM⟩ (Sub.cons rfl (Sub.cons rfl Sub.nil))
  · rintro _ w2583 ⟨v2515, a2516, rfl, rfl, HM⟩
    refine run_seq ?_
    obtain ⟨t2584, h2585, H⟩ := bind_some H
    refine run_drawf (fun w_ => Mem w [] w_ [own (Kd.lent w kCoin with1_one) 77 v2515 a2516]) [(0, true), (2, true), (3, true), (4, true), (5, true), (6, true), (7, true), (8, true), (9, true), (1, false), (10, true), (11, true)] mixed rfl rfl (by kernel_rfl) ?_
    replace HM := HM.grow (fr_drew _)
    have hS := Mem.suf (M := []) HM
    refine drwp_take rfl (guard_none rfl) rfl rfl (fun w_ hS_ => (ex_move rfl rfl)) hS ?_
    refine drwp_take rfl (guard_none rfl) rfl rfl (fun w_ hS_ => (ex_move rfl rfl)) hS ?_
    refine drwp_take rfl (guard_none rfl) rfl rfl (fun w_ hS_ => (ex_len (d := kCoin) (xs := a2516) rfl rfl Tryz.underlying29 ((hS_.own_rd 0 rfl).unlent (hS_.old)))) hS ?_
    refine drwp_take rfl (guard_none rfl) rfl rfl (fun w_ hS_ => (ex_move rfl rfl)) hS ?_
    refine drwp_take rfl (guard_none rfl) rfl rfl (fun w_ hS_ => (ex_nilCheck rfl rfl)) hS ?_
    refine drwp_take rfl (guard_none rfl) rfl rfl (fun w_ hS_ => (ex_fieldAddr (off' := f1 + 2) rfl rfl Tryz.underlying37 rfl tsz34 rfl)) hS ?_
    refine drwp_take rfl (guard_none rfl) rfl rfl (fun w_ hS_ => (ex_load1 rfl rfl Tryz.underlying34 rfl ((hS_.at_ hc1) 2 _ rfl))) hS ?_
    refine drwp_take rfl (guard_none rfl) rfl rfl (fun w_ hS_ => (ex_len (d := kRef) (xs := x1.fIns) rfl rfl Tryz.underlying34 hp1_0)) hS ?_
    refine drwp_take rfl (guard_none rfl) rfl rfl (fun w_ hS_ => (ex_eql rfl rfl rfl)) hS ?_
    refine drwp_one rfl (guard_none rfl) rfl rfl (does_callk rfl callok77 rfl (spec_l4Copy.calls (x0 := a2516) ((HM.own_rd 0 rfl).unlent (HM.old)) h2585)) ?_
    rintro u2586 w2588 ⟨_, rfl, hn⟩
    replace HM : Mem w [] w2588 [own kCoin 77 u2586 t2584, own (Kd.lent w kCoin with1_one) 77 v2515 a2516] := HM.call hn
    refine ⟨Mem.suf (M := [own kCoin 77 u2586 t2584]) HM, ?_⟩
    have hS := Mem.suf (M := [own kCoin 77 u2586 t2584]) HM
    refine drwp_take rfl (guard_none rfl) rfl rfl (fun w_ hS_ => (ex_assign rfl rfl)) hS ?_
    refine drwp_take rfl (guard_none rfl) rfl rfl (fun w_ hS_ => (ex_assign rfl rfl)) hS ?_
    refine drwp_done ?_
    refine at_then ?_
    refine run_ret ?_
    replace HM := (HM.front 1 rfl rfl).drop
    have hR := Option.some.inj H
    subst hR
    exact at_ret2 rfl rfl rfl ⟨_, rfl, _, rfl, HM⟩

def spec_SpentBy.f (k : Nat) (x0 : List Coin) (x1 : Tx) : Option CoinsResult := ((spec_l4Fault.f k x0).bind fun t2605 => (bif (t2605 != 0) then some (⟨t2605, ([] : List Coin)⟩ : CoinsResult) else ((spec_l3Fault.f k x1).bind fun t2614 => (bif (t2614 != 0) then some (⟨t2614, ([] : List Coin)⟩ : CoinsResult) else ((spec_l5Spent.f k x0 x1).bind fun t2620 => (bif !t2620.2 then some (⟨4, ([] : List Coin)⟩ : CoinsResult) else some (⟨0, t2620.1⟩ : CoinsResult)))))))
theorem spec_SpentBy.calls {k : Nat} {x0 : List Coin} {x1 : Tx} {p0 : Value} {p1_0 : Value} {p1_1 : Value} {w : World} (hp0 : RdS kCoin w p0 x0) (hp1_0 : RdS kRef w p1_0 x1.fIns) (hp1_1 : RdS kOut w p1_1 x1.fOuts) {r : CoinsResult} (H : spec_SpentBy.f k x0 x1 = some r) :
    Calls Tryz.prog 9 ([p0, .agg #[(.int .i64 x1.fKind), (.int .i64 x1.fMember), p1_0, p1_1]] : List Value).toArray w (fun e w_ => ∃ v, e = .returned v ∧ ∃ u0 : Value, v = (.agg #[.int .i64 r.fCode, u0]) ∧ Mem w [] w_ [own kCoin 77 u0 r.fCoins]) := by
  have HM := Mem.start w
  refine calls_run (N := 30) Tryz.func9 rfl rfl rfl rfl ?_
  unfold spec_SpentBy.f at H
  refine run_seq ?_
  refine run_region rfl ?_
  refine ops_does rfl (guard_none rfl) rfl rfl (does_box (cs := [.int .i64 x1.fKind, .int .i64 x1.fMember, p1_0, p1_1]) rfl rfl rfl HM) ?_
  rintro _ w2600 ⟨b2594, rfl, HM⟩
  refine ops_does rfl (guard_none rfl) rfl rfl (does_alloc (cs := [.int .i64 0, .slice none 0 0]) rfl tz31 rfl HM) ?_
  rintro _ w2601 ⟨b2597, rfl, HM⟩
  refine ops_nil ?_
  refine at_then ?_
  refine run_seq ?_
  refine run_seq ?_
  obtain ⟨t2605, h2606, H⟩ := bind_some H
  refine run_region rfl ?_
  refine ops_ex rfl (guard_none rfl) rfl rfl (ex_move rfl rfl) ?_
  refine ops_does rfl (guard_none rfl) rfl rfl (does_callk rfl callok32 rfl (spec_l4Fault.calls (x0 := x0) (HM.rd hp0) h2606)) ?_
  rintro _ w2607 ⟨rfl, hn⟩
  replace HM : Mem w [] w2607 [box b2597 31 [.int .i64 0, .slice none 0 0], box b2594 37 [.int .i64 x1.fKind, .int .i64 x1.fMember, p1_0, p1_1]] := HM.call hn
  refine ops_ex rfl (guard_none rfl) rfl rfl (ex_assign rfl rfl) ?_
  refine ops_nil ?_
  refine at_then ?_
  refine run_seq ?_
  refine run_region rfl ?_
  refine ops_ex rfl (guard_none rfl) rfl rfl (ex_move rfl rfl) ?_
  refine ops_ex rfl (guard_none rfl) rfl rfl (ex_neq rfl rfl rfl) ?_
  refine ops_nil ?_
  refine at_then ?_
  refine run_cond (b := (t2605 != 0)) rfl (fun hb2608 => ?_) (fun hb2608 => ?_)
  · replace H := cond_t hb2608 H
    refine run_seq ?_
    refine run_region rfl ?_
    refine ops_ex rfl (guard_none rfl) rfl rfl (ex_move rfl rfl) ?_
    refine ops_ex rfl (guard_none rfl) rfl rfl (ex_build (cells := #[(.int .i64 t2605), (.slice none 0 0)]) rfl rfl (by kernel_rfl)) ?_
    refine ops_doesS rfl (guard_none rfl) rfl (does_store (vs := [.int .i64 t2605, .slice none 0 0]) (cs' := [.int .i64 t2605, .slice none 0 0]) rfl rfl rfl rfl tsz31 (Ones.int (Ones.sl Ones.nil)) rfl rfl HM) ?_
    rintro w2609 HM
    refine ops_nil ?_
    refine at_then ?_
    refine run_ret ?_
    refine at_then_ret ?_
    replace HM := HM.empty kCoin 77 none
    replace HM := (HM.front 2 rfl rfl).drop
    replace HM := HM.front 1 rfl rfl
    have hcb0 := HM.box_at 0 rfl
    replace HM := (HM.front 0 rfl rfl).drop
    have hR := Option.some.inj H
    subst hR
    exact at_retN rfl rfl Tryz.underlying31 rfl tsz31 rfl hcb0 ⟨_, rfl, _, rfl, HM⟩
  · replace H := cond_f hb2608 H
    refine run_skip ?_
    refine at_then ?_
    refine run_seq ?_
    refine run_seq ?_
    obtain ⟨t2614, h2615, H⟩ := bind_some H
    refine run_region rfl ?_
    refine ops_does rfl (guard_none rfl) rfl rfl (does_callk rfl callok33 rfl (spec_l3Fault.calls (x0 := x1) (HM.box_at 1 rfl) (HM.rd hp1_0) (HM.rd hp1_1) h2615)) ?_
    rintro _ w2616 ⟨rfl, hn⟩
    replace HM : Mem w [] w2616 [box b2597 31 [.int .i64 0, .slice none 0 0], box b2594 37 [.int .i64 x1.fKind, .int .i64 x1.fMember, p1_0, p1_1]] := HM.call hn
    refine ops_ex rfl (guard_none rfl) rfl rfl (ex_assign rfl rfl) ?_
    refine ops_nil ?_
    refine at_then ?_
    refine run_seq ?_
    refine run_region rfl ?_
    refine ops_ex rfl (guard_none rfl) rfl rfl (ex_move rfl rfl) ?_
    refine ops_ex rfl (guard_none rfl) rfl rfl (ex_neq rfl rfl rfl) ?_
    refine ops_nil ?_
    refine at_then ?_
    refine run_cond (b := (t2614 != 0)) rfl (fun hb2617 => ?_) (fun hb2617 => ?_)
    · replace H := cond_t hb2617 H
      refine run_seq ?_
      refine run_region rfl ?_
      refine ops_ex rfl (guard_none rfl) rfl rfl (ex_move rfl rfl) ?_
      refine ops_ex rfl (guard_none rfl) rfl rfl (ex_build (cells := #[(.int .i64 t2614), (.slice none 0 0)]) rfl rfl (by kernel_rfl)) ?_
      refine ops_doesS rfl (guard_none rfl) rfl (does_store (vs := [.int .i64 t2614, .slice none 0 0]) (cs' := [.int .i64 t2614, .slice none 0 0]) rfl rfl rfl rfl tsz31 (Ones.int (Ones.sl Ones.nil)) rfl rfl HM) ?_
      rintro w2618 HM
      refine ops_nil ?_
      refine at_then ?_
      refine run_ret ?_
      refine at_then_ret ?_
      replace HM := HM.empty kCoin 77 none
      replace HM := (HM.front 2 rfl rfl).drop
      replace HM := HM.front 1 rfl rfl
      have hcb0 := HM.box_at 0 rfl
      replace HM := (HM.front 0 rfl rfl).drop
      have hR := Option.some.inj H
      subst hR
      exact at_retN rfl rfl Tryz.underlying31 rfl tsz31 rfl hcb0 ⟨_, rfl, _, rfl, HM⟩
    · replace H := cond_f hb2617 H
      refine run_skip ?_
      refine at_then ?_
      refine run_seq ?_
      obtain ⟨t2620, h2621, H⟩ := bind_some H
      refine run_region rfl ?_
      refine ops_ex rfl (guard_none rfl) rfl rfl (ex_move rfl rfl) ?_
      refine ops_does rfl (guard_none rfl) rfl rfl (does_callk rfl callok34 rfl (spec_l5Spent.calls (x0 := x0) (x1 := x1) (HM.rd hp0) (HM.box_at 1 rfl) (HM.rd hp1_0) (HM.rd hp1_1) h2621)) ?_
      rintro _ w2624 ⟨u2622, rfl, hn⟩
      replace HM : Mem w [] w2624 [own kCoin 77 u2622 t2620.1, box b2597 31 [.int .i64 0, .slice none 0 0], box b2594 37 [.int .i64 x1.fKind, .int .i64 x1.fMember, p1_0, p1_1]] := HM.call hn
      refine ops_ex rfl (guard_none rfl) rfl rfl (ex_move rfl rfl) ?_
      refine ops_ex rfl (guard_none rfl) rfl rfl (ex_extract rfl rfl rfl) ?_
      refine ops_ex rfl (guard_none rfl) rfl rfl (ex_extract rfl rfl rfl) ?_
      refine ops_ex rfl (guard_none rfl) rfl rfl (ex_assign rfl rfl) ?_
      refine ops_ex rfl (guard_none rfl) rfl rfl (ex_assign rfl rfl) ?_
      refine ops_nil ?_
      refine at_then ?_
      refine run_seq ?_
      refine run_seq ?_
      refine run_region rfl ?_
      refine ops_ex rfl (guard_none rfl) rfl rfl (ex_move rfl rfl) ?_
      refine ops_ex rfl (guard_none rfl) rfl rfl (ex_not rfl rfl) ?_
      refine ops_nil ?_
      refine at_then ?_
      refine run_cond (b := !t2620.2) rfl (fun hb2625 => ?_) (fun hb2625 => ?_)
      · replace H := cond_t hb2625 H
        refine run_seq ?_
        refine run_region rfl ?_
        refine ops_ex rfl (guard_none rfl) rfl rfl (ex_build (cells := #[(.int .i64 4), (.slice none 0 0)]) rfl rfl (by kernel_rfl)) ?_
        replace HM := HM.front 1 rfl rfl
        refine ops_doesS rfl (guard_none rfl) rfl (does_store (vs := [.int .i64 4, .slice none 0 0]) (cs' := [.int .i64 4, .slice none 0 0]) rfl rfl rfl rfl tsz31 (Ones.int (Ones.sl Ones.nil)) rfl rfl HM) ?_
        rintro w2626 HM
        refine ops_nil ?_
        refine at_then ?_
        refine run_ret ?_
        refine at_then_ret ?_
        replace HM := HM.empty kCoin 77 none
        replace HM := (HM.front 2 rfl rfl).drop
        replace HM := (HM.front 2 rfl rfl).drop
        replace HM := HM.front 1 rfl rfl
        have hcb0 := HM.box_at 0 rfl
        replace HM := (HM.front 0 rfl rfl).drop
        have hR := Option.some.inj H
        subst hR
        exact at_retN rfl rfl Tryz.underlying31 rfl tsz31 rfl hcb0 ⟨_, rfl, _, rfl, HM⟩
      · replace H := cond_f hb2625 H
        refine run_skip ?_
        refine at_then ?_
        refine run_seq ?_
        refine run_region rfl ?_
        refine ops_ex rfl (guard_none rfl) rfl rfl (ex_move rfl rfl) ?_
        refine ops_ex rfl (guard_none rfl) rfl rfl (ex_build1 (fun u2622 => [(1, u2622)]) (fun u2622 => #[.int .i64 0, u2622]) rfl rfl (fun _ _ _ => by kernel_rfl) (HM.own_rd 0 rfl).isSl) ?_
        replace HM := HM.front 1 rfl rfl
        refine ops_doesS rfl (guard_none rfl) rfl (does_store (vs := [.int .i64 0, u2622]) (cs' := [.int .i64 0, u2622]) rfl rfl rfl rfl tsz31 (Ones.int (Ones.rd (HM.own_rd 1 rfl) Ones.nil)) rfl rfl HM) ?_
        rintro w2628 HM
        refine ops_nil ?_
        refine at_then ?_
        refine run_ret ?_
        replace HM := (HM.front 2 rfl rfl).drop
        have hcb0 := HM.box_at 0 rfl
        replace HM := (HM.front 0 rfl rfl).drop
        have hR := Option.some.inj H
        subst hR
        exact at_retN rfl rfl Tryz.underlying31 rfl tsz31 rfl hcb0 ⟨_, rfl, _, rfl, HM⟩

def spec_l4Of.l0 (x0 : List Coin) (x1 : Int) : Nat → Int → Option (Bool ⊕ Unit)
  | 0, _ => none
  | k + 1, a2686 => (bif (decide (a2686 < (x0.length : Int))) then (chk (idxOk a2686 x0.length) (bif (((gt x0 a2686).fRef.fTx) == x1) then some (.inl true) else spec_l4Of.l0 x0 x1 k (wrap64 (a2686 + 1)))) else some (.inr ()))
theorem spec_l4Of.l0_z (x0 : List Coin) (x1 : Int) (a2686 : Int) : spec_l4Of.l0 x0 x1 0 a2686 = none := rfl
theorem spec_l4Of.l0_s (x0 : List Coin) (x1 : Int) (k : Nat) (a2686 : Int) : spec_l4Of.l0 x0 x1 (k + 1) a2686 = (bif (decide (a2686 < (x0.length : Int))) then (chk (idxOk a2686 x0.length) (bif (((gt x0 a2686).fRef.fTx) == x1) then some (.inl true) else spec_l4Of.l0 x0 x1 k (wrap64 (a2686 + 1)))) else some (.inr ())) := rfl
def spec_l4Of.f (k : Nat) (x0 : List Coin) (x1 : Int) : Option Bool := ((spec_l4Of.l0 x0 x1 k 0).bind fun o2678 => thn o2678 (fun r => some r) (fun _ => some false))
theorem spec_l4Of.calls {k : Nat} {x0 : List Coin} {x1 : Int} {p0 : Value} {w : World} (hp0 : RdS kCoin w p0 x0) {r : Bool} (H : spec_l4Of.f k x0 x1 = some r) :
    Calls Tryz.prog 52 ([p0, .int .i64 x1] : List Value).toArray w (fun e w_ => ∃ v, e = .returned v ∧ v = (.bool r) ∧ Mem w [] w_ []) := by
  have HM := Mem.start w
  refine calls_run (N := 20) Tryz.func52 rfl rfl rfl rfl ?_
  unfold spec_l4Of.f at H
  refine run_seq ?_
  refine run_region rfl ?_
  refine ops_ex rfl (guard_none rfl) rfl rfl (ex_assign rfl rfl) ?_
  refine ops_nil ?_
  refine at_then ?_
  obtain ⟨o2678, ho2679, H⟩ := bind_some H
  refine run_mid (fun ρ_ w_ => Sum.inr () = o2678 ∧ ρ_ = [] ∧ Mem w [] w_ []) ?_ ?_
  · skip
    refine run_seq ?_
    refine run_region rfl ?_
    refine ops_ex rfl (guard_none rfl) rfl rfl (ex_assign rfl rfl) ?_
    refine ops_nil ?_
    refine at_then ?_
    refine run_block ?_
    refine run_loop (fun k_ ρ_ w_ => ∃ a2686 : Int, spec_l4Of.l0 x0 x1 k_ a2686 = some o2678 ∧ ρ_ = [(0, p0), (1, .int .i64 x1), (5, .int .i64 a2686)] ∧ Mem w [] w_ []) k (ρ1 := [(0, p0), (1, .int .i64 x1), (5, .int .i64 0)]) ⟨_, ho2679, rfl, HM⟩ (Sub.cons rfl (Sub.cons rfl (Sub.cons rfl Sub.nil))) ?_
    clear HM ho2679
    rintro k2693 _ w2694 ⟨a2686, ho2679, rfl, HM⟩
    obtain _ | k2693 := k2693
    · exact nomatch ((spec_l4Of.l0_z x0 x1 a2686).symm.trans ho2679)
    replace ho2679 := (spec_l4Of.l0_s x0 x1 k2693 a2686).symm.trans ho2679
    refine run_seq ?_
    refine run_seq ?_
    refine run_region rfl ?_
    refine ops_ex rfl (guard_none rfl) rfl rfl (ex_move rfl rfl) ?_
    refine ops_ex rfl (guard_none rfl) rfl rfl (ex_move rfl rfl) ?_
    refine ops_ex rfl (guard_none rfl) rfl rfl (ex_len (d := kCoin) (xs := x0) rfl rfl Tryz.underlying29 hp0) ?_
    refine ops_ex rfl (guard_none rfl) rfl rfl (ex_lss rfl rfl rfl) ?_
    refine ops_nil ?_
    refine at_then ?_
    refine run_cond (b := (decide (a2686 < (x0.length : Int)))) rfl (fun hb2695 => ?_) (fun hb2695 => ?_)
    · replace ho2679 := cond_t hb2695 ho2679
      refine run_skip ?_
      refine at_then ?_
      refine run_seq ?_
      refine run_block ?_
      refine run_seq ?_
      obtain ⟨e2696, ho2679⟩ := chk_some ho2679
      refine run_region rfl ?_
      refine ops_ex rfl (guard_none rfl) rfl rfl (ex_move rfl rfl) ?_
      refine ops_ex rfl (guard_none rfl) rfl rfl (ex_move rfl rfl) ?_
      obtain ⟨kv2698, hc2697, hk2699⟩ : ∃ u, CellsAt _ (sb p0) (so p0 + (a2686).toNat * 8) [(.int .i64 ((gt x0 a2686).fRef.fTx)), (.int .i64 ((gt x0 a2686).fRef.fAt)), (.int .i64 ((gt x0 a2686).fOut.fValue)), u, (.int .i64 ((gt x0 a2686).fOut.fRule.fNeed)), (.int .i64 ((gt x0 a2686).fOut.fRule.fAfter)), (.int .i64 ((gt x0 a2686).fHeight)), (.bool ((gt x0 a2686).fMined))] ∧ RdS kInt _ u ((gt x0 a2686).fOut.fRule.fKeys) := rd_with1 hp0 e2696
      refine ops_ex rfl (guard_none rfl) rfl rfl (ex_indexAddr (d := kCoin) rfl rfl rfl Tryz.underlying29 tsz77 hp0 (idx_lo e2696) (idx_hi e2696)) ?_
      refine ops_ex rfl (guard_none rfl) rfl rfl (ex_fieldAddr (off' := so p0 + (a2686).toNat * 8) rfl rfl Tryz.underlying77 rfl tsz56 rfl) ?_
      refine ops_ex rfl (guard_none rfl) rfl rfl (ex_fieldAddr (off' := so p0 + (a2686).toNat * 8) rfl rfl Tryz.underlying56 rfl tsz2 rfl) ?_
      refine ops_ex rfl (guard_none rfl) rfl rfl (ex_load1 rfl rfl Tryz.underlying2 rfl ((HM.at_ hc2697) 0 _ rfl)) ?_
      refine ops_ex rfl (guard_none rfl) rfl rfl (ex_move rfl rfl) ?_
      refine ops_ex rfl (guard_none rfl) rfl rfl (ex_eql rfl rfl rfl) ?_
      refine ops_nil ?_
      refine at_then ?_
      refine run_cond (b := (((gt x0 a2686).fRef.fTx) == x1)) rfl (fun hb2700 => ?_) (fun hb2700 => ?_)
      · replace ho2679 := cond_t hb2700 ho2679
        refine run_seq ?_
        refine run_region rfl ?_
        refine ops_ex rfl (guard_none rfl) rfl rfl (ex_assign rfl rfl) ?_
        refine ops_nil ?_
        refine at_then ?_
        refine run_ret ?_
        refine at_block_ret ?_
        refine at_then_ret ?_
        refine at_then_ret ?_
        refine at_block_ret ?_
        refine at_then_ret ?_
        have hR := Option.some.inj ho2679
        subst hR
        have hT := thn_inl H
        have hR := Option.some.inj hT
        subst hR
        exact at_ret1 rfl rfl ⟨_, rfl, rfl, HM⟩
      · replace ho2679 := cond_f hb2700 ho2679
        refine run_skip ?_
        refine at_block ?_
        refine at_then ?_
        refine run_region rfl ?_
        refine ops_ex rfl (guard_none rfl) rfl rfl (ex_move rfl rfl) ?_
        refine ops_ex rfl (guard_none rfl) rfl rfl (ex_add rfl rfl rfl) ?_
        refine ops_ex rfl (guard_none rfl) rfl rfl (ex_assign rfl rfl) ?_
        refine ops_nil ?_
        exact at_again k2693 (ρ1 := [(0, p0), (1, .int .i64 x1), (5, .int .i64 (wrap64 (a2686 + 1)))]) (Nat.lt_succ_self _) ⟨_, ho2679, rfl, HM⟩ (Sub.cons rfl (Sub.cons rfl (Sub.cons rfl Sub.nil)))
    · replace ho2679 := cond_f hb2695 ho2679
      refine run_exit ?_
      refine at_then_exit ?_
      refine at_then_exit ?_
      refine at_block_exit ?_
      exact at_mid (ρ' := []) ⟨(Option.some.inj ho2679), rfl, HM⟩ Sub.nil
  · rintro _ w2701 ⟨rfl, rfl, HM⟩
    replace H := (thn_inr H)
    refine run_seq ?_
    refine run_region rfl ?_
    refine ops_ex rfl (guard_none rfl) rfl rfl (ex_assign rfl rfl) ?_
    refine ops_nil ?_
    refine at_then ?_
    refine run_ret ?_
    have hR := Option.some.inj H
    subst hR
    exact at_ret1 rfl rfl ⟨_, rfl, rfl, HM⟩

def spec_l4At.l0 (x0 : List Coin) (x1 : Ref) : Nat → Int → Option (Int ⊕ Unit)
  | 0, _ => none
  | k + 1, a2770 => (bif (decide (a2770 < (x0.length : Int))) then (chk (idxOk a2770 x0.length) (bif ((((gt x0 a2770).fRef.fTx) == x1.fTx) && (((gt x0 a2770).fRef.fAt) == x1.fAt)) then some (.inl a2770) else spec_l4At.l0 x0 x1 k (wrap64 (a2770 + 1)))) else some (.inr ()))
theorem spec_l4At.l0_z (x0 : List Coin) (x1 : Ref) (a2770 : Int) : spec_l4At.l0 x0 x1 0 a2770 = none := rfl
theorem spec_l4At.l0_s (x0 : List Coin) (x1 : Ref) (k : Nat) (a2770 : Int) : spec_l4At.l0 x0 x1 (k + 1) a2770 = (bif (decide (a2770 < (x0.length : Int))) then (chk (idxOk a2770 x0.length) (bif ((((gt x0 a2770).fRef.fTx) == x1.fTx) && (((gt x0 a2770).fRef.fAt) == x1.fAt)) then some (.inl a2770) else spec_l4At.l0 x0 x1 k (wrap64 (a2770 + 1)))) else some (.inr ())) := rfl
def spec_l4At.f (k : Nat) (x0 : List Coin) (x1 : Ref) : Option Int := ((spec_l4At.l0 x0 x1 k 0).bind fun o2762 => thn o2762 (fun r => some r) (fun _ => some (-1)))
theorem spec_l4At.calls {k : Nat} {x0 : List Coin} {x1 : Ref} {p0 : Value} {w : World} (hp0 : RdS kCoin w p0 x0) {r : Int} (H : spec_l4At.f k x0 x1 = some r) :
    Calls Tryz.prog 49 ([p0, .agg #[(.int .i64 x1.fTx), (.int .i64 x1.fAt)]] : List Value).toArray w (fun e w_ => ∃ v, e = .returned v ∧ v = (.int .i64 r) ∧ Mem w [] w_ []) := by
  have HM := Mem.start w
  refine calls_run (N := 20) Tryz.func49 rfl rfl rfl rfl ?_
  unfold spec_l4At.f at H
  refine run_seq ?_
  refine run_region rfl ?_
  refine ops_does rfl (guard_none rfl) rfl rfl (does_box (cs := [.int .i64 x1.fTx, .int .i64 x1.fAt]) rfl rfl rfl HM) ?_
  rintro _ w2742 ⟨b2739, rfl, HM⟩
  refine ops_ex rfl (guard_none rfl) rfl rfl (ex_assign rfl rfl) ?_
  refine ops_nil ?_
  refine at_then ?_
  obtain ⟨o2762, ho2763, H⟩ := bind_some H
  refine run_mid (fun ρ_ w_ => Sum.inr () = o2762 ∧ ρ_ = [] ∧ Mem w [] w_ []) ?_ ?_
  · skip
    refine run_seq ?_
    refine run_region rfl ?_
    refine ops_ex rfl (guard_none rfl) rfl rfl (ex_assign rfl rfl) ?_
    refine ops_nil ?_
    refine at_then ?_
    refine run_block ?_
    refine run_loop (fun k_ ρ_ w_ => ∃ a2770 : Int, spec_l4At.l0 x0 x1 k_ a2770 = some o2762 ∧ ρ_ = [(0, p0), (3, .pointer (some ⟨b2739, 0, none⟩)), (5, .int .i64 a2770)] ∧ Mem w [] w_ [box b2739 56 [.int .i64 x1.fTx, .int .i64 x1.fAt]]) k (ρ1 := [(0, p0), (3, .pointer (some ⟨b2739, 0, none⟩)), (5, .int .i64 0)]) ⟨_, ho2763, rfl, HM⟩ (Sub.cons rfl (Sub.cons rfl (Sub.cons rfl Sub.nil))) ?_
    clear HM ho2763
    rintro k2777 _ w2778 ⟨a2770, ho2763, rfl, HM⟩
    obtain _ | k2777 := k2777
    · exact nomatch ((spec_l4At.l0_z x0 x1 a2770).symm.trans ho2763)
    replace ho2763 := (spec_l4At.l0_s x0 x1 k2777 a2770).symm.trans ho2763
    refine run_seq ?_
    refine run_seq ?_
    refine run_region rfl ?_
    refine ops_ex rfl (guard_none rfl) rfl rfl (ex_move rfl rfl) ?_
    refine ops_ex rfl (guard_none rfl) rfl rfl (ex_move rfl rfl) ?_
    refine ops_ex rfl (guard_none rfl) rfl rfl (ex_len (d := kCoin) (xs := x0) rfl rfl Tryz.underlying29 hp0) ?_
    refine ops_ex rfl (guard_none rfl) rfl rfl (ex_lss rfl rfl rfl) ?_
    refine ops_nil ?_
    refine at_then ?_
    refine run_cond (b := (decide (a2770 < (x0.length : Int)))) rfl (fun hb2779 => ?_) (fun hb2779 => ?_)
    · replace ho2763 := cond_t hb2779 ho2763
      refine run_skip ?_
      refine at_then ?_
      refine run_seq ?_
      refine run_block ?_
      refine run_seq ?_
      obtain ⟨e2780, ho2763⟩ := chk_some ho2763
      refine run_drawf (fun w_ => Mem w [] w_ [box b2739 56 [.int .i64 x1.fTx, .int .i64 x1.fAt]]) [(0, true), (1, true), (2, true), (3, true), (4, true), (5, true), (6, true)] mixed rfl rfl (by kernel_rfl) ?_
      replace HM := HM.grow (fr_drew _)
      have hS := Mem.suf (M := []) HM
      refine drwp_take rfl (guard_none rfl) rfl rfl (fun w_ hS_ => (ex_move rfl rfl)) hS ?_
      refine drwp_take rfl (guard_none rfl) rfl rfl (fun w_ hS_ => (ex_move rfl rfl)) hS ?_
      obtain ⟨kv2782, hc2781, hk2783⟩ : ∃ u, CellsAt _ (sb p0) (so p0 + (a2770).toNat * 8) [(.int .i64 ((gt x0 a2770).fRef.fTx)), (.int .i64 ((gt x0 a2770).fRef.fAt)), (.int .i64 ((gt x0 a2770).fOut.fValue)), u, (.int .i64 ((gt x0 a2770).fOut.fRule.fNeed)), (.int .i64 ((gt x0 a2770).fOut.fRule.fAfter)), (.int .i64 ((gt x0 a2770).fHeight)), (.bool ((gt x0 a2770).fMined))] ∧ RdS kInt _ u ((gt x0 a2770).fOut.fRule.fKeys) := rd_with1 hp0 e2780
      refine drwp_take rfl (guard_none rfl) rfl rfl (fun w_ hS_ => (ex_indexAddr (d := kCoin) rfl rfl rfl Tryz.underlying29 tsz77 hp0 (idx_lo e2780) (idx_hi e2780))) hS ?_
      refine drwp_take rfl (guard_none rfl) rfl rfl (fun w_ hS_ => (ex_fieldAddr (off' := so p0 + (a2770).toNat * 8) rfl rfl Tryz.underlying77 rfl tsz56 rfl)) hS ?_
      refine drwp_take rfl (guard_none rfl) rfl rfl (fun w_ hS_ => (ex_loadN (cs := [(.int .i64 ((gt x0 a2770).fRef.fTx)), (.int .i64 ((gt x0 a2770).fRef.fAt))]) rfl rfl Tryz.underlying56 rfl tsz56 rfl ((hS_.at_ hc2781).sub 0 2 rfl))) hS ?_
      refine drwp_take rfl (guard_none rfl) rfl rfl (fun w_ hS_ => (ex_loadN (cs := [(.int .i64 x1.fTx), (.int .i64 x1.fAt)]) rfl rfl Tryz.underlying56 rfl tsz56 rfl ((hS_.box_at 0 rfl).sub 0 2 rfl))) hS ?_
      refine drwp_take rfl (guard_none rfl) rfl rfl (fun w_ hS_ => (ex_aeql rfl rfl rfl (by kernel_rfl) (eqs56 _ _ _ _ _))) hS ?_
      refine drwp_done ?_
      refine at_then ?_
      refine run_cond (b := ((((gt x0 a2770).fRef.fTx) == x1.fTx) && (((gt x0 a2770).fRef.fAt) == x1.fAt))) rfl (fun hb2784 => ?_) (fun hb2784 => ?_)
      · replace ho2763 := cond_t hb2784 ho2763
        refine run_seq ?_
        refine run_region rfl ?_
        refine ops_ex rfl (guard_none rfl) rfl rfl (ex_move rfl rfl) ?_
        refine ops_ex rfl (guard_none rfl) rfl rfl (ex_assign rfl rfl) ?_
        refine ops_nil ?_
        refine at_then ?_
        refine run_ret ?_
        refine at_block_ret ?_
        refine at_then_ret ?_
        refine at_then_ret ?_
        refine at_block_ret ?_
        refine at_then_ret ?_
        replace HM := (HM.front 0 rfl rfl).drop
        have hR := Option.some.inj ho2763
        subst hR
        have hT := thn_inl H
        have hR := Option.some.inj hT
        subst hR
        exact at_ret1 rfl rfl ⟨_, rfl, rfl, HM⟩
      · replace ho2763 := cond_f hb2784 ho2763
        refine run_skip ?_
        refine at_block ?_
        refine at_then ?_
        refine run_region rfl ?_
        refine ops_ex rfl (guard_none rfl) rfl rfl (ex_move rfl rfl) ?_
        refine ops_ex rfl (guard_none rfl) rfl rfl (ex_add rfl rfl rfl) ?_
        refine ops_ex rfl (guard_none rfl) rfl rfl (ex_assign rfl rfl) ?_
        refine ops_nil ?_
        exact at_again k2777 (ρ1 := [(0, p0), (3, .pointer (some ⟨b2739, 0, none⟩)), (5, .int .i64 (wrap64 (a2770 + 1)))]) (Nat.lt_succ_self _) ⟨_, ho2763, rfl, HM⟩ (Sub.cons rfl (Sub.cons rfl (Sub.cons rfl Sub.nil)))
    · replace ho2763 := cond_f hb2779 ho2763
      refine run_exit ?_
      refine at_then_exit ?_
      refine at_then_exit ?_
      refine at_block_exit ?_
      replace HM := (HM.front 0 rfl rfl).drop
      exact at_mid (ρ' := []) ⟨(Option.some.inj ho2763), rfl, HM⟩ Sub.nil
  · rintro _ w2785 ⟨rfl, rfl, HM⟩
    replace H := (thn_inr H)
    refine run_seq ?_
    refine run_region rfl ?_
    refine ops_ex rfl (guard_none rfl) rfl rfl (ex_assign rfl rfl) ?_
    refine ops_nil ?_
    refine at_then ?_
    refine run_ret ?_
    have hR := Option.some.inj H
    subst hR
    exact at_ret1 rfl rfl ⟨_, rfl, rfl, HM⟩

def spec_l4Take.l0 (x1 : List Ref) : Nat → (List Coin) → Int → Option (((List Coin) × Bool) ⊕ ((List Coin)))
  | 0, _, _ => none
  | k + 1, a2933, a2935 => (bif (decide (a2935 < (x1.length : Int))) then (chk (idxOk a2935 x1.length) ((spec_l4At.f k a2933 (gt x1 a2935)).bind fun t2959 => (bif (decide (t2959 < 0)) then some (.inl (([] : List Coin), false)) else (chk (cutOk t2959 a2933.length) (chk (cutOk (wrap64 (t2959 + 1)) a2933.length) (chk (leB ((t2959).toNat * 80) 140737488355328) (chk (leB (((t2959).toNat + (a2933.length - (wrap64 (t2959 + 1)).toNat)) * 80) 140737488355328) (chk (decide ((t2959).toNat ≤ (wrap64 (t2959 + 1)).toNat)) (spec_l4Take.l0 x1 k (a2933.take (t2959).toNat ++ a2933.drop (wrap64 (t2959 + 1)).toNat) (wrap64 (a2935 + 1))))))))))) else some (.inr a2933))
theorem spec_l4Take.l0_z (x1 : List Ref) (a2933 : List Coin) (a2935 : Int) : spec_l4Take.l0 x1 0 a2933 a2935 = none := rfl
theorem spec_l4Take.l0_s (x1 : List Ref) (k : Nat) (a2933 : List Coin) (a2935 : Int) : spec_l4Take.l0 x1 (k + 1) a2933 a2935 = (bif (decide (a2935 < (x1.length : Int))) then (chk (idxOk a2935 x1.length) ((spec_l4At.f k a2933 (gt x1 a2935)).bind fun t2959 => (bif (decide (t2959 < 0)) then some (.inl (([] : List Coin), false)) else (chk (cutOk t2959 a2933.length) (chk (cutOk (wrap64 (t2959 + 1)) a2933.length) (chk (leB ((t2959).toNat * 80) 140737488355328) (chk (leB (((t2959).toNat + (a2933.length - (wrap64 (t2959 + 1)).toNat)) * 80) 140737488355328) (chk (decide ((t2959).toNat ≤ (wrap64 (t2959 + 1)).toNat)) (spec_l4Take.l0 x1 k (a2933.take (t2959).toNat ++ a2933.drop (wrap64 (t2959 + 1)).toNat) (wrap64 (a2935 + 1))))))))))) else some (.inr a2933)) := rfl
def spec_l4Take.f (k : Nat) (x0 : List Coin) (x1 : List Ref) : Option ((List Coin) × Bool) := ((spec_l4Copy.f k x0).bind fun t2846 => ((spec_l4Take.l0 x1 k t2846 0).bind fun o2912 => thn o2912 (fun r => some r) (fun a2910 => some (a2910, true))))
theorem spec_l4Take.calls {k : Nat} {x0 : List Coin} {x1 : List Ref} {p0 : Value} {p1 : Value} {w : World} (hp0 : RdS kCoin w p0 x0) (hp1 : RdS kRef w p1 x1) {r : (List Coin) × Bool} (H : spec_l4Take.f k x0 x1 = some r) :
    Calls Tryz.prog 53 ([p0, p1] : List Value).toArray w (fun e w_ => ∃ v, e = .returned v ∧ ∃ u0 : Value, v = (.tuple #[u0, .bool r.2]) ∧ Mem w [] w_ [own kCoin 77 u0 r.1]) := by
  have HM := Mem.start w
  refine calls_run (N := 36) Tryz.func53 rfl rfl rfl rfl ?_
  unfold spec_l4Take.f at H
  refine run_seq ?_
  refine run_region rfl ?_
  refine ops_ex rfl (guard_none rfl) rfl rfl (ex_assign rfl rfl) ?_
  refine ops_ex rfl (guard_none rfl) rfl rfl (ex_assign rfl rfl) ?_
  refine ops_nil ?_
  refine at_then ?_
  refine run_seq ?_
  obtain ⟨t2846, h2847, H⟩ := bind_some H
  refine run_region rfl ?_
  refine ops_ex rfl (guard_none rfl) rfl rfl (ex_move rfl rfl) ?_
  refine ops_does rfl (guard_none rfl) rfl rfl (does_callk rfl callok77 rfl (spec_l4Copy.calls (x0 := x0) (HM.rd hp0) h2847)) ?_
  rintro u2848 w2850 ⟨_, rfl, hn⟩
  replace HM : Mem w [] w2850 [own kCoin 77 u2848 t2846] := HM.call hn
  refine ops_ex rfl (guard_none rfl) rfl rfl (ex_assign rfl rfl) ?_
  refine ops_nil ?_
  refine at_then ?_
  obtain ⟨o2912, ho2913, H⟩ := bind_some H
  refine run_mid (fun ρ_ w_ => ∃ v2909 : Value, ∃ a2910 : List Coin, Sum.inr a2910 = o2912 ∧ ρ_ = [(6, v2909)] ∧ Mem w [] w_ [own kCoin 77 v2909 a2910]) ?_ ?_
  · skip
    refine run_seq ?_
    refine run_region rfl ?_
    refine ops_ex rfl (guard_none rfl) rfl rfl (ex_assign rfl rfl) ?_
    refine ops_nil ?_
    refine at_then ?_
    refine run_block ?_
    refine run_loop (fun k_ ρ_ w_ => ∃ v2932 : Value, ∃ a2933 : List Coin, ∃ a2935 : Int, spec_l4Take.l0 x1 k_ a2933 a2935 = some o2912 ∧ ρ_ = [(1, p1), (6, v2932), (7, .int .i64 a2935)] ∧ Mem w [] w_ [own kCoin 77 v2932 a2933]) k (ρ1 := [(1, p1), (6, u2848), (7, .int .i64 0)]) ⟨_, _, _, ho2913, rfl, HM⟩ (Sub.cons rfl (Sub.cons rfl (Sub.cons rfl Sub.nil))) ?_
    clear HM ho2913
    rintro k2954 _ w2955 ⟨v2932, a2933, a2935, ho2913, rfl, HM⟩
    obtain _ | k2954 := k2954
    · exact nomatch ((spec_l4Take.l0_z x1 a2933 a2935).symm.trans ho2913)
    replace ho2913 := (spec_l4Take.l0_s x1 k2954 a2933 a2935).symm.trans ho2913
    refine run_seq ?_
    refine run_seq ?_
    refine run_region rfl ?_
    refine ops_ex rfl (guard_none rfl) rfl rfl (ex_move rfl rfl) ?_
    refine ops_ex rfl (guard_none rfl) rfl rfl (ex_move rfl rfl) ?_
    refine ops_ex rfl (guard_none rfl) rfl rfl (ex_len (d := kRef) (xs := x1) rfl rfl Tryz.underlying34 hp1) ?_
    refine ops_ex rfl (guard_none rfl) rfl rfl (ex_lss rfl rfl rfl) ?_
    refine ops_nil ?_
    refine at_then ?_
    refine run_cond (b := (decide (a2935 < (x1.length : Int)))) rfl (fun hb2956 => ?_) (fun hb2956 => ?_)
    · replace ho2913 := cond_t hb2956 ho2913
      refine run_skip ?_
      refine at_then ?_
      refine run_seq ?_
      refine run_block ?_
      refine run_seq ?_
      obtain ⟨e2957, ho2913⟩ := chk_some ho2913
      obtain ⟨t2959, h2960, ho2913⟩ := bind_some ho2913
      refine run_region rfl ?_
      refine ops_ex rfl (guard_none rfl) rfl rfl (ex_move rfl rfl) ?_
      refine ops_ex rfl (guard_none rfl) rfl rfl (ex_move rfl rfl) ?_
      refine ops_ex rfl (guard_none rfl) rfl rfl (ex_move rfl rfl) ?_
      have hc2958 : CellsAt _ (sb p1) (so p1 + (a2935).toNat * 2) [(.int .i64 ((gt x1 a2935).fTx)), (.int .i64 ((gt x1 a2935).fAt))] := rd_plain hp1 e2957
      refine ops_ex rfl (guard_none rfl) rfl rfl (ex_indexAddr (d := kRef) rfl rfl rfl Tryz.underlying34 tsz56 hp1 (idx_lo e2957) (idx_hi e2957)) ?_
      refine ops_ex rfl (guard_none rfl) rfl rfl (ex_loadN (cs := [(.int .i64 ((gt x1 a2935).fTx)), (.int .i64 ((gt x1 a2935).fAt))]) rfl rfl Tryz.underlying56 rfl tsz56 rfl ((HM.at_ hc2958).sub 0 2 rfl)) ?_
      refine ops_does rfl (guard_none rfl) rfl rfl (does_callk rfl callok49 rfl (spec_l4At.calls (x0 := a2933) (x1 := (gt x1 a2935)) (HM.own_rd 0 rfl) h2960)) ?_
      rintro _ w2961 ⟨rfl, hn⟩
      replace HM : Mem w [] w2961 [own kCoin 77 v2932 a2933] := HM.call hn
      refine ops_ex rfl (guard_none rfl) rfl rfl (ex_assign rfl rfl) ?_
      refine ops_nil ?_
      refine at_then ?_
      refine run_seq ?_
      refine run_seq ?_
      refine run_region rfl ?_
      refine ops_ex rfl (guard_none rfl) rfl rfl (ex_move rfl rfl) ?_
      refine ops_ex rfl (guard_none rfl) rfl rfl (ex_lss rfl rfl rfl) ?_
      refine ops_nil ?_
      refine at_then ?_
      refine run_cond (b := (decide (t2959 < 0))) rfl (fun hb2963 => ?_) (fun hb2963 => ?_)
      · replace ho2913 := cond_t hb2963 ho2913
        refine run_seq ?_
        refine run_region rfl ?_
        refine ops_ex rfl (guard_none rfl) rfl rfl (ex_assign rfl rfl) ?_
        refine ops_ex rfl (guard_none rfl) rfl rfl (ex_assign rfl rfl) ?_
        refine ops_nil ?_
        refine at_then ?_
        refine run_ret ?_
        refine at_then_ret ?_
        refine at_block_ret ?_
        refine at_then_ret ?_
        refine at_then_ret ?_
        refine at_block_ret ?_
        refine at_then_ret ?_
        replace HM := HM.empty kCoin 77 none
        replace HM := (HM.front 1 rfl rfl).drop
        have hR := Option.some.inj ho2913
        subst hR
        have hT := thn_inl H
        have hR := Option.some.inj hT
        subst hR
        exact at_ret2 rfl rfl rfl ⟨_, rfl, _, rfl, HM⟩
      · replace ho2913 := cond_f hb2963 ho2913
        refine run_skip ?_
        refine at_then ?_
        obtain ⟨e2965, ho2913⟩ := chk_some ho2913
        obtain ⟨e2966, ho2913⟩ := chk_some ho2913
        obtain ⟨e2971, ho2913⟩ := chk_some ho2913
        obtain ⟨e2973, ho2913⟩ := chk_some ho2913
        obtain ⟨e2974, ho2913⟩ := chk_some ho2913
        refine run_drawf (fun w_ => Mem w [] w_ []) [(1, true), (2, true), (3, true), (5, true), (6, true), (7, true), (8, true), (0, false), (4, false), (9, false), (10, true)] mixed rfl rfl (by kernel_rfl) ?_
        replace HM := HM.grow (fr_drew _)
        have hS := Mem.suf (M := [own kCoin 77 v2932 a2933]) HM
        refine drwp_take rfl (guard_none rfl) rfl rfl (fun w_ hS_ => (ex_move rfl rfl)) hS ?_
        refine drwp_take rfl (guard_none rfl) rfl rfl (fun w_ hS_ => (ex_move rfl rfl)) hS ?_
        refine drwp_take rfl (guard_none rfl) rfl rfl (fun w_ hS_ => (ex_cutvH rfl rfl rfl Tryz.underlying29 tsz77 (cut_lo e2965) ((HM.own_rd 0 rfl).cap.le (cut_hi e2965)))) hS ?_
        refine drwp_take rfl (guard_none rfl) rfl rfl (fun w_ hS_ => (ex_move rfl rfl)) hS ?_
        refine drwp_take rfl (guard_none rfl) rfl rfl (fun w_ hS_ => (ex_move rfl rfl)) hS ?_
        refine drwp_take rfl (guard_none rfl) rfl rfl (fun w_ hS_ => (ex_add rfl rfl rfl)) hS ?_
        refine drwp_take rfl (guard_none rfl) rfl rfl (fun w_ hS_ => (ex_cutvL rfl rfl rfl Tryz.underlying29 tsz77 (HM.own_rd 0 rfl) e2966)) hS ?_
        refine drwp_one rfl (guard_none rfl) rfl rfl (does_lit (e := 77) (cs := []) (xs := ([] : List Coin)) kCoin rfl rfl (fun _ => by kernel_rfl) rfl rfl (fun _ _ h => by have h' : _ = [] := h; subst h'; exact .nil) HM.emp) ?_
        rintro v2967 w2976 HM
        refine ⟨Mem.suf (M := [own kCoin 77 v2967 ([] : List Coin), own kCoin 77 v2932 a2933]) HM, ?_⟩
        have hS := Mem.suf (M := [own kCoin 77 v2967 ([] : List Coin), own kCoin 77 v2932 a2933]) HM
        replace HM := HM.front 1 rfl rfl
        replace HM := HM.front 1 rfl rfl
        refine drwp_one rfl (guard_none rfl) rfl rfl (does_mv1 (k := (t2959).toNat) kCoin rfl rfl rfl Tryz.underlying29 tsz77 tby77 tz77 rfl rfl (cut_hi e2965) (leB_le e2971) HM) ?_
        rintro v2970 w2977 HM
        refine ⟨Mem.suf (M := [mvC kCoin 77 v2932 a2933 v2970 (t2959).toNat]) HM, ?_⟩
        have hS := Mem.suf (M := [mvC kCoin 77 v2932 a2933 v2970 (t2959).toNat]) HM
        refine drwp_one rfl (guard_none rfl) rfl rfl (does_mv2 (j := (wrap64 (t2959 + 1)).toNat) kCoin rfl rfl rfl Tryz.underlying29 tsz77 tby77 tz77 rfl rfl (of_decide_eq_true e2974) (cut_hi e2966) (leB_le e2973) HM) ?_
        rintro v2972 w2978 HM
        refine ⟨Mem.suf (M := [own kCoin 77 v2972 (a2933.take (t2959).toNat ++ a2933.drop (wrap64 (t2959 + 1)).toNat)]) HM, ?_⟩
        have hS := Mem.suf (M := [own kCoin 77 v2972 (a2933.take (t2959).toNat ++ a2933.drop (wrap64 (t2959 + 1)).toNat)]) HM
        refine drwp_take rfl (guard_none rfl) rfl rfl (fun w_ hS_ => (ex_assign rfl rfl)) hS ?_
        refine drwp_done ?_
        refine at_block ?_
        refine at_then ?_
        refine run_region rfl ?_
        refine ops_ex rfl (guard_none rfl) rfl rfl (ex_move rfl rfl) ?_
        refine ops_ex rfl (guard_none rfl) rfl rfl (ex_add rfl rfl rfl) ?_
        refine ops_ex rfl (guard_none rfl) rfl rfl (ex_assign rfl rfl) ?_
        refine ops_nil ?_
        exact at_again k2954 (ρ1 := [(1, p1), (6, v2972), (7, .int .i64 (wrap64 (a2935 + 1)))]) (Nat.lt_succ_self _) ⟨_, _, _, ho2913, rfl, HM⟩ (Sub.cons rfl (Sub.cons rfl (Sub.cons rfl Sub.nil)))
    · replace ho2913 := cond_f hb2956 ho2913
      refine run_exit ?_
      refine at_then_exit ?_
      refine at_then_exit ?_
      refine at_block_exit ?_
      exact at_mid (ρ' := [(6, v2932)]) ⟨_, _, (Option.some.inj ho2913), rfl, HM⟩ (Sub.cons rfl Sub.nil)
  · rintro _ w2979 ⟨v2909, a2910, rfl, rfl, HM⟩
    replace H := (thn_inr H)
    refine run_seq ?_
    refine run_region rfl ?_
    refine ops_ex rfl (guard_none rfl) rfl rfl (ex_move rfl rfl) ?_
    refine ops_ex rfl (guard_none rfl) rfl rfl (ex_assign rfl rfl) ?_
    refine ops_ex rfl (guard_none rfl) rfl rfl (ex_assign rfl rfl) ?_
    refine ops_nil ?_
    refine at_then ?_
    refine run_ret ?_
    have hR := Option.some.inj H
    subst hR
    exact at_ret2 rfl rfl rfl ⟨_, rfl, _, rfl, HM⟩
end Go.Proofs.YtcamddjlhchkfaaGreat.Zk
