/- What functions of the program compute, each as a plain function, and that they do. Conditions: as each theorem states them. -/
import Derived.Test.YtcamddjlhchkfaaGreatSpentByZkF2
namespace Go.Proofs.YtcamddjlhchkfaaGreat.Zk
open Go Go.RowKit Go.IntWalk Go.Proofs
set_option linter.unusedVariables false
set_option linter.unusedSimpArgs false
set_option maxRecDepth 100000
set_option maxHeartbeats 4000000
def spec_l2Copy.f (k : Nat) (x0 : Rule) : Option Rule := (chk (leB ((([] : List Int).length + x0.fKeys.length) * 8) 140737488355328) (some (⟨([] : List Int) ++ x0.fKeys, x0.fNeed, x0.fAfter⟩ : Rule)))
theorem spec_l2Copy.calls {k : Nat} {x0 : Rule} {p0_0 : Value} {w : World} (hp0_0 : RdS kInt w p0_0 x0.fKeys) {r : Rule} (H : spec_l2Copy.f k x0 = some r) :
    Calls Tryz.prog 115 ([.agg #[p0_0, (.int .i64 x0.fNeed), (.int .i64 x0.fAfter)]] : List Value).toArray w (fun e w_ => ∃ v, e = .returned v ∧ ∃ u0 : Value, v = (.agg #[u0, .int .i64 r.fNeed, .int .i64 r.fAfter]) ∧ Mem w [] w_ [own kInt 2 u0 r.fKeys]) := by
  have HM := Mem.start w
  refine calls_run (N := 9) Tryz.func115 rfl rfl rfl rfl ?_
  unfold spec_l2Copy.f at H
  refine run_seq ?_
  refine run_region rfl ?_
  refine ops_does rfl (guard_none rfl) rfl rfl (does_box (cs := [p0_0, .int .i64 x0.fNeed, .int .i64 x0.fAfter]) rfl rfl rfl HM) ?_
  rintro _ w2242 ⟨b2236, rfl, HM⟩
  refine ops_does rfl (guard_none rfl) rfl rfl (does_alloc (cs := [.slice none 0 0, .int .i64 0, .int .i64 0]) rfl tz73 rfl HM) ?_
  rintro _ w2243 ⟨b2239, rfl, HM⟩
  refine ops_nil ?_
  refine at_then ?_
  refine run_seq ?_
  obtain ⟨e2247, H⟩ := chk_some H
  refine run_region rfl ?_
  refine ops_does rfl (guard_none rfl) rfl rfl (does_lit (e := 2) (cs := []) (xs := ([] : List Int)) kInt rfl rfl (fun _ => by kernel_rfl) rfl rfl (fun _ _ h => by have h' : _ = [] := h; subst h'; exact .nil) HM.emp) ?_
  rintro v2244 w2250 HM
  refine ops_ex rfl (guard_none rfl) rfl rfl (ex_fieldAddr (off' := 0) rfl rfl Tryz.underlying73 rfl tsz60 rfl) ?_
  refine ops_ex rfl (guard_none rfl) rfl rfl (ex_load1 rfl rfl Tryz.underlying60 rfl ((HM.box_at 2 rfl) 0 _ rfl)) ?_
  refine ops_does rfl (guard_none rfl) rfl rfl (does_appendR kInt flat_plain rfl rfl rfl Tryz.underlying60 tsz2 rfl tby2 tz2 rfl rfl (leB_le e2247) (HM.rd hp0_0) HM) ?_
  rintro v2248 w2251 HM
  refine ops_ex rfl (guard_none rfl) rfl rfl (ex_fieldAddr (off' := 0) rfl rfl Tryz.underlying73 rfl tsz60 rfl) ?_
  replace HM := HM.front 2 rfl rfl
  refine ops_doesS rfl (guard_none rfl) rfl (does_store (vs := [v2248]) (cs' := [v2248, .int .i64 x0.fNeed, .int .i64 x0.fAfter]) rfl rfl rfl (rd_cells (HM.own_rd 1 rfl)) tsz60 (Ones.rd (HM.own_rd 1 rfl) Ones.nil) rfl rfl HM) ?_
  rintro w2252 HM
  refine ops_nil ?_
  refine at_then ?_
  refine run_seq ?_
  refine run_region rfl ?_
  refine ops_ex rfl (guard_none rfl) rfl rfl (ex_loadN (cs := [v2248, (.int .i64 x0.fNeed), (.int .i64 x0.fAfter)]) rfl rfl Tryz.underlying73 rfl tsz73 rfl ((HM.box_at 0 rfl).sub 0 3 rfl)) ?_
  replace HM := HM.front 2 rfl rfl
  refine ops_doesS rfl (guard_none rfl) rfl (does_store (vs := [v2248, .int .i64 x0.fNeed, .int .i64 x0.fAfter]) (cs' := [v2248, .int .i64 x0.fNeed, .int .i64 x0.fAfter]) rfl rfl rfl rfl tsz73 (Ones.rd (HM.own_rd 2 rfl) (Ones.int (Ones.int Ones.nil))) rfl rfl HM) ?_
  rintro w2253 HM
  refine ops_nil ?_
  refine at_then ?_
  refine run_ret ?_
  replace HM := (HM.front 1 rfl rfl).drop
  have hcb0 := HM.box_at 0 rfl
  replace HM := (HM.front 0 rfl rfl).drop
  have hR := Option.some.inj H
  subst hR
  exact at_retN rfl rfl Tryz.underlying73 rfl tsz73 rfl hcb0 ⟨_, rfl, _, rfl, HM⟩

def spec_l4Copy.l0 (x0 : List Coin) : Nat → (List Coin) → Int → Option ((List Coin))
  | 0, _, _ => none
  | k + 1, a2395, a2397 => (bif (decide (a2397 < (x0.length : Int))) then (chk (idxOk a2397 x0.length) ((spec_l2Copy.f k ((gt x0 a2397).fOut.fRule)).bind fun t2428 => (chk (leB ((a2395.length + ([(⟨(gt x0 a2397).fRef, (⟨(gt x0 a2397).fOut.fValue, t2428⟩ : Out), (gt x0 a2397).fHeight, (gt x0 a2397).fMined⟩ : Coin)] : List Coin).length) * 80) 140737488355328) (spec_l4Copy.l0 x0 k (a2395 ++ ([(⟨(gt x0 a2397).fRef, (⟨(gt x0 a2397).fOut.fValue, t2428⟩ : Out), (gt x0 a2397).fHeight, (gt x0 a2397).fMined⟩ : Coin)] : List Coin)) (wrap64 (a2397 + 1)))))) else some a2395)
theorem spec_l4Copy.l0_z (x0 : List Coin) (a2395 : List Coin) (a2397 : Int) : spec_l4Copy.l0 x0 0 a2395 a2397 = none := rfl
theorem spec_l4Copy.l0_s (x0 : List Coin) (k : Nat) (a2395 : List Coin) (a2397 : Int) : spec_l4Copy.l0 x0 (k + 1) a2395 a2397 = (bif (decide (a2397 < (x0.length : Int))) then (chk (idxOk a2397 x0.length) ((spec_l2Copy.f k ((gt x0 a2397).fOut.fRule)).bind fun t2428 => (chk (leB ((a2395.length + ([(⟨(gt x0 a2397).fRef, (⟨(gt x0 a2397).fOut.fValue, t2428⟩ : Out), (gt x0 a2397).fHeight, (gt x0 a2397).fMined⟩ : Coin)] : List Coin).length) * 80) 140737488355328) (spec_l4Copy.l0 x0 k (a2395 ++ ([(⟨(gt x0 a2397).fRef, (⟨(gt x0 a2397).fOut.fValue, t2428⟩ : Out), (gt x0 a2397).fHeight, (gt x0 a2397).fMined⟩ : Coin)] : List Coin)) (wrap64 (a2397 + 1)))))) else some a2395) := rfl
def spec_l4Copy.f (k : Nat) (x0 : List Coin) : Option ((List Coin)) := ((spec_l4Copy.l0 x0 k ([] : List Coin) 0).bind (fun a2372 => some a2372))
theorem spec_l4Copy.calls {k : Nat} {x0 : List Coin} {p0 : Value} {w : World} (hp0 : RdS kCoin w p0 x0) {r : (List Coin)} (H : spec_l4Copy.f k x0 = some r) :
    Calls Tryz.prog 77 ([p0] : List Value).toArray w (fun e w_ => ∃ v, e = .returned v ∧ ∃ u0 : Value, v = u0 ∧ Mem w [] w_ [own kCoin 77 u0 r]) := by
  have HM := Mem.start w
  refine calls_run (N := 28) Tryz.func77 rfl rfl rfl rfl ?_
  unfold spec_l4Copy.f at H
  refine run_seq ?_
  refine run_region rfl ?_
  refine ops_ex rfl (guard_none rfl) rfl rfl (ex_assign rfl rfl) ?_
  refine ops_nil ?_
  refine at_then ?_
  refine run_seq ?_
  refine run_region rfl ?_
  refine ops_does rfl (guard_none rfl) rfl rfl (does_lit (e := 77) (cs := []) (xs := ([] : List Coin)) kCoin rfl rfl (fun _ => by kernel_rfl) rfl rfl (fun _ _ h => by have h' : _ = [] := h; subst h'; exact .nil) HM.emp) ?_
  rintro v2309 w2312 HM
  refine ops_ex rfl (guard_none rfl) rfl rfl (ex_assign rfl rfl) ?_
  refine ops_nil ?_
  refine at_then ?_
  obtain ⟨o2374, ho2375, H⟩ := bind_some H
  refine run_mid (fun ρ_ w_ => ∃ v2371 : Value, ∃ a2372 : List Coin, a2372 = o2374 ∧ ρ_ = [(3, v2371)] ∧ Mem w [] w_ [own kCoin 77 v2371 a2372]) ?_ ?_
  · clear H
    refine run_seq ?_
    refine run_region rfl ?_
    refine ops_ex rfl (guard_none rfl) rfl rfl (ex_assign rfl rfl) ?_
    refine ops_nil ?_
    refine at_then ?_
    refine run_block ?_
    refine run_loop (fun k_ ρ_ w_ => ∃ v2394 : Value, ∃ a2395 : List Coin, ∃ a2397 : Int, spec_l4Copy.l0 x0 k_ a2395 a2397 = some o2374 ∧ ρ_ = [(0, p0), (3, v2394), (4, .int .i64 a2397)] ∧ Mem w [] w_ [own kCoin 77 v2394 a2395]) k (ρ1 := [(0, p0), (3, v2309), (4, .int .i64 0)]) ⟨_, _, _, ho2375, rfl, HM⟩ (Sub.cons rfl (Sub.cons rfl (Sub.cons rfl Sub.nil))) ?_
    clear HM ho2375
    rintro k2416 _ w2417 ⟨v2394, a2395, a2397, ho2375, rfl, HM⟩
    obtain _ | k2416 := k2416
    · exact nomatch ((spec_l4Copy.l0_z x0 a2395 a2397).symm.trans ho2375)
    replace ho2375 := (spec_l4Copy.l0_s x0 k2416 a2395 a2397).symm.trans ho2375
    refine run_seq ?_
    refine run_seq ?_
    refine run_region rfl ?_
    refine ops_ex rfl (guard_none rfl) rfl rfl (ex_move rfl rfl) ?_
    refine ops_ex rfl (guard_none rfl) rfl rfl (ex_move rfl rfl) ?_
    refine ops_ex rfl (guard_none rfl) rfl rfl (ex_len (d := kCoin) (xs := x0) rfl rfl Tryz.underlying29 hp0) ?_
    refine ops_ex rfl (guard_none rfl) rfl rfl (ex_lss rfl rfl rfl) ?_
    refine ops_nil ?_
    refine at_then ?_
    refine run_cond (b := (decide (a2397 < (x0.length : Int)))) rfl (fun hb2418 => ?_) (fun hb2418 => ?_)
    · replace ho2375 := cond_t hb2418 ho2375
      refine run_skip ?_
      refine at_then ?_
      refine run_seq ?_
      refine run_block ?_
      refine run_seq ?_
      obtain ⟨e2419, ho2375⟩ := chk_some ho2375
      refine run_region rfl ?_
      refine ops_ex rfl (guard_none rfl) rfl rfl (ex_move rfl rfl) ?_
      refine ops_ex rfl (guard_none rfl) rfl rfl (ex_move rfl rfl) ?_
      obtain ⟨kv2421, hc2420, hk2422⟩ : ∃ u, CellsAt _ (sb p0) (so p0 + (a2397).toNat * 8) [(.int .i64 ((gt x0 a2397).fRef.fTx)), (.int .i64 ((gt x0 a2397).fRef.fAt)), (.int .i64 ((gt x0 a2397).fOut.fValue)), u, (.int .i64 ((gt x0 a2397).fOut.fRule.fNeed)), (.int .i64 ((gt x0 a2397).fOut.fRule.fAfter)), (.int .i64 ((gt x0 a2397).fHeight)), (.bool ((gt x0 a2397).fMined))] ∧ RdS kInt _ u ((gt x0 a2397).fOut.fRule.fKeys) := rd_with1 hp0 e2419
      refine ops_ex rfl (guard_none rfl) rfl rfl (ex_indexAddr (d := kCoin) rfl rfl rfl Tryz.underlying29 tsz77 hp0 (idx_lo e2419) (idx_hi e2419)) ?_
      refine ops_ex rfl (guard_none rfl) rfl rfl (ex_loadN (cs := [(.int .i64 ((gt x0 a2397).fRef.fTx)), (.int .i64 ((gt x0 a2397).fRef.fAt)), (.int .i64 ((gt x0 a2397).fOut.fValue)), kv2421, (.int .i64 ((gt x0 a2397).fOut.fRule.fNeed)), (.int .i64 ((gt x0 a2397).fOut.fRule.fAfter)), (.int .i64 ((gt x0 a2397).fHeight)), (.bool ((gt x0 a2397).fMined))]) rfl rfl Tryz.underlying77 rfl tsz77 rfl ((HM.at_ hc2420).sub 0 8 rfl)) ?_
      refine ops_does rfl (guard_none rfl) rfl rfl (does_alloc (cs := [.int .i64 0, .int .i64 0, .int .i64 0, .slice none 0 0, .int .i64 0, .int .i64 0, .int .i64 0, .bool false]) rfl tz77 rfl HM) ?_
      rintro _ w2426 ⟨b2423, rfl, HM⟩
      refine ops_doesS rfl (guard_none rfl) rfl (does_store (vs := [.int .i64 ((gt x0 a2397).fRef.fTx), .int .i64 ((gt x0 a2397).fRef.fAt), .int .i64 ((gt x0 a2397).fOut.fValue), kv2421, .int .i64 ((gt x0 a2397).fOut.fRule.fNeed), .int .i64 ((gt x0 a2397).fOut.fRule.fAfter), .int .i64 ((gt x0 a2397).fHeight), .bool ((gt x0 a2397).fMined)]) (cs' := [.int .i64 ((gt x0 a2397).fRef.fTx), .int .i64 ((gt x0 a2397).fRef.fAt), .int .i64 ((gt x0 a2397).fOut.fValue), kv2421, .int .i64 ((gt x0 a2397).fOut.fRule.fNeed), .int .i64 ((gt x0 a2397).fOut.fRule.fAfter), .int .i64 ((gt x0 a2397).fHeight), .bool ((gt x0 a2397).fMined)]) rfl rfl rfl rfl tsz77 (Ones.int (Ones.int (Ones.int (Ones.rd hk2422 (Ones.int (Ones.int (Ones.int (Ones.bool Ones.nil)))))))) rfl rfl HM) ?_
      rintro w2427 HM
      refine ops_nil ?_
      refine at_then ?_
      refine run_seq ?_
      obtain ⟨t2428, h2429, ho2375⟩ := bind_some ho2375
      refine run_region rfl ?_
      refine ops_ex rfl (guard_none rfl) rfl rfl (ex_fieldAddr (off' := 2) rfl rfl Tryz.underlying77 rfl tsz75 rfl) ?_
      refine ops_ex rfl (guard_none rfl) rfl rfl (ex_fieldAddr (off' := 3) rfl rfl Tryz.underlying75 rfl tsz73 rfl) ?_
      refine ops_ex rfl (guard_none rfl) rfl rfl (ex_loadN (cs := [kv2421, (.int .i64 ((gt x0 a2397).fOut.fRule.fNeed)), (.int .i64 ((gt x0 a2397).fOut.fRule.fAfter))]) rfl rfl Tryz.underlying73 rfl tsz73 rfl ((HM.box_at 0 rfl).sub 3 3 rfl)) ?_
      refine ops_does rfl (guard_none rfl) rfl rfl (does_callk rfl callok115 rfl (spec_l2Copy.calls (x0 := (gt x0 a2397).fOut.fRule) (HM.rd hk2422) h2429)) ?_
      rintro _ w2432 ⟨u2430, rfl, hn⟩
      replace HM : Mem w [] w2432 [own kInt 2 u2430 t2428.fKeys, box b2423 77 [.int .i64 ((gt x0 a2397).fRef.fTx), .int .i64 ((gt x0 a2397).fRef.fAt), .int .i64 ((gt x0 a2397).fOut.fValue), kv2421, .int .i64 ((gt x0 a2397).fOut.fRule.fNeed), .int .i64 ((gt x0 a2397).fOut.fRule.fAfter), .int .i64 ((gt x0 a2397).fHeight), .bool ((gt x0 a2397).fMined)], own kCoin 77 v2394 a2395] := HM.call hn
      refine ops_ex rfl (guard_none rfl) rfl rfl (ex_fieldAddr (off' := 2) rfl rfl Tryz.underlying77 rfl tsz75 rfl) ?_
      refine ops_ex rfl (guard_none rfl) rfl rfl (ex_fieldAddr (off' := 3) rfl rfl Tryz.underlying75 rfl tsz73 rfl) ?_
      replace HM := HM.front 1 rfl rfl
      refine ops_doesS rfl (guard_none rfl) rfl (does_store (vs := [u2430, .int .i64 t2428.fNeed, .int .i64 t2428.fAfter]) (cs' := [.int .i64 ((gt x0 a2397).fRef.fTx), .int .i64 ((gt x0 a2397).fRef.fAt), .int .i64 ((gt x0 a2397).fOut.fValue), u2430, .int .i64 t2428.fNeed, .int .i64 t2428.fAfter, .int .i64 ((gt x0 a2397).fHeight), .bool ((gt x0 a2397).fMined)]) rfl rfl rfl rfl tsz73 (Ones.rd (HM.own_rd 1 rfl) (Ones.int (Ones.int Ones.nil))) rfl rfl HM) ?_
      rintro w2433 HM
      refine ops_nil ?_
      refine at_then ?_
      obtain ⟨e2437, ho2375⟩ := chk_some ho2375
      refine run_region rfl ?_
      refine ops_ex rfl (guard_none rfl) rfl rfl (ex_move rfl rfl) ?_
      refine ops_ex rfl (guard_none rfl) rfl rfl (ex_loadN (cs := [(.int .i64 ((gt x0 a2397).fRef.fTx)), (.int .i64 ((gt x0 a2397).fRef.fAt)), (.int .i64 ((gt x0 a2397).fOut.fValue)), u2430, (.int .i64 t2428.fNeed), (.int .i64 t2428.fAfter), (.int .i64 ((gt x0 a2397).fHeight)), (.bool ((gt x0 a2397).fMined))]) rfl rfl Tryz.underlying77 rfl tsz77 rfl ((HM.box_at 0 rfl).sub 0 8 rfl)) ?_
      replace HM := HM.front 1 rfl rfl
      refine ops_does rfl (guard_none rfl) rfl rfl (does_lit (e := 77) (cs := [(.int .i64 ((gt x0 a2397).fRef.fTx)), (.int .i64 ((gt x0 a2397).fRef.fAt)), (.int .i64 ((gt x0 a2397).fOut.fValue)), u2430, (.int .i64 t2428.fNeed), (.int .i64 t2428.fAfter), (.int .i64 ((gt x0 a2397).fHeight)), (.bool ((gt x0 a2397).fMined))]) (xs := ([(⟨(gt x0 a2397).fRef, (⟨(gt x0 a2397).fOut.fValue, t2428⟩ : Out), (gt x0 a2397).fHeight, (gt x0 a2397).fMined⟩ : Coin)] : List Coin)) kCoin rfl rfl (fun _ => by kernel_rfl) rfl rfl (fun _ _ h => by have := Elems.cons (d := kCoin) (x := (⟨(gt x0 a2397).fRef, (⟨(gt x0 a2397).fOut.fValue, t2428⟩ : Out), (gt x0 a2397).fHeight, (gt x0 a2397).fMined⟩ : Coin)) ⟨_, rfl, h⟩ .nil; rw [List.append_nil, List.append_nil] at this; exact this) HM) ?_
      rintro v2434 w2440 HM
      replace HM := HM.front 2 rfl rfl
      refine ops_does rfl (guard_none rfl) rfl rfl (does_append kCoin rfl rfl rfl Tryz.underlying29 tsz77 rfl tby77 tz77 rfl rfl (leB_le e2437) HM) ?_
      rintro v2438 w2441 HM
      refine ops_ex rfl (guard_none rfl) rfl rfl (ex_assign rfl rfl) ?_
      refine ops_nil ?_
      refine at_block ?_
      refine at_then ?_
      refine run_region rfl ?_
      refine ops_ex rfl (guard_none rfl) rfl rfl (ex_move rfl rfl) ?_
      refine ops_ex rfl (guard_none rfl) rfl rfl (ex_add rfl rfl rfl) ?_
      refine ops_ex rfl (guard_none rfl) rfl rfl (ex_assign rfl rfl) ?_
      refine ops_nil ?_
      replace HM := (HM.front 1 rfl rfl).drop
      exact at_again k2416 (ρ1 := [(0, p0), (3, v2438), (4, .int .i64 (wrap64 (a2397 + 1)))]) (Nat.lt_succ_self _) ⟨_, _, _, ho2375, rfl, HM⟩ (Sub.cons rfl (Sub.cons rfl (Sub.cons rfl Sub.nil)))
    · replace ho2375 := cond_f hb2418 ho2375
      refine run_exit ?_
      refine at_then_exit ?_
      refine at_then_exit ?_
      refine at_block_exit ?_
      exact at_mid (ρ' := [(3, v2394)]) ⟨_, _, (Option.some.inj ho2375), rfl, HM⟩ (Sub.cons rfl Sub.nil)
  · rintro _ w2442 ⟨v2371, a2372, rfl, rfl, HM⟩
    refine run_seq ?_
    refine run_region rfl ?_
    refine ops_ex rfl (guard_none rfl) rfl rfl (ex_move rfl rfl) ?_
    refine ops_ex rfl (guard_none rfl) rfl rfl (ex_assign rfl rfl) ?_
    refine ops_nil ?_
    refine at_then ?_
    refine run_ret ?_
    have hR := Option.some.inj H
    subst hR
    exact at_ret1 rfl rfl ⟨_, rfl, _, rfl, HM⟩

def spec_l5Spent.l0 (x0 : List Coin) (x1 : Tx) : Nat → (List Coin) → Int → Option ((List Coin))
  | 0, _, _ => none
  | k + 1, a2533, a2535 => (bif (decide (a2535 < (x0.length : Int))) then (chk (idxOk a2535 x0.length) ((spec_l3Among.f k x1.fIns ((gt x0 a2535).fRef)).bind fun t2561 => (bif t2561 then (chk (idxOk a2535 x0.length) (chk (leB ((a2533.length + ([(gt x0 a2535)] : List Coin).length) * 80) 140737488355328) (spec_l5Spent.l0 x0 x1 k (a2533 ++ ([(gt x0 a2535)] : List Coin)) (wrap64 (a2535 + 1))))) else spec_l5Spent.l0 x0 x1 k a2533 (wrap64 (a2535 + 1))))) else some a2533)
theorem spec_l5Spent.l0_z (x0 : List Coin) (x1 : Tx) (a2533 : List Coin) (a2535 : Int) : spec_l5Spent.l0 x0 x1 0 a2533 a2535 = none := rfl
theorem spec_l5Spent.l0_s (x0 : List Coin) (x1 : Tx) (k : Nat) (a2533 : List Coin) (a2535 : Int) : spec_l5Spent.l0 x0 x1 (k + 1) a2533 a2535 = (bif (decide (a2535 < (x0.length : Int))) then (chk (idxOk a2535 x0.length) ((spec_l3Among.f k x1.fIns ((gt x0 a2535).fRef)).bind fun t2561 => (bif t2561 then (chk (idxOk a2535 x0.length) (chk (leB ((a2533.length + ([(gt x0 a2535)] : List Coin).length) * 80) 140737488355328) (spec_l5Spent.l0 x0 x1 k (a2533 ++ ([(gt x0 a2535)] : List Coin)) (wrap64 (a2535 + 1))))) else spec_l5Spent.l0 x0 x1 k a2533 (wrap64 (a2535 + 1))))) else some a2533) := rfl
def spec_l5Spent.f (k : Nat) (x0 : List Coin) (x1 : Tx) : Option ((List Coin) × Bool) := ((spec_l5Spent.l0 x0 x1 k ([] : List Coin) 0).bind (fun a2510 => ((spec_l4Copy.f k a2510).bind fun t2578 => some (t2578, ((a2510.length : Int) == (x1.fIns.length : Int))))))
theorem spec_l5Spent.calls {k : Nat} {x0 : List Coin} {x1 : Tx} {p0 : Value} {b1 f1 : Nat} {p1_0 : Value} {p1_1 : Value} {w : World} (hp0 : RdS kCoin w p0 x0) (hc1 : CellsAt w b1 f1 [.int .i64 x1.fKind, .int .i64 x1.fMember, p1_0, p1_1]) (hp1_0 : RdS kRef w p1_0 x1.fIns) (hp1_1 : RdS kOut w p1_1 x1.fOuts) {r : (List Coin) × Bool} (H : spec_l5Spent.f k x0 x1 = some r) :
    Calls Tryz.prog 34 ([p0, .pointer (some ⟨b1, f1, none⟩)] : List Value).toArray w (fun e w_ => ∃ v, e = .returned v ∧ ∃ u0 : Value, v = (.tuple #[u0, .bool r.2]) ∧ Mem w [] w_ [own kCoin 77 u0 r.1]) := by
  have HM := Mem.start w
  refine calls_run (N := 42) Tryz.func34 rfl rfl rfl rfl ?_
  unfold spec_l5Spent.f at H
  refine run_seq ?_
  refine run_region rfl ?_
  refine ops_ex rfl (guard_none rfl) rfl rfl (ex_assign rfl rfl) ?_
  refine ops_ex rfl (guard_none rfl) rfl rfl (ex_assign rfl rfl) ?_
  refine ops_nil ?_
  refine at_then ?_
  refine run_seq ?_
  refine run_region rfl ?_
  refine ops_does rfl (guard_none rfl) rfl rfl (does_lit (e := 77) (cs := []) (xs := ([] : List Coin)) kCoin rfl rfl (fun _ => by kernel_rfl) rfl rfl (fun _ _ h => by have h' : _ = [] := h; subst h'; exact .nil) HM.emp) ?_
  rintro v2447 w2450 HM
  refine ops_ex rfl (guard_none rfl) rfl rfl (ex_assign rfl rfl) ?_
  refine ops_nil ?_
  refine at_then ?_
  obtain ⟨o2512, ho2513, H⟩ := bind_some H
  refine run_mid (fun ρ_ w_ => ∃ v2509 : Value, ∃ a2510 : List Coin, a2510 = o2512 ∧ ρ_ = [(1, .pointer (some ⟨b1, f1, none⟩)), (6, v2509)] ∧ Mem w [] w_ [own (Kd.lent w kCoin with1_one) 77 v2509 a2510]) ?_ ?_
  · clear H
    refine run_seq ?_
    refine run_region rfl ?_
    refine ops_ex rfl (guard_none rfl) rfl rfl (ex_assign rfl rfl) ?_
    refine ops_nil ?_
    refine at_then ?_
    refine run_block ?_
    replace HM := Mem.relent (d := kCoin) (d' := (Kd.lent w kCoin with1_one)) rfl HM
    refine run_loop (fun k_ ρ_ w_ => ∃ v2532 : Value, ∃ a2533 : List Coin, ∃ a2535 : Int, spec_l5Spent.l0 x0 x1 k_ a2533 a2535 = some o2512 ∧ ρ_ = [(0, p0), (1, .pointer (some ⟨b1, f1, none⟩)), (6, v2532), (7, .int .i64 a2535)] ∧ Mem w [] w_ [own (Kd.lent w kCoin with1_one) 77 v2532 a2533]) k (ρ1 := [(0, p0), (1, .pointer (some ⟨b1, f1, none⟩)), (6, v2447), (7, .int .i64 0)]) ⟨_, _, _, ho2513, rfl, HM⟩ (Sub.cons rfl (Sub.cons rfl (Sub.cons rfl (Sub.cons rfl Sub.nil)))) ?_
    clear HM ho2513
    rintro k2554 _ w2555 ⟨v2532, a2533, a2535, ho2513, rfl, HM⟩
    obtain _ | k2554 := k2554
    · exact nomatch ((spec_l5Spent.l0_z x0 x1 a2533 a2535).symm.trans ho2513)
    replace ho2513 := (spec_l5Spent.l0_s x0 x1 k2554 a2533 a2535).symm.trans ho2513
    refine run_seq ?_
    refine run_seq ?_
    refine run_region rfl ?_
    refine ops_ex rfl (guard_none rfl) rfl rfl (ex_move rfl rfl) ?_
    refine ops_ex rfl (guard_none rfl) rfl rfl (ex_move rfl rfl) ?_
    refine ops_ex rfl (guard_none rfl) rfl rfl (ex_len (d := kCoin) (xs := x0) rfl rfl Tryz.underlying29 hp0) ?_
    refine ops_ex rfl (guard_none rfl) rfl rfl (ex_lss rfl rfl rfl) ?_
    refine ops_nil ?_
    refine at_then ?_
    refine run_cond (b := (decide (a2535 < (x0.length : Int)))) rfl (fun hb2556 => ?_) (fun hb2556 => ?_)
    · replace ho2513 := cond_t hb2556 ho2513
      refine run_skip ?_
      refine at_then ?_
      refine run_seq ?_
      refine run_block ?_
      refine run_seq ?_
      obtain ⟨e2557, ho2513⟩ := chk_some ho2513
      obtain ⟨t2561, h2562, ho2513⟩ := bind_some ho2513
      refine run_drawf (fun w_ => Mem w [] w_ [own (Kd.lent w kCoin with1_one) 77 v2532 a2533]) [(0, true), (1, true), (2, true), (3, true), (4, true), (5, true), (6, true), (7, true), (8, true), (9, false)] mixed rfl rfl (by kernel_rfl) ?_
      replace HM := HM.grow (fr_drew _)
      have hS := Mem.suf (M := []) HM
      refine drwp_take rfl (guard_none rfl) rfl rfl (fun w_ hS_ => (ex_move rfl rfl)) hS ?_
      refine drwp_take rfl (guard_none rfl) rfl rfl (fun w_ hS_ => (ex_nilCheck rfl rfl)) hS ?_
      refine drwp_take rfl (guard_none rfl) rfl rfl (fun w_ hS_ => (ex_fieldAddr (off' := f1 + 2) rfl rfl Tryz.underlying37 rfl tsz34 rfl)) hS ?_
      refine drwp_take rfl (guard_none rfl) rfl rfl (fun w_ hS_ => (ex_load1 rfl rfl Tryz.underlying34 rfl ((hS_.at_ hc1) 2 _ rfl))) hS ?_
      refine drwp_take rfl (guard_none rfl) rfl rfl (fun w_ hS_ => (ex_move rfl rfl)) hS ?_
      refine drwp_take rfl (guard_none rfl) rfl rfl (fun w_ hS_ => (ex_move rfl rfl)) hS ?_
      obtain ⟨kv2559, hc2558, hk2560⟩ : ∃ u, CellsAt _ (sb p0) (so p0 + (a2535).toNat * 8) [(.int .i64 ((gt x0 a2535).fRef.fTx)), (.int .i64 ((gt x0 a2535).fRef.fAt)), (.int .i64 ((gt x0 a2535).fOut.fValue)), u, (.int .i64 ((gt x0 a2535).fOut.fRule.fNeed)), (.int .i64 ((gt x0 a2535).fOut.fRule.fAfter)), (.int .i64 ((gt x0 a2535).fHeight)), (.bool ((gt x0 a2535).fMined))] ∧ RdS kInt _ u ((gt x0 a2535).fOut.fRule.fKeys) := rd_with1 hp0 e2557
      refine drwp_take rfl (guard_none rfl) rfl rfl (fun w_ hS_ => (ex_indexAddr (d := kCoin) rfl rfl rfl Tryz.underlying29 tsz77 hp0 (idx_lo e2557) (idx_hi e2557))) hS ?_
      refine drwp_take rfl (guard_none rfl) rfl rfl (fun w_ hS_ => (ex_fieldAddr (off' := so p0 + (a2535).toNat * 8) rfl rfl Tryz.underlying77 rfl tsz56 rfl)) hS ?_
      refine drwp_take rfl (guard_none rfl) rfl rfl (fun w_ hS_ => (ex_loadN (cs := [(.int .i64 ((gt x0 a2535).fRef.fTx)), (.int .i64 ((gt x0 a2535).fRef.fAt))]) rfl rfl Tryz.underlying56 rfl tsz56 rfl ((hS_.at_ hc2558).sub 0 2 rfl))) hS ?_
      refine drwp_one rfl (guard_none rfl) rfl rfl (does_callk rfl callok75 rfl (spec_l3Among.calls (x0 := x1.fIns) (x1 := (gt x0 a2535).fRef) (HM.rd hp1_0) h2562)) ?_
      rintro _ w2563 ⟨rfl, hn⟩
      replace HM : Mem w [] w2563 [own (Kd.lent w kCoin with1_one) 77 v2532 a2533] := HM.call hn
      refine ⟨Mem.suf (M := []) HM, ?_⟩
      have hS := Mem.suf (M := []) HM
      refine drwp_done ?_
      refine at_then ?_
      refine run_cond (b := t2561) rfl (fun hb2564 => ?_) (fun hb2564 => ?_)
      · replace ho2513 := cond_t hb2564 ho2513
        obtain ⟨e2565, ho2513⟩ := chk_some ho2513
        obtain ⟨e2572, ho2513⟩ := chk_some ho2513
        refine run_region rfl ?_
        refine ops_ex rfl (guard_none rfl) rfl rfl (ex_move rfl rfl) ?_
        refine ops_ex rfl (guard_none rfl) rfl rfl (ex_move rfl rfl) ?_
        refine ops_ex rfl (guard_none rfl) rfl rfl (ex_move rfl rfl) ?_
        obtain ⟨kv2567, hc2566, hk2568⟩ : ∃ u, CellsAt _ (sb p0) (so p0 + (a2535).toNat * 8) [(.int .i64 ((gt x0 a2535).fRef.fTx)), (.int .i64 ((gt x0 a2535).fRef.fAt)), (.int .i64 ((gt x0 a2535).fOut.fValue)), u, (.int .i64 ((gt x0 a2535).fOut.fRule.fNeed)), (.int .i64 ((gt x0 a2535).fOut.fRule.fAfter)), (.int .i64 ((gt x0 a2535).fHeight)), (.bool ((gt x0 a2535).fMined))] ∧ RdS kInt _ u ((gt x0 a2535).fOut.fRule.fKeys) := rd_with1 hp0 e2565
        refine ops_ex rfl (guard_none rfl) rfl rfl (ex_indexAddr (d := kCoin) rfl rfl rfl Tryz.underlying29 tsz77 hp0 (idx_lo e2565) (idx_hi e2565)) ?_
        refine ops_ex rfl (guard_none rfl) rfl rfl (ex_loadN (cs := [(.int .i64 ((gt x0 a2535).fRef.fTx)), (.int .i64 ((gt x0 a2535).fRef.fAt)), (.int .i64 ((gt x0 a2535).fOut.fValue)), kv2567, (.int .i64 ((gt x0 a2535).fOut.fRule.fNeed)), (.int .i64 ((gt x0 a2535).fOut.fRule.fAfter)), (.int .i64 ((gt x0 a2535).fHeight)), (.bool ((gt x0 a2535).fMined))]) rfl rfl Tryz.underlying77 rfl tsz77 rfl ((HM.at_ hc2566).sub 0 8 rfl)) ?_
        refine ops_does rfl (guard_none rfl) rfl rfl (does_lit (e := 77) (cs := [.int .i64 ((gt x0 a2535).fRef.fTx), .int .i64 ((gt x0 a2535).fRef.fAt), .int .i64 ((gt x0 a2535).fOut.fValue), kv2567, .int .i64 ((gt x0 a2535).fOut.fRule.fNeed), .int .i64 ((gt x0 a2535).fOut.fRule.fAfter), .int .i64 ((gt x0 a2535).fHeight), .bool ((gt x0 a2535).fMined)]) (xs := ([(gt x0 a2535)] : List Coin)) (Kd.lent w kCoin with1_one) rfl rfl (fun _ => by kernel_rfl) rfl rfl (fun _ _ h => by have h' : _ = [] := h; subst h'; exact (Elems.cons (d := (Kd.lent w kCoin with1_one)) (f := []) ⟨⟨_, rfl, hk2568⟩, rfl⟩ .nil)) HM.emp) ?_
        rintro v2569 w2575 HM
        replace HM := HM.front 1 rfl rfl
        refine ops_does rfl (guard_none rfl) rfl rfl (does_append (Kd.lent w kCoin with1_one) rfl rfl rfl Tryz.underlying29 tsz77 rfl tby77 tz77 rfl rfl (leB_le e2572) HM) ?_
        rintro v2573 w2576 HM
        refine ops_ex rfl (guard_none rfl) rfl rfl (ex_assign rfl rfl) ?_
        refine ops_nil ?_
        refine at_block ?_
        refine at_then ?_
        refine run_region rfl ?_
        refine ops_ex rfl (guard_none rfl) rfl rfl (ex_move rfl rfl) ?_
        refine ops_ex rfl (guard_none rfl) rfl rfl (ex_add rfl rfl rfl) ?_
        refine ops_ex rfl (guard_none rfl) rfl rfl (ex_assign rfl rfl) ?_
        refine ops_nil ?_
        exact at_again k2554 (ρ1 := [(0, p0), (1, .pointer (some ⟨b1, f1, none⟩)), (6, v2573), (7, .int .i64 (wrap64 (a2535 + 1)))]) (Nat.lt_succ_self _) ⟨_, _, _, ho2513, rfl, HM⟩ (Sub.cons rfl (Sub.cons rfl (Sub.cons rfl (Sub.cons rfl Sub.nil))))
      · replace ho2513 := cond_f hb2564 ho2513
        refine run_skip ?_
        refine at_block ?_
        refine at_then ?_
        refine run_region rfl ?_
        refine ops_ex rfl (guard_none rfl) rfl rfl (ex_move rfl rfl) ?_
        refine ops_ex rfl (guard_none rfl) rfl rfl (ex_add rfl rfl rfl) ?_
        refine ops_ex rfl (guard_none rfl) rfl rfl (ex_assign rfl rfl) ?_
        refine ops_nil ?_
        exact at_again k2554 (ρ1 := [(0, p0), (1, .pointer (some ⟨b1, f1, none⟩)), (6, v2532), (7, .int .i64 (wrap64 (a2535 + 1)))]) (Nat.lt_succ_self _) ⟨_, _, _, ho2513, rfl, HM⟩ (Sub.cons rfl (Sub.cons rfl (Sub.cons rfl (Sub.cons rfl Sub.nil))))
    · replace ho2513 := cond_f hb2556 ho2513
      refine run_exit ?_
      refine at_then_exit ?_
      refine at_then_exit ?_
      refine at_block_exit ?_
      exact at_mid (ρ' := [(1, .pointer (some ⟨b1, f1, none⟩)), (6, v2532)]) ⟨_, _, (Option.some.inj ho2513), rfl, HM⟩ (Sub.cons rfl (Sub.cons rfl Sub.nil))
  · rintro _ w2577 ⟨v2509, a2510, rfl, rfl, HM⟩
    refine run_seq ?_
    obtain ⟨t2578, h2579, H⟩ := bind_some H
    refine run_drawf (fun w_ => Mem w [] w_ [own (Kd.lent w kCoin with1_one) 77 v2509 a2510]) [(0, true), (2, true), (3, true), (4, true), (5, true), (6, true), (7, true), (8, true), (9, true), (1, false), (10, true), (11, true)] mixed rfl rfl (by kernel_rfl) ?_
    replace HM := HM.grow (fr_drew _)
    have hS := Mem.suf (M := []) HM
    refine drwp_take rfl (guard_none rfl) rfl rfl (fun w_ hS_ => (ex_move rfl rfl)) hS ?_
    refine drwp_take rfl (guard_none rfl) rfl rfl (fun w_ hS_ => (ex_move rfl rfl)) hS ?_
    refine drwp_take rfl (guard_none rfl) rfl rfl (fun w_ hS_ => (ex_len (d := kCoin) (xs := a2510) rfl rfl Tryz.underlying29 ((hS_.own_rd 0 rfl).unlent (hS_.old)))) hS ?_
    refine drwp_take rfl (guard_none rfl) rfl rfl (fun w_ hS_ => (ex_move rfl rfl)) hS ?_
    refine drwp_take rfl (guard_none rfl) rfl rfl (fun w_ hS_ => (ex_nilCheck rfl rfl)) hS ?_
    refine drwp_take rfl (guard_none rfl) rfl rfl (fun w_ hS_ => (ex_fieldAddr (off' := f1 + 2) rfl rfl Tryz.underlying37 rfl tsz34 rfl)) hS ?_
    refine drwp_take rfl (guard_none rfl) rfl rfl (fun w_ hS_ => (ex_load1 rfl rfl Tryz.underlying34 rfl ((hS_.at_ hc1) 2 _ rfl))) hS ?_
    refine drwp_take rfl (guard_none rfl) rfl rfl (fun w_ hS_ => (ex_len (d := kRef) (xs := x1.fIns) rfl rfl Tryz.underlying34 hp1_0)) hS ?_
    refine drwp_take rfl (guard_none rfl) rfl rfl (fun w_ hS_ => (ex_eql rfl rfl rfl)) hS ?_
    refine drwp_one rfl (guard_none rfl) rfl rfl (does_callk rfl callok77 rfl (spec_l4Copy.calls (x0 := a2510) ((HM.own_rd 0 rfl).unlent (HM.old)) h2579)) ?_
    rintro u2580 w2582 ⟨_, rfl, hn⟩
    replace HM : Mem w [] w2582 [own kCoin 77 u2580 t2578, own (Kd.lent w kCoin with1_one) 77 v2509 a2510] := HM.call hn
    refine ⟨Mem.suf (M := [own kCoin 77 u2580 t2578]) HM, ?_⟩
    have hS := Mem.suf (M := [own kCoin 77 u2580 t2578]) HM
    refine drwp_take rfl (guard_none rfl) rfl rfl (fun w_ hS_ => (ex_assign rfl rfl)) hS ?_
    refine drwp_take rfl (guard_none rfl) rfl rfl (fun w_ hS_ => (ex_assign rfl rfl)) hS ?_
    refine drwp_done ?_
    refine at_then ?_
    refine run_ret ?_
    replace HM := (HM.front 1 rfl rfl).drop
    have hR := Option.some.inj H
    subst hR
    exact at_ret2 rfl rfl rfl ⟨_, rfl, _, rfl, HM⟩

def spec_SpentBy.f (k : Nat) (x0 : List Coin) (x1 : Tx) : Option CoinsResult := ((spec_l4Fault.f k x0).bind fun t2599 => (bif (t2599 != 0) then some (⟨t2599, ([] : List Coin)⟩ : CoinsResult) else ((spec_l3Fault.f k x1).bind fun t2608 => (bif (t2608 != 0) then some (⟨t2608, ([] : List Coin)⟩ : CoinsResult) else ((spec_l5Spent.f k x0 x1).bind fun t2614 => (bif !t2614.2 then some (⟨4, ([] : List Coin)⟩ : CoinsResult) else some (⟨0, t2614.1⟩ : CoinsResult)))))))
theorem spec_SpentBy.calls {k : Nat} {x0 : List Coin} {x1 : Tx} {p0 : Value} {p1_0 : Value} {p1_1 : Value} {w : World} (hp0 : RdS kCoin w p0 x0) (hp1_0 : RdS kRef w p1_0 x1.fIns) (hp1_1 : RdS kOut w p1_1 x1.fOuts) {r : CoinsResult} (H : spec_SpentBy.f k x0 x1 = some r) :
    Calls Tryz.prog 9 ([p0, .agg #[(.int .i64 x1.fKind), (.int .i64 x1.fMember), p1_0, p1_1]] : List Value).toArray w (fun e w_ => ∃ v, e = .returned v ∧ ∃ u0 : Value, v = (.agg #[.int .i64 r.fCode, u0]) ∧ Mem w [] w_ [own kCoin 77 u0 r.fCoins]) := by
  have HM := Mem.start w
  refine calls_run (N := 30) Tryz.func9 rfl rfl rfl rfl ?_
  unfold spec_SpentBy.f at H
  refine run_seq ?_
  refine run_region rfl ?_
  refine ops_does rfl (guard_none rfl) rfl rfl (does_box (cs := [.int .i64 x1.fKind, .int .i64 x1.fMember, p1_0, p1_1]) rfl rfl rfl HM) ?_
  rintro _ w2594 ⟨b2588, rfl, HM⟩
  refine ops_does rfl (guard_none rfl) rfl rfl (does_alloc (cs := [.int .i64 0, .slice none 0 0]) rfl tz31 rfl HM) ?_
  rintro _ w2595 ⟨b2591, rfl, HM⟩
  refine ops_nil ?_
  refine at_then ?_
  refine run_seq ?_
  refine run_seq ?_
  obtain ⟨t2599, h2600, H⟩ := bind_some H
  refine run_region rfl ?_
  refine ops_ex rfl (guard_none rfl) rfl rfl (ex_move rfl rfl) ?_
  refine ops_does rfl (guard_none rfl) rfl rfl (does_callk rfl callok32 rfl (spec_l4Fault.calls (x0 := x0) (HM.rd hp0) h2600)) ?_
  rintro _ w2601 ⟨rfl, hn⟩
  replace HM : Mem w [] w2601 [box b2591 31 [.int .i64 0, .slice none 0 0], box b2588 37 [.int .i64 x1.fKind, .int .i64 x1.fMember, p1_0, p1_1]] := HM.call hn
  refine ops_ex rfl (guard_none rfl) rfl rfl (ex_assign rfl rfl) ?_
  refine ops_nil ?_
  refine at_then ?_
  refine run_seq ?_
  refine run_region rfl ?_
  refine ops_ex rfl (guard_none rfl) rfl rfl (ex_move rfl rfl) ?_
  refine ops_ex rfl (guard_none rfl) rfl rfl (ex_neq rfl rfl rfl) ?_
  refine ops_nil ?_
  refine at_then ?_
  refine run_cond (b := (t2599 != 0)) rfl (fun hb2602 => ?_) (fun hb2602 => ?_)
  · replace H := cond_t hb2602 H
    refine run_seq ?_
    refine run_region rfl ?_
    refine ops_ex rfl (guard_none rfl) rfl rfl (ex_move rfl rfl) ?_
    refine ops_ex rfl (guard_none rfl) rfl rfl (ex_build (cells := #[(.int .i64 t2599), (.slice none 0 0)]) rfl rfl (by kernel_rfl)) ?_
    refine ops_doesS rfl (guard_none rfl) rfl (does_store (vs := [.int .i64 t2599, .slice none 0 0]) (cs' := [.int .i64 t2599, .slice none 0 0]) rfl rfl rfl rfl tsz31 (Ones.int (Ones.sl Ones.nil)) rfl rfl HM) ?_
    rintro w2603 HM
    refine ops_nil ?_
    refine at_then ?_
    refine run_ret ?_
    refine at_then_ret ?_
    replace HM := HM.empty kCoin 77 none
    replace HM := (HM.front 2 rfl rfl).drop
    replace HM := HM.front 1 rfl rfl
    have hcb0 := HM.box_at 0 rfl
    replace HM := (HM.front 0 rfl rfl).drop
    have hR := Option.some.inj H
    subst hR
    exact at_retN rfl rfl Tryz.underlying31 rfl tsz31 rfl hcb0 ⟨_, rfl, _, rfl, HM⟩
  · replace H := cond_f hb2602 H
    refine run_skip ?_
    refine at_then ?_
    refine run_seq ?_
    refine run_seq ?_
    obtain ⟨t2608, h2609, H⟩ := bind_some H
    refine run_region rfl ?_
    refine ops_does rfl (guard_none rfl) rfl rfl (does_callk rfl callok33 rfl (spec_l3Fault.calls (x0 := x1) (HM.box_at 1 rfl) (HM.rd hp1_0) (HM.rd hp1_1) h2609)) ?_
    rintro _ w2610 ⟨rfl, hn⟩
    replace HM : Mem w [] w2610 [box b2591 31 [.int .i64 0, .slice none 0 0], box b2588 37 [.int .i64 x1.fKind, .int .i64 x1.fMember, p1_0, p1_1]] := HM.call hn
    refine ops_ex rfl (guard_none rfl) rfl rfl (ex_assign rfl rfl) ?_
    refine ops_nil ?_
    refine at_then ?_
    refine run_seq ?_
    refine run_region rfl ?_
    refine ops_ex rfl (guard_none rfl) rfl rfl (ex_move rfl rfl) ?_
    refine ops_ex rfl (guard_none rfl) rfl rfl (ex_neq rfl rfl rfl) ?_
    refine ops_nil ?_
    refine at_then ?_
    refine run_cond (b := (t2608 != 0)) rfl (fun hb2611 => ?_) (fun hb2611 => ?_)
    · replace H := cond_t hb2611 H
      refine run_seq ?_
      refine run_region rfl ?_
      refine ops_ex rfl (guard_none rfl) rfl rfl (ex_move rfl rfl) ?_
      refine ops_ex rfl (guard_none rfl) rfl rfl (ex_build (cells := #[(.int .i64 t2608), (.slice none 0 0)]) rfl rfl (by kernel_rfl)) ?_
      refine ops_doesS rfl (guard_none rfl) rfl (does_store (vs := [.int .i64 t2608, .slice none 0 0]) (cs' := [.int .i64 t2608, .slice none 0 0]) rfl rfl rfl rfl tsz31 (Ones.int (Ones.sl Ones.nil)) rfl rfl HM) ?_
      rintro w2612 HM
      refine ops_nil ?_
      refine at_then ?_
      refine run_ret ?_
      refine at_then_ret ?_
      replace HM := HM.empty kCoin 77 none
      replace HM := (HM.front 2 rfl rfl).drop
      replace HM := HM.front 1 rfl rfl
      have hcb0 := HM.box_at 0 rfl
      replace HM := (HM.front 0 rfl rfl).drop
      have hR := Option.some.inj H
      subst hR
      exact at_retN rfl rfl Tryz.underlying31 rfl tsz31 rfl hcb0 ⟨_, rfl, _, rfl, HM⟩
    · replace H := cond_f hb2611 H
      refine run_skip ?_
      refine at_then ?_
      refine run_seq ?_
      obtain ⟨t2614, h2615, H⟩ := bind_some H
      refine run_region rfl ?_
      refine ops_ex rfl (guard_none rfl) rfl rfl (ex_move rfl rfl) ?_
      refine ops_does rfl (guard_none rfl) rfl rfl (does_callk rfl callok34 rfl (spec_l5Spent.calls (x0 := x0) (x1 := x1) (HM.rd hp0) (HM.box_at 1 rfl) (HM.rd hp1_0) (HM.rd hp1_1) h2615)) ?_
      rintro _ w2618 ⟨u2616, rfl, hn⟩
      replace HM : Mem w [] w2618 [own kCoin 77 u2616 t2614.1, box b2591 31 [.int .i64 0, .slice none 0 0], box b2588 37 [.int .i64 x1.fKind, .int .i64 x1.fMember, p1_0, p1_1]] := HM.call hn
      refine ops_ex rfl (guard_none rfl) rfl rfl (ex_move rfl rfl) ?_
      refine ops_ex rfl (guard_none rfl) rfl rfl (ex_extract rfl rfl rfl) ?_
      refine ops_ex rfl (guard_none rfl) rfl rfl (ex_extract rfl rfl rfl) ?_
      refine ops_ex rfl (guard_none rfl) rfl rfl (ex_assign rfl rfl) ?_
      refine ops_ex rfl (guard_none rfl) rfl rfl (ex_assign rfl rfl) ?_
      refine ops_nil ?_
      refine at_then ?_
      refine run_seq ?_
      refine run_seq ?_
      refine run_region rfl ?_
      refine ops_ex rfl (guard_none rfl) rfl rfl (ex_move rfl rfl) ?_
      refine ops_ex rfl (guard_none rfl) rfl rfl (ex_not rfl rfl) ?_
      refine ops_nil ?_
      refine at_then ?_
      refine run_cond (b := !t2614.2) rfl (fun hb2619 => ?_) (fun hb2619 => ?_)
      · replace H := cond_t hb2619 H
        refine run_seq ?_
        refine run_region rfl ?_
        refine ops_ex rfl (guard_none rfl) rfl rfl (ex_build (cells := #[(.int .i64 4), (.slice none 0 0)]) rfl rfl (by kernel_rfl)) ?_
        replace HM := HM.front 1 rfl rfl
        refine ops_doesS rfl (guard_none rfl) rfl (does_store (vs := [.int .i64 4, .slice none 0 0]) (cs' := [.int .i64 4, .slice none 0 0]) rfl rfl rfl rfl tsz31 (Ones.int (Ones.sl Ones.nil)) rfl rfl HM) ?_
        rintro w2620 HM
        refine ops_nil ?_
        refine at_then ?_
        refine run_ret ?_
        refine at_then_ret ?_
        replace HM := HM.empty kCoin 77 none
        replace HM := (HM.front 2 rfl rfl).drop
        replace HM := (HM.front 2 rfl rfl).drop
        replace HM := HM.front 1 rfl rfl
        have hcb0 := HM.box_at 0 rfl
        replace HM := (HM.front 0 rfl rfl).drop
        have hR := Option.some.inj H
        subst hR
        exact at_retN rfl rfl Tryz.underlying31 rfl tsz31 rfl hcb0 ⟨_, rfl, _, rfl, HM⟩
      · replace H := cond_f hb2619 H
        refine run_skip ?_
        refine at_then ?_
        refine run_seq ?_
        refine run_region rfl ?_
        refine ops_ex rfl (guard_none rfl) rfl rfl (ex_move rfl rfl) ?_
        refine ops_ex rfl (guard_none rfl) rfl rfl (ex_build1 (fun u2616 => [(1, u2616)]) (fun u2616 => #[.int .i64 0, u2616]) rfl rfl (fun _ _ _ => by kernel_rfl) (HM.own_rd 0 rfl).isSl) ?_
        replace HM := HM.front 1 rfl rfl
        refine ops_doesS rfl (guard_none rfl) rfl (does_store (vs := [.int .i64 0, u2616]) (cs' := [.int .i64 0, u2616]) rfl rfl rfl rfl tsz31 (Ones.int (Ones.rd (HM.own_rd 1 rfl) Ones.nil)) rfl rfl HM) ?_
        rintro w2622 HM
        refine ops_nil ?_
        refine at_then ?_
        refine run_ret ?_
        replace HM := (HM.front 2 rfl rfl).drop
        have hcb0 := HM.box_at 0 rfl
        replace HM := (HM.front 0 rfl rfl).drop
        have hR := Option.some.inj H
        subst hR
        exact at_retN rfl rfl Tryz.underlying31 rfl tsz31 rfl hcb0 ⟨_, rfl, _, rfl, HM⟩

def impl_within.f (k : Nat) (x0 : Int) (x1 : Int) (x2 : Int) : Option Bool := some ((decide (x1 ≤ x0)) && (decide (x0 ≤ x2)))
theorem impl_within.calls {k : Nat} {x0 : Int} {x1 : Int} {x2 : Int}  {w : World}  {r : Bool} (H : impl_within.f k x0 x1 x2 = some r) :
    Calls Tryz.prog 66 ([.int .i64 x0, .int .i64 x1, .int .i64 x2] : List Value).toArray w (fun e w_ => ∃ v, e = .returned v ∧ v = (.bool r) ∧ Mem w [] w_ []) := by
  have HM := Mem.start w
  refine calls_run (N := 15) Tryz.func66 rfl rfl rfl rfl ?_
  unfold impl_within.f at H
  refine run_seq ?_
  refine run_region rfl ?_
  refine ops_ex rfl (guard_none rfl) rfl rfl (ex_assign rfl rfl) ?_
  refine ops_nil ?_
  refine at_then ?_
  refine run_seq ?_
  refine run_meet (fun ρ_ w_ => ρ_ = [(6, .bool ((decide (x1 ≤ x0)) && (decide (x0 ≤ x2))))] ∧ Mem w [] w_ []) ?_ ?_
  · skip
    refine run_region rfl ?_
    refine ops_ex rfl (guard_none rfl) rfl rfl (ex_move rfl rfl) ?_
    refine ops_ex rfl (guard_none rfl) rfl rfl (ex_move rfl rfl) ?_
    refine ops_ex rfl (guard_none rfl) rfl rfl (ex_geq rfl rfl rfl) ?_
    refine ops_ex rfl (guard_none rfl) rfl rfl (ex_move rfl rfl) ?_
    refine bool_cases (decide (x1 ≤ x0)) (fun hg2662 => ?_) (fun hg2662 => ?_)
    · skip
      refine ops_ex rfl (guard_on rfl rfl rfl hg2662) rfl rfl (ex_move rfl rfl) ?_
      refine ops_ex rfl (guard_on rfl rfl rfl hg2662) rfl rfl (ex_move rfl rfl) ?_
      refine ops_ex rfl (guard_on rfl rfl rfl hg2662) rfl rfl (ex_leq rfl rfl rfl) ?_
      refine ops_ex (v := .bool ((decide (x1 ≤ x0)) && (decide (x0 ≤ x2)))) rfl (guard_none rfl) rfl rfl (ex_pand_t rfl rfl hg2662 rfl) ?_
      refine ops_ex rfl (guard_none rfl) rfl rfl (ex_assign rfl rfl) ?_
      refine ops_nil ?_
      exact at_meet [(6, .bool ((decide (x1 ≤ x0)) && (decide (x0 ≤ x2))))] ⟨rfl, HM⟩ (Sub.cons rfl Sub.nil)
    · skip
      refine ops_off rfl (guard_off rfl rfl rfl hg2662) rfl rfl ?_
      refine ops_off rfl (guard_off rfl rfl rfl hg2662) rfl rfl ?_
      refine ops_off rfl (guard_off rfl rfl rfl hg2662) rfl rfl ?_
      have hg2663 : ((decide (x1 ≤ x0)) && (decide (x0 ≤ x2))) = false := by simp only [hg2662, Bool.and_true, Bool.true_and, Bool.and_false, Bool.false_and, Bool.or_true, Bool.true_or, Bool.or_false, Bool.false_or, Bool.not_true, Bool.not_false, Bool.not_not]
      refine ops_ex (v := .bool ((decide (x1 ≤ x0)) && (decide (x0 ≤ x2)))) rfl (guard_none rfl) rfl rfl (ex_pand_f rfl rfl hg2662) ?_
      refine ops_ex rfl (guard_none rfl) rfl rfl (ex_assign rfl rfl) ?_
      refine ops_nil ?_
      exact at_meet [(6, .bool ((decide (x1 ≤ x0)) && (decide (x0 ≤ x2))))] ⟨rfl, HM⟩ (Sub.cons rfl Sub.nil)
  · rintro _ w2664 ⟨rfl, HM⟩
    refine at_then ?_
    refine run_ret ?_
    have hR := Option.some.inj H
    subst hR
    exact at_ret1 rfl rfl ⟨_, rfl, rfl, HM⟩

def impl_isId.f (k : Nat) (x0 : Int) : Option Bool := ((impl_within.f k x0 1 60).bind fun t2667 => some t2667)
theorem impl_isId.calls {k : Nat} {x0 : Int}  {w : World}  {r : Bool} (H : impl_isId.f k x0 = some r) :
    Calls Tryz.prog 90 ([.int .i64 x0] : List Value).toArray w (fun e w_ => ∃ v, e = .returned v ∧ v = (.bool r) ∧ Mem w [] w_ []) := by
  have HM := Mem.start w
  refine calls_run (N := 5) Tryz.func90 rfl rfl rfl rfl ?_
  unfold impl_isId.f at H
  refine run_seq ?_
  refine run_region rfl ?_
  refine ops_ex rfl (guard_none rfl) rfl rfl (ex_assign rfl rfl) ?_
  refine ops_nil ?_
  refine at_then ?_
  refine run_seq ?_
  obtain ⟨t2667, h2668, H⟩ := bind_some H
  refine run_region rfl ?_
  refine ops_ex rfl (guard_none rfl) rfl rfl (ex_move rfl rfl) ?_
  refine ops_does rfl (guard_none rfl) rfl rfl (does_callk rfl callok66 rfl (impl_within.calls (x0 := x0) (x1 := 1) (x2 := 60) h2668)) ?_
  rintro _ w2669 ⟨rfl, hn⟩
  replace HM : Mem w [] w2669 [] := HM.call hn
  refine ops_ex rfl (guard_none rfl) rfl rfl (ex_assign rfl rfl) ?_
  refine ops_nil ?_
  refine at_then ?_
  refine run_ret ?_
  have hR := Option.some.inj H
  subst hR
  exact at_ret1 rfl rfl ⟨_, rfl, rfl, HM⟩

def impl_isRef.f (k : Nat) (x0 : Ref) : Option Bool := ((impl_isId.f k x0.fTx).bind fun t2678 => ((bif t2678 then impl_within.f k x0.fAt 0 3 else some default).bind fun t2680 => some (t2678 && t2680)))
theorem impl_isRef.calls {k : Nat} {x0 : Ref}  {w : World}  {r : Bool} (H : impl_isRef.f k x0 = some r) :
    Calls Tryz.prog 64 ([.agg #[(.int .i64 x0.fTx), (.int .i64 x0.fAt)]] : List Value).toArray w (fun e w_ => ∃ v, e = .returned v ∧ v = (.bool r) ∧ Mem w [] w_ []) := by
  have HM := Mem.start w
  refine calls_run (N := 11) Tryz.func64 rfl rfl rfl rfl ?_
  unfold impl_isRef.f at H
  refine run_seq ?_
  refine run_region rfl ?_
  refine ops_does rfl (guard_none rfl) rfl rfl (does_box (cs := [.int .i64 x0.fTx, .int .i64 x0.fAt]) rfl rfl rfl HM) ?_
  rintro _ w2677 ⟨b2674, rfl, HM⟩
  refine ops_ex rfl (guard_none rfl) rfl rfl (ex_assign rfl rfl) ?_
  refine ops_nil ?_
  refine at_then ?_
  refine run_seq ?_
  obtain ⟨t2678, h2679, H⟩ := bind_some H
  obtain ⟨t2680, h2681, H⟩ := bind_some H
  refine run_meet (fun ρ_ w_ => ρ_ = [(2, .bool (t2678 && t2680))] ∧ Mem w [] w_ []) ?_ ?_
  · skip
    refine run_region rfl ?_
    refine ops_ex rfl (guard_none rfl) rfl rfl (ex_fieldAddr (off' := 0) rfl rfl Tryz.underlying56 rfl tsz2 rfl) ?_
    refine ops_ex rfl (guard_none rfl) rfl rfl (ex_load1 rfl rfl Tryz.underlying2 rfl ((HM.box_at 0 rfl) 0 _ rfl)) ?_
    refine ops_does rfl (guard_none rfl) rfl rfl (does_callk rfl callok90 rfl (impl_isId.calls (x0 := x0.fTx) h2679)) ?_
    rintro _ w2682 ⟨rfl, hn⟩
    replace HM : Mem w [] w2682 [box b2674 56 [.int .i64 x0.fTx, .int .i64 x0.fAt]] := HM.call hn
    refine ops_ex rfl (guard_none rfl) rfl rfl (ex_move rfl rfl) ?_
    refine bool_cases t2678 (fun hg2683 => ?_) (fun hg2683 => ?_)
    · skip
      refine ops_ex rfl (guard_on rfl rfl rfl hg2683) rfl rfl (ex_fieldAddr (off' := 1) rfl rfl Tryz.underlying56 rfl tsz2 rfl) ?_
      refine ops_ex rfl (guard_on rfl rfl rfl hg2683) rfl rfl (ex_load1 rfl rfl Tryz.underlying2 rfl ((HM.box_at 0 rfl) 1 _ rfl)) ?_
      refine ops_does rfl (guard_on rfl rfl rfl hg2683) rfl rfl (does_callk rfl callok66 rfl (impl_within.calls (x0 := x0.fAt) (x1 := 0) (x2 := 3) (cond_t hg2683 h2681))) ?_
      rintro _ w2684 ⟨rfl, hn⟩
      replace HM : Mem w [] w2684 [box b2674 56 [.int .i64 x0.fTx, .int .i64 x0.fAt]] := HM.call hn
      refine ops_ex (v := .bool (t2678 && t2680)) rfl (guard_none rfl) rfl rfl (ex_pand_t rfl rfl hg2683 rfl) ?_
      refine ops_ex rfl (guard_none rfl) rfl rfl (ex_assign rfl rfl) ?_
      refine ops_nil ?_
      replace HM := (HM.front 0 rfl rfl).drop
      exact at_meet [(2, .bool (t2678 && t2680))] ⟨rfl, HM⟩ (Sub.cons rfl Sub.nil)
    · skip
      refine ops_off rfl (guard_off rfl rfl rfl hg2683) rfl rfl ?_
      refine ops_off rfl (guard_off rfl rfl rfl hg2683) rfl rfl ?_
      refine ops_off rfl (guard_off rfl rfl rfl hg2683) rfl rfl ?_
      have hg2685 : (t2678 && t2680) = false := by simp only [hg2683, Bool.and_true, Bool.true_and, Bool.and_false, Bool.false_and, Bool.or_true, Bool.true_or, Bool.or_false, Bool.false_or, Bool.not_true, Bool.not_false, Bool.not_not]
      refine ops_ex (v := .bool (t2678 && t2680)) rfl (guard_none rfl) rfl rfl (ex_pand_f rfl rfl hg2683) ?_
      refine ops_ex rfl (guard_none rfl) rfl rfl (ex_assign rfl rfl) ?_
      refine ops_nil ?_
      replace HM := (HM.front 0 rfl rfl).drop
      exact at_meet [(2, .bool (t2678 && t2680))] ⟨rfl, HM⟩ (Sub.cons rfl Sub.nil)
  · rintro _ w2686 ⟨rfl, HM⟩
    refine at_then ?_
    refine run_ret ?_
    have hR := Option.some.inj H
    subst hR
    exact at_ret1 rfl rfl ⟨_, rfl, rfl, HM⟩

def impl_isHeight.f (k : Nat) (x0 : Int) : Option Bool := ((impl_within.f k x0 0 999).bind fun t2691 => some t2691)
theorem impl_isHeight.calls {k : Nat} {x0 : Int}  {w : World}  {r : Bool} (H : impl_isHeight.f k x0 = some r) :
    Calls Tryz.prog 65 ([.int .i64 x0] : List Value).toArray w (fun e w_ => ∃ v, e = .returned v ∧ v = (.bool r) ∧ Mem w [] w_ []) := by
  have HM := Mem.start w
  refine calls_run (N := 5) Tryz.func65 rfl rfl rfl rfl ?_
  unfold impl_isHeight.f at H
  refine run_seq ?_
  refine run_region rfl ?_
  refine ops_ex rfl (guard_none rfl) rfl rfl (ex_assign rfl rfl) ?_
  refine ops_nil ?_
  refine at_then ?_
  refine run_seq ?_
  obtain ⟨t2691, h2692, H⟩ := bind_some H
  refine run_region rfl ?_
  refine ops_ex rfl (guard_none rfl) rfl rfl (ex_move rfl rfl) ?_
  refine ops_does rfl (guard_none rfl) rfl rfl (does_callk rfl callok66 rfl (impl_within.calls (x0 := x0) (x1 := 0) (x2 := 999) h2692)) ?_
  rintro _ w2693 ⟨rfl, hn⟩
  replace HM : Mem w [] w2693 [] := HM.call hn
  refine ops_ex rfl (guard_none rfl) rfl rfl (ex_assign rfl rfl) ?_
  refine ops_nil ?_
  refine at_then ?_
  refine run_ret ?_
  have hR := Option.some.inj H
  subst hR
  exact at_ret1 rfl rfl ⟨_, rfl, rfl, HM⟩

def impl_isKey.f (k : Nat) (x0 : Int) : Option Bool := ((impl_within.f k x0 1 999).bind fun t2717 => some t2717)
theorem impl_isKey.calls {k : Nat} {x0 : Int}  {w : World}  {r : Bool} (H : impl_isKey.f k x0 = some r) :
    Calls Tryz.prog 81 ([.int .i64 x0] : List Value).toArray w (fun e w_ => ∃ v, e = .returned v ∧ v = (.bool r) ∧ Mem w [] w_ []) := by
  have HM := Mem.start w
  refine calls_run (N := 5) Tryz.func81 rfl rfl rfl rfl ?_
  unfold impl_isKey.f at H
  refine run_seq ?_
  refine run_region rfl ?_
  refine ops_ex rfl (guard_none rfl) rfl rfl (ex_assign rfl rfl) ?_
  refine ops_nil ?_
  refine at_then ?_
  refine run_seq ?_
  obtain ⟨t2717, h2718, H⟩ := bind_some H
  refine run_region rfl ?_
  refine ops_ex rfl (guard_none rfl) rfl rfl (ex_move rfl rfl) ?_
  refine ops_does rfl (guard_none rfl) rfl rfl (does_callk rfl callok66 rfl (impl_within.calls (x0 := x0) (x1 := 1) (x2 := 999) h2718)) ?_
  rintro _ w2719 ⟨rfl, hn⟩
  replace HM : Mem w [] w2719 [] := HM.call hn
  refine ops_ex rfl (guard_none rfl) rfl rfl (ex_assign rfl rfl) ?_
  refine ops_nil ?_
  refine at_then ?_
  refine run_ret ?_
  have hR := Option.some.inj H
  subst hR
  exact at_ret1 rfl rfl ⟨_, rfl, rfl, HM⟩

def impl_areKeys_1.f (k : Nat) (x0 : Int) : Option Bool := ((impl_isKey.f k x0).bind fun t2722 => some (!t2722))
theorem impl_areKeys_1.calls {k : Nat} {x0 : Int}  {w : World}  {r : Bool} (H : impl_areKeys_1.f k x0 = some r) :
    Calls Tryz.prog 143 ([.int .i64 x0] : List Value).toArray w (fun e w_ => ∃ v, e = .returned v ∧ v = (.bool r) ∧ Mem w [] w_ []) := by
  have HM := Mem.start w
  refine calls_run (N := 6) Tryz.func143 rfl rfl rfl rfl ?_
  unfold impl_areKeys_1.f at H
  refine run_seq ?_
  refine run_region rfl ?_
  refine ops_ex rfl (guard_none rfl) rfl rfl (ex_assign rfl rfl) ?_
  refine ops_nil ?_
  refine at_then ?_
  refine run_seq ?_
  obtain ⟨t2722, h2723, H⟩ := bind_some H
  refine run_region rfl ?_
  refine ops_ex rfl (guard_none rfl) rfl rfl (ex_move rfl rfl) ?_
  refine ops_does rfl (guard_none rfl) rfl rfl (does_callk rfl callok81 rfl (impl_isKey.calls (x0 := x0) h2723)) ?_
  rintro _ w2724 ⟨rfl, hn⟩
  replace HM : Mem w [] w2724 [] := HM.call hn
  refine ops_ex rfl (guard_none rfl) rfl rfl (ex_not rfl rfl) ?_
  refine ops_ex rfl (guard_none rfl) rfl rfl (ex_assign rfl rfl) ?_
  refine ops_nil ?_
  refine at_then ?_
  refine run_ret ?_
  have hR := Option.some.inj H
  subst hR
  exact at_ret1 rfl rfl ⟨_, rfl, rfl, HM⟩

def slices_IndexFunc_int64.l0 (x0 : List Int) : Nat → Int → Option (Int ⊕ Unit)
  | 0, _ => none
  | k + 1, a2770 => (bif (decide (a2770 < (x0.length : Int))) then (chk (idxOk a2770 x0.length) ((impl_areKeys_1.f k (gt x0 a2770)).bind fun t2782 => (bif t2782 then some (.inl a2770) else slices_IndexFunc_int64.l0 x0 k (wrap64 (a2770 + 1))))) else some (.inr ()))
theorem slices_IndexFunc_int64.l0_z (x0 : List Int) (a2770 : Int) : slices_IndexFunc_int64.l0 x0 0 a2770 = none := rfl
theorem slices_IndexFunc_int64.l0_s (x0 : List Int) (k : Nat) (a2770 : Int) : slices_IndexFunc_int64.l0 x0 (k + 1) a2770 = (bif (decide (a2770 < (x0.length : Int))) then (chk (idxOk a2770 x0.length) ((impl_areKeys_1.f k (gt x0 a2770)).bind fun t2782 => (bif t2782 then some (.inl a2770) else slices_IndexFunc_int64.l0 x0 k (wrap64 (a2770 + 1))))) else some (.inr ())) := rfl
def slices_IndexFunc_int64.f (k : Nat) (x0 : List Int) : Option Int := ((slices_IndexFunc_int64.l0 x0 k 0).bind fun o2762 => thn o2762 (fun r => some r) (fun _ => some (-1)))
theorem slices_IndexFunc_int64.calls {k : Nat} {x0 : List Int} {p0 : Value} {w : World} (hp0 : RdS kInt w p0 x0) {r : Int} (H : slices_IndexFunc_int64.f k x0 = some r) :
    Calls Tryz.prog 161 ([p0, .func (.func 143) #[] #[]] : List Value).toArray w (fun e w_ => ∃ v, e = .returned v ∧ v = (.int .i64 r) ∧ Mem w [] w_ []) := by
  have HM := Mem.start w
  refine calls_run (N := 19) Tryz.func161 rfl rfl rfl rfl ?_
  unfold slices_IndexFunc_int64.f at H
  refine run_seq ?_
  refine run_region rfl ?_
  refine ops_ex rfl (guard_none rfl) rfl rfl (ex_assign rfl rfl) ?_
  refine ops_nil ?_
  refine at_then ?_
  obtain ⟨o2762, ho2763, H⟩ := bind_some H
  refine run_mid (fun ρ_ w_ => Sum.inr () = o2762 ∧ ρ_ = [] ∧ Mem w [] w_ []) ?_ ?_
  · skip
    refine run_seq ?_
    refine run_region rfl ?_
    refine ops_ex rfl (guard_none rfl) rfl rfl (ex_move rfl rfl) ?_
    refine ops_ex rfl (guard_none rfl) rfl rfl (ex_len (d := kInt) (xs := x0) rfl rfl Tryz.underlying60 hp0) ?_
    refine ops_ex rfl (guard_none rfl) rfl rfl (ex_move rfl rfl) ?_
    refine ops_nil ?_
    refine at_then ?_
    refine run_block ?_
    refine run_loop (fun k_ ρ_ w_ => ∃ a2770 : Int, slices_IndexFunc_int64.l0 x0 k_ a2770 = some o2762 ∧ ρ_ = [(0, p0), (1, .func (.func 143) #[] #[]), (7, .int .i64 (x0.length : Int)), (8, .int .i64 a2770)] ∧ Mem w [] w_ []) k (ρ1 := [(0, p0), (1, .func (.func 143) #[] #[]), (7, .int .i64 (x0.length : Int)), (8, .int .i64 0)]) ⟨_, ho2763, rfl, HM⟩ (Sub.cons rfl (Sub.cons rfl (Sub.cons rfl (Sub.cons rfl Sub.nil)))) ?_
    clear HM ho2763
    rintro k2777 _ w2778 ⟨a2770, ho2763, rfl, HM⟩
    obtain _ | k2777 := k2777
    · exact nomatch ((slices_IndexFunc_int64.l0_z x0 a2770).symm.trans ho2763)
    replace ho2763 := (slices_IndexFunc_int64.l0_s x0 k2777 a2770).symm.trans ho2763
    refine run_seq ?_
    refine run_region rfl ?_
    refine ops_ex rfl (guard_none rfl) rfl rfl (ex_lss rfl rfl rfl) ?_
    refine ops_nil ?_
    refine at_then ?_
    refine run_seq ?_
    refine run_cond (b := (decide (a2770 < (x0.length : Int)))) rfl (fun hb2779 => ?_) (fun hb2779 => ?_)
    · replace ho2763 := cond_t hb2779 ho2763
      refine run_skip ?_
      refine at_then ?_
      refine run_seq ?_
      refine run_block ?_
      refine run_seq ?_
      refine run_region rfl ?_
      refine ops_ex rfl (guard_none rfl) rfl rfl (ex_move rfl rfl) ?_
      refine ops_ex rfl (guard_none rfl) rfl rfl (ex_assign rfl rfl) ?_
      refine ops_nil ?_
      refine at_then ?_
      refine run_seq ?_
      obtain ⟨e2780, ho2763⟩ := chk_some ho2763
      obtain ⟨t2782, h2783, ho2763⟩ := bind_some ho2763
      refine run_region rfl ?_
      refine ops_ex rfl (guard_none rfl) rfl rfl (ex_move rfl rfl) ?_
      refine ops_ex rfl (guard_none rfl) rfl rfl (ex_move rfl rfl) ?_
      refine ops_ex rfl (guard_none rfl) rfl rfl (ex_move rfl rfl) ?_
      have hc2781 : CellsAt _ (sb p0) (so p0 + (a2770).toNat * 1) [(.int .i64 (gt x0 a2770))] := rd_plain hp0 e2780
      refine ops_ex rfl (guard_none rfl) rfl rfl (ex_indexAddr (d := kInt) rfl rfl rfl Tryz.underlying60 tsz2 hp0 (idx_lo e2780) (idx_hi e2780)) ?_
      refine ops_ex rfl (guard_none rfl) rfl rfl (ex_load1 rfl rfl Tryz.underlying2 rfl ((HM.at_ hc2781) 0 _ rfl)) ?_
      refine ops_does rfl (guard_none rfl) rfl rfl (does_callvk rfl callok143 rfl rfl rfl (impl_areKeys_1.calls (x0 := (gt x0 a2770)) h2783)) ?_
      rintro _ w2784 ⟨rfl, hn⟩
      replace HM : Mem w [] w2784 [] := HM.call hn
      refine ops_nil ?_
      refine at_then ?_
      refine run_cond (b := t2782) rfl (fun hb2785 => ?_) (fun hb2785 => ?_)
      · replace ho2763 := cond_t hb2785 ho2763
        refine run_seq ?_
        refine run_region rfl ?_
        refine ops_ex rfl (guard_none rfl) rfl rfl (ex_move rfl rfl) ?_
        refine ops_ex rfl (guard_none rfl) rfl rfl (ex_assign rfl rfl) ?_
        refine ops_nil ?_
        refine at_then ?_
        refine run_ret ?_
        refine at_block_ret ?_
        refine at_then_ret ?_
        refine at_then_ret ?_
        refine at_block_ret ?_
        refine at_then_ret ?_
        have hR := Option.some.inj ho2763
        subst hR
        have hT := thn_inl H
        have hR := Option.some.inj hT
        subst hR
        exact at_ret1 rfl rfl ⟨_, rfl, rfl, HM⟩
      · replace ho2763 := cond_f hb2785 ho2763
        refine run_skip ?_
        refine at_block ?_
        refine at_then ?_
        refine run_region rfl ?_
        refine ops_ex rfl (guard_none rfl) rfl rfl (ex_add rfl rfl rfl) ?_
        refine ops_ex rfl (guard_none rfl) rfl rfl (ex_move rfl rfl) ?_
        refine ops_nil ?_
        exact at_again k2777 (ρ1 := [(0, p0), (1, .func (.func 143) #[] #[]), (7, .int .i64 (x0.length : Int)), (8, .int .i64 (wrap64 (a2770 + 1)))]) (Nat.lt_succ_self _) ⟨_, ho2763, rfl, HM⟩ (Sub.cons rfl (Sub.cons rfl (Sub.cons rfl (Sub.cons rfl Sub.nil))))
    · replace ho2763 := cond_f hb2779 ho2763
      refine run_exit ?_
      refine at_then_exit ?_
      refine at_then_exit ?_
      refine at_block_exit ?_
      exact at_mid (ρ' := []) ⟨(Option.some.inj ho2763), rfl, HM⟩ Sub.nil
  · rintro _ w2786 ⟨rfl, rfl, HM⟩
    replace H := (thn_inr H)
    refine run_seq ?_
    refine run_region rfl ?_
    refine ops_ex rfl (guard_none rfl) rfl rfl (ex_assign rfl rfl) ?_
    refine ops_nil ?_
    refine at_then ?_
    refine run_ret ?_
    have hR := Option.some.inj H
    subst hR
    exact at_ret1 rfl rfl ⟨_, rfl, rfl, HM⟩

def slices_ContainsFunc_int64.f (k : Nat) (x0 : List Int) : Option Bool := ((slices_IndexFunc_int64.f k x0).bind fun t2789 => some (decide (0 ≤ t2789)))
theorem slices_ContainsFunc_int64.calls {k : Nat} {x0 : List Int} {p0 : Value} {w : World} (hp0 : RdS kInt w p0 x0) {r : Bool} (H : slices_ContainsFunc_int64.f k x0 = some r) :
    Calls Tryz.prog 142 ([p0, .func (.func 143) #[] #[]] : List Value).toArray w (fun e w_ => ∃ v, e = .returned v ∧ v = (.bool r) ∧ Mem w [] w_ []) := by
  have HM := Mem.start w
  refine calls_run (N := 9) Tryz.func142 rfl rfl rfl rfl ?_
  unfold slices_ContainsFunc_int64.f at H
  refine run_seq ?_
  refine run_region rfl ?_
  refine ops_ex rfl (guard_none rfl) rfl rfl (ex_assign rfl rfl) ?_
  refine ops_nil ?_
  refine at_then ?_
  refine run_seq ?_
  obtain ⟨t2789, h2790, H⟩ := bind_some H
  refine run_region rfl ?_
  refine ops_ex rfl (guard_none rfl) rfl rfl (ex_move rfl rfl) ?_
  refine ops_ex rfl (guard_none rfl) rfl rfl (ex_move rfl rfl) ?_
  refine ops_does rfl (guard_none rfl) rfl rfl (does_callk rfl callok161 rfl (slices_IndexFunc_int64.calls (x0 := x0) (HM.rd hp0) h2790)) ?_
  rintro _ w2791 ⟨rfl, hn⟩
  replace HM : Mem w [] w2791 [] := HM.call hn
  refine ops_ex rfl (guard_none rfl) rfl rfl (ex_geq rfl rfl rfl) ?_
  refine ops_ex rfl (guard_none rfl) rfl rfl (ex_assign rfl rfl) ?_
  refine ops_nil ?_
  refine at_then ?_
  refine run_ret ?_
  have hR := Option.some.inj H
  subst hR
  exact at_ret1 rfl rfl ⟨_, rfl, rfl, HM⟩

def impl_areKeys.f (k : Nat) (x0 : List Int) : Option Bool := ((slices_ContainsFunc_int64.f k x0).bind fun t2794 => some (!t2794))
theorem impl_areKeys.calls {k : Nat} {x0 : List Int} {p0 : Value} {w : World} (hp0 : RdS kInt w p0 x0) {r : Bool} (H : impl_areKeys.f k x0 = some r) :
    Calls Tryz.prog 109 ([p0] : List Value).toArray w (fun e w_ => ∃ v, e = .returned v ∧ v = (.bool r) ∧ Mem w [] w_ []) := by
  have HM := Mem.start w
  refine calls_run (N := 6) Tryz.func109 rfl rfl rfl rfl ?_
  unfold impl_areKeys.f at H
  refine run_seq ?_
  refine run_region rfl ?_
  refine ops_ex rfl (guard_none rfl) rfl rfl (ex_assign rfl rfl) ?_
  refine ops_nil ?_
  refine at_then ?_
  refine run_seq ?_
  obtain ⟨t2794, h2795, H⟩ := bind_some H
  refine run_region rfl ?_
  refine ops_ex rfl (guard_none rfl) rfl rfl (ex_move rfl rfl) ?_
  refine ops_does rfl (guard_none rfl) rfl rfl (does_callk rfl callok142 rfl (slices_ContainsFunc_int64.calls (x0 := x0) (HM.rd hp0) h2795)) ?_
  rintro _ w2796 ⟨rfl, hn⟩
  replace HM : Mem w [] w2796 [] := HM.call hn
  refine ops_ex rfl (guard_none rfl) rfl rfl (ex_not rfl rfl) ?_
  refine ops_ex rfl (guard_none rfl) rfl rfl (ex_assign rfl rfl) ?_
  refine ops_nil ?_
  refine at_then ?_
  refine run_ret ?_
  have hR := Option.some.inj H
  subst hR
  exact at_ret1 rfl rfl ⟨_, rfl, rfl, HM⟩

def impl_isRising.l0 (x0 : List Int) : Nat → Int → Option (Bool ⊕ Unit)
  | 0, _ => none
  | k + 1, a2852 => (bif (decide (a2852 < (x0.length : Int))) then (chk (idxOk a2852 x0.length) (chk (idxOk (wrap64 (a2852 - 1)) x0.length) (bif (decide ((gt x0 a2852) ≤ (gt x0 (wrap64 (a2852 - 1))))) then some (.inl false) else impl_isRising.l0 x0 k (wrap64 (a2852 + 1))))) else some (.inr ()))
theorem impl_isRising.l0_z (x0 : List Int) (a2852 : Int) : impl_isRising.l0 x0 0 a2852 = none := rfl
theorem impl_isRising.l0_s (x0 : List Int) (k : Nat) (a2852 : Int) : impl_isRising.l0 x0 (k + 1) a2852 = (bif (decide (a2852 < (x0.length : Int))) then (chk (idxOk a2852 x0.length) (chk (idxOk (wrap64 (a2852 - 1)) x0.length) (bif (decide ((gt x0 a2852) ≤ (gt x0 (wrap64 (a2852 - 1))))) then some (.inl false) else impl_isRising.l0 x0 k (wrap64 (a2852 + 1))))) else some (.inr ())) := rfl
def impl_isRising.f (k : Nat) (x0 : List Int) : Option Bool := ((impl_isRising.l0 x0 k 1).bind fun o2844 => thn o2844 (fun r => some r) (fun _ => some true))
theorem impl_isRising.calls {k : Nat} {x0 : List Int} {p0 : Value} {w : World} (hp0 : RdS kInt w p0 x0) {r : Bool} (H : impl_isRising.f k x0 = some r) :
    Calls Tryz.prog 110 ([p0] : List Value).toArray w (fun e w_ => ∃ v, e = .returned v ∧ v = (.bool r) ∧ Mem w [] w_ []) := by
  have HM := Mem.start w
  refine calls_run (N := 20) Tryz.func110 rfl rfl rfl rfl ?_
  unfold impl_isRising.f at H
  refine run_seq ?_
  refine run_region rfl ?_
  refine ops_ex rfl (guard_none rfl) rfl rfl (ex_assign rfl rfl) ?_
  refine ops_nil ?_
  refine at_then ?_
  obtain ⟨o2844, ho2845, H⟩ := bind_some H
  refine run_mid (fun ρ_ w_ => Sum.inr () = o2844 ∧ ρ_ = [] ∧ Mem w [] w_ []) ?_ ?_
  · skip
    refine run_seq ?_
    refine run_region rfl ?_
    refine ops_ex rfl (guard_none rfl) rfl rfl (ex_assign rfl rfl) ?_
    refine ops_nil ?_
    refine at_then ?_
    refine run_block ?_
    refine run_loop (fun k_ ρ_ w_ => ∃ a2852 : Int, impl_isRising.l0 x0 k_ a2852 = some o2844 ∧ ρ_ = [(0, p0), (3, .int .i64 a2852)] ∧ Mem w [] w_ []) k (ρ1 := [(0, p0), (3, .int .i64 1)]) ⟨_, ho2845, rfl, HM⟩ (Sub.cons rfl (Sub.cons rfl Sub.nil)) ?_
    clear HM ho2845
    rintro k2859 _ w2860 ⟨a2852, ho2845, rfl, HM⟩
    obtain _ | k2859 := k2859
    · exact nomatch ((impl_isRising.l0_z x0 a2852).symm.trans ho2845)
    replace ho2845 := (impl_isRising.l0_s x0 k2859 a2852).symm.trans ho2845
    refine run_seq ?_
    refine run_seq ?_
    refine run_region rfl ?_
    refine ops_ex rfl (guard_none rfl) rfl rfl (ex_move rfl rfl) ?_
    refine ops_ex rfl (guard_none rfl) rfl rfl (ex_move rfl rfl) ?_
    refine ops_ex rfl (guard_none rfl) rfl rfl (ex_len (d := kInt) (xs := x0) rfl rfl Tryz.underlying60 hp0) ?_
    refine ops_ex rfl (guard_none rfl) rfl rfl (ex_lss rfl rfl rfl) ?_
    refine ops_nil ?_
    refine at_then ?_
    refine run_cond (b := (decide (a2852 < (x0.length : Int)))) rfl (fun hb2861 => ?_) (fun hb2861 => ?_)
    · replace ho2845 := cond_t hb2861 ho2845
      refine run_skip ?_
      refine at_then ?_
      refine run_seq ?_
      refine run_block ?_
      refine run_seq ?_
      obtain ⟨e2862, ho2845⟩ := chk_some ho2845
      obtain ⟨e2864, ho2845⟩ := chk_some ho2845
      refine run_drawf (fun w_ => Mem w [] w_ []) [(0, true), (1, true), (2, true), (3, true), (4, true), (5, true), (6, true), (7, true), (8, true), (9, true)] mixed rfl rfl (by kernel_rfl) ?_
      replace HM := HM.grow (fr_drew _)
      have hS := Mem.suf (M := []) HM
      refine drwp_take rfl (guard_none rfl) rfl rfl (fun w_ hS_ => (ex_move rfl rfl)) hS ?_
      refine drwp_take rfl (guard_none rfl) rfl rfl (fun w_ hS_ => (ex_move rfl rfl)) hS ?_
      have hc2863 : CellsAt _ (sb p0) (so p0 + (a2852).toNat * 1) [(.int .i64 (gt x0 a2852))] := rd_plain hp0 e2862
      refine drwp_take rfl (guard_none rfl) rfl rfl (fun w_ hS_ => (ex_indexAddr (d := kInt) rfl rfl rfl Tryz.underlying60 tsz2 hp0 (idx_lo e2862) (idx_hi e2862))) hS ?_
      refine drwp_take rfl (guard_none rfl) rfl rfl (fun w_ hS_ => (ex_load1 rfl rfl Tryz.underlying2 rfl ((hS_.at_ hc2863) 0 _ rfl))) hS ?_
      refine drwp_take rfl (guard_none rfl) rfl rfl (fun w_ hS_ => (ex_move rfl rfl)) hS ?_
      refine drwp_take rfl (guard_none rfl) rfl rfl (fun w_ hS_ => (ex_move rfl rfl)) hS ?_
      refine drwp_take rfl (guard_none rfl) rfl rfl (fun w_ hS_ => (ex_sub rfl rfl rfl)) hS ?_
      have hc2865 : CellsAt _ (sb p0) (so p0 + (wrap64 (a2852 - 1)).toNat * 1) [(.int .i64 (gt x0 (wrap64 (a2852 - 1))))] := rd_plain hp0 e2864
      refine drwp_take rfl (guard_none rfl) rfl rfl (fun w_ hS_ => (ex_indexAddr (d := kInt) rfl rfl rfl Tryz.underlying60 tsz2 hp0 (idx_lo e2864) (idx_hi e2864))) hS ?_
      refine drwp_take rfl (guard_none rfl) rfl rfl (fun w_ hS_ => (ex_load1 rfl rfl Tryz.underlying2 rfl ((hS_.at_ hc2865) 0 _ rfl))) hS ?_
      refine drwp_take rfl (guard_none rfl) rfl rfl (fun w_ hS_ => (ex_leq rfl rfl rfl)) hS ?_
      refine drwp_done ?_
      refine at_then ?_
      refine run_cond (b := (decide ((gt x0 a2852) ≤ (gt x0 (wrap64 (a2852 - 1)))))) rfl (fun hb2866 => ?_) (fun hb2866 => ?_)
      · replace ho2845 := cond_t hb2866 ho2845
        refine run_seq ?_
        refine run_region rfl ?_
        refine ops_ex rfl (guard_none rfl) rfl rfl (ex_assign rfl rfl) ?_
        refine ops_nil ?_
        refine at_then ?_
        refine run_ret ?_
        refine at_block_ret ?_
        refine at_then_ret ?_
        refine at_then_ret ?_
        refine at_block_ret ?_
        refine at_then_ret ?_
        have hR := Option.some.inj ho2845
        subst hR
        have hT := thn_inl H
        have hR := Option.some.inj hT
        subst hR
        exact at_ret1 rfl rfl ⟨_, rfl, rfl, HM⟩
      · replace ho2845 := cond_f hb2866 ho2845
        refine run_skip ?_
        refine at_block ?_
        refine at_then ?_
        refine run_region rfl ?_
        refine ops_ex rfl (guard_none rfl) rfl rfl (ex_move rfl rfl) ?_
        refine ops_ex rfl (guard_none rfl) rfl rfl (ex_add rfl rfl rfl) ?_
        refine ops_ex rfl (guard_none rfl) rfl rfl (ex_assign rfl rfl) ?_
        refine ops_nil ?_
        exact at_again k2859 (ρ1 := [(0, p0), (3, .int .i64 (wrap64 (a2852 + 1)))]) (Nat.lt_succ_self _) ⟨_, ho2845, rfl, HM⟩ (Sub.cons rfl (Sub.cons rfl Sub.nil))
    · replace ho2845 := cond_f hb2861 ho2845
      refine run_exit ?_
      refine at_then_exit ?_
      refine at_then_exit ?_
      refine at_block_exit ?_
      exact at_mid (ρ' := []) ⟨(Option.some.inj ho2845), rfl, HM⟩ Sub.nil
  · rintro _ w2867 ⟨rfl, rfl, HM⟩
    replace H := (thn_inr H)
    refine run_seq ?_
    refine run_region rfl ?_
    refine ops_ex rfl (guard_none rfl) rfl rfl (ex_assign rfl rfl) ?_
    refine ops_nil ?_
    refine at_then ?_
    refine run_ret ?_
    have hR := Option.some.inj H
    subst hR
    exact at_ret1 rfl rfl ⟨_, rfl, rfl, HM⟩
end Go.Proofs.YtcamddjlhchkfaaGreat.Zk
