/- What functions of the program compute, each as a plain function, and that they do. Conditions: as each theorem states them. -/
import Derived.Test.YtpfaihnmonfkhaaGreatDoorCheckTxZkF4
namespace Go.Proofs.YtpfaihnmonfkhaaGreatDoor.Zk
open Go Go.RowKit Go.IntWalk Go.Proofs
set_option linter.unusedVariables false
set_option linter.unusedSimpArgs false
set_option maxRecDepth 100000
set_option maxHeartbeats 4000000
def spec_l2Copy.f (k : Nat) (x0 : Rule) : Option Rule := (chk (leB ((([] : List Int).length + x0.fKeys.length) * 8) 140737488355328) (some (⟨([] : List Int) ++ x0.fKeys, x0.fNeed, x0.fAfter⟩ : Rule)))
theorem spec_l2Copy.calls {k : Nat} {x0 : Rule} {p0_0 : Value} {w : World} (hp0_0 : RdS kInt w p0_0 x0.fKeys) {r : Rule} (H : spec_l2Copy.f k x0 = some r) :
  Calls Tryz.prog 108 ([.agg #[p0_0, (.int .i64 x0.fNeed), (.int .i64 x0.fAfter)]] : List Value).toArray w (fun e w_ => ∃ v, e = .returned v ∧ ∃ u0 : Value, v = (.agg #[u0, .int .i64 r.fNeed, .int .i64 r.fAfter]) ∧ Mem w [] w_ [own kInt 2 u0 r.fKeys]) := by
 have HM := Mem.start w
 refine calls_run (N := 9) Tryz.func108 rfl rfl rfl rfl ?_
 unfold spec_l2Copy.f at H
 refine run_seq ?_
 refine run_region rfl ?_
 refine od rfl rfl rfl rfl (does_box (cs := [p0_0, .int .i64 x0.fNeed, .int .i64 x0.fAfter]) rfl rfl rfl HM) ?_
 rintro _ w3827 ⟨b3821, rfl, HM⟩
 refine od rfl rfl rfl rfl (does_alloc (cs := [.slice none 0 0, .int .i64 0, .int .i64 0]) rfl tz82 rfl HM) ?_
 rintro _ w3828 ⟨b3824, rfl, HM⟩
 refine ops_nil (at_then (run_seq ?_))
 obtain ⟨e3832, H⟩ := chk_some H
 refine run_region rfl ?_
 refine od rfl rfl rfl rfl (does_lit (e := 2) (cs := []) (xs := ([] : List Int)) kInt rfl rfl (fun _ => by kernel_rfl) rfl rfl (fun _ _ h => by have h' : _ = [] := h; subst h'; exact .nil) HM.emp) ?_
 rintro v3829 w3835 HM
 refine ox rfl rfl rfl rfl (ex_fieldAddr (off' := 0) rfl rfl Tryz.underlying82 rfl tsz58 rfl) ?_
 refine ox rfl rfl rfl rfl (ex_load1 rfl rfl Tryz.underlying58 rfl ((HM.box_at 2 rfl) 0 _ rfl)) ?_
 refine od rfl rfl rfl rfl (does_appendR kInt flat_plain rfl rfl rfl Tryz.underlying58 tsz2 rfl tby2 tz2 rfl rfl (leB_le e3832) (HM.rd hp0_0) HM) ?_
 rintro v3833 w3836 HM
 refine ox rfl rfl rfl rfl (ex_fieldAddr (off' := 0) rfl rfl Tryz.underlying82 rfl tsz58 rfl) ?_
 replace HM := HM.front 2 rfl rfl
 refine odS rfl rfl rfl (does_store (vs := [v3833]) (cs' := [v3833, .int .i64 x0.fNeed, .int .i64 x0.fAfter]) rfl rfl rfl (rd_cells (HM.own_rd 1 rfl)) tsz58 (Ones.rd (HM.own_rd 1 rfl) Ones.nil) rfl rfl HM) ?_
 rintro w3837 HM
 refine ops_nil (at_then (run_seq ?_))
 refine run_region rfl ?_
 refine ox rfl rfl rfl rfl (ex_loadN (cs := [v3833, (.int .i64 x0.fNeed), (.int .i64 x0.fAfter)]) rfl rfl Tryz.underlying82 rfl tsz82 rfl ((HM.box_at 0 rfl).sub 0 3 rfl)) ?_
 replace HM := HM.front 2 rfl rfl
 refine odS rfl rfl rfl (does_store (vs := [v3833, .int .i64 x0.fNeed, .int .i64 x0.fAfter]) (cs' := [v3833, .int .i64 x0.fNeed, .int .i64 x0.fAfter]) rfl rfl rfl rfl tsz82 (Ones.rd (HM.own_rd 2 rfl) (Ones.int (Ones.int Ones.nil))) rfl rfl HM) ?_
 rintro w3838 HM
 refine ops_nil (at_then ?_)
 refine run_ret ?_
 replace HM := (HM.front 1 rfl rfl).drop
 have hcb0 := HM.box_at 0 rfl
 replace HM := (HM.front 0 rfl rfl).drop
 have hR := Option.some.inj H
 subst hR
 exact at_retN rfl rfl Tryz.underlying82 rfl tsz82 rfl hcb0 ⟨_, rfl, _, rfl, HM⟩

def spec_l4Copy.l0 (x0 : List Coin) : Nat → (List Coin) → Int → Option ((List Coin))
 | 0, _, _ => none
 | k + 1, a3980, a3982 => (bif (decide (a3982 < (x0.length : Int))) then (chk (idxOk a3982 x0.length) ((spec_l2Copy.f k ((gt x0 a3982).fOut.fRule)).bind fun t4013 => (chk (leB ((a3980.length + ([(⟨(gt x0 a3982).fRef, (⟨(gt x0 a3982).fOut.fValue, t4013⟩ : Out), (gt x0 a3982).fHeight, (gt x0 a3982).fMined⟩ : Coin)] : List Coin).length) * 80) 140737488355328) (spec_l4Copy.l0 x0 k (a3980 ++ ([(⟨(gt x0 a3982).fRef, (⟨(gt x0 a3982).fOut.fValue, t4013⟩ : Out), (gt x0 a3982).fHeight, (gt x0 a3982).fMined⟩ : Coin)] : List Coin)) (wrap64 (a3982 + 1)))))) else some a3980)
theorem spec_l4Copy.l0_z (x0 : List Coin) (a3980 : List Coin) (a3982 : Int) : spec_l4Copy.l0 x0 0 a3980 a3982 = none := rfl
theorem spec_l4Copy.l0_s (x0 : List Coin) (k : Nat) (a3980 : List Coin) (a3982 : Int) : spec_l4Copy.l0 x0 (k + 1) a3980 a3982 = (bif (decide (a3982 < (x0.length : Int))) then (chk (idxOk a3982 x0.length) ((spec_l2Copy.f k ((gt x0 a3982).fOut.fRule)).bind fun t4013 => (chk (leB ((a3980.length + ([(⟨(gt x0 a3982).fRef, (⟨(gt x0 a3982).fOut.fValue, t4013⟩ : Out), (gt x0 a3982).fHeight, (gt x0 a3982).fMined⟩ : Coin)] : List Coin).length) * 80) 140737488355328) (spec_l4Copy.l0 x0 k (a3980 ++ ([(⟨(gt x0 a3982).fRef, (⟨(gt x0 a3982).fOut.fValue, t4013⟩ : Out), (gt x0 a3982).fHeight, (gt x0 a3982).fMined⟩ : Coin)] : List Coin)) (wrap64 (a3982 + 1)))))) else some a3980) := rfl
def spec_l4Copy.f (k : Nat) (x0 : List Coin) : Option ((List Coin)) := ((spec_l4Copy.l0 x0 k ([] : List Coin) 0).bind (fun a3957 => some a3957))
theorem spec_l4Copy.calls {k : Nat} {x0 : List Coin} {p0 : Value} {w : World} (hp0 : RdS kCoin w p0 x0) {r : (List Coin)} (H : spec_l4Copy.f k x0 = some r) :
  Calls Tryz.prog 89 ([p0] : List Value).toArray w (fun e w_ => ∃ v, e = .returned v ∧ ∃ u0 : Value, v = u0 ∧ Mem w [] w_ [own kCoin 86 u0 r]) := by
 have HM := Mem.start w
 refine calls_run (N := 28) Tryz.func89 rfl rfl rfl rfl ?_
 unfold spec_l4Copy.f at H
 refine run_seq ?_
 refine run_region rfl ?_
 refine ox rfl rfl rfl rfl (ex_assign rfl rfl) ?_
 refine ops_nil (at_then (run_seq ?_))
 refine run_region rfl ?_
 refine od rfl rfl rfl rfl (does_lit (e := 86) (cs := []) (xs := ([] : List Coin)) kCoin rfl rfl (fun _ => by kernel_rfl) rfl rfl (fun _ _ h => by have h' : _ = [] := h; subst h'; exact .nil) HM.emp) ?_
 rintro v3894 w3897 HM
 refine ox rfl rfl rfl rfl (ex_assign rfl rfl) ?_
 refine ops_nil (at_then ?_)
 obtain ⟨o3959, ho3960, H⟩ := bind_some H
 refine run_mid (fun ρ_ w_ => ∃ v3956 : Value, ∃ a3957 : List Coin, a3957 = o3959 ∧ ρ_ = [(3, v3956)] ∧ Mem w [] w_ [own kCoin 86 v3956 a3957]) ?_ ?_
 ·clear H
  refine run_seq ?_
  refine run_region rfl ?_
  refine ox rfl rfl rfl rfl (ex_assign rfl rfl) ?_
  refine ops_nil (at_then ?_)
  refine run_block ?_
  refine run_loop (fun k_ ρ_ w_ => ∃ v3979 : Value, ∃ a3980 : List Coin, ∃ a3982 : Int, spec_l4Copy.l0 x0 k_ a3980 a3982 = some o3959 ∧ ρ_ = [(0, p0), (3, v3979), (4, .int .i64 a3982)] ∧ Mem w [] w_ [own kCoin 86 v3979 a3980]) k (ρ1 := [(0, p0), (3, v3894), (4, .int .i64 0)]) ⟨_, _, _, ho3960, rfl, HM⟩ (Sub.cons rfl (Sub.cons rfl (Sub.cons rfl Sub.nil))) ?_
  clear HM ho3960
  rintro k4001 _ w4002 ⟨v3979, a3980, a3982, ho3960, rfl, HM⟩
  obtain _ | k4001 := k4001
  ·exact nomatch ((spec_l4Copy.l0_z x0 a3980 a3982).symm.trans ho3960)
  replace ho3960 := (spec_l4Copy.l0_s x0 k4001 a3980 a3982).symm.trans ho3960
  refine run_seq ?_
  refine run_seq ?_
  refine run_region rfl ?_
  refine ox rfl rfl rfl rfl (ex_move rfl rfl) ?_
  refine ox rfl rfl rfl rfl (ex_move rfl rfl) ?_
  refine ox rfl rfl rfl rfl (ex_len (d := kCoin) (xs := x0) rfl rfl Tryz.underlying41 hp0) ?_
  refine ox rfl rfl rfl rfl (ex_lss rfl rfl rfl) ?_
  refine ops_nil (at_then ?_)
  refine run_cond (b := (decide (a3982 < (x0.length : Int)))) rfl (fun hb4003 => ?_) (fun hb4003 => ?_)
  ·replace ho3960 := cond_t hb4003 ho3960
   refine run_skip ?_
   refine at_then ?_
   refine run_seq ?_
   refine run_block ?_
   refine run_seq ?_
   obtain ⟨e4004, ho3960⟩ := chk_some ho3960
   refine run_region rfl ?_
   refine ox rfl rfl rfl rfl (ex_move rfl rfl) ?_
   refine ox rfl rfl rfl rfl (ex_move rfl rfl) ?_
   obtain ⟨kv4006, hc4005, hk4007⟩ : ∃ u, CellsAt _ (sb p0) (so p0 + (a3982).toNat * 8) [(.int .i64 ((gt x0 a3982).fRef.fTx)), (.int .i64 ((gt x0 a3982).fRef.fAt)), (.int .i64 ((gt x0 a3982).fOut.fValue)), u, (.int .i64 ((gt x0 a3982).fOut.fRule.fNeed)), (.int .i64 ((gt x0 a3982).fOut.fRule.fAfter)), (.int .i64 ((gt x0 a3982).fHeight)), (.bool ((gt x0 a3982).fMined))] ∧ RdS kInt _ u ((gt x0 a3982).fOut.fRule.fKeys) := rd_with1 hp0 e4004
   refine ox rfl rfl rfl rfl (ex_indexAddr (d := kCoin) rfl rfl rfl Tryz.underlying41 tsz86 hp0 (idx_lo e4004) (idx_hi e4004)) ?_
   refine ox rfl rfl rfl rfl (ex_loadN (cs := [(.int .i64 ((gt x0 a3982).fRef.fTx)), (.int .i64 ((gt x0 a3982).fRef.fAt)), (.int .i64 ((gt x0 a3982).fOut.fValue)), kv4006, (.int .i64 ((gt x0 a3982).fOut.fRule.fNeed)), (.int .i64 ((gt x0 a3982).fOut.fRule.fAfter)), (.int .i64 ((gt x0 a3982).fHeight)), (.bool ((gt x0 a3982).fMined))]) rfl rfl Tryz.underlying86 rfl tsz86 rfl ((HM.at_ hc4005).sub 0 8 rfl)) ?_
   refine od rfl rfl rfl rfl (does_alloc (cs := [.int .i64 0, .int .i64 0, .int .i64 0, .slice none 0 0, .int .i64 0, .int .i64 0, .int .i64 0, .bool false]) rfl tz86 rfl HM) ?_
   rintro _ w4011 ⟨b4008, rfl, HM⟩
   refine odS rfl rfl rfl (does_store (vs := [.int .i64 ((gt x0 a3982).fRef.fTx), .int .i64 ((gt x0 a3982).fRef.fAt), .int .i64 ((gt x0 a3982).fOut.fValue), kv4006, .int .i64 ((gt x0 a3982).fOut.fRule.fNeed), .int .i64 ((gt x0 a3982).fOut.fRule.fAfter), .int .i64 ((gt x0 a3982).fHeight), .bool ((gt x0 a3982).fMined)]) (cs' := [.int .i64 ((gt x0 a3982).fRef.fTx), .int .i64 ((gt x0 a3982).fRef.fAt), .int .i64 ((gt x0 a3982).fOut.fValue), kv4006, .int .i64 ((gt x0 a3982).fOut.fRule.fNeed), .int .i64 ((gt x0 a3982).fOut.fRule.fAfter), .int .i64 ((gt x0 a3982).fHeight), .bool ((gt x0 a3982).fMined)]) rfl rfl rfl rfl tsz86 (Ones.int (Ones.int (Ones.int (Ones.rd hk4007 (Ones.int (Ones.int (Ones.int (Ones.bool Ones.nil)))))))) rfl rfl HM) ?_
   rintro w4012 HM
   refine ops_nil (at_then (run_seq ?_))
   obtain ⟨t4013, h4014, ho3960⟩ := bind_some ho3960
   refine run_region rfl ?_
   refine ox rfl rfl rfl rfl (ex_fieldAddr (off' := 2) rfl rfl Tryz.underlying86 rfl tsz84 rfl) ?_
   refine ox rfl rfl rfl rfl (ex_fieldAddr (off' := 3) rfl rfl Tryz.underlying84 rfl tsz82 rfl) ?_
   refine ox rfl rfl rfl rfl (ex_loadN (cs := [kv4006, (.int .i64 ((gt x0 a3982).fOut.fRule.fNeed)), (.int .i64 ((gt x0 a3982).fOut.fRule.fAfter))]) rfl rfl Tryz.underlying82 rfl tsz82 rfl ((HM.box_at 0 rfl).sub 3 3 rfl)) ?_
   refine od rfl rfl rfl rfl (does_callk rfl callok108 rfl (spec_l2Copy.calls (x0 := (gt x0 a3982).fOut.fRule) (HM.rd hk4007) h4014)) ?_
   rintro _ w4017 ⟨u4015, rfl, hn⟩
   replace HM : Mem w [] w4017 [own kInt 2 u4015 t4013.fKeys, box b4008 86 [.int .i64 ((gt x0 a3982).fRef.fTx), .int .i64 ((gt x0 a3982).fRef.fAt), .int .i64 ((gt x0 a3982).fOut.fValue), kv4006, .int .i64 ((gt x0 a3982).fOut.fRule.fNeed), .int .i64 ((gt x0 a3982).fOut.fRule.fAfter), .int .i64 ((gt x0 a3982).fHeight), .bool ((gt x0 a3982).fMined)], own kCoin 86 v3979 a3980] := HM.call hn
   refine ox rfl rfl rfl rfl (ex_fieldAddr (off' := 2) rfl rfl Tryz.underlying86 rfl tsz84 rfl) ?_
   refine ox rfl rfl rfl rfl (ex_fieldAddr (off' := 3) rfl rfl Tryz.underlying84 rfl tsz82 rfl) ?_
   replace HM := HM.front 1 rfl rfl
   refine odS rfl rfl rfl (does_store (vs := [u4015, .int .i64 t4013.fNeed, .int .i64 t4013.fAfter]) (cs' := [.int .i64 ((gt x0 a3982).fRef.fTx), .int .i64 ((gt x0 a3982).fRef.fAt), .int .i64 ((gt x0 a3982).fOut.fValue), u4015, .int .i64 t4013.fNeed, .int .i64 t4013.fAfter, .int .i64 ((gt x0 a3982).fHeight), .bool ((gt x0 a3982).fMined)]) rfl rfl rfl rfl tsz82 (Ones.rd (HM.own_rd 1 rfl) (Ones.int (Ones.int Ones.nil))) rfl rfl HM) ?_
   rintro w4018 HM
   refine ops_nil (at_then ?_)
   obtain ⟨e4022, ho3960⟩ := chk_some ho3960
   refine run_region rfl ?_
   refine ox rfl rfl rfl rfl (ex_move rfl rfl) ?_
   refine ox rfl rfl rfl rfl (ex_loadN (cs := [(.int .i64 ((gt x0 a3982).fRef.fTx)), (.int .i64 ((gt x0 a3982).fRef.fAt)), (.int .i64 ((gt x0 a3982).fOut.fValue)), u4015, (.int .i64 t4013.fNeed), (.int .i64 t4013.fAfter), (.int .i64 ((gt x0 a3982).fHeight)), (.bool ((gt x0 a3982).fMined))]) rfl rfl Tryz.underlying86 rfl tsz86 rfl ((HM.box_at 0 rfl).sub 0 8 rfl)) ?_
   replace HM := HM.front 1 rfl rfl
   refine od rfl rfl rfl rfl (does_lit (e := 86) (cs := [(.int .i64 ((gt x0 a3982).fRef.fTx)), (.int .i64 ((gt x0 a3982).fRef.fAt)), (.int .i64 ((gt x0 a3982).fOut.fValue)), u4015, (.int .i64 t4013.fNeed), (.int .i64 t4013.fAfter), (.int .i64 ((gt x0 a3982).fHeight)), (.bool ((gt x0 a3982).fMined))]) (xs := ([(⟨(gt x0 a3982).fRef, (⟨(gt x0 a3982).fOut.fValue, t4013⟩ : Out), (gt x0 a3982).fHeight, (gt x0 a3982).fMined⟩ : Coin)] : List Coin)) kCoin rfl rfl (fun _ => by kernel_rfl) rfl rfl (fun _ _ h => by have := Elems.cons (d := kCoin) (x := (⟨(gt x0 a3982).fRef, (⟨(gt x0 a3982).fOut.fValue, t4013⟩ : Out), (gt x0 a3982).fHeight, (gt x0 a3982).fMined⟩ : Coin)) ⟨_, rfl, h⟩ .nil; rw [List.append_nil, List.append_nil] at this; exact this) HM) ?_
   rintro v4019 w4025 HM
   replace HM := HM.front 2 rfl rfl
   refine od rfl rfl rfl rfl (does_append kCoin rfl rfl rfl Tryz.underlying41 tsz86 rfl tby86 tz86 rfl rfl (leB_le e4022) HM) ?_
   rintro v4023 w4026 HM
   refine ox rfl rfl rfl rfl (ex_assign rfl rfl) ?_
   refine ops_nil ?_
   refine at_block ?_
   refine at_then ?_
   refine run_region rfl ?_
   refine ox rfl rfl rfl rfl (ex_move rfl rfl) ?_
   refine ox rfl rfl rfl rfl (ex_add rfl rfl rfl) ?_
   refine ox rfl rfl rfl rfl (ex_assign rfl rfl) ?_
   refine ops_nil ?_
   replace HM := (HM.front 1 rfl rfl).drop
   exact at_again k4001 (ρ1 := [(0, p0), (3, v4023), (4, .int .i64 (wrap64 (a3982 + 1)))]) (Nat.lt_succ_self _) ⟨_, _, _, ho3960, rfl, HM⟩ (Sub.cons rfl (Sub.cons rfl (Sub.cons rfl Sub.nil)))
  ·replace ho3960 := cond_f hb4003 ho3960
   refine run_exit ?_
   refine at_then_exit ?_
   refine at_then_exit ?_
   refine at_block_exit ?_
   exact at_mid (ρ' := [(3, v3979)]) ⟨_, _, (Option.some.inj ho3960), rfl, HM⟩ (Sub.cons rfl Sub.nil)
 ·rintro _ w4027 ⟨v3956, a3957, rfl, rfl, HM⟩
  refine run_seq ?_
  refine run_region rfl ?_
  refine ox rfl rfl rfl rfl (ex_move rfl rfl) ?_
  refine ox rfl rfl rfl rfl (ex_assign rfl rfl) ?_
  refine ops_nil (at_then ?_)
  refine run_ret ?_
  have hR := Option.some.inj H
  subst hR
  exact at_ret1 rfl rfl ⟨_, rfl, _, rfl, HM⟩

def spec_l5Spent.l0 (x0 : List Coin) (x1 : Tx) : Nat → (List Coin) → Int → Option ((List Coin))
 | 0, _, _ => none
 | k + 1, a4118, a4120 => (bif (decide (a4120 < (x0.length : Int))) then (chk (idxOk a4120 x0.length) ((spec_l3Among.f k x1.fIns ((gt x0 a4120).fRef)).bind fun t4146 => (bif t4146 then (chk (idxOk a4120 x0.length) (chk (leB ((a4118.length + ([(gt x0 a4120)] : List Coin).length) * 80) 140737488355328) (spec_l5Spent.l0 x0 x1 k (a4118 ++ ([(gt x0 a4120)] : List Coin)) (wrap64 (a4120 + 1))))) else spec_l5Spent.l0 x0 x1 k a4118 (wrap64 (a4120 + 1))))) else some a4118)
theorem spec_l5Spent.l0_z (x0 : List Coin) (x1 : Tx) (a4118 : List Coin) (a4120 : Int) : spec_l5Spent.l0 x0 x1 0 a4118 a4120 = none := rfl
theorem spec_l5Spent.l0_s (x0 : List Coin) (x1 : Tx) (k : Nat) (a4118 : List Coin) (a4120 : Int) : spec_l5Spent.l0 x0 x1 (k + 1) a4118 a4120 = (bif (decide (a4120 < (x0.length : Int))) then (chk (idxOk a4120 x0.length) ((spec_l3Among.f k x1.fIns ((gt x0 a4120).fRef)).bind fun t4146 => (bif t4146 then (chk (idxOk a4120 x0.length) (chk (leB ((a4118.length + ([(gt x0 a4120)] : List Coin).length) * 80) 140737488355328) (spec_l5Spent.l0 x0 x1 k (a4118 ++ ([(gt x0 a4120)] : List Coin)) (wrap64 (a4120 + 1))))) else spec_l5Spent.l0 x0 x1 k a4118 (wrap64 (a4120 + 1))))) else some a4118) := rfl
def spec_l5Spent.f (k : Nat) (x0 : List Coin) (x1 : Tx) : Option ((List Coin) × Bool) := ((spec_l5Spent.l0 x0 x1 k ([] : List Coin) 0).bind (fun a4095 => ((spec_l4Copy.f k a4095).bind fun t4163 => some (t4163, ((a4095.length : Int) == (x1.fIns.length : Int))))))
theorem spec_l5Spent.calls {k : Nat} {x0 : List Coin} {x1 : Tx} {p0 : Value} {b1 f1 : Nat} {p1_0 : Value} {p1_1 : Value} {w : World} (hp0 : RdS kCoin w p0 x0) (hc1 : CellsAt w b1 f1 [.int .i64 x1.fKind, .int .i64 x1.fMember, p1_0, p1_1]) (hp1_0 : RdS kRef w p1_0 x1.fIns) (hp1_1 : RdS kOut w p1_1 x1.fOuts) {r : (List Coin) × Bool} (H : spec_l5Spent.f k x0 x1 = some r) :
  Calls Tryz.prog 53 ([p0, .pointer (some ⟨b1, f1, none⟩)] : List Value).toArray w (fun e w_ => ∃ v, e = .returned v ∧ ∃ u0 : Value, v = (.tuple #[u0, .bool r.2]) ∧ Mem w [] w_ [own kCoin 86 u0 r.1]) := by
 have HM := Mem.start w
 refine calls_run (N := 42) Tryz.func53 rfl rfl rfl rfl ?_
 unfold spec_l5Spent.f at H
 refine run_seq ?_
 refine run_region rfl ?_
 refine ox rfl rfl rfl rfl (ex_assign rfl rfl) ?_
 refine ox rfl rfl rfl rfl (ex_assign rfl rfl) ?_
 refine ops_nil (at_then (run_seq ?_))
 refine run_region rfl ?_
 refine od rfl rfl rfl rfl (does_lit (e := 86) (cs := []) (xs := ([] : List Coin)) kCoin rfl rfl (fun _ => by kernel_rfl) rfl rfl (fun _ _ h => by have h' : _ = [] := h; subst h'; exact .nil) HM.emp) ?_
 rintro v4032 w4035 HM
 refine ox rfl rfl rfl rfl (ex_assign rfl rfl) ?_
 refine ops_nil (at_then ?_)
 obtain ⟨o4097, ho4098, H⟩ := bind_some H
 refine run_mid (fun ρ_ w_ => ∃ v4094 : Value, ∃ a4095 : List Coin, a4095 = o4097 ∧ ρ_ = [(1, .pointer (some ⟨b1, f1, none⟩)), (6, v4094)] ∧ Mem w [] w_ [own (Kd.lent w kCoin with1_one) 86 v4094 a4095]) ?_ ?_
 ·clear H
  refine run_seq ?_
  refine run_region rfl ?_
  refine ox rfl rfl rfl rfl (ex_assign rfl rfl) ?_
  refine ops_nil (at_then ?_)
  refine run_block ?_
  replace HM := Mem.relent (d := kCoin) (d' := (Kd.lent w kCoin with1_one)) rfl HM
  refine run_loop (fun k_ ρ_ w_ => ∃ v4117 : Value, ∃ a4118 : List Coin, ∃ a4120 : Int, spec_l5Spent.l0 x0 x1 k_ a4118 a4120 = some o4097 ∧ ρ_ = [(0, p0), (1, .pointer (some ⟨b1, f1, none⟩)), (6, v4117), (7, .int .i64 a4120)] ∧ Mem w [] w_ [own (Kd.lent w kCoin with1_one) 86 v4117 a4118]) k (ρ1 := [(0, p0), (1, .pointer (some ⟨b1, f1, none⟩)), (6, v4032), (7, .int .i64 0)]) ⟨_, _, _, ho4098, rfl, HM⟩ (Sub.cons rfl (Sub.cons rfl (Sub.cons rfl (Sub.cons rfl Sub.nil)))) ?_
  clear HM ho4098
  rintro k4139 _ w4140 ⟨v4117, a4118, a4120, ho4098, rfl, HM⟩
  obtain _ | k4139 := k4139
  ·exact nomatch ((spec_l5Spent.l0_z x0 x1 a4118 a4120).symm.trans ho4098)
  replace ho4098 := (spec_l5Spent.l0_s x0 x1 k4139 a4118 a4120).symm.trans ho4098
  refine run_seq ?_
  refine run_seq ?_
  refine run_region rfl ?_
  refine ox rfl rfl rfl rfl (ex_move rfl rfl) ?_
  refine ox rfl rfl rfl rfl (ex_move rfl rfl) ?_
  refine ox rfl rfl rfl rfl (ex_len (d := kCoin) (xs := x0) rfl rfl Tryz.underlying41 hp0) ?_
  refine ox rfl rfl rfl rfl (ex_lss rfl rfl rfl) ?_
  refine ops_nil (at_then ?_)
  refine run_cond (b := (decide (a4120 < (x0.length : Int)))) rfl (fun hb4141 => ?_) (fun hb4141 => ?_)
  ·replace ho4098 := cond_t hb4141 ho4098
   refine run_skip ?_
   refine at_then ?_
   refine run_seq ?_
   refine run_block ?_
   refine run_seq ?_
   obtain ⟨e4142, ho4098⟩ := chk_some ho4098
   obtain ⟨t4146, h4147, ho4098⟩ := bind_some ho4098
   refine run_drawf (fun w_ => Mem w [] w_ [own (Kd.lent w kCoin with1_one) 86 v4117 a4118]) [(0, true), (1, true), (2, true), (3, true), (4, true), (5, true), (6, true), (7, true), (8, true), (9, false)] mixed rfl rfl (by kernel_rfl) ?_
   replace HM := HM.grow (fr_drew _)
   have hS := Mem.suf (M := []) HM
   refine dp rfl rfl rfl rfl (ex_move rfl rfl) hS ?_
   refine dp rfl rfl rfl rfl (ex_nilCheck rfl rfl) hS ?_
   refine dp rfl rfl rfl rfl (ex_fieldAddr (off' := f1 + 2) rfl rfl Tryz.underlying46 rfl tsz43 rfl) hS ?_
   refine drwp_take rfl (guard_none rfl) rfl rfl (fun w_ hS_ => (ex_load1 rfl rfl Tryz.underlying43 rfl ((hS_.at_ hc1) 2 _ rfl))) hS ?_
   refine dp rfl rfl rfl rfl (ex_move rfl rfl) hS ?_
   refine dp rfl rfl rfl rfl (ex_move rfl rfl) hS ?_
   obtain ⟨kv4144, hc4143, hk4145⟩ : ∃ u, CellsAt _ (sb p0) (so p0 + (a4120).toNat * 8) [(.int .i64 ((gt x0 a4120).fRef.fTx)), (.int .i64 ((gt x0 a4120).fRef.fAt)), (.int .i64 ((gt x0 a4120).fOut.fValue)), u, (.int .i64 ((gt x0 a4120).fOut.fRule.fNeed)), (.int .i64 ((gt x0 a4120).fOut.fRule.fAfter)), (.int .i64 ((gt x0 a4120).fHeight)), (.bool ((gt x0 a4120).fMined))] ∧ RdS kInt _ u ((gt x0 a4120).fOut.fRule.fKeys) := rd_with1 hp0 e4142
   refine dp rfl rfl rfl rfl (ex_indexAddr (d := kCoin) rfl rfl rfl Tryz.underlying41 tsz86 hp0 (idx_lo e4142) (idx_hi e4142)) hS ?_
   refine dp rfl rfl rfl rfl (ex_fieldAddr (off' := so p0 + (a4120).toNat * 8) rfl rfl Tryz.underlying86 rfl tsz81 rfl) hS ?_
   refine drwp_take rfl (guard_none rfl) rfl rfl (fun w_ hS_ => (ex_loadN (cs := [(.int .i64 ((gt x0 a4120).fRef.fTx)), (.int .i64 ((gt x0 a4120).fRef.fAt))]) rfl rfl Tryz.underlying81 rfl tsz81 rfl ((hS_.at_ hc4143).sub 0 2 rfl))) hS ?_
   refine drwp_one rfl (guard_none rfl) rfl rfl (does_callk rfl callok50 rfl (spec_l3Among.calls (x0 := x1.fIns) (x1 := (gt x0 a4120).fRef) (HM.rd hp1_0) h4147)) ?_
   rintro _ w4148 ⟨rfl, hn⟩
   replace HM : Mem w [] w4148 [own (Kd.lent w kCoin with1_one) 86 v4117 a4118] := HM.call hn
   have hS := Mem.suf (M := []) HM
   refine ⟨hS, ?_⟩
   refine drwp_done ?_
   refine at_then ?_
   refine run_cond (b := t4146) rfl (fun hb4149 => ?_) (fun hb4149 => ?_)
   ·replace ho4098 := cond_t hb4149 ho4098
    obtain ⟨e4150, ho4098⟩ := chk_some ho4098
    obtain ⟨e4157, ho4098⟩ := chk_some ho4098
    refine run_region rfl ?_
    refine ox rfl rfl rfl rfl (ex_move rfl rfl) ?_
    refine ox rfl rfl rfl rfl (ex_move rfl rfl) ?_
    refine ox rfl rfl rfl rfl (ex_move rfl rfl) ?_
    obtain ⟨kv4152, hc4151, hk4153⟩ : ∃ u, CellsAt _ (sb p0) (so p0 + (a4120).toNat * 8) [(.int .i64 ((gt x0 a4120).fRef.fTx)), (.int .i64 ((gt x0 a4120).fRef.fAt)), (.int .i64 ((gt x0 a4120).fOut.fValue)), u, (.int .i64 ((gt x0 a4120).fOut.fRule.fNeed)), (.int .i64 ((gt x0 a4120).fOut.fRule.fAfter)), (.int .i64 ((gt x0 a4120).fHeight)), (.bool ((gt x0 a4120).fMined))] ∧ RdS kInt _ u ((gt x0 a4120).fOut.fRule.fKeys) := rd_with1 hp0 e4150
    refine ox rfl rfl rfl rfl (ex_indexAddr (d := kCoin) rfl rfl rfl Tryz.underlying41 tsz86 hp0 (idx_lo e4150) (idx_hi e4150)) ?_
    refine ox rfl rfl rfl rfl (ex_loadN (cs := [(.int .i64 ((gt x0 a4120).fRef.fTx)), (.int .i64 ((gt x0 a4120).fRef.fAt)), (.int .i64 ((gt x0 a4120).fOut.fValue)), kv4152, (.int .i64 ((gt x0 a4120).fOut.fRule.fNeed)), (.int .i64 ((gt x0 a4120).fOut.fRule.fAfter)), (.int .i64 ((gt x0 a4120).fHeight)), (.bool ((gt x0 a4120).fMined))]) rfl rfl Tryz.underlying86 rfl tsz86 rfl ((HM.at_ hc4151).sub 0 8 rfl)) ?_
    refine od rfl rfl rfl rfl (does_lit (e := 86) (cs := [.int .i64 ((gt x0 a4120).fRef.fTx), .int .i64 ((gt x0 a4120).fRef.fAt), .int .i64 ((gt x0 a4120).fOut.fValue), kv4152, .int .i64 ((gt x0 a4120).fOut.fRule.fNeed), .int .i64 ((gt x0 a4120).fOut.fRule.fAfter), .int .i64 ((gt x0 a4120).fHeight), .bool ((gt x0 a4120).fMined)]) (xs := ([(gt x0 a4120)] : List Coin)) (Kd.lent w kCoin with1_one) rfl rfl (fun _ => by kernel_rfl) rfl rfl (fun _ _ h => by have h' : _ = [] := h; subst h'; exact (Elems.cons (d := (Kd.lent w kCoin with1_one)) (f := []) ⟨⟨_, rfl, hk4153⟩, rfl⟩ .nil)) HM.emp) ?_
    rintro v4154 w4160 HM
    replace HM := HM.front 1 rfl rfl
    refine od rfl rfl rfl rfl (does_append (Kd.lent w kCoin with1_one) rfl rfl rfl Tryz.underlying41 tsz86 rfl tby86 tz86 rfl rfl (leB_le e4157) HM) ?_
    rintro v4158 w4161 HM
    refine ox rfl rfl rfl rfl (ex_assign rfl rfl) ?_
    refine ops_nil ?_
    refine at_block ?_
    refine at_then ?_
    refine run_region rfl ?_
    refine ox rfl rfl rfl rfl (ex_move rfl rfl) ?_
    refine ox rfl rfl rfl rfl (ex_add rfl rfl rfl) ?_
    refine ox rfl rfl rfl rfl (ex_assign rfl rfl) ?_
    refine ops_nil ?_
    exact at_again k4139 (ρ1 := [(0, p0), (1, .pointer (some ⟨b1, f1, none⟩)), (6, v4158), (7, .int .i64 (wrap64 (a4120 + 1)))]) (Nat.lt_succ_self _) ⟨_, _, _, ho4098, rfl, HM⟩ (Sub.cons rfl (Sub.cons rfl (Sub.cons rfl (Sub.cons rfl Sub.nil))))
   ·replace ho4098 := cond_f hb4149 ho4098
    refine run_skip ?_
    refine at_block ?_
    refine at_then ?_
    refine run_region rfl ?_
    refine ox rfl rfl rfl rfl (ex_move rfl rfl) ?_
    refine ox rfl rfl rfl rfl (ex_add rfl rfl rfl) ?_
    refine ox rfl rfl rfl rfl (ex_assign rfl rfl) ?_
    refine ops_nil ?_
    exact at_again k4139 (ρ1 := [(0, p0), (1, .pointer (some ⟨b1, f1, none⟩)), (6, v4117), (7, .int .i64 (wrap64 (a4120 + 1)))]) (Nat.lt_succ_self _) ⟨_, _, _, ho4098, rfl, HM⟩ (Sub.cons rfl (Sub.cons rfl (Sub.cons rfl (Sub.cons rfl Sub.nil))))
  ·replace ho4098 := cond_f hb4141 ho4098
   refine run_exit ?_
   refine at_then_exit ?_
   refine at_then_exit ?_
   refine at_block_exit ?_
   exact at_mid (ρ' := [(1, .pointer (some ⟨b1, f1, none⟩)), (6, v4117)]) ⟨_, _, (Option.some.inj ho4098), rfl, HM⟩ (Sub.cons rfl (Sub.cons rfl Sub.nil))
 ·rintro _ w4162 ⟨v4094, a4095, rfl, rfl, HM⟩
  refine run_seq ?_
  obtain ⟨t4163, h4164, H⟩ := bind_some H
  refine run_drawf (fun w_ => Mem w [] w_ [own (Kd.lent w kCoin with1_one) 86 v4094 a4095]) [(0, true), (2, true), (3, true), (4, true), (5, true), (6, true), (7, true), (8, true), (9, true), (1, false), (10, true), (11, true)] mixed rfl rfl (by kernel_rfl) ?_
  replace HM := HM.grow (fr_drew _)
  have hS := Mem.suf (M := []) HM
  refine dp rfl rfl rfl rfl (ex_move rfl rfl) hS ?_
  refine dp rfl rfl rfl rfl (ex_move rfl rfl) hS ?_
  refine drwp_take rfl (guard_none rfl) rfl rfl (fun w_ hS_ => (ex_len (d := kCoin) (xs := a4095) rfl rfl Tryz.underlying41 ((hS_.own_rd 0 rfl).unlent (hS_.old)))) hS ?_
  refine dp rfl rfl rfl rfl (ex_move rfl rfl) hS ?_
  refine dp rfl rfl rfl rfl (ex_nilCheck rfl rfl) hS ?_
  refine dp rfl rfl rfl rfl (ex_fieldAddr (off' := f1 + 2) rfl rfl Tryz.underlying46 rfl tsz43 rfl) hS ?_
  refine drwp_take rfl (guard_none rfl) rfl rfl (fun w_ hS_ => (ex_load1 rfl rfl Tryz.underlying43 rfl ((hS_.at_ hc1) 2 _ rfl))) hS ?_
  refine dp rfl rfl rfl rfl (ex_len (d := kRef) (xs := x1.fIns) rfl rfl Tryz.underlying43 hp1_0) hS ?_
  refine dp rfl rfl rfl rfl (ex_eql rfl rfl rfl) hS ?_
  refine drwp_one rfl (guard_none rfl) rfl rfl (does_callk rfl callok89 rfl (spec_l4Copy.calls (x0 := a4095) ((HM.own_rd 0 rfl).unlent (HM.old)) h4164)) ?_
  rintro u4165 w4167 ⟨_, rfl, hn⟩
  replace HM : Mem w [] w4167 [own kCoin 86 u4165 t4163, own (Kd.lent w kCoin with1_one) 86 v4094 a4095] := HM.call hn
  have hS := Mem.suf (M := [own kCoin 86 u4165 t4163]) HM
  refine ⟨hS, ?_⟩
  refine dp rfl rfl rfl rfl (ex_assign rfl rfl) hS ?_
  refine dp rfl rfl rfl rfl (ex_assign rfl rfl) hS ?_
  refine drwp_done ?_
  refine at_then ?_
  refine run_ret ?_
  replace HM := (HM.front 1 rfl rfl).drop
  have hR := Option.some.inj H
  subst hR
  exact at_ret2 rfl rfl rfl ⟨_, rfl, _, rfl, HM⟩

def spec_l5Ripe.f (k : Nat) (x0 : Coin) (x1 : Int) : Option Bool := some ((!x0.fMined) || (decide ((wrap64 (x0.fHeight + 2)) ≤ x1)))
theorem spec_l5Ripe.calls {k : Nat} {x0 : Coin} {x1 : Int} {b0 f0 : Nat} {p0_0 : Value} {w : World} (hc0 : CellsAt w b0 f0 [.int .i64 x0.fRef.fTx, .int .i64 x0.fRef.fAt, .int .i64 x0.fOut.fValue, p0_0, .int .i64 x0.fOut.fRule.fNeed, .int .i64 x0.fOut.fRule.fAfter, .int .i64 x0.fHeight, .bool x0.fMined]) (hp0_0 : RdS kInt w p0_0 x0.fOut.fRule.fKeys) {r : Bool} (H : spec_l5Ripe.f k x0 x1 = some r) :
  Calls Tryz.prog 54 ([.pointer (some ⟨b0, f0, none⟩), .int .i64 x1] : List Value).toArray w (fun e w_ => ∃ v, e = .returned v ∧ v = (.bool r) ∧ Mem w [] w_ []) := by
 have HM := Mem.start w
 refine calls_run (N := 19) Tryz.func54 rfl rfl rfl rfl ?_
 unfold spec_l5Ripe.f at H
 refine run_seq ?_
 refine run_region rfl ?_
 refine ox rfl rfl rfl rfl (ex_assign rfl rfl) ?_
 refine ops_nil (at_then (run_seq ?_))
 refine run_meet (fun ρ_ w_ => ρ_ = [(4, .bool ((!x0.fMined) || (decide ((wrap64 (x0.fHeight + 2)) ≤ x1))))] ∧ Mem w [] w_ []) ?_ ?_
 ·skip
  refine run_region rfl ?_
  refine ox rfl rfl rfl rfl (ex_move rfl rfl) ?_
  refine ox rfl rfl rfl rfl (ex_nilCheck rfl rfl) ?_
  refine ox rfl rfl rfl rfl (ex_fieldAddr (off' := f0 + 7) rfl rfl Tryz.underlying86 rfl tsz4 rfl) ?_
  refine ox rfl rfl rfl rfl (ex_load1 rfl rfl Tryz.underlying4 rfl ((HM.at_ hc0) 7 _ rfl)) ?_
  refine ox rfl rfl rfl rfl (ex_not rfl rfl) ?_
  refine ox rfl rfl rfl rfl (ex_move rfl rfl) ?_
  refine bool_cases (!x0.fMined) (fun hg4176 => ?_) (fun hg4176 => ?_)
  ·skip
   refine ops_off rfl (guard_off rfl rfl rfl hg4176) rfl rfl ?_
   refine ops_off rfl (guard_off rfl rfl rfl hg4176) rfl rfl ?_
   refine ops_off rfl (guard_off rfl rfl rfl hg4176) rfl rfl ?_
   refine ops_off rfl (guard_off rfl rfl rfl hg4176) rfl rfl ?_
   refine ops_off rfl (guard_off rfl rfl rfl hg4176) rfl rfl ?_
   refine ops_off rfl (guard_off rfl rfl rfl hg4176) rfl rfl ?_
   refine ops_off rfl (guard_off rfl rfl rfl hg4176) rfl rfl ?_
   have hg4177 : ((!x0.fMined) || (decide ((wrap64 (x0.fHeight + 2)) ≤ x1))) = true := by simp only [hg4176, Bool.and_true, Bool.true_and, Bool.and_false, Bool.false_and, Bool.or_true, Bool.true_or, Bool.or_false, Bool.false_or, Bool.not_true, Bool.not_false, Bool.not_not]
   refine ops_ex (v := .bool ((!x0.fMined) || (decide ((wrap64 (x0.fHeight + 2)) ≤ x1)))) rfl (guard_none rfl) rfl rfl (ex_por_t rfl rfl hg4176) ?_
   refine ox rfl rfl rfl rfl (ex_assign rfl rfl) ?_
   refine ops_nil ?_
   exact at_meet [(4, .bool ((!x0.fMined) || (decide ((wrap64 (x0.fHeight + 2)) ≤ x1))))] ⟨rfl, HM⟩ (Sub.cons rfl Sub.nil)
  ·skip
   refine ops_ex rfl (guard_on rfl rfl rfl hg4176) rfl rfl (ex_move rfl rfl) ?_
   refine ops_ex rfl (guard_on rfl rfl rfl hg4176) rfl rfl (ex_move rfl rfl) ?_
   refine ops_ex rfl (guard_on rfl rfl rfl hg4176) rfl rfl (ex_nilCheck rfl rfl) ?_
   refine ops_ex rfl (guard_on rfl rfl rfl hg4176) rfl rfl (ex_fieldAddr (off' := f0 + 6) rfl rfl Tryz.underlying86 rfl tsz2 rfl) ?_
   refine ops_ex rfl (guard_on rfl rfl rfl hg4176) rfl rfl (ex_load1 rfl rfl Tryz.underlying2 rfl ((HM.at_ hc0) 6 _ rfl)) ?_
   refine ops_ex rfl (guard_on rfl rfl rfl hg4176) rfl rfl (ex_add rfl rfl rfl) ?_
   refine ops_ex rfl (guard_on rfl rfl rfl hg4176) rfl rfl (ex_geq rfl rfl rfl) ?_
   refine ops_ex (v := .bool ((!x0.fMined) || (decide ((wrap64 (x0.fHeight + 2)) ≤ x1)))) rfl (guard_none rfl) rfl rfl (ex_por_f rfl rfl hg4176 rfl) ?_
   refine ox rfl rfl rfl rfl (ex_assign rfl rfl) ?_
   refine ops_nil ?_
   exact at_meet [(4, .bool ((!x0.fMined) || (decide ((wrap64 (x0.fHeight + 2)) ≤ x1))))] ⟨rfl, HM⟩ (Sub.cons rfl Sub.nil)
 ·rintro _ w4178 ⟨rfl, HM⟩
  refine at_then ?_
  refine run_ret ?_
  have hR := Option.some.inj H
  subst hR
  exact at_ret1 rfl rfl ⟨_, rfl, rfl, HM⟩

def spec_l1Has.f (k : Nat) (x0 : Ledger) (x1 : Int) (x2 : Int) : Option Bool := ((spec_l1Signed.f k x0.fSigns (⟨x1, x2⟩ : Sign)).bind fun t4194 => some t4194)
theorem spec_l1Has.calls {k : Nat} {x0 : Ledger} {x1 : Int} {x2 : Int} {b0 f0 : Nat} {p0_0 : Value} {p0_1 : Value} {w : World} (hc0 : CellsAt w b0 f0 [p0_0, p0_1]) (hp0_0 : RdS kStr w p0_0 x0.fTexts) (hp0_1 : RdS kSign w p0_1 x0.fSigns) {r : Bool} (H : spec_l1Has.f k x0 x1 x2 = some r) :
  Calls Tryz.prog 56 ([.pointer (some ⟨b0, f0, none⟩), .int .i64 x1, .int .i64 x2] : List Value).toArray w (fun e w_ => ∃ v, e = .returned v ∧ v = (.bool r) ∧ Mem w [] w_ []) := by
 have HM := Mem.start w
 refine calls_run (N := 15) Tryz.func56 rfl rfl rfl rfl ?_
 unfold spec_l1Has.f at H
 refine run_seq ?_
 refine run_region rfl ?_
 refine ox rfl rfl rfl rfl (ex_assign rfl rfl) ?_
 refine ops_nil (at_then (run_seq ?_))
 obtain ⟨t4194, h4195, H⟩ := bind_some H
 refine run_region rfl ?_
 refine ox rfl rfl rfl rfl (ex_move rfl rfl) ?_
 refine ox rfl rfl rfl rfl (ex_nilCheck rfl rfl) ?_
 refine ox rfl rfl rfl rfl (ex_fieldAddr (off' := f0 + 1) rfl rfl Tryz.underlying39 rfl tsz37 rfl) ?_
 refine ox rfl rfl rfl rfl (ex_load1 rfl rfl Tryz.underlying37 rfl ((HM.at_ hc0) 1 _ rfl)) ?_
 refine ox rfl rfl rfl rfl (ex_move rfl rfl) ?_
 refine ox rfl rfl rfl rfl (ex_move rfl rfl) ?_
 refine ox rfl rfl rfl rfl (ex_build (cells := #[(.int .i64 x1), (.int .i64 x2)]) rfl rfl (by kernel_rfl)) ?_
 refine od rfl rfl rfl rfl (does_callk rfl callok46 rfl (spec_l1Signed.calls (x0 := x0.fSigns) (x1 := (⟨x1, x2⟩ : Sign)) (HM.rd hp0_1) h4195)) ?_
 rintro _ w4196 ⟨rfl, hn⟩
 replace HM : Mem w [] w4196 [] := HM.call hn
 refine ox rfl rfl rfl rfl (ex_assign rfl rfl) ?_
 refine ops_nil (at_then ?_)
 refine run_ret ?_
 have hR := Option.some.inj H
 subst hR
 exact at_ret1 rfl rfl ⟨_, rfl, rfl, HM⟩

def spec_l2Met.l0 (x0 : Ledger) (x1 : Rule) (x2 : Int) : Nat → Int → Int → Option Int
 | 0, _, _ => none
 | k + 1, a4249, a4250 => (bif (decide (a4250 < (x1.fKeys.length : Int))) then (chk (idxOk a4250 x1.fKeys.length) ((spec_l1Has.f k x0 (gt x1.fKeys a4250) x2).bind fun t4262 => (bif t4262 then spec_l2Met.l0 x0 x1 x2 k (wrap64 (a4249 + 1)) (wrap64 (a4250 + 1)) else spec_l2Met.l0 x0 x1 x2 k a4249 (wrap64 (a4250 + 1))))) else some a4249)
theorem spec_l2Met.l0_z (x0 : Ledger) (x1 : Rule) (x2 : Int) (a4249 : Int) (a4250 : Int) : spec_l2Met.l0 x0 x1 x2 0 a4249 a4250 = none := rfl
theorem spec_l2Met.l0_s (x0 : Ledger) (x1 : Rule) (x2 : Int) (k : Nat) (a4249 : Int) (a4250 : Int) : spec_l2Met.l0 x0 x1 x2 (k + 1) a4249 a4250 = (bif (decide (a4250 < (x1.fKeys.length : Int))) then (chk (idxOk a4250 x1.fKeys.length) ((spec_l1Has.f k x0 (gt x1.fKeys a4250) x2).bind fun t4262 => (bif t4262 then spec_l2Met.l0 x0 x1 x2 k (wrap64 (a4249 + 1)) (wrap64 (a4250 + 1)) else spec_l2Met.l0 x0 x1 x2 k a4249 (wrap64 (a4250 + 1))))) else some a4249) := rfl
def spec_l2Met.f (k : Nat) (x0 : Ledger) (x1 : Rule) (x2 : Int) (x3 : Int) : Option Int := (bif (decide (x3 < x1.fAfter)) then some 9 else ((spec_l2Met.l0 x0 x1 x2 k 0 0).bind (fun a4240 => (bif (decide (a4240 < x1.fNeed)) then some 6 else some 0))))
theorem spec_l2Met.calls {k : Nat} {x0 : Ledger} {x1 : Rule} {x2 : Int} {x3 : Int} {b0 f0 : Nat} {p0_0 : Value} {p0_1 : Value} {b1 f1 : Nat} {p1_0 : Value} {w : World} (hc0 : CellsAt w b0 f0 [p0_0, p0_1]) (hp0_0 : RdS kStr w p0_0 x0.fTexts) (hp0_1 : RdS kSign w p0_1 x0.fSigns) (hc1 : CellsAt w b1 f1 [p1_0, .int .i64 x1.fNeed, .int .i64 x1.fAfter]) (hp1_0 : RdS kInt w p1_0 x1.fKeys) {r : Int} (H : spec_l2Met.f k x0 x1 x2 x3 = some r) :
  Calls Tryz.prog 55 ([.pointer (some ⟨b0, f0, none⟩), .pointer (some ⟨b1, f1, none⟩), .int .i64 x2, .int .i64 x3] : List Value).toArray w (fun e w_ => ∃ v, e = .returned v ∧ v = (.int .i64 r) ∧ Mem w [] w_ []) := by
 have HM := Mem.start w
 refine calls_run (N := 44) Tryz.func55 rfl rfl rfl rfl ?_
 unfold spec_l2Met.f at H
 refine run_seq ?_
 refine run_region rfl ?_
 refine ox rfl rfl rfl rfl (ex_assign rfl rfl) ?_
 refine ops_nil (at_then (run_seq ?_))
 refine run_seq ?_
 refine run_region rfl ?_
 refine ox rfl rfl rfl rfl (ex_move rfl rfl) ?_
 refine ox rfl rfl rfl rfl (ex_move rfl rfl) ?_
 refine ox rfl rfl rfl rfl (ex_nilCheck rfl rfl) ?_
 refine ox rfl rfl rfl rfl (ex_fieldAddr (off' := f1 + 2) rfl rfl Tryz.underlying82 rfl tsz2 rfl) ?_
 refine ox rfl rfl rfl rfl (ex_load1 rfl rfl Tryz.underlying2 rfl ((HM.at_ hc1) 2 _ rfl)) ?_
 refine ox rfl rfl rfl rfl (ex_lss rfl rfl rfl) ?_
 refine ops_nil (at_then ?_)
 refine run_cond (b := (decide (x3 < x1.fAfter))) rfl (fun hb4219 => ?_) (fun hb4219 => ?_)
 ·replace H := cond_t hb4219 H
  refine run_seq ?_
  refine run_region rfl ?_
  refine ox rfl rfl rfl rfl (ex_assign rfl rfl) ?_
  refine ops_nil (at_then ?_)
  refine run_ret ?_
  refine at_then_ret ?_
  have hR := Option.some.inj H
  subst hR
  exact at_ret1 rfl rfl ⟨_, rfl, rfl, HM⟩
 ·replace H := cond_f hb4219 H
  refine run_skip ?_
  refine at_then ?_
  refine run_seq ?_
  refine run_region rfl ?_
  refine ox rfl rfl rfl rfl (ex_assign rfl rfl) ?_
  refine ops_nil (at_then ?_)
  obtain ⟨o4241, ho4242, H⟩ := bind_some H
  refine run_mid (fun ρ_ w_ => ∃ a4240 : Int, a4240 = o4241 ∧ ρ_ = [(1, .pointer (some ⟨b1, f1, none⟩)), (9, .int .i64 a4240)] ∧ Mem w [] w_ []) ?_ ?_
  ·clear H
   refine run_seq ?_
   refine run_region rfl ?_
   refine ox rfl rfl rfl rfl (ex_assign rfl rfl) ?_
   refine ops_nil (at_then ?_)
   refine run_block ?_
   refine run_loop (fun k_ ρ_ w_ => ∃ a4249 : Int, ∃ a4250 : Int, spec_l2Met.l0 x0 x1 x2 k_ a4249 a4250 = some o4241 ∧ ρ_ = [(0, .pointer (some ⟨b0, f0, none⟩)), (1, .pointer (some ⟨b1, f1, none⟩)), (2, .int .i64 x2), (9, .int .i64 a4249), (10, .int .i64 a4250)] ∧ Mem w [] w_ []) k (ρ1 := [(0, .pointer (some ⟨b0, f0, none⟩)), (1, .pointer (some ⟨b1, f1, none⟩)), (2, .int .i64 x2), (9, .int .i64 0), (10, .int .i64 0)]) ⟨_, _, ho4242, rfl, HM⟩ (Sub.cons rfl (Sub.cons rfl (Sub.cons rfl (Sub.cons rfl (Sub.cons rfl Sub.nil))))) ?_
   clear HM ho4242
   rintro k4257 _ w4258 ⟨a4249, a4250, ho4242, rfl, HM⟩
   obtain _ | k4257 := k4257
   ·exact nomatch ((spec_l2Met.l0_z x0 x1 x2 a4249 a4250).symm.trans ho4242)
   replace ho4242 := (spec_l2Met.l0_s x0 x1 x2 k4257 a4249 a4250).symm.trans ho4242
   refine run_seq ?_
   refine run_seq ?_
   refine run_region rfl ?_
   refine ox rfl rfl rfl rfl (ex_move rfl rfl) ?_
   refine ox rfl rfl rfl rfl (ex_move rfl rfl) ?_
   refine ox rfl rfl rfl rfl (ex_nilCheck rfl rfl) ?_
   refine ox rfl rfl rfl rfl (ex_fieldAddr (off' := f1) rfl rfl Tryz.underlying82 rfl tsz58 rfl) ?_
   refine ox rfl rfl rfl rfl (ex_load1 rfl rfl Tryz.underlying58 rfl ((HM.at_ hc1) 0 _ rfl)) ?_
   refine ox rfl rfl rfl rfl (ex_len (d := kInt) (xs := x1.fKeys) rfl rfl Tryz.underlying58 hp1_0) ?_
   refine ox rfl rfl rfl rfl (ex_lss rfl rfl rfl) ?_
   refine ops_nil (at_then ?_)
   refine run_cond (b := (decide (a4250 < (x1.fKeys.length : Int)))) rfl (fun hb4259 => ?_) (fun hb4259 => ?_)
   ·replace ho4242 := cond_t hb4259 ho4242
    refine run_skip ?_
    refine at_then ?_
    refine run_seq ?_
    refine run_block ?_
    refine run_seq ?_
    obtain ⟨e4260, ho4242⟩ := chk_some ho4242
    obtain ⟨t4262, h4263, ho4242⟩ := bind_some ho4242
    refine run_region rfl ?_
    refine ox rfl rfl rfl rfl (ex_move rfl rfl) ?_
    refine ox rfl rfl rfl rfl (ex_move rfl rfl) ?_
    refine ox rfl rfl rfl rfl (ex_nilCheck rfl rfl) ?_
    refine ox rfl rfl rfl rfl (ex_fieldAddr (off' := f1) rfl rfl Tryz.underlying82 rfl tsz58 rfl) ?_
    refine ox rfl rfl rfl rfl (ex_load1 rfl rfl Tryz.underlying58 rfl ((HM.at_ hc1) 0 _ rfl)) ?_
    refine ox rfl rfl rfl rfl (ex_move rfl rfl) ?_
    have hc4261 : CellsAt _ (sb p1_0) (so p1_0 + (a4250).toNat * 1) [(.int .i64 (gt x1.fKeys a4250))] := rd_plain hp1_0 e4260
    refine ox rfl rfl rfl rfl (ex_indexAddr (d := kInt) rfl rfl rfl Tryz.underlying58 tsz2 hp1_0 (idx_lo e4260) (idx_hi e4260)) ?_
    refine ox rfl rfl rfl rfl (ex_load1 rfl rfl Tryz.underlying2 rfl ((HM.at_ hc4261) 0 _ rfl)) ?_
    refine ox rfl rfl rfl rfl (ex_move rfl rfl) ?_
    refine od rfl rfl rfl rfl (does_callk rfl callok56 rfl (spec_l1Has.calls (x0 := x0) (x1 := (gt x1.fKeys a4250)) (x2 := x2) (HM.at_ hc0) (HM.rd hp0_0) (HM.rd hp0_1) h4263)) ?_
    rintro _ w4264 ⟨rfl, hn⟩
    replace HM : Mem w [] w4264 [] := HM.call hn
    refine ops_nil (at_then ?_)
    refine run_cond (b := t4262) rfl (fun hb4265 => ?_) (fun hb4265 => ?_)
    ·replace ho4242 := cond_t hb4265 ho4242
     refine run_region rfl ?_
     refine ox rfl rfl rfl rfl (ex_move rfl rfl) ?_
     refine ox rfl rfl rfl rfl (ex_add rfl rfl rfl) ?_
     refine ox rfl rfl rfl rfl (ex_assign rfl rfl) ?_
     refine ops_nil ?_
     refine at_block ?_
     refine at_then ?_
     refine run_region rfl ?_
     refine ox rfl rfl rfl rfl (ex_move rfl rfl) ?_
     refine ox rfl rfl rfl rfl (ex_add rfl rfl rfl) ?_
     refine ox rfl rfl rfl rfl (ex_assign rfl rfl) ?_
     refine ops_nil ?_
     exact at_again k4257 (ρ1 := [(0, .pointer (some ⟨b0, f0, none⟩)), (1, .pointer (some ⟨b1, f1, none⟩)), (2, .int .i64 x2), (9, .int .i64 (wrap64 (a4249 + 1))), (10, .int .i64 (wrap64 (a4250 + 1)))]) (Nat.lt_succ_self _) ⟨_, _, ho4242, rfl, HM⟩ (Sub.cons rfl (Sub.cons rfl (Sub.cons rfl (Sub.cons rfl (Sub.cons rfl Sub.nil)))))
    ·replace ho4242 := cond_f hb4265 ho4242
     refine run_skip ?_
     refine at_block ?_
     refine at_then ?_
     refine run_region rfl ?_
     refine ox rfl rfl rfl rfl (ex_move rfl rfl) ?_
     refine ox rfl rfl rfl rfl (ex_add rfl rfl rfl) ?_
     refine ox rfl rfl rfl rfl (ex_assign rfl rfl) ?_
     refine ops_nil ?_
     exact at_again k4257 (ρ1 := [(0, .pointer (some ⟨b0, f0, none⟩)), (1, .pointer (some ⟨b1, f1, none⟩)), (2, .int .i64 x2), (9, .int .i64 a4249), (10, .int .i64 (wrap64 (a4250 + 1)))]) (Nat.lt_succ_self _) ⟨_, _, ho4242, rfl, HM⟩ (Sub.cons rfl (Sub.cons rfl (Sub.cons rfl (Sub.cons rfl (Sub.cons rfl Sub.nil)))))
   ·replace ho4242 := cond_f hb4259 ho4242
    refine run_exit ?_
    refine at_then_exit ?_
    refine at_then_exit ?_
    refine at_block_exit ?_
    exact at_mid (ρ' := [(1, .pointer (some ⟨b1, f1, none⟩)), (9, .int .i64 a4249)]) ⟨_, (Option.some.inj ho4242), rfl, HM⟩ (Sub.cons rfl (Sub.cons rfl Sub.nil))
  ·rintro _ w4266 ⟨a4240, rfl, rfl, HM⟩
   refine run_seq ?_
   refine run_seq ?_
   refine run_region rfl ?_
   refine ox rfl rfl rfl rfl (ex_move rfl rfl) ?_
   refine ox rfl rfl rfl rfl (ex_move rfl rfl) ?_
   refine ox rfl rfl rfl rfl (ex_nilCheck rfl rfl) ?_
   refine ox rfl rfl rfl rfl (ex_fieldAddr (off' := f1 + 1) rfl rfl Tryz.underlying82 rfl tsz2 rfl) ?_
   refine ox rfl rfl rfl rfl (ex_load1 rfl rfl Tryz.underlying2 rfl ((HM.at_ hc1) 1 _ rfl)) ?_
   refine ox rfl rfl rfl rfl (ex_lss rfl rfl rfl) ?_
   refine ops_nil (at_then ?_)
   refine run_cond (b := (decide (a4240 < x1.fNeed))) rfl (fun hb4267 => ?_) (fun hb4267 => ?_)
   ·replace H := cond_t hb4267 H
    refine run_seq ?_
    refine run_region rfl ?_
    refine ox rfl rfl rfl rfl (ex_assign rfl rfl) ?_
    refine ops_nil (at_then ?_)
    refine run_ret ?_
    refine at_then_ret ?_
    have hR := Option.some.inj H
    subst hR
    exact at_ret1 rfl rfl ⟨_, rfl, rfl, HM⟩
   ·replace H := cond_f hb4267 H
    refine run_skip ?_
    refine at_then ?_
    refine run_seq ?_
    refine run_region rfl ?_
    refine ox rfl rfl rfl rfl (ex_assign rfl rfl) ?_
    refine ops_nil (at_then ?_)
    refine run_ret ?_
    have hR := Option.some.inj H
    subst hR
    exact at_ret1 rfl rfl ⟨_, rfl, rfl, HM⟩

def spec_l4Sum.l0 (x0 : List Coin) : Nat → Int → Int → Option Int
 | 0, _, _ => none
 | k + 1, a4351, a4352 => (bif (decide (a4352 < (x0.length : Int))) then (chk (idxOk a4352 x0.length) (spec_l4Sum.l0 x0 k (wrap64 (a4351 + ((gt x0 a4352).fOut.fValue))) (wrap64 (a4352 + 1)))) else some a4351)
theorem spec_l4Sum.l0_z (x0 : List Coin) (a4351 : Int) (a4352 : Int) : spec_l4Sum.l0 x0 0 a4351 a4352 = none := rfl
theorem spec_l4Sum.l0_s (x0 : List Coin) (k : Nat) (a4351 : Int) (a4352 : Int) : spec_l4Sum.l0 x0 (k + 1) a4351 a4352 = (bif (decide (a4352 < (x0.length : Int))) then (chk (idxOk a4352 x0.length) (spec_l4Sum.l0 x0 k (wrap64 (a4351 + ((gt x0 a4352).fOut.fValue))) (wrap64 (a4352 + 1)))) else some a4351) := rfl
def spec_l4Sum.f (k : Nat) (x0 : List Coin) : Option Int := ((spec_l4Sum.l0 x0 k 0 0).bind (fun a4343 => some a4343))
theorem spec_l4Sum.calls {k : Nat} {x0 : List Coin} {p0 : Value} {w : World} (hp0 : RdS kCoin w p0 x0) {r : Int} (H : spec_l4Sum.f k x0 = some r) :
  Calls Tryz.prog 57 ([p0] : List Value).toArray w (fun e w_ => ∃ v, e = .returned v ∧ v = (.int .i64 r) ∧ Mem w [] w_ []) := by
 have HM := Mem.start w
 refine calls_run (N := 20) Tryz.func57 rfl rfl rfl rfl ?_
 unfold spec_l4Sum.f at H
 refine run_seq ?_
 refine run_region rfl ?_
 refine ox rfl rfl rfl rfl (ex_assign rfl rfl) ?_
 refine ops_nil (at_then (run_seq ?_))
 refine run_region rfl ?_
 refine ox rfl rfl rfl rfl (ex_assign rfl rfl) ?_
 refine ops_nil (at_then ?_)
 obtain ⟨o4344, ho4345, H⟩ := bind_some H
 refine run_mid (fun ρ_ w_ => ∃ a4343 : Int, a4343 = o4344 ∧ ρ_ = [(3, .int .i64 a4343)] ∧ Mem w [] w_ []) ?_ ?_
 ·clear H
  refine run_seq ?_
  refine run_region rfl ?_
  refine ox rfl rfl rfl rfl (ex_assign rfl rfl) ?_
  refine ops_nil (at_then ?_)
  refine run_block ?_
  refine run_loop (fun k_ ρ_ w_ => ∃ a4351 : Int, ∃ a4352 : Int, spec_l4Sum.l0 x0 k_ a4351 a4352 = some o4344 ∧ ρ_ = [(0, p0), (3, .int .i64 a4351), (4, .int .i64 a4352)] ∧ Mem w [] w_ []) k (ρ1 := [(0, p0), (3, .int .i64 0), (4, .int .i64 0)]) ⟨_, _, ho4345, rfl, HM⟩ (Sub.cons rfl (Sub.cons rfl (Sub.cons rfl Sub.nil))) ?_
  clear HM ho4345
  rintro k4358 _ w4359 ⟨a4351, a4352, ho4345, rfl, HM⟩
  obtain _ | k4358 := k4358
  ·exact nomatch ((spec_l4Sum.l0_z x0 a4351 a4352).symm.trans ho4345)
  replace ho4345 := (spec_l4Sum.l0_s x0 k4358 a4351 a4352).symm.trans ho4345
  refine run_seq ?_
  refine run_seq ?_
  refine run_region rfl ?_
  refine ox rfl rfl rfl rfl (ex_move rfl rfl) ?_
  refine ox rfl rfl rfl rfl (ex_move rfl rfl) ?_
  refine ox rfl rfl rfl rfl (ex_len (d := kCoin) (xs := x0) rfl rfl Tryz.underlying41 hp0) ?_
  refine ox rfl rfl rfl rfl (ex_lss rfl rfl rfl) ?_
  refine ops_nil (at_then ?_)
  refine run_cond (b := (decide (a4352 < (x0.length : Int)))) rfl (fun hb4360 => ?_) (fun hb4360 => ?_)
  ·replace ho4345 := cond_t hb4360 ho4345
   refine run_skip ?_
   refine at_then ?_
   refine run_seq ?_
   refine run_block ?_
   obtain ⟨e4361, ho4345⟩ := chk_some ho4345
   refine run_region rfl ?_
   refine ox rfl rfl rfl rfl (ex_move rfl rfl) ?_
   refine ox rfl rfl rfl rfl (ex_move rfl rfl) ?_
   refine ox rfl rfl rfl rfl (ex_move rfl rfl) ?_
   obtain ⟨kv4363, hc4362, hk4364⟩ : ∃ u, CellsAt _ (sb p0) (so p0 + (a4352).toNat * 8) [(.int .i64 ((gt x0 a4352).fRef.fTx)), (.int .i64 ((gt x0 a4352).fRef.fAt)), (.int .i64 ((gt x0 a4352).fOut.fValue)), u, (.int .i64 ((gt x0 a4352).fOut.fRule.fNeed)), (.int .i64 ((gt x0 a4352).fOut.fRule.fAfter)), (.int .i64 ((gt x0 a4352).fHeight)), (.bool ((gt x0 a4352).fMined))] ∧ RdS kInt _ u ((gt x0 a4352).fOut.fRule.fKeys) := rd_with1 hp0 e4361
   refine ox rfl rfl rfl rfl (ex_indexAddr (d := kCoin) rfl rfl rfl Tryz.underlying41 tsz86 hp0 (idx_lo e4361) (idx_hi e4361)) ?_
   refine ox rfl rfl rfl rfl (ex_fieldAddr (off' := so p0 + (a4352).toNat * 8 + 2) rfl rfl Tryz.underlying86 rfl tsz84 rfl) ?_
   refine ox rfl rfl rfl rfl (ex_fieldAddr (off' := so p0 + (a4352).toNat * 8 + 2) rfl rfl Tryz.underlying84 rfl tsz2 rfl) ?_
   refine ox rfl rfl rfl rfl (ex_load1 rfl rfl Tryz.underlying2 rfl ((HM.at_ hc4362) 2 _ rfl)) ?_
   refine ox rfl rfl rfl rfl (ex_add rfl rfl rfl) ?_
   refine ox rfl rfl rfl rfl (ex_assign rfl rfl) ?_
   refine ops_nil ?_
   refine at_block ?_
   refine at_then ?_
   refine run_region rfl ?_
   refine ox rfl rfl rfl rfl (ex_move rfl rfl) ?_
   refine ox rfl rfl rfl rfl (ex_add rfl rfl rfl) ?_
   refine ox rfl rfl rfl rfl (ex_assign rfl rfl) ?_
   refine ops_nil ?_
   exact at_again k4358 (ρ1 := [(0, p0), (3, .int .i64 (wrap64 (a4351 + ((gt x0 a4352).fOut.fValue)))), (4, .int .i64 (wrap64 (a4352 + 1)))]) (Nat.lt_succ_self _) ⟨_, _, ho4345, rfl, HM⟩ (Sub.cons rfl (Sub.cons rfl (Sub.cons rfl Sub.nil)))
  ·replace ho4345 := cond_f hb4360 ho4345
   refine run_exit ?_
   refine at_then_exit ?_
   refine at_then_exit ?_
   refine at_block_exit ?_
   exact at_mid (ρ' := [(3, .int .i64 a4351)]) ⟨_, (Option.some.inj ho4345), rfl, HM⟩ (Sub.cons rfl Sub.nil)
 ·rintro _ w4365 ⟨a4343, rfl, rfl, HM⟩
  refine run_seq ?_
  refine run_region rfl ?_
  refine ox rfl rfl rfl rfl (ex_move rfl rfl) ?_
  refine ox rfl rfl rfl rfl (ex_assign rfl rfl) ?_
  refine ops_nil (at_then ?_)
  refine run_ret ?_
  have hR := Option.some.inj H
  subst hR
  exact at_ret1 rfl rfl ⟨_, rfl, rfl, HM⟩

def spec_l3Sum.l0 (x0 : Tx) : Nat → Int → Int → Option Int
 | 0, _, _ => none
 | k + 1, a4413, a4414 => (bif (decide (a4414 < (x0.fOuts.length : Int))) then (chk (idxOk a4414 x0.fOuts.length) (spec_l3Sum.l0 x0 k (wrap64 (a4413 + ((gt x0.fOuts a4414).fValue))) (wrap64 (a4414 + 1)))) else some a4413)
theorem spec_l3Sum.l0_z (x0 : Tx) (a4413 : Int) (a4414 : Int) : spec_l3Sum.l0 x0 0 a4413 a4414 = none := rfl
theorem spec_l3Sum.l0_s (x0 : Tx) (k : Nat) (a4413 : Int) (a4414 : Int) : spec_l3Sum.l0 x0 (k + 1) a4413 a4414 = (bif (decide (a4414 < (x0.fOuts.length : Int))) then (chk (idxOk a4414 x0.fOuts.length) (spec_l3Sum.l0 x0 k (wrap64 (a4413 + ((gt x0.fOuts a4414).fValue))) (wrap64 (a4414 + 1)))) else some a4413) := rfl
def spec_l3Sum.f (k : Nat) (x0 : Tx) : Option Int := ((spec_l3Sum.l0 x0 k 0 0).bind (fun a4405 => some a4405))
theorem spec_l3Sum.calls {k : Nat} {x0 : Tx} {b0 f0 : Nat} {p0_0 : Value} {p0_1 : Value} {w : World} (hc0 : CellsAt w b0 f0 [.int .i64 x0.fKind, .int .i64 x0.fMember, p0_0, p0_1]) (hp0_0 : RdS kRef w p0_0 x0.fIns) (hp0_1 : RdS kOut w p0_1 x0.fOuts) {r : Int} (H : spec_l3Sum.f k x0 = some r) :
  Calls Tryz.prog 58 ([.pointer (some ⟨b0, f0, none⟩)] : List Value).toArray w (fun e w_ => ∃ v, e = .returned v ∧ v = (.int .i64 r) ∧ Mem w [] w_ []) := by
 have HM := Mem.start w
 refine calls_run (N := 25) Tryz.func58 rfl rfl rfl rfl ?_
 unfold spec_l3Sum.f at H
 refine run_seq ?_
 refine run_region rfl ?_
 refine ox rfl rfl rfl rfl (ex_assign rfl rfl) ?_
 refine ops_nil (at_then (run_seq ?_))
 refine run_region rfl ?_
 refine ox rfl rfl rfl rfl (ex_assign rfl rfl) ?_
 refine ops_nil (at_then ?_)
 obtain ⟨o4406, ho4407, H⟩ := bind_some H
 refine run_mid (fun ρ_ w_ => ∃ a4405 : Int, a4405 = o4406 ∧ ρ_ = [(3, .int .i64 a4405)] ∧ Mem w [] w_ []) ?_ ?_
 ·clear H
  refine run_seq ?_
  refine run_region rfl ?_
  refine ox rfl rfl rfl rfl (ex_assign rfl rfl) ?_
  refine ops_nil (at_then ?_)
  refine run_block ?_
  refine run_loop (fun k_ ρ_ w_ => ∃ a4413 : Int, ∃ a4414 : Int, spec_l3Sum.l0 x0 k_ a4413 a4414 = some o4406 ∧ ρ_ = [(0, .pointer (some ⟨b0, f0, none⟩)), (3, .int .i64 a4413), (4, .int .i64 a4414)] ∧ Mem w [] w_ []) k (ρ1 := [(0, .pointer (some ⟨b0, f0, none⟩)), (3, .int .i64 0), (4, .int .i64 0)]) ⟨_, _, ho4407, rfl, HM⟩ (Sub.cons rfl (Sub.cons rfl (Sub.cons rfl Sub.nil))) ?_
  clear HM ho4407
  rintro k4420 _ w4421 ⟨a4413, a4414, ho4407, rfl, HM⟩
  obtain _ | k4420 := k4420
  ·exact nomatch ((spec_l3Sum.l0_z x0 a4413 a4414).symm.trans ho4407)
  replace ho4407 := (spec_l3Sum.l0_s x0 k4420 a4413 a4414).symm.trans ho4407
  refine run_seq ?_
  refine run_seq ?_
  refine run_region rfl ?_
  refine ox rfl rfl rfl rfl (ex_move rfl rfl) ?_
  refine ox rfl rfl rfl rfl (ex_move rfl rfl) ?_
  refine ox rfl rfl rfl rfl (ex_nilCheck rfl rfl) ?_
  refine ox rfl rfl rfl rfl (ex_fieldAddr (off' := f0 + 3) rfl rfl Tryz.underlying46 rfl tsz44 rfl) ?_
  refine ox rfl rfl rfl rfl (ex_load1 rfl rfl Tryz.underlying44 rfl ((HM.at_ hc0) 3 _ rfl)) ?_
  refine ox rfl rfl rfl rfl (ex_len (d := kOut) (xs := x0.fOuts) rfl rfl Tryz.underlying44 hp0_1) ?_
  refine ox rfl rfl rfl rfl (ex_lss rfl rfl rfl) ?_
  refine ops_nil (at_then ?_)
  refine run_cond (b := (decide (a4414 < (x0.fOuts.length : Int)))) rfl (fun hb4422 => ?_) (fun hb4422 => ?_)
  ·replace ho4407 := cond_t hb4422 ho4407
   refine run_skip ?_
   refine at_then ?_
   refine run_seq ?_
   refine run_block ?_
   obtain ⟨e4423, ho4407⟩ := chk_some ho4407
   refine run_region rfl ?_
   refine ox rfl rfl rfl rfl (ex_move rfl rfl) ?_
   refine ox rfl rfl rfl rfl (ex_move rfl rfl) ?_
   refine ox rfl rfl rfl rfl (ex_nilCheck rfl rfl) ?_
   refine ox rfl rfl rfl rfl (ex_fieldAddr (off' := f0 + 3) rfl rfl Tryz.underlying46 rfl tsz44 rfl) ?_
   refine ox rfl rfl rfl rfl (ex_load1 rfl rfl Tryz.underlying44 rfl ((HM.at_ hc0) 3 _ rfl)) ?_
   refine ox rfl rfl rfl rfl (ex_move rfl rfl) ?_
   obtain ⟨kv4425, hc4424, hk4426⟩ : ∃ u, CellsAt _ (sb p0_1) (so p0_1 + (a4414).toNat * 4) [(.int .i64 ((gt x0.fOuts a4414).fValue)), u, (.int .i64 ((gt x0.fOuts a4414).fRule.fNeed)), (.int .i64 ((gt x0.fOuts a4414).fRule.fAfter))] ∧ RdS kInt _ u ((gt x0.fOuts a4414).fRule.fKeys) := rd_with1 hp0_1 e4423
   refine ox rfl rfl rfl rfl (ex_indexAddr (d := kOut) rfl rfl rfl Tryz.underlying44 tsz84 hp0_1 (idx_lo e4423) (idx_hi e4423)) ?_
   refine ox rfl rfl rfl rfl (ex_fieldAddr (off' := so p0_1 + (a4414).toNat * 4) rfl rfl Tryz.underlying84 rfl tsz2 rfl) ?_
   refine ox rfl rfl rfl rfl (ex_load1 rfl rfl Tryz.underlying2 rfl ((HM.at_ hc4424) 0 _ rfl)) ?_
   refine ox rfl rfl rfl rfl (ex_add rfl rfl rfl) ?_
   refine ox rfl rfl rfl rfl (ex_assign rfl rfl) ?_
   refine ops_nil ?_
   refine at_block ?_
   refine at_then ?_
   refine run_region rfl ?_
   refine ox rfl rfl rfl rfl (ex_move rfl rfl) ?_
   refine ox rfl rfl rfl rfl (ex_add rfl rfl rfl) ?_
   refine ox rfl rfl rfl rfl (ex_assign rfl rfl) ?_
   refine ops_nil ?_
   exact at_again k4420 (ρ1 := [(0, .pointer (some ⟨b0, f0, none⟩)), (3, .int .i64 (wrap64 (a4413 + ((gt x0.fOuts a4414).fValue)))), (4, .int .i64 (wrap64 (a4414 + 1)))]) (Nat.lt_succ_self _) ⟨_, _, ho4407, rfl, HM⟩ (Sub.cons rfl (Sub.cons rfl (Sub.cons rfl Sub.nil)))
  ·replace ho4407 := cond_f hb4422 ho4407
   refine run_exit ?_
   refine at_then_exit ?_
   refine at_then_exit ?_
   refine at_block_exit ?_
   exact at_mid (ρ' := [(3, .int .i64 a4413)]) ⟨_, (Option.some.inj ho4407), rfl, HM⟩ (Sub.cons rfl Sub.nil)
 ·rintro _ w4427 ⟨a4405, rfl, rfl, HM⟩
  refine run_seq ?_
  refine run_region rfl ?_
  refine ox rfl rfl rfl rfl (ex_move rfl rfl) ?_
  refine ox rfl rfl rfl rfl (ex_assign rfl rfl) ?_
  refine ops_nil (at_then ?_)
  refine run_ret ?_
  have hR := Option.some.inj H
  subst hR
  exact at_ret1 rfl rfl ⟨_, rfl, rfl, HM⟩

def spec_l5Check.l0 (x0 : Ledger) (x3 : Int) (x4 : Int) (t4603 : (List Coin) × Bool) : Nat → Int → Option ((Int × Int) ⊕ Unit)
 | 0, _ => none
 | k + 1, a4709 => (bif (decide (a4709 < (t4603.1.length : Int))) then (chk (idxOk a4709 t4603.1.length) ((spec_l5Ripe.f k (gt t4603.1 a4709) x4).bind fun t4746 => (bif !t4746 then some (.inl (0, 9)) else (chk (idxOk a4709 t4603.1.length) ((spec_l2Met.f k x0 ((gt t4603.1 a4709).fOut.fRule) x3 x4).bind fun t4754 => (bif (t4754 != 0) then some (.inl (0, t4754)) else spec_l5Check.l0 x0 x3 x4 t4603 k (wrap64 (a4709 + 1)))))))) else some (.inr ()))
theorem spec_l5Check.l0_z (x0 : Ledger) (x3 : Int) (x4 : Int) (t4603 : (List Coin) × Bool) (a4709 : Int) : spec_l5Check.l0 x0 x3 x4 t4603 0 a4709 = none := rfl
theorem spec_l5Check.l0_s (x0 : Ledger) (x3 : Int) (x4 : Int) (t4603 : (List Coin) × Bool) (k : Nat) (a4709 : Int) : spec_l5Check.l0 x0 x3 x4 t4603 (k + 1) a4709 = (bif (decide (a4709 < (t4603.1.length : Int))) then (chk (idxOk a4709 t4603.1.length) ((spec_l5Ripe.f k (gt t4603.1 a4709) x4).bind fun t4746 => (bif !t4746 then some (.inl (0, 9)) else (chk (idxOk a4709 t4603.1.length) ((spec_l2Met.f k x0 ((gt t4603.1 a4709).fOut.fRule) x3 x4).bind fun t4754 => (bif (t4754 != 0) then some (.inl (0, t4754)) else spec_l5Check.l0 x0 x3 x4 t4603 k (wrap64 (a4709 + 1)))))))) else some (.inr ())) := rfl
def spec_l5Check.f (k : Nat) (x0 : Ledger) (x1 : List Coin) (x2 : Tx) (x3 : Int) (x4 : Int) : Option (Int × Int) := ((spec_l5Spent.f k x1 x2).bind fun t4603 => (bif !t4603.2 then some (0, 4) else ((spec_l5Check.l0 x0 x3 x4 t4603 k 0).bind fun o4685 => thn o4685 (fun r => some r) (fun _ => ((bif (x2.fKind == 2) then spec_l1Has.f k x0 x2.fMember x3 else some default).bind fun t4762 => (bif ((x2.fKind == 2) && (!t4762)) then some (0, 6) else ((spec_l4Sum.f k t4603.1).bind fun t4769 => ((spec_l3Sum.f k x2).bind fun t4771 => (bif (decide ((wrap64 (t4769 - t4771)) < 0)) then some (0, 8) else some (wrap64 (t4769 - t4771), 0))))))))))
theorem spec_l5Check.calls {k : Nat} {x0 : Ledger} {x1 : List Coin} {x2 : Tx} {x3 : Int} {x4 : Int} {b0 f0 : Nat} {p0_0 : Value} {p0_1 : Value} {p1 : Value} {b2 f2 : Nat} {p2_0 : Value} {p2_1 : Value} {w : World} (hc0 : CellsAt w b0 f0 [p0_0, p0_1]) (hp0_0 : RdS kStr w p0_0 x0.fTexts) (hp0_1 : RdS kSign w p0_1 x0.fSigns) (hp1 : RdS kCoin w p1 x1) (hc2 : CellsAt w b2 f2 [.int .i64 x2.fKind, .int .i64 x2.fMember, p2_0, p2_1]) (hp2_0 : RdS kRef w p2_0 x2.fIns) (hp2_1 : RdS kOut w p2_1 x2.fOuts) {r : Int × Int} (H : spec_l5Check.f k x0 x1 x2 x3 x4 = some r) :
  Calls Tryz.prog 27 ([.pointer (some ⟨b0, f0, none⟩), p1, .pointer (some ⟨b2, f2, none⟩), .int .i64 x3, .int .i64 x4] : List Value).toArray w (fun e w_ => ∃ v, e = .returned v ∧ v = (.tuple #[.int .i64 r.1, .int .i64 r.2]) ∧ Mem w [] w_ []) := by
 have HM := Mem.start w
 refine calls_run (N := 72) Tryz.func27 rfl rfl rfl rfl ?_
 unfold spec_l5Check.f at H
 refine run_seq ?_
 refine run_region rfl ?_
 refine ox rfl rfl rfl rfl (ex_assign rfl rfl) ?_
 refine ox rfl rfl rfl rfl (ex_assign rfl rfl) ?_
 refine ops_nil (at_then (run_seq ?_))
 obtain ⟨t4603, h4604, H⟩ := bind_some H
 refine run_region rfl ?_
 refine ox rfl rfl rfl rfl (ex_move rfl rfl) ?_
 refine ox rfl rfl rfl rfl (ex_move rfl rfl) ?_
 refine od rfl rfl rfl rfl (does_callk rfl callok53 rfl (spec_l5Spent.calls (x0 := x1) (x1 := x2) (HM.rd hp1) (HM.at_ hc2) (HM.rd hp2_0) (HM.rd hp2_1) h4604)) ?_
 rintro _ w4607 ⟨u4605, rfl, hn⟩
 replace HM : Mem w [] w4607 [own kCoin 86 u4605 t4603.1] := HM.call hn
 refine ox rfl rfl rfl rfl (ex_move rfl rfl) ?_
 refine ox rfl rfl rfl rfl (ex_extract rfl rfl rfl) ?_
 refine ox rfl rfl rfl rfl (ex_extract rfl rfl rfl) ?_
 refine ox rfl rfl rfl rfl (ex_assign rfl rfl) ?_
 refine ox rfl rfl rfl rfl (ex_assign rfl rfl) ?_
 refine ops_nil ?_
 obtain ⟨F4608, hF4609, hFn4610, hFl4611, HMh4612, hcl4613⟩ := HM.hide (Ms := [])
 replace hc0 := (HMh4612.at_ hc0)
 replace hp0_0 := (HMh4612.rd hp0_0)
 replace hp0_1 := (HMh4612.rd hp0_1)
 replace hp1 := (HMh4612.rd hp1)
 replace hc2 := (HMh4612.at_ hc2)
 replace hp2_0 := (HMh4612.rd hp2_0)
 replace hp2_1 := (HMh4612.rd hp2_1)
 have hz20 := (HMh4612.own_rd 0 rfl)
 have hwo := hide_olds w4607 F4608
 generalize hideB w4607 F4608 = wz4614 at *
 have HM := Mem.startX hF4609 hFn4610 hFl4611
 refine at_then ?_
 refine run_seq ?_
 refine run_seq ?_
 refine run_region rfl ?_
 refine ox rfl rfl rfl rfl (ex_move rfl rfl) ?_
 refine ox rfl rfl rfl rfl (ex_not rfl rfl) ?_
 refine ops_nil (at_then ?_)
 refine run_cond (b := !t4603.2) rfl (fun hb4617 => ?_) (fun hb4617 => ?_)
 ·replace H := cond_t hb4617 H
  refine run_seq ?_
  refine run_region rfl ?_
  refine ox rfl rfl rfl rfl (ex_assign rfl rfl) ?_
  refine ox rfl rfl rfl rfl (ex_assign rfl rfl) ?_
  refine ops_nil (at_then ?_)
  refine run_ret ?_
  refine at_then_ret ?_
  replace HM := hcl4613 _ _ HM
  replace HM := (HM.front 0 rfl rfl).drop
  have hR := Option.some.inj H
  subst hR
  exact at_ret2 rfl rfl rfl ⟨_, rfl, rfl, HM⟩
 ·replace H := cond_f hb4617 H
  refine run_skip ?_
  refine at_then ?_
  obtain ⟨o4685, ho4686, H⟩ := bind_some H
  refine run_mid (fun ρ_ w_ => Sum.inr () = o4685 ∧ ρ_ = [(0, .pointer (some ⟨b0, f0, none⟩)), (2, .pointer (some ⟨b2, f2, none⟩)), (3, .int .i64 x3), (12, u4605)] ∧ Mem w4607 F4608 w_ []) ?_ ?_
  ·skip
   refine run_seq ?_
   refine run_region rfl ?_
   refine ox rfl rfl rfl rfl (ex_assign rfl rfl) ?_
   refine ops_nil (at_then ?_)
   refine run_block ?_
   refine run_loop (fun k_ ρ_ w_ => ∃ a4709 : Int, spec_l5Check.l0 x0 x3 x4 t4603 k_ a4709 = some o4685 ∧ ρ_ = [(0, .pointer (some ⟨b0, f0, none⟩)), (2, .pointer (some ⟨b2, f2, none⟩)), (3, .int .i64 x3), (4, .int .i64 x4), (12, u4605), (14, .int .i64 a4709)] ∧ Mem w4607 F4608 w_ []) k (ρ1 := [(0, .pointer (some ⟨b0, f0, none⟩)), (2, .pointer (some ⟨b2, f2, none⟩)), (3, .int .i64 x3), (4, .int .i64 x4), (12, u4605), (14, .int .i64 0)]) ⟨_, ho4686, rfl, HM⟩ (Sub.cons rfl (Sub.cons rfl (Sub.cons rfl (Sub.cons rfl (Sub.cons rfl (Sub.cons rfl Sub.nil)))))) ?_
   clear HM ho4686
   rintro k4732 _ w4733 ⟨a4709, ho4686, rfl, HM⟩
   obtain _ | k4732 := k4732
   ·exact nomatch ((spec_l5Check.l0_z x0 x3 x4 t4603 a4709).symm.trans ho4686)
   replace ho4686 := (spec_l5Check.l0_s x0 x3 x4 t4603 k4732 a4709).symm.trans ho4686
   refine run_seq ?_
   refine run_seq ?_
   refine run_region rfl ?_
   refine ox rfl rfl rfl rfl (ex_move rfl rfl) ?_
   refine ox rfl rfl rfl rfl (ex_move rfl rfl) ?_
   refine ox rfl rfl rfl rfl (ex_len (d := kCoin) (xs := t4603.1) rfl rfl Tryz.underlying41 hz20) ?_
   refine ox rfl rfl rfl rfl (ex_lss rfl rfl rfl) ?_
   refine ops_nil (at_then ?_)
   refine run_cond (b := (decide (a4709 < (t4603.1.length : Int)))) rfl (fun hb4734 => ?_) (fun hb4734 => ?_)
   ·replace ho4686 := cond_t hb4734 ho4686
    refine run_skip ?_
    refine at_then ?_
    refine run_seq ?_
    refine run_block ?_
    refine run_seq ?_
    refine run_seq ?_
    obtain ⟨e4742, ho4686⟩ := chk_some ho4686
    obtain ⟨t4746, h4747, ho4686⟩ := bind_some ho4686
    refine run_region rfl ?_
    refine ox rfl rfl rfl rfl (ex_move rfl rfl) ?_
    refine ox rfl rfl rfl rfl (ex_move rfl rfl) ?_
    obtain ⟨kv4744, hc4743, hk4745⟩ : ∃ u, CellsAt _ (sb u4605) (so u4605 + (a4709).toNat * 8) [(.int .i64 ((gt t4603.1 a4709).fRef.fTx)), (.int .i64 ((gt t4603.1 a4709).fRef.fAt)), (.int .i64 ((gt t4603.1 a4709).fOut.fValue)), u, (.int .i64 ((gt t4603.1 a4709).fOut.fRule.fNeed)), (.int .i64 ((gt t4603.1 a4709).fOut.fRule.fAfter)), (.int .i64 ((gt t4603.1 a4709).fHeight)), (.bool ((gt t4603.1 a4709).fMined))] ∧ RdS kInt _ u ((gt t4603.1 a4709).fOut.fRule.fKeys) := rd_with1 hz20 e4742
    refine ox rfl rfl rfl rfl (ex_indexAddr (d := kCoin) rfl rfl rfl Tryz.underlying41 tsz86 hz20 (idx_lo e4742) (idx_hi e4742)) ?_
    refine ox rfl rfl rfl rfl (ex_move rfl rfl) ?_
    refine od rfl rfl rfl rfl (does_callk rfl callok54 rfl (spec_l5Ripe.calls (x0 := (gt t4603.1 a4709)) (x1 := x4) (HM.ato hwo hc4743) (HM.rdo hwo hk4745) h4747)) ?_
    rintro _ w4748 ⟨rfl, hn⟩
    replace HM : Mem w4607 F4608 w4748 [] := HM.call hn
    refine ox rfl rfl rfl rfl (ex_not rfl rfl) ?_
    refine ops_nil (at_then ?_)
    refine run_cond (b := !t4746) rfl (fun hb4749 => ?_) (fun hb4749 => ?_)
    ·replace ho4686 := cond_t hb4749 ho4686
     refine run_seq ?_
     refine run_region rfl ?_
     refine ox rfl rfl rfl rfl (ex_assign rfl rfl) ?_
     refine ox rfl rfl rfl rfl (ex_assign rfl rfl) ?_
     refine ops_nil (at_then ?_)
     refine run_ret ?_
     refine at_then_ret ?_
     refine at_block_ret ?_
     refine at_then_ret ?_
     refine at_then_ret ?_
     refine at_block_ret ?_
     refine at_then_ret ?_
     replace HM := hcl4613 _ _ HM
     replace HM := (HM.front 0 rfl rfl).drop
     have hR := Option.some.inj ho4686
     subst hR
     have hT := thn_inl H
     have hR := Option.some.inj hT
     subst hR
     exact at_ret2 rfl rfl rfl ⟨_, rfl, rfl, HM⟩
    ·replace ho4686 := cond_f hb4749 ho4686
     refine run_skip ?_
     refine at_then ?_
     refine run_seq ?_
     obtain ⟨e4750, ho4686⟩ := chk_some ho4686
     obtain ⟨t4754, h4755, ho4686⟩ := bind_some ho4686
     refine run_region rfl ?_
     refine ox rfl rfl rfl rfl (ex_move rfl rfl) ?_
     refine ox rfl rfl rfl rfl (ex_move rfl rfl) ?_
     refine ox rfl rfl rfl rfl (ex_move rfl rfl) ?_
     obtain ⟨kv4752, hc4751, hk4753⟩ : ∃ u, CellsAt _ (sb u4605) (so u4605 + (a4709).toNat * 8) [(.int .i64 ((gt t4603.1 a4709).fRef.fTx)), (.int .i64 ((gt t4603.1 a4709).fRef.fAt)), (.int .i64 ((gt t4603.1 a4709).fOut.fValue)), u, (.int .i64 ((gt t4603.1 a4709).fOut.fRule.fNeed)), (.int .i64 ((gt t4603.1 a4709).fOut.fRule.fAfter)), (.int .i64 ((gt t4603.1 a4709).fHeight)), (.bool ((gt t4603.1 a4709).fMined))] ∧ RdS kInt _ u ((gt t4603.1 a4709).fOut.fRule.fKeys) := rd_with1 hz20 e4750
     refine ox rfl rfl rfl rfl (ex_indexAddr (d := kCoin) rfl rfl rfl Tryz.underlying41 tsz86 hz20 (idx_lo e4750) (idx_hi e4750)) ?_
     refine ox rfl rfl rfl rfl (ex_fieldAddr (off' := so u4605 + (a4709).toNat * 8 + 2) rfl rfl Tryz.underlying86 rfl tsz84 rfl) ?_
     refine ox rfl rfl rfl rfl (ex_fieldAddr (off' := so u4605 + (a4709).toNat * 8 + 3) rfl rfl Tryz.underlying84 rfl tsz82 rfl) ?_
     refine ox rfl rfl rfl rfl (ex_move rfl rfl) ?_
     refine ox rfl rfl rfl rfl (ex_move rfl rfl) ?_
     refine od rfl rfl rfl rfl (does_callk rfl callok55 rfl (spec_l2Met.calls (x0 := x0) (x1 := (gt t4603.1 a4709).fOut.fRule) (x2 := x3) (x3 := x4) (HM.ato hwo hc0) (HM.rdo hwo hp0_0) (HM.rdo hwo hp0_1) (CellsAt.sub (HM.ato hwo hc4751) 3 3 rfl) (HM.rdo hwo hk4753) h4755)) ?_
     rintro _ w4756 ⟨rfl, hn⟩
     replace HM : Mem w4607 F4608 w4756 [] := HM.call hn
     refine ox rfl rfl rfl rfl (ex_assign rfl rfl) ?_
     refine ops_nil (at_then (run_seq ?_))
     refine run_region rfl ?_
     refine ox rfl rfl rfl rfl (ex_move rfl rfl) ?_
     refine ox rfl rfl rfl rfl (ex_neq rfl rfl rfl) ?_
     refine ops_nil (at_then ?_)
     refine run_cond (b := (t4754 != 0)) rfl (fun hb4757 => ?_) (fun hb4757 => ?_)
     ·replace ho4686 := cond_t hb4757 ho4686
      refine run_seq ?_
      refine run_region rfl ?_
      refine ox rfl rfl rfl rfl (ex_move rfl rfl) ?_
      refine ox rfl rfl rfl rfl (ex_assign rfl rfl) ?_
      refine ox rfl rfl rfl rfl (ex_assign rfl rfl) ?_
      refine ops_nil (at_then ?_)
      refine run_ret ?_
      refine at_block_ret ?_
      refine at_then_ret ?_
      refine at_then_ret ?_
      refine at_block_ret ?_
      refine at_then_ret ?_
      replace HM := hcl4613 _ _ HM
      replace HM := (HM.front 0 rfl rfl).drop
      have hR := Option.some.inj ho4686
      subst hR
      have hT := thn_inl H
      have hR := Option.some.inj hT
      subst hR
      exact at_ret2 rfl rfl rfl ⟨_, rfl, rfl, HM⟩
     ·replace ho4686 := cond_f hb4757 ho4686
      refine run_skip ?_
      refine at_block ?_
      refine at_then ?_
      refine run_region rfl ?_
      refine ox rfl rfl rfl rfl (ex_move rfl rfl) ?_
      refine ox rfl rfl rfl rfl (ex_add rfl rfl rfl) ?_
      refine ox rfl rfl rfl rfl (ex_assign rfl rfl) ?_
      refine ops_nil ?_
      exact at_again k4732 (ρ1 := [(0, .pointer (some ⟨b0, f0, none⟩)), (2, .pointer (some ⟨b2, f2, none⟩)), (3, .int .i64 x3), (4, .int .i64 x4), (12, u4605), (14, .int .i64 (wrap64 (a4709 + 1)))]) (Nat.lt_succ_self _) ⟨_, ho4686, rfl, HM⟩ (Sub.cons rfl (Sub.cons rfl (Sub.cons rfl (Sub.cons rfl (Sub.cons rfl (Sub.cons rfl Sub.nil))))))
   ·replace ho4686 := cond_f hb4734 ho4686
    refine run_exit ?_
    refine at_then_exit ?_
    refine at_then_exit ?_
    refine at_block_exit ?_
    exact at_mid (ρ' := [(0, .pointer (some ⟨b0, f0, none⟩)), (2, .pointer (some ⟨b2, f2, none⟩)), (3, .int .i64 x3), (12, u4605)]) ⟨(Option.some.inj ho4686), rfl, HM⟩ (Sub.cons rfl (Sub.cons rfl (Sub.cons rfl (Sub.cons rfl Sub.nil))))
  ·rintro _ w4758 ⟨rfl, rfl, HM⟩
   replace H := (thn_inr H)
   refine run_seq ?_
   refine run_seq ?_
   obtain ⟨t4762, h4763, H⟩ := bind_some H
   refine run_meet (fun ρ_ w_ => ρ_ = [(2, .pointer (some ⟨b2, f2, none⟩)), (12, u4605), (63, .bool ((x2.fKind == 2) && (!t4762)))] ∧ Mem w4607 F4608 w_ []) ?_ ?_
   ·skip
    refine run_region rfl ?_
    refine ox rfl rfl rfl rfl (ex_move rfl rfl) ?_
    refine ox rfl rfl rfl rfl (ex_nilCheck rfl rfl) ?_
    refine ox rfl rfl rfl rfl (ex_fieldAddr (off' := f2) rfl rfl Tryz.underlying46 rfl tsz2 rfl) ?_
    refine ox rfl rfl rfl rfl (ex_load1 rfl rfl Tryz.underlying2 rfl ((HM.ato hwo hc2) 0 _ rfl)) ?_
    refine ox rfl rfl rfl rfl (ex_eql rfl rfl rfl) ?_
    refine ox rfl rfl rfl rfl (ex_move rfl rfl) ?_
    refine bool_cases (x2.fKind == 2) (fun hg4764 => ?_) (fun hg4764 => ?_)
    ·skip
     refine ops_ex rfl (guard_on rfl rfl rfl hg4764) rfl rfl (ex_move rfl rfl) ?_
     refine ops_ex rfl (guard_on rfl rfl rfl hg4764) rfl rfl (ex_move rfl rfl) ?_
     refine ops_ex rfl (guard_on rfl rfl rfl hg4764) rfl rfl (ex_nilCheck rfl rfl) ?_
     refine ops_ex rfl (guard_on rfl rfl rfl hg4764) rfl rfl (ex_fieldAddr (off' := f2 + 1) rfl rfl Tryz.underlying46 rfl tsz2 rfl) ?_
     refine ops_ex rfl (guard_on rfl rfl rfl hg4764) rfl rfl (ex_load1 rfl rfl Tryz.underlying2 rfl ((HM.ato hwo hc2) 1 _ rfl)) ?_
     refine ops_ex rfl (guard_on rfl rfl rfl hg4764) rfl rfl (ex_move rfl rfl) ?_
     refine ops_does rfl (guard_on rfl rfl rfl hg4764) rfl rfl (does_callk rfl callok56 rfl (spec_l1Has.calls (x0 := x0) (x1 := x2.fMember) (x2 := x3) (HM.ato hwo hc0) (HM.rdo hwo hp0_0) (HM.rdo hwo hp0_1) (cond_t hg4764 h4763))) ?_
     rintro _ w4765 ⟨rfl, hn⟩
     replace HM : Mem w4607 F4608 w4765 [] := HM.call hn
     refine ops_ex rfl (guard_on rfl rfl rfl hg4764) rfl rfl (ex_not rfl rfl) ?_
     refine ops_ex (v := .bool ((x2.fKind == 2) && (!t4762))) rfl (guard_none rfl) rfl rfl (ex_pand_t rfl rfl hg4764 rfl) ?_
     refine ops_nil ?_
     exact at_meet [(2, .pointer (some ⟨b2, f2, none⟩)), (12, u4605), (63, .bool ((x2.fKind == 2) && (!t4762)))] ⟨rfl, HM⟩ (Sub.cons rfl (Sub.cons rfl (Sub.cons rfl Sub.nil)))
    ·skip
     refine ops_off rfl (guard_off rfl rfl rfl hg4764) rfl rfl ?_
     refine ops_off rfl (guard_off rfl rfl rfl hg4764) rfl rfl ?_
     refine ops_off rfl (guard_off rfl rfl rfl hg4764) rfl rfl ?_
     refine ops_off rfl (guard_off rfl rfl rfl hg4764) rfl rfl ?_
     refine ops_off rfl (guard_off rfl rfl rfl hg4764) rfl rfl ?_
     refine ops_off rfl (guard_off rfl rfl rfl hg4764) rfl rfl ?_
     refine ops_off rfl (guard_off rfl rfl rfl hg4764) rfl rfl ?_
     refine ops_off rfl (guard_off rfl rfl rfl hg4764) rfl rfl ?_
     have hg4766 : ((x2.fKind == 2) && (!t4762)) = false := by simp only [hg4764, Bool.and_true, Bool.true_and, Bool.and_false, Bool.false_and, Bool.or_true, Bool.true_or, Bool.or_false, Bool.false_or, Bool.not_true, Bool.not_false, Bool.not_not]
     refine ops_ex (v := .bool ((x2.fKind == 2) && (!t4762))) rfl (guard_none rfl) rfl rfl (ex_pand_f rfl rfl hg4764) ?_
     refine ops_nil ?_
     exact at_meet [(2, .pointer (some ⟨b2, f2, none⟩)), (12, u4605), (63, .bool ((x2.fKind == 2) && (!t4762)))] ⟨rfl, HM⟩ (Sub.cons rfl (Sub.cons rfl (Sub.cons rfl Sub.nil)))
   ·rintro _ w4767 ⟨rfl, HM⟩
    refine at_then ?_
    refine run_cond (b := ((x2.fKind == 2) && (!t4762))) rfl (fun hb4768 => ?_) (fun hb4768 => ?_)
    ·replace H := cond_t hb4768 H
     refine run_seq ?_
     refine run_region rfl ?_
     refine ox rfl rfl rfl rfl (ex_assign rfl rfl) ?_
     refine ox rfl rfl rfl rfl (ex_assign rfl rfl) ?_
     refine ops_nil (at_then ?_)
     refine run_ret ?_
     refine at_then_ret ?_
     replace HM := hcl4613 _ _ HM
     replace HM := (HM.front 0 rfl rfl).drop
     have hR := Option.some.inj H
     subst hR
     exact at_ret2 rfl rfl rfl ⟨_, rfl, rfl, HM⟩
    ·replace H := cond_f hb4768 H
     refine run_skip ?_
     refine at_then ?_
     refine run_seq ?_
     obtain ⟨t4769, h4770, H⟩ := bind_some H
     obtain ⟨t4771, h4772, H⟩ := bind_some H
     refine run_region rfl ?_
     refine ox rfl rfl rfl rfl (ex_move rfl rfl) ?_
     refine od rfl rfl rfl rfl (does_callk rfl callok57 rfl (spec_l4Sum.calls (x0 := t4603.1) (HM.rdo hwo hz20) h4770)) ?_
     rintro _ w4773 ⟨rfl, hn⟩
     replace HM : Mem w4607 F4608 w4773 [] := HM.call hn
     refine ox rfl rfl rfl rfl (ex_move rfl rfl) ?_
     refine od rfl rfl rfl rfl (does_callk rfl callok58 rfl (spec_l3Sum.calls (x0 := x2) (HM.ato hwo hc2) (HM.rdo hwo hp2_0) (HM.rdo hwo hp2_1) h4772)) ?_
     rintro _ w4774 ⟨rfl, hn⟩
     replace HM : Mem w4607 F4608 w4774 [] := HM.call hn
     refine ox rfl rfl rfl rfl (ex_sub rfl rfl rfl) ?_
     refine ox rfl rfl rfl rfl (ex_assign rfl rfl) ?_
     refine ops_nil (at_then (run_seq ?_))
     refine run_seq ?_
     refine run_region rfl ?_
     refine ox rfl rfl rfl rfl (ex_move rfl rfl) ?_
     refine ox rfl rfl rfl rfl (ex_lss rfl rfl rfl) ?_
     refine ops_nil (at_then ?_)
     refine run_cond (b := (decide ((wrap64 (t4769 - t4771)) < 0))) rfl (fun hb4775 => ?_) (fun hb4775 => ?_)
     ·replace H := cond_t hb4775 H
      refine run_seq ?_
      refine run_region rfl ?_
      refine ox rfl rfl rfl rfl (ex_assign rfl rfl) ?_
      refine ox rfl rfl rfl rfl (ex_assign rfl rfl) ?_
      refine ops_nil (at_then ?_)
      refine run_ret ?_
      refine at_then_ret ?_
      replace HM := hcl4613 _ _ HM
      replace HM := (HM.front 0 rfl rfl).drop
      have hR := Option.some.inj H
      subst hR
      exact at_ret2 rfl rfl rfl ⟨_, rfl, rfl, HM⟩
     ·replace H := cond_f hb4775 H
      refine run_skip ?_
      refine at_then ?_
      refine run_seq ?_
      refine run_region rfl ?_
      refine ox rfl rfl rfl rfl (ex_move rfl rfl) ?_
      refine ox rfl rfl rfl rfl (ex_assign rfl rfl) ?_
      refine ox rfl rfl rfl rfl (ex_assign rfl rfl) ?_
      refine ops_nil (at_then ?_)
      refine run_ret ?_
      replace HM := hcl4613 _ _ HM
      replace HM := (HM.front 0 rfl rfl).drop
      have hR := Option.some.inj H
      subst hR
      exact at_ret2 rfl rfl rfl ⟨_, rfl, rfl, HM⟩
end Go.Proofs.YtpfaihnmonfkhaaGreatDoor.Zk
