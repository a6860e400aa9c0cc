/- What functions of the program compute, each as a plain function, and that they do. Conditions: as each theorem states them. -/
import Derived.Test.YtigojhglkilodaaCoinAtZkF1
namespace Go.Proofs.Ytigojhglkilodaa.Zk
open Go Go.RowKit Go.IntWalk Go.Proofs
set_option linter.unusedVariables false
set_option linter.unusedSimpArgs false
set_option maxRecDepth 100000
set_option maxHeartbeats 4000000
def spec_l2Copy.f (k : Nat) (x0 : Rule) : Option Rule := (chk (leB ((([] : List Int).length + x0.fKeys.length) * 8) 140737488355328) (some (⟨([] : List Int) ++ x0.fKeys, x0.fNeed, x0.fAfter⟩ : Rule)))
theorem spec_l2Copy.calls {k : Nat} {x0 : Rule} {p0_0 : Value} {w : World} (hp0_0 : RdS kInt w p0_0 x0.fKeys) {r : Rule} (H : spec_l2Copy.f k x0 = some r) :
    Calls Try.prog 128 ([.agg #[p0_0, (.int .i64 x0.fNeed), (.int .i64 x0.fAfter)]] : List Value).toArray w (fun e w_ => ∃ v, e = .returned v ∧ ∃ u0 : Value, v = (.agg #[u0, .int .i64 r.fNeed, .int .i64 r.fAfter]) ∧ Mem w [] w_ [own kInt 2 u0 r.fKeys]) := by
  have HM := Mem.start w
  refine calls_run (N := 9) Try.func128 rfl rfl rfl rfl ?_
  unfold spec_l2Copy.f at H
  refine run_seq ?_
  refine run_region rfl ?_
  refine ops_does rfl (guard_none rfl) rfl rfl (does_box (cs := [p0_0, .int .i64 x0.fNeed, .int .i64 x0.fAfter]) rfl rfl rfl HM) ?_
  rintro _ w1331 ⟨b1325, rfl, HM⟩
  refine ops_does rfl (guard_none rfl) rfl rfl (does_alloc (cs := [.slice none 0 0, .int .i64 0, .int .i64 0]) rfl tz119 rfl HM) ?_
  rintro _ w1332 ⟨b1328, rfl, HM⟩
  refine ops_nil ?_
  refine at_then ?_
  refine run_seq ?_
  obtain ⟨e1336, H⟩ := chk_some H
  refine run_region rfl ?_
  refine ops_does rfl (guard_none rfl) rfl rfl (does_lit (e := 2) (cs := []) (xs := ([] : List Int)) kInt rfl rfl (fun _ => by kernel_rfl) rfl rfl (fun _ _ h => by have h' : _ = [] := h; subst h'; exact .nil) HM.emp) ?_
  rintro v1333 w1339 HM
  refine ops_ex rfl (guard_none rfl) rfl rfl (ex_fieldAddr (off' := 0) rfl rfl Try.underlying119 rfl tsz111 rfl) ?_
  refine ops_ex rfl (guard_none rfl) rfl rfl (ex_load1 rfl rfl Try.underlying111 rfl ((HM.box_at 2 rfl) 0 _ rfl)) ?_
  refine ops_does rfl (guard_none rfl) rfl rfl (does_appendR kInt flat_plain rfl rfl rfl Try.underlying111 tsz2 rfl tby2 tz2 rfl rfl (leB_le e1336) (HM.rd hp0_0) HM) ?_
  rintro v1337 w1340 HM
  refine ops_ex rfl (guard_none rfl) rfl rfl (ex_fieldAddr (off' := 0) rfl rfl Try.underlying119 rfl tsz111 rfl) ?_
  replace HM := HM.front 2 rfl rfl
  refine ops_doesS rfl (guard_none rfl) rfl (does_store (vs := [v1337]) (cs' := [v1337, .int .i64 x0.fNeed, .int .i64 x0.fAfter]) rfl rfl rfl (rd_cells (HM.own_rd 1 rfl)) tsz111 (Ones.rd (HM.own_rd 1 rfl) Ones.nil) rfl rfl HM) ?_
  rintro w1341 HM
  refine ops_nil ?_
  refine at_then ?_
  refine run_seq ?_
  refine run_region rfl ?_
  refine ops_ex rfl (guard_none rfl) rfl rfl (ex_loadN (cs := [v1337, (.int .i64 x0.fNeed), (.int .i64 x0.fAfter)]) rfl rfl Try.underlying119 rfl tsz119 rfl ((HM.box_at 0 rfl).sub 0 3 rfl)) ?_
  replace HM := HM.front 2 rfl rfl
  refine ops_doesS rfl (guard_none rfl) rfl (does_store (vs := [v1337, .int .i64 x0.fNeed, .int .i64 x0.fAfter]) (cs' := [v1337, .int .i64 x0.fNeed, .int .i64 x0.fAfter]) rfl rfl rfl rfl tsz119 (Ones.rd (HM.own_rd 2 rfl) (Ones.int (Ones.int Ones.nil))) rfl rfl HM) ?_
  rintro w1342 HM
  refine ops_nil ?_
  refine at_then ?_
  refine run_ret ?_
  replace HM := (HM.front 1 rfl rfl).drop
  have hcb0 := HM.box_at 0 rfl
  replace HM := (HM.front 0 rfl rfl).drop
  have hR := Option.some.inj H
  subst hR
  exact at_retN rfl rfl Try.underlying119 rfl tsz119 rfl hcb0 ⟨_, rfl, _, rfl, HM⟩

def spec_l4Copy.l0 (x0 : List Coin) : Nat → (List Coin) → Int → Option ((List Coin))
  | 0, _, _ => none
  | k + 1, a1484, a1486 => (bif (decide (a1486 < (x0.length : Int))) then (chk (idxOk a1486 x0.length) ((spec_l2Copy.f k ((gt x0 a1486).fOut.fRule)).bind fun t1517 => (chk (leB ((a1484.length + ([(⟨(gt x0 a1486).fRef, (⟨(gt x0 a1486).fOut.fValue, t1517⟩ : Out), (gt x0 a1486).fHeight, (gt x0 a1486).fMined⟩ : Coin)] : List Coin).length) * 80) 140737488355328) (spec_l4Copy.l0 x0 k (a1484 ++ ([(⟨(gt x0 a1486).fRef, (⟨(gt x0 a1486).fOut.fValue, t1517⟩ : Out), (gt x0 a1486).fHeight, (gt x0 a1486).fMined⟩ : Coin)] : List Coin)) (wrap64 (a1486 + 1)))))) else some a1484)
theorem spec_l4Copy.l0_z (x0 : List Coin) (a1484 : List Coin) (a1486 : Int) : spec_l4Copy.l0 x0 0 a1484 a1486 = none := rfl
theorem spec_l4Copy.l0_s (x0 : List Coin) (k : Nat) (a1484 : List Coin) (a1486 : Int) : spec_l4Copy.l0 x0 (k + 1) a1484 a1486 = (bif (decide (a1486 < (x0.length : Int))) then (chk (idxOk a1486 x0.length) ((spec_l2Copy.f k ((gt x0 a1486).fOut.fRule)).bind fun t1517 => (chk (leB ((a1484.length + ([(⟨(gt x0 a1486).fRef, (⟨(gt x0 a1486).fOut.fValue, t1517⟩ : Out), (gt x0 a1486).fHeight, (gt x0 a1486).fMined⟩ : Coin)] : List Coin).length) * 80) 140737488355328) (spec_l4Copy.l0 x0 k (a1484 ++ ([(⟨(gt x0 a1486).fRef, (⟨(gt x0 a1486).fOut.fValue, t1517⟩ : Out), (gt x0 a1486).fHeight, (gt x0 a1486).fMined⟩ : Coin)] : List Coin)) (wrap64 (a1486 + 1)))))) else some a1484) := rfl
def spec_l4Copy.f (k : Nat) (x0 : List Coin) : Option ((List Coin)) := ((spec_l4Copy.l0 x0 k ([] : List Coin) 0).bind (fun a1461 => some a1461))
theorem spec_l4Copy.calls {k : Nat} {x0 : List Coin} {p0 : Value} {w : World} (hp0 : RdS kCoin w p0 x0) {r : (List Coin)} (H : spec_l4Copy.f k x0 = some r) :
    Calls Try.prog 81 ([p0] : List Value).toArray w (fun e w_ => ∃ v, e = .returned v ∧ ∃ u0 : Value, v = u0 ∧ Mem w [] w_ [own kCoin 123 u0 r]) := by
  have HM := Mem.start w
  refine calls_run (N := 28) Try.func81 rfl rfl rfl rfl ?_
  unfold spec_l4Copy.f at H
  refine run_seq ?_
  refine run_region rfl ?_
  refine ops_ex rfl (guard_none rfl) rfl rfl (ex_assign rfl rfl) ?_
  refine ops_nil ?_
  refine at_then ?_
  refine run_seq ?_
  refine run_region rfl ?_
  refine ops_does rfl (guard_none rfl) rfl rfl (does_lit (e := 123) (cs := []) (xs := ([] : List Coin)) kCoin rfl rfl (fun _ => by kernel_rfl) rfl rfl (fun _ _ h => by have h' : _ = [] := h; subst h'; exact .nil) HM.emp) ?_
  rintro v1398 w1401 HM
  refine ops_ex rfl (guard_none rfl) rfl rfl (ex_assign rfl rfl) ?_
  refine ops_nil ?_
  refine at_then ?_
  obtain ⟨o1463, ho1464, H⟩ := bind_some H
  refine run_mid (fun ρ_ w_ => ∃ v1460 : Value, ∃ a1461 : List Coin, a1461 = o1463 ∧ ρ_ = [(3, v1460)] ∧ Mem w [] w_ [own kCoin 123 v1460 a1461]) ?_ ?_
  · clear H
    refine run_seq ?_
    refine run_region rfl ?_
    refine ops_ex rfl (guard_none rfl) rfl rfl (ex_assign rfl rfl) ?_
    refine ops_nil ?_
    refine at_then ?_
    refine run_block ?_
    refine run_loop (fun k_ ρ_ w_ => ∃ v1483 : Value, ∃ a1484 : List Coin, ∃ a1486 : Int, spec_l4Copy.l0 x0 k_ a1484 a1486 = some o1463 ∧ ρ_ = [(0, p0), (3, v1483), (4, .int .i64 a1486)] ∧ Mem w [] w_ [own kCoin 123 v1483 a1484]) k (ρ1 := [(0, p0), (3, v1398), (4, .int .i64 0)]) ⟨_, _, _, ho1464, rfl, HM⟩ (Sub.cons rfl (Sub.cons rfl (Sub.cons rfl Sub.nil))) ?_
    clear HM ho1464
    rintro k1505 _ w1506 ⟨v1483, a1484, a1486, ho1464, rfl, HM⟩
    obtain _ | k1505 := k1505
    · exact nomatch ((spec_l4Copy.l0_z x0 a1484 a1486).symm.trans ho1464)
    replace ho1464 := (spec_l4Copy.l0_s x0 k1505 a1484 a1486).symm.trans ho1464
    refine run_seq ?_
    refine run_seq ?_
    refine run_region rfl ?_
    refine ops_ex rfl (guard_none rfl) rfl rfl (ex_move rfl rfl) ?_
    refine ops_ex rfl (guard_none rfl) rfl rfl (ex_move rfl rfl) ?_
    refine ops_ex rfl (guard_none rfl) rfl rfl (ex_len (d := kCoin) (xs := x0) rfl rfl Try.underlying44 hp0) ?_
    refine ops_ex rfl (guard_none rfl) rfl rfl (ex_lss rfl rfl rfl) ?_
    refine ops_nil ?_
    refine at_then ?_
    refine run_cond (b := (decide (a1486 < (x0.length : Int)))) rfl (fun hb1507 => ?_) (fun hb1507 => ?_)
    · replace ho1464 := cond_t hb1507 ho1464
      refine run_skip ?_
      refine at_then ?_
      refine run_seq ?_
      refine run_block ?_
      refine run_seq ?_
      obtain ⟨e1508, ho1464⟩ := chk_some ho1464
      refine run_region rfl ?_
      refine ops_ex rfl (guard_none rfl) rfl rfl (ex_move rfl rfl) ?_
      refine ops_ex rfl (guard_none rfl) rfl rfl (ex_move rfl rfl) ?_
      obtain ⟨kv1510, hc1509, hk1511⟩ : ∃ u, CellsAt _ (sb p0) (so p0 + (a1486).toNat * 8) [(.int .i64 ((gt x0 a1486).fRef.fTx)), (.int .i64 ((gt x0 a1486).fRef.fAt)), (.int .i64 ((gt x0 a1486).fOut.fValue)), u, (.int .i64 ((gt x0 a1486).fOut.fRule.fNeed)), (.int .i64 ((gt x0 a1486).fOut.fRule.fAfter)), (.int .i64 ((gt x0 a1486).fHeight)), (.bool ((gt x0 a1486).fMined))] ∧ RdS kInt _ u ((gt x0 a1486).fOut.fRule.fKeys) := rd_with1 hp0 e1508
      refine ops_ex rfl (guard_none rfl) rfl rfl (ex_indexAddr (d := kCoin) rfl rfl rfl Try.underlying44 tsz123 hp0 (idx_lo e1508) (idx_hi e1508)) ?_
      refine ops_ex rfl (guard_none rfl) rfl rfl (ex_loadN (cs := [(.int .i64 ((gt x0 a1486).fRef.fTx)), (.int .i64 ((gt x0 a1486).fRef.fAt)), (.int .i64 ((gt x0 a1486).fOut.fValue)), kv1510, (.int .i64 ((gt x0 a1486).fOut.fRule.fNeed)), (.int .i64 ((gt x0 a1486).fOut.fRule.fAfter)), (.int .i64 ((gt x0 a1486).fHeight)), (.bool ((gt x0 a1486).fMined))]) rfl rfl Try.underlying123 rfl tsz123 rfl ((HM.at_ hc1509).sub 0 8 rfl)) ?_
      refine ops_does rfl (guard_none rfl) rfl rfl (does_alloc (cs := [.int .i64 0, .int .i64 0, .int .i64 0, .slice none 0 0, .int .i64 0, .int .i64 0, .int .i64 0, .bool false]) rfl tz123 rfl HM) ?_
      rintro _ w1515 ⟨b1512, rfl, HM⟩
      refine ops_doesS rfl (guard_none rfl) rfl (does_store (vs := [.int .i64 ((gt x0 a1486).fRef.fTx), .int .i64 ((gt x0 a1486).fRef.fAt), .int .i64 ((gt x0 a1486).fOut.fValue), kv1510, .int .i64 ((gt x0 a1486).fOut.fRule.fNeed), .int .i64 ((gt x0 a1486).fOut.fRule.fAfter), .int .i64 ((gt x0 a1486).fHeight), .bool ((gt x0 a1486).fMined)]) (cs' := [.int .i64 ((gt x0 a1486).fRef.fTx), .int .i64 ((gt x0 a1486).fRef.fAt), .int .i64 ((gt x0 a1486).fOut.fValue), kv1510, .int .i64 ((gt x0 a1486).fOut.fRule.fNeed), .int .i64 ((gt x0 a1486).fOut.fRule.fAfter), .int .i64 ((gt x0 a1486).fHeight), .bool ((gt x0 a1486).fMined)]) rfl rfl rfl rfl tsz123 (Ones.int (Ones.int (Ones.int (Ones.rd hk1511 (Ones.int (Ones.int (Ones.int (Ones.bool Ones.nil)))))))) rfl rfl HM) ?_
      rintro w1516 HM
      refine ops_nil ?_
      refine at_then ?_
      refine run_seq ?_
      obtain ⟨t1517, h1518, ho1464⟩ := bind_some ho1464
      refine run_region rfl ?_
      refine ops_ex rfl (guard_none rfl) rfl rfl (ex_fieldAddr (off' := 2) rfl rfl Try.underlying123 rfl tsz121 rfl) ?_
      refine ops_ex rfl (guard_none rfl) rfl rfl (ex_fieldAddr (off' := 3) rfl rfl Try.underlying121 rfl tsz119 rfl) ?_
      refine ops_ex rfl (guard_none rfl) rfl rfl (ex_loadN (cs := [kv1510, (.int .i64 ((gt x0 a1486).fOut.fRule.fNeed)), (.int .i64 ((gt x0 a1486).fOut.fRule.fAfter))]) rfl rfl Try.underlying119 rfl tsz119 rfl ((HM.box_at 0 rfl).sub 3 3 rfl)) ?_
      refine ops_does rfl (guard_none rfl) rfl rfl (does_callk rfl callok128 rfl (spec_l2Copy.calls (x0 := (gt x0 a1486).fOut.fRule) (HM.rd hk1511) h1518)) ?_
      rintro _ w1521 ⟨u1519, rfl, hn⟩
      replace HM : Mem w [] w1521 [own kInt 2 u1519 t1517.fKeys, box b1512 123 [.int .i64 ((gt x0 a1486).fRef.fTx), .int .i64 ((gt x0 a1486).fRef.fAt), .int .i64 ((gt x0 a1486).fOut.fValue), kv1510, .int .i64 ((gt x0 a1486).fOut.fRule.fNeed), .int .i64 ((gt x0 a1486).fOut.fRule.fAfter), .int .i64 ((gt x0 a1486).fHeight), .bool ((gt x0 a1486).fMined)], own kCoin 123 v1483 a1484] := HM.call hn
      refine ops_ex rfl (guard_none rfl) rfl rfl (ex_fieldAddr (off' := 2) rfl rfl Try.underlying123 rfl tsz121 rfl) ?_
      refine ops_ex rfl (guard_none rfl) rfl rfl (ex_fieldAddr (off' := 3) rfl rfl Try.underlying121 rfl tsz119 rfl) ?_
      replace HM := HM.front 1 rfl rfl
      refine ops_doesS rfl (guard_none rfl) rfl (does_store (vs := [u1519, .int .i64 t1517.fNeed, .int .i64 t1517.fAfter]) (cs' := [.int .i64 ((gt x0 a1486).fRef.fTx), .int .i64 ((gt x0 a1486).fRef.fAt), .int .i64 ((gt x0 a1486).fOut.fValue), u1519, .int .i64 t1517.fNeed, .int .i64 t1517.fAfter, .int .i64 ((gt x0 a1486).fHeight), .bool ((gt x0 a1486).fMined)]) rfl rfl rfl rfl tsz119 (Ones.rd (HM.own_rd 1 rfl) (Ones.int (Ones.int Ones.nil))) rfl rfl HM) ?_
      rintro w1522 HM
      refine ops_nil ?_
      refine at_then ?_
      obtain ⟨e1526, ho1464⟩ := chk_some ho1464
      refine run_region rfl ?_
      refine ops_ex rfl (guard_none rfl) rfl rfl (ex_move rfl rfl) ?_
      refine ops_ex rfl (guard_none rfl) rfl rfl (ex_loadN (cs := [(.int .i64 ((gt x0 a1486).fRef.fTx)), (.int .i64 ((gt x0 a1486).fRef.fAt)), (.int .i64 ((gt x0 a1486).fOut.fValue)), u1519, (.int .i64 t1517.fNeed), (.int .i64 t1517.fAfter), (.int .i64 ((gt x0 a1486).fHeight)), (.bool ((gt x0 a1486).fMined))]) rfl rfl Try.underlying123 rfl tsz123 rfl ((HM.box_at 0 rfl).sub 0 8 rfl)) ?_
      replace HM := HM.front 1 rfl rfl
      refine ops_does rfl (guard_none rfl) rfl rfl (does_lit (e := 123) (cs := [(.int .i64 ((gt x0 a1486).fRef.fTx)), (.int .i64 ((gt x0 a1486).fRef.fAt)), (.int .i64 ((gt x0 a1486).fOut.fValue)), u1519, (.int .i64 t1517.fNeed), (.int .i64 t1517.fAfter), (.int .i64 ((gt x0 a1486).fHeight)), (.bool ((gt x0 a1486).fMined))]) (xs := ([(⟨(gt x0 a1486).fRef, (⟨(gt x0 a1486).fOut.fValue, t1517⟩ : Out), (gt x0 a1486).fHeight, (gt x0 a1486).fMined⟩ : Coin)] : List Coin)) kCoin rfl rfl (fun _ => by kernel_rfl) rfl rfl (fun _ _ h => by have := Elems.cons (d := kCoin) (x := (⟨(gt x0 a1486).fRef, (⟨(gt x0 a1486).fOut.fValue, t1517⟩ : Out), (gt x0 a1486).fHeight, (gt x0 a1486).fMined⟩ : Coin)) ⟨_, rfl, h⟩ .nil; rw [List.append_nil, List.append_nil] at this; exact this) HM) ?_
      rintro v1523 w1529 HM
      replace HM := HM.front 2 rfl rfl
      refine ops_does rfl (guard_none rfl) rfl rfl (does_append kCoin rfl rfl rfl Try.underlying44 tsz123 rfl tby123 tz123 rfl rfl (leB_le e1526) HM) ?_
      rintro v1527 w1530 HM
      refine ops_ex rfl (guard_none rfl) rfl rfl (ex_assign rfl rfl) ?_
      refine ops_nil ?_
      refine at_block ?_
      refine at_then ?_
      refine run_region rfl ?_
      refine ops_ex rfl (guard_none rfl) rfl rfl (ex_move rfl rfl) ?_
      refine ops_ex rfl (guard_none rfl) rfl rfl (ex_add rfl rfl rfl) ?_
      refine ops_ex rfl (guard_none rfl) rfl rfl (ex_assign rfl rfl) ?_
      refine ops_nil ?_
      replace HM := (HM.front 1 rfl rfl).drop
      exact at_again k1505 (ρ1 := [(0, p0), (3, v1527), (4, .int .i64 (wrap64 (a1486 + 1)))]) (Nat.lt_succ_self _) ⟨_, _, _, ho1464, rfl, HM⟩ (Sub.cons rfl (Sub.cons rfl (Sub.cons rfl Sub.nil)))
    · replace ho1464 := cond_f hb1507 ho1464
      refine run_exit ?_
      refine at_then_exit ?_
      refine at_then_exit ?_
      refine at_block_exit ?_
      exact at_mid (ρ' := [(3, v1483)]) ⟨_, _, (Option.some.inj ho1464), rfl, HM⟩ (Sub.cons rfl Sub.nil)
  · rintro _ w1531 ⟨v1460, a1461, rfl, rfl, HM⟩
    refine run_seq ?_
    refine run_region rfl ?_
    refine ops_ex rfl (guard_none rfl) rfl rfl (ex_move rfl rfl) ?_
    refine ops_ex rfl (guard_none rfl) rfl rfl (ex_assign rfl rfl) ?_
    refine ops_nil ?_
    refine at_then ?_
    refine run_ret ?_
    have hR := Option.some.inj H
    subst hR
    exact at_ret1 rfl rfl ⟨_, rfl, _, rfl, HM⟩

def spec_CoinAt.f (k : Nat) (x0 : List Coin) (x1 : Ref) : Option CoinsResult := ((spec_l4Fault.f k x0).bind fun t1547 => (bif (t1547 != 0) then some (⟨t1547, ([] : List Coin)⟩ : CoinsResult) else ((spec_l4At.f k x0 x1).bind fun t1553 => (bif (decide (t1553 < 0)) then some (⟨4, ([] : List Coin)⟩ : CoinsResult) else (chk (cutOk (wrap64 (t1553 + 1)) x0.length) (chk (cutOk t1553 (wrap64 (t1553 + 1)).toNat) ((spec_l4Copy.f k ((x0.take (wrap64 (t1553 + 1)).toNat).drop (t1553).toNat)).bind fun t1565 => some (⟨0, t1565⟩ : CoinsResult))))))))
theorem spec_CoinAt.calls {k : Nat} {x0 : List Coin} {x1 : Ref} {p0 : Value} {w : World} (hp0 : RdS kCoin w p0 x0) {r : CoinsResult} (H : spec_CoinAt.f k x0 x1 = some r) :
    Calls Try.prog 24 ([p0, .agg #[(.int .i64 x1.fTx), (.int .i64 x1.fAt)]] : List Value).toArray w (fun e w_ => ∃ v, e = .returned v ∧ ∃ u0 : Value, v = (.agg #[.int .i64 r.fCode, u0]) ∧ Mem w [] w_ [own kCoin 123 u0 r.fCoins]) := by
  have HM := Mem.start w
  refine calls_run (N := 26) Try.func24 rfl rfl rfl rfl ?_
  unfold spec_CoinAt.f at H
  refine run_seq ?_
  refine run_region rfl ?_
  refine ops_does rfl (guard_none rfl) rfl rfl (does_box (cs := [.int .i64 x1.fTx, .int .i64 x1.fAt]) rfl rfl rfl HM) ?_
  rintro _ w1542 ⟨b1536, rfl, HM⟩
  refine ops_does rfl (guard_none rfl) rfl rfl (does_alloc (cs := [.int .i64 0, .slice none 0 0]) rfl tz52 rfl HM) ?_
  rintro _ w1543 ⟨b1539, rfl, HM⟩
  refine ops_nil ?_
  refine at_then ?_
  refine run_seq ?_
  refine run_seq ?_
  obtain ⟨t1547, h1548, H⟩ := bind_some H
  refine run_region rfl ?_
  refine ops_ex rfl (guard_none rfl) rfl rfl (ex_move rfl rfl) ?_
  refine ops_does rfl (guard_none rfl) rfl rfl (does_callk rfl callok73 rfl (spec_l4Fault.calls (x0 := x0) (HM.rd hp0) h1548)) ?_
  rintro _ w1549 ⟨rfl, hn⟩
  replace HM : Mem w [] w1549 [box b1539 52 [.int .i64 0, .slice none 0 0], box b1536 54 [.int .i64 x1.fTx, .int .i64 x1.fAt]] := HM.call hn
  refine ops_ex rfl (guard_none rfl) rfl rfl (ex_assign rfl rfl) ?_
  refine ops_nil ?_
  refine at_then ?_
  refine run_seq ?_
  refine run_region rfl ?_
  refine ops_ex rfl (guard_none rfl) rfl rfl (ex_move rfl rfl) ?_
  refine ops_ex rfl (guard_none rfl) rfl rfl (ex_neq rfl rfl rfl) ?_
  refine ops_nil ?_
  refine at_then ?_
  refine run_cond (b := (t1547 != 0)) rfl (fun hb1550 => ?_) (fun hb1550 => ?_)
  · replace H := cond_t hb1550 H
    refine run_seq ?_
    refine run_region rfl ?_
    refine ops_ex rfl (guard_none rfl) rfl rfl (ex_move rfl rfl) ?_
    refine ops_ex rfl (guard_none rfl) rfl rfl (ex_build (cells := #[(.int .i64 t1547), (.slice none 0 0)]) rfl rfl (by kernel_rfl)) ?_
    refine ops_doesS rfl (guard_none rfl) rfl (does_store (vs := [.int .i64 t1547, .slice none 0 0]) (cs' := [.int .i64 t1547, .slice none 0 0]) rfl rfl rfl rfl tsz52 (Ones.int (Ones.sl Ones.nil)) rfl rfl HM) ?_
    rintro w1551 HM
    refine ops_nil ?_
    refine at_then ?_
    refine run_ret ?_
    refine at_then_ret ?_
    replace HM := HM.empty kCoin 123 none
    replace HM := (HM.front 2 rfl rfl).drop
    replace HM := HM.front 1 rfl rfl
    have hcb0 := HM.box_at 0 rfl
    replace HM := (HM.front 0 rfl rfl).drop
    have hR := Option.some.inj H
    subst hR
    exact at_retN rfl rfl Try.underlying52 rfl tsz52 rfl hcb0 ⟨_, rfl, _, rfl, HM⟩
  · replace H := cond_f hb1550 H
    refine run_skip ?_
    refine at_then ?_
    refine run_seq ?_
    obtain ⟨t1553, h1554, H⟩ := bind_some H
    refine run_region rfl ?_
    refine ops_ex rfl (guard_none rfl) rfl rfl (ex_move rfl rfl) ?_
    refine ops_ex rfl (guard_none rfl) rfl rfl (ex_loadN (cs := [(.int .i64 x1.fTx), (.int .i64 x1.fAt)]) rfl rfl Try.underlying54 rfl tsz54 rfl ((HM.box_at 1 rfl).sub 0 2 rfl)) ?_
    refine ops_does rfl (guard_none rfl) rfl rfl (does_callk rfl callok80 rfl (spec_l4At.calls (x0 := x0) (x1 := x1) (HM.rd hp0) h1554)) ?_
    rintro _ w1555 ⟨rfl, hn⟩
    replace HM : Mem w [] w1555 [box b1539 52 [.int .i64 0, .slice none 0 0], box b1536 54 [.int .i64 x1.fTx, .int .i64 x1.fAt]] := HM.call hn
    refine ops_ex rfl (guard_none rfl) rfl rfl (ex_assign rfl rfl) ?_
    refine ops_nil ?_
    refine at_then ?_
    refine run_seq ?_
    refine run_seq ?_
    refine run_region rfl ?_
    refine ops_ex rfl (guard_none rfl) rfl rfl (ex_move rfl rfl) ?_
    refine ops_ex rfl (guard_none rfl) rfl rfl (ex_lss rfl rfl rfl) ?_
    refine ops_nil ?_
    refine at_then ?_
    refine run_cond (b := (decide (t1553 < 0))) rfl (fun hb1557 => ?_) (fun hb1557 => ?_)
    · replace H := cond_t hb1557 H
      refine run_seq ?_
      refine run_region rfl ?_
      refine ops_ex rfl (guard_none rfl) rfl rfl (ex_build (cells := #[(.int .i64 4), (.slice none 0 0)]) rfl rfl (by kernel_rfl)) ?_
      refine ops_doesS rfl (guard_none rfl) rfl (does_store (vs := [.int .i64 4, .slice none 0 0]) (cs' := [.int .i64 4, .slice none 0 0]) rfl rfl rfl rfl tsz52 (Ones.int (Ones.sl Ones.nil)) rfl rfl HM) ?_
      rintro w1558 HM
      refine ops_nil ?_
      refine at_then ?_
      refine run_ret ?_
      refine at_then_ret ?_
      replace HM := HM.empty kCoin 123 none
      replace HM := (HM.front 2 rfl rfl).drop
      replace HM := HM.front 1 rfl rfl
      have hcb0 := HM.box_at 0 rfl
      replace HM := (HM.front 0 rfl rfl).drop
      have hR := Option.some.inj H
      subst hR
      exact at_retN rfl rfl Try.underlying52 rfl tsz52 rfl hcb0 ⟨_, rfl, _, rfl, HM⟩
    · replace H := cond_f hb1557 H
      refine run_skip ?_
      refine at_then ?_
      refine run_seq ?_
      obtain ⟨e1560, H⟩ := chk_some H
      obtain ⟨e1561, H⟩ := chk_some H
      obtain ⟨t1565, h1566, H⟩ := bind_some H
      refine run_region rfl ?_
      refine ops_ex rfl (guard_none rfl) rfl rfl (ex_move rfl rfl) ?_
      refine ops_ex rfl (guard_none rfl) rfl rfl (ex_move rfl rfl) ?_
      refine ops_ex rfl (guard_none rfl) rfl rfl (ex_move rfl rfl) ?_
      refine ops_ex rfl (guard_none rfl) rfl rfl (ex_add rfl rfl rfl) ?_
      refine ops_exE rfl (guard_none rfl) rfl rfl (ex_cutLH kCoin rfl rfl rfl rfl Try.underlying44 tsz123 hp0 e1561 e1560) ?_
      rintro u1562 hr1564
      refine ops_does rfl (guard_none rfl) rfl rfl (does_callk rfl callok81 rfl (spec_l4Copy.calls (x0 := (x0.take (wrap64 (t1553 + 1)).toNat).drop (t1553).toNat) (HM.rd hr1564) h1566)) ?_
      rintro u1567 w1569 ⟨_, rfl, hn⟩
      replace HM : Mem w [] w1569 [own kCoin 123 u1567 t1565, box b1539 52 [.int .i64 0, .slice none 0 0], box b1536 54 [.int .i64 x1.fTx, .int .i64 x1.fAt]] := HM.call hn
      refine ops_ex rfl (guard_none rfl) rfl rfl (ex_build1 (fun u1567 => [(1, u1567)]) (fun u1567 => #[.int .i64 0, u1567]) rfl rfl (fun _ _ _ => by kernel_rfl) (HM.own_rd 0 rfl).isSl) ?_
      replace HM := HM.front 1 rfl rfl
      refine ops_doesS rfl (guard_none rfl) rfl (does_store (vs := [.int .i64 0, u1567]) (cs' := [.int .i64 0, u1567]) rfl rfl rfl rfl tsz52 (Ones.int (Ones.rd (HM.own_rd 1 rfl) Ones.nil)) rfl rfl HM) ?_
      rintro w1570 HM
      refine ops_nil ?_
      refine at_then ?_
      refine run_ret ?_
      replace HM := (HM.front 2 rfl rfl).drop
      have hcb0 := HM.box_at 0 rfl
      replace HM := (HM.front 0 rfl rfl).drop
      have hR := Option.some.inj H
      subst hR
      exact at_retN rfl rfl Try.underlying52 rfl tsz52 rfl hcb0 ⟨_, rfl, _, rfl, HM⟩

def impl_within.f (k : Nat) (x0 : Int) (x1 : Int) (x2 : Int) : Option Bool := some ((decide (x1 ≤ x0)) && (decide (x0 ≤ x2)))
theorem impl_within.calls {k : Nat} {x0 : Int} {x1 : Int} {x2 : Int}  {w : World}  {r : Bool} (H : impl_within.f k x0 x1 x2 = some r) :
    Calls Try.prog 112 ([.int .i64 x0, .int .i64 x1, .int .i64 x2] : List Value).toArray w (fun e w_ => ∃ v, e = .returned v ∧ v = (.bool r) ∧ Mem w [] w_ []) := by
  have HM := Mem.start w
  refine calls_run (N := 15) Try.func112 rfl rfl rfl rfl ?_
  unfold impl_within.f at H
  refine run_seq ?_
  refine run_region rfl ?_
  refine ops_ex rfl (guard_none rfl) rfl rfl (ex_assign rfl rfl) ?_
  refine ops_nil ?_
  refine at_then ?_
  refine run_seq ?_
  refine run_meet (fun ρ_ w_ => ρ_ = [(6, .bool ((decide (x1 ≤ x0)) && (decide (x0 ≤ x2))))] ∧ Mem w [] w_ []) ?_ ?_
  · skip
    refine run_region rfl ?_
    refine ops_ex rfl (guard_none rfl) rfl rfl (ex_move rfl rfl) ?_
    refine ops_ex rfl (guard_none rfl) rfl rfl (ex_move rfl rfl) ?_
    refine ops_ex rfl (guard_none rfl) rfl rfl (ex_geq rfl rfl rfl) ?_
    refine ops_ex rfl (guard_none rfl) rfl rfl (ex_move rfl rfl) ?_
    refine bool_cases (decide (x1 ≤ x0)) (fun hg1603 => ?_) (fun hg1603 => ?_)
    · skip
      refine ops_ex rfl (guard_on rfl rfl rfl hg1603) rfl rfl (ex_move rfl rfl) ?_
      refine ops_ex rfl (guard_on rfl rfl rfl hg1603) rfl rfl (ex_move rfl rfl) ?_
      refine ops_ex rfl (guard_on rfl rfl rfl hg1603) rfl rfl (ex_leq rfl rfl rfl) ?_
      refine ops_ex (v := .bool ((decide (x1 ≤ x0)) && (decide (x0 ≤ x2)))) rfl (guard_none rfl) rfl rfl (ex_pand_t rfl rfl hg1603 rfl) ?_
      refine ops_ex rfl (guard_none rfl) rfl rfl (ex_assign rfl rfl) ?_
      refine ops_nil ?_
      exact at_meet [(6, .bool ((decide (x1 ≤ x0)) && (decide (x0 ≤ x2))))] ⟨rfl, HM⟩ (Sub.cons rfl Sub.nil)
    · skip
      refine ops_off rfl (guard_off rfl rfl rfl hg1603) rfl rfl ?_
      refine ops_off rfl (guard_off rfl rfl rfl hg1603) rfl rfl ?_
      refine ops_off rfl (guard_off rfl rfl rfl hg1603) rfl rfl ?_
      have hg1604 : ((decide (x1 ≤ x0)) && (decide (x0 ≤ x2))) = false := by simp only [hg1603, Bool.and_true, Bool.true_and, Bool.and_false, Bool.false_and, Bool.or_true, Bool.true_or, Bool.or_false, Bool.false_or, Bool.not_true, Bool.not_false, Bool.not_not]
      refine ops_ex (v := .bool ((decide (x1 ≤ x0)) && (decide (x0 ≤ x2)))) rfl (guard_none rfl) rfl rfl (ex_pand_f rfl rfl hg1603) ?_
      refine ops_ex rfl (guard_none rfl) rfl rfl (ex_assign rfl rfl) ?_
      refine ops_nil ?_
      exact at_meet [(6, .bool ((decide (x1 ≤ x0)) && (decide (x0 ≤ x2))))] ⟨rfl, HM⟩ (Sub.cons rfl Sub.nil)
  · rintro _ w1605 ⟨rfl, HM⟩
    refine at_then ?_
    refine run_ret ?_
    have hR := Option.some.inj H
    subst hR
    exact at_ret1 rfl rfl ⟨_, rfl, rfl, HM⟩

def impl_isId.f (k : Nat) (x0 : Int) : Option Bool := ((impl_within.f k x0 1 60).bind fun t1608 => some t1608)
theorem impl_isId.calls {k : Nat} {x0 : Int}  {w : World}  {r : Bool} (H : impl_isId.f k x0 = some r) :
    Calls Try.prog 142 ([.int .i64 x0] : List Value).toArray w (fun e w_ => ∃ v, e = .returned v ∧ v = (.bool r) ∧ Mem w [] w_ []) := by
  have HM := Mem.start w
  refine calls_run (N := 5) Try.func142 rfl rfl rfl rfl ?_
  unfold impl_isId.f at H
  refine run_seq ?_
  refine run_region rfl ?_
  refine ops_ex rfl (guard_none rfl) rfl rfl (ex_assign rfl rfl) ?_
  refine ops_nil ?_
  refine at_then ?_
  refine run_seq ?_
  obtain ⟨t1608, h1609, H⟩ := bind_some H
  refine run_region rfl ?_
  refine ops_ex rfl (guard_none rfl) rfl rfl (ex_move rfl rfl) ?_
  refine ops_does rfl (guard_none rfl) rfl rfl (does_callk rfl callok112 rfl (impl_within.calls (x0 := x0) (x1 := 1) (x2 := 60) h1609)) ?_
  rintro _ w1610 ⟨rfl, hn⟩
  replace HM : Mem w [] w1610 [] := HM.call hn
  refine ops_ex rfl (guard_none rfl) rfl rfl (ex_assign rfl rfl) ?_
  refine ops_nil ?_
  refine at_then ?_
  refine run_ret ?_
  have hR := Option.some.inj H
  subst hR
  exact at_ret1 rfl rfl ⟨_, rfl, rfl, HM⟩

def impl_isRef.f (k : Nat) (x0 : Ref) : Option Bool := ((impl_isId.f k x0.fTx).bind fun t1619 => ((bif t1619 then impl_within.f k x0.fAt 0 3 else some default).bind fun t1621 => some (t1619 && t1621)))
theorem impl_isRef.calls {k : Nat} {x0 : Ref}  {w : World}  {r : Bool} (H : impl_isRef.f k x0 = some r) :
    Calls Try.prog 123 ([.agg #[(.int .i64 x0.fTx), (.int .i64 x0.fAt)]] : List Value).toArray w (fun e w_ => ∃ v, e = .returned v ∧ v = (.bool r) ∧ Mem w [] w_ []) := by
  have HM := Mem.start w
  refine calls_run (N := 11) Try.func123 rfl rfl rfl rfl ?_
  unfold impl_isRef.f at H
  refine run_seq ?_
  refine run_region rfl ?_
  refine ops_does rfl (guard_none rfl) rfl rfl (does_box (cs := [.int .i64 x0.fTx, .int .i64 x0.fAt]) rfl rfl rfl HM) ?_
  rintro _ w1618 ⟨b1615, rfl, HM⟩
  refine ops_ex rfl (guard_none rfl) rfl rfl (ex_assign rfl rfl) ?_
  refine ops_nil ?_
  refine at_then ?_
  refine run_seq ?_
  obtain ⟨t1619, h1620, H⟩ := bind_some H
  obtain ⟨t1621, h1622, H⟩ := bind_some H
  refine run_meet (fun ρ_ w_ => ρ_ = [(2, .bool (t1619 && t1621))] ∧ Mem w [] w_ []) ?_ ?_
  · skip
    refine run_region rfl ?_
    refine ops_ex rfl (guard_none rfl) rfl rfl (ex_fieldAddr (off' := 0) rfl rfl Try.underlying54 rfl tsz2 rfl) ?_
    refine ops_ex rfl (guard_none rfl) rfl rfl (ex_load1 rfl rfl Try.underlying2 rfl ((HM.box_at 0 rfl) 0 _ rfl)) ?_
    refine ops_does rfl (guard_none rfl) rfl rfl (does_callk rfl callok142 rfl (impl_isId.calls (x0 := x0.fTx) h1620)) ?_
    rintro _ w1623 ⟨rfl, hn⟩
    replace HM : Mem w [] w1623 [box b1615 54 [.int .i64 x0.fTx, .int .i64 x0.fAt]] := HM.call hn
    refine ops_ex rfl (guard_none rfl) rfl rfl (ex_move rfl rfl) ?_
    refine bool_cases t1619 (fun hg1624 => ?_) (fun hg1624 => ?_)
    · skip
      refine ops_ex rfl (guard_on rfl rfl rfl hg1624) rfl rfl (ex_fieldAddr (off' := 1) rfl rfl Try.underlying54 rfl tsz2 rfl) ?_
      refine ops_ex rfl (guard_on rfl rfl rfl hg1624) rfl rfl (ex_load1 rfl rfl Try.underlying2 rfl ((HM.box_at 0 rfl) 1 _ rfl)) ?_
      refine ops_does rfl (guard_on rfl rfl rfl hg1624) rfl rfl (does_callk rfl callok112 rfl (impl_within.calls (x0 := x0.fAt) (x1 := 0) (x2 := 3) (cond_t hg1624 h1622))) ?_
      rintro _ w1625 ⟨rfl, hn⟩
      replace HM : Mem w [] w1625 [box b1615 54 [.int .i64 x0.fTx, .int .i64 x0.fAt]] := HM.call hn
      refine ops_ex (v := .bool (t1619 && t1621)) rfl (guard_none rfl) rfl rfl (ex_pand_t rfl rfl hg1624 rfl) ?_
      refine ops_ex rfl (guard_none rfl) rfl rfl (ex_assign rfl rfl) ?_
      refine ops_nil ?_
      replace HM := (HM.front 0 rfl rfl).drop
      exact at_meet [(2, .bool (t1619 && t1621))] ⟨rfl, HM⟩ (Sub.cons rfl Sub.nil)
    · skip
      refine ops_off rfl (guard_off rfl rfl rfl hg1624) rfl rfl ?_
      refine ops_off rfl (guard_off rfl rfl rfl hg1624) rfl rfl ?_
      refine ops_off rfl (guard_off rfl rfl rfl hg1624) rfl rfl ?_
      have hg1626 : (t1619 && t1621) = false := by simp only [hg1624, Bool.and_true, Bool.true_and, Bool.and_false, Bool.false_and, Bool.or_true, Bool.true_or, Bool.or_false, Bool.false_or, Bool.not_true, Bool.not_false, Bool.not_not]
      refine ops_ex (v := .bool (t1619 && t1621)) rfl (guard_none rfl) rfl rfl (ex_pand_f rfl rfl hg1624) ?_
      refine ops_ex rfl (guard_none rfl) rfl rfl (ex_assign rfl rfl) ?_
      refine ops_nil ?_
      replace HM := (HM.front 0 rfl rfl).drop
      exact at_meet [(2, .bool (t1619 && t1621))] ⟨rfl, HM⟩ (Sub.cons rfl Sub.nil)
  · rintro _ w1627 ⟨rfl, HM⟩
    refine at_then ?_
    refine run_ret ?_
    have hR := Option.some.inj H
    subst hR
    exact at_ret1 rfl rfl ⟨_, rfl, rfl, HM⟩

def impl_isHeight.f (k : Nat) (x0 : Int) : Option Bool := ((impl_within.f k x0 0 999).bind fun t1632 => some t1632)
theorem impl_isHeight.calls {k : Nat} {x0 : Int}  {w : World}  {r : Bool} (H : impl_isHeight.f k x0 = some r) :
    Calls Try.prog 124 ([.int .i64 x0] : List Value).toArray w (fun e w_ => ∃ v, e = .returned v ∧ v = (.bool r) ∧ Mem w [] w_ []) := by
  have HM := Mem.start w
  refine calls_run (N := 5) Try.func124 rfl rfl rfl rfl ?_
  unfold impl_isHeight.f at H
  refine run_seq ?_
  refine run_region rfl ?_
  refine ops_ex rfl (guard_none rfl) rfl rfl (ex_assign rfl rfl) ?_
  refine ops_nil ?_
  refine at_then ?_
  refine run_seq ?_
  obtain ⟨t1632, h1633, H⟩ := bind_some H
  refine run_region rfl ?_
  refine ops_ex rfl (guard_none rfl) rfl rfl (ex_move rfl rfl) ?_
  refine ops_does rfl (guard_none rfl) rfl rfl (does_callk rfl callok112 rfl (impl_within.calls (x0 := x0) (x1 := 0) (x2 := 999) h1633)) ?_
  rintro _ w1634 ⟨rfl, hn⟩
  replace HM : Mem w [] w1634 [] := HM.call hn
  refine ops_ex rfl (guard_none rfl) rfl rfl (ex_assign rfl rfl) ?_
  refine ops_nil ?_
  refine at_then ?_
  refine run_ret ?_
  have hR := Option.some.inj H
  subst hR
  exact at_ret1 rfl rfl ⟨_, rfl, rfl, HM⟩

def impl_isKey.f (k : Nat) (x0 : Int) : Option Bool := ((impl_within.f k x0 1 999).bind fun t1658 => some t1658)
theorem impl_isKey.calls {k : Nat} {x0 : Int}  {w : World}  {r : Bool} (H : impl_isKey.f k x0 = some r) :
    Calls Try.prog 111 ([.int .i64 x0] : List Value).toArray w (fun e w_ => ∃ v, e = .returned v ∧ v = (.bool r) ∧ Mem w [] w_ []) := by
  have HM := Mem.start w
  refine calls_run (N := 5) Try.func111 rfl rfl rfl rfl ?_
  unfold impl_isKey.f at H
  refine run_seq ?_
  refine run_region rfl ?_
  refine ops_ex rfl (guard_none rfl) rfl rfl (ex_assign rfl rfl) ?_
  refine ops_nil ?_
  refine at_then ?_
  refine run_seq ?_
  obtain ⟨t1658, h1659, H⟩ := bind_some H
  refine run_region rfl ?_
  refine ops_ex rfl (guard_none rfl) rfl rfl (ex_move rfl rfl) ?_
  refine ops_does rfl (guard_none rfl) rfl rfl (does_callk rfl callok112 rfl (impl_within.calls (x0 := x0) (x1 := 1) (x2 := 999) h1659)) ?_
  rintro _ w1660 ⟨rfl, hn⟩
  replace HM : Mem w [] w1660 [] := HM.call hn
  refine ops_ex rfl (guard_none rfl) rfl rfl (ex_assign rfl rfl) ?_
  refine ops_nil ?_
  refine at_then ?_
  refine run_ret ?_
  have hR := Option.some.inj H
  subst hR
  exact at_ret1 rfl rfl ⟨_, rfl, rfl, HM⟩

def impl_areKeys_1.f (k : Nat) (x0 : Int) : Option Bool := ((impl_isKey.f k x0).bind fun t1663 => some (!t1663))
theorem impl_areKeys_1.calls {k : Nat} {x0 : Int}  {w : World}  {r : Bool} (H : impl_areKeys_1.f k x0 = some r) :
    Calls Try.prog 178 ([.int .i64 x0] : List Value).toArray w (fun e w_ => ∃ v, e = .returned v ∧ v = (.bool r) ∧ Mem w [] w_ []) := by
  have HM := Mem.start w
  refine calls_run (N := 6) Try.func178 rfl rfl rfl rfl ?_
  unfold impl_areKeys_1.f at H
  refine run_seq ?_
  refine run_region rfl ?_
  refine ops_ex rfl (guard_none rfl) rfl rfl (ex_assign rfl rfl) ?_
  refine ops_nil ?_
  refine at_then ?_
  refine run_seq ?_
  obtain ⟨t1663, h1664, H⟩ := bind_some H
  refine run_region rfl ?_
  refine ops_ex rfl (guard_none rfl) rfl rfl (ex_move rfl rfl) ?_
  refine ops_does rfl (guard_none rfl) rfl rfl (does_callk rfl callok111 rfl (impl_isKey.calls (x0 := x0) h1664)) ?_
  rintro _ w1665 ⟨rfl, hn⟩
  replace HM : Mem w [] w1665 [] := HM.call hn
  refine ops_ex rfl (guard_none rfl) rfl rfl (ex_not rfl rfl) ?_
  refine ops_ex rfl (guard_none rfl) rfl rfl (ex_assign rfl rfl) ?_
  refine ops_nil ?_
  refine at_then ?_
  refine run_ret ?_
  have hR := Option.some.inj H
  subst hR
  exact at_ret1 rfl rfl ⟨_, rfl, rfl, HM⟩

def slices_IndexFunc_int64.l0 (x0 : List Int) : Nat → Int → Option (Int ⊕ Unit)
  | 0, _ => none
  | k + 1, a1711 => (bif (decide (a1711 < (x0.length : Int))) then (chk (idxOk a1711 x0.length) ((impl_areKeys_1.f k (gt x0 a1711)).bind fun t1723 => (bif t1723 then some (.inl a1711) else slices_IndexFunc_int64.l0 x0 k (wrap64 (a1711 + 1))))) else some (.inr ()))
theorem slices_IndexFunc_int64.l0_z (x0 : List Int) (a1711 : Int) : slices_IndexFunc_int64.l0 x0 0 a1711 = none := rfl
theorem slices_IndexFunc_int64.l0_s (x0 : List Int) (k : Nat) (a1711 : Int) : slices_IndexFunc_int64.l0 x0 (k + 1) a1711 = (bif (decide (a1711 < (x0.length : Int))) then (chk (idxOk a1711 x0.length) ((impl_areKeys_1.f k (gt x0 a1711)).bind fun t1723 => (bif t1723 then some (.inl a1711) else slices_IndexFunc_int64.l0 x0 k (wrap64 (a1711 + 1))))) else some (.inr ())) := rfl
def slices_IndexFunc_int64.f (k : Nat) (x0 : List Int) : Option Int := ((slices_IndexFunc_int64.l0 x0 k 0).bind fun o1703 => thn o1703 (fun r => some r) (fun _ => some (-1)))
theorem slices_IndexFunc_int64.calls {k : Nat} {x0 : List Int} {p0 : Value} {w : World} (hp0 : RdS kInt w p0 x0) {r : Int} (H : slices_IndexFunc_int64.f k x0 = some r) :
    Calls Try.prog 185 ([p0, .func (.func 178) #[] #[]] : List Value).toArray w (fun e w_ => ∃ v, e = .returned v ∧ v = (.int .i64 r) ∧ Mem w [] w_ []) := by
  have HM := Mem.start w
  refine calls_run (N := 19) Try.func185 rfl rfl rfl rfl ?_
  unfold slices_IndexFunc_int64.f at H
  refine run_seq ?_
  refine run_region rfl ?_
  refine ops_ex rfl (guard_none rfl) rfl rfl (ex_assign rfl rfl) ?_
  refine ops_nil ?_
  refine at_then ?_
  obtain ⟨o1703, ho1704, H⟩ := bind_some H
  refine run_mid (fun ρ_ w_ => Sum.inr () = o1703 ∧ ρ_ = [] ∧ Mem w [] w_ []) ?_ ?_
  · skip
    refine run_seq ?_
    refine run_region rfl ?_
    refine ops_ex rfl (guard_none rfl) rfl rfl (ex_move rfl rfl) ?_
    refine ops_ex rfl (guard_none rfl) rfl rfl (ex_len (d := kInt) (xs := x0) rfl rfl Try.underlying111 hp0) ?_
    refine ops_ex rfl (guard_none rfl) rfl rfl (ex_move rfl rfl) ?_
    refine ops_nil ?_
    refine at_then ?_
    refine run_block ?_
    refine run_loop (fun k_ ρ_ w_ => ∃ a1711 : Int, slices_IndexFunc_int64.l0 x0 k_ a1711 = some o1703 ∧ ρ_ = [(0, p0), (1, .func (.func 178) #[] #[]), (7, .int .i64 (x0.length : Int)), (8, .int .i64 a1711)] ∧ Mem w [] w_ []) k (ρ1 := [(0, p0), (1, .func (.func 178) #[] #[]), (7, .int .i64 (x0.length : Int)), (8, .int .i64 0)]) ⟨_, ho1704, rfl, HM⟩ (Sub.cons rfl (Sub.cons rfl (Sub.cons rfl (Sub.cons rfl Sub.nil)))) ?_
    clear HM ho1704
    rintro k1718 _ w1719 ⟨a1711, ho1704, rfl, HM⟩
    obtain _ | k1718 := k1718
    · exact nomatch ((slices_IndexFunc_int64.l0_z x0 a1711).symm.trans ho1704)
    replace ho1704 := (slices_IndexFunc_int64.l0_s x0 k1718 a1711).symm.trans ho1704
    refine run_seq ?_
    refine run_region rfl ?_
    refine ops_ex rfl (guard_none rfl) rfl rfl (ex_lss rfl rfl rfl) ?_
    refine ops_nil ?_
    refine at_then ?_
    refine run_seq ?_
    refine run_cond (b := (decide (a1711 < (x0.length : Int)))) rfl (fun hb1720 => ?_) (fun hb1720 => ?_)
    · replace ho1704 := cond_t hb1720 ho1704
      refine run_skip ?_
      refine at_then ?_
      refine run_seq ?_
      refine run_block ?_
      refine run_seq ?_
      refine run_region rfl ?_
      refine ops_ex rfl (guard_none rfl) rfl rfl (ex_move rfl rfl) ?_
      refine ops_ex rfl (guard_none rfl) rfl rfl (ex_assign rfl rfl) ?_
      refine ops_nil ?_
      refine at_then ?_
      refine run_seq ?_
      obtain ⟨e1721, ho1704⟩ := chk_some ho1704
      obtain ⟨t1723, h1724, ho1704⟩ := bind_some ho1704
      refine run_region rfl ?_
      refine ops_ex rfl (guard_none rfl) rfl rfl (ex_move rfl rfl) ?_
      refine ops_ex rfl (guard_none rfl) rfl rfl (ex_move rfl rfl) ?_
      refine ops_ex rfl (guard_none rfl) rfl rfl (ex_move rfl rfl) ?_
      have hc1722 : CellsAt _ (sb p0) (so p0 + (a1711).toNat * 1) [(.int .i64 (gt x0 a1711))] := rd_plain hp0 e1721
      refine ops_ex rfl (guard_none rfl) rfl rfl (ex_indexAddr (d := kInt) rfl rfl rfl Try.underlying111 tsz2 hp0 (idx_lo e1721) (idx_hi e1721)) ?_
      refine ops_ex rfl (guard_none rfl) rfl rfl (ex_load1 rfl rfl Try.underlying2 rfl ((HM.at_ hc1722) 0 _ rfl)) ?_
      refine ops_does rfl (guard_none rfl) rfl rfl (does_callvk rfl callok178 rfl rfl rfl (impl_areKeys_1.calls (x0 := (gt x0 a1711)) h1724)) ?_
      rintro _ w1725 ⟨rfl, hn⟩
      replace HM : Mem w [] w1725 [] := HM.call hn
      refine ops_nil ?_
      refine at_then ?_
      refine run_cond (b := t1723) rfl (fun hb1726 => ?_) (fun hb1726 => ?_)
      · replace ho1704 := cond_t hb1726 ho1704
        refine run_seq ?_
        refine run_region rfl ?_
        refine ops_ex rfl (guard_none rfl) rfl rfl (ex_move rfl rfl) ?_
        refine ops_ex rfl (guard_none rfl) rfl rfl (ex_assign rfl rfl) ?_
        refine ops_nil ?_
        refine at_then ?_
        refine run_ret ?_
        refine at_block_ret ?_
        refine at_then_ret ?_
        refine at_then_ret ?_
        refine at_block_ret ?_
        refine at_then_ret ?_
        have hR := Option.some.inj ho1704
        subst hR
        have hT := thn_inl H
        have hR := Option.some.inj hT
        subst hR
        exact at_ret1 rfl rfl ⟨_, rfl, rfl, HM⟩
      · replace ho1704 := cond_f hb1726 ho1704
        refine run_skip ?_
        refine at_block ?_
        refine at_then ?_
        refine run_region rfl ?_
        refine ops_ex rfl (guard_none rfl) rfl rfl (ex_add rfl rfl rfl) ?_
        refine ops_ex rfl (guard_none rfl) rfl rfl (ex_move rfl rfl) ?_
        refine ops_nil ?_
        exact at_again k1718 (ρ1 := [(0, p0), (1, .func (.func 178) #[] #[]), (7, .int .i64 (x0.length : Int)), (8, .int .i64 (wrap64 (a1711 + 1)))]) (Nat.lt_succ_self _) ⟨_, ho1704, rfl, HM⟩ (Sub.cons rfl (Sub.cons rfl (Sub.cons rfl (Sub.cons rfl Sub.nil))))
    · replace ho1704 := cond_f hb1720 ho1704
      refine run_exit ?_
      refine at_then_exit ?_
      refine at_then_exit ?_
      refine at_block_exit ?_
      exact at_mid (ρ' := []) ⟨(Option.some.inj ho1704), rfl, HM⟩ Sub.nil
  · rintro _ w1727 ⟨rfl, rfl, HM⟩
    replace H := (thn_inr H)
    refine run_seq ?_
    refine run_region rfl ?_
    refine ops_ex rfl (guard_none rfl) rfl rfl (ex_assign rfl rfl) ?_
    refine ops_nil ?_
    refine at_then ?_
    refine run_ret ?_
    have hR := Option.some.inj H
    subst hR
    exact at_ret1 rfl rfl ⟨_, rfl, rfl, HM⟩

def slices_ContainsFunc_int64.f (k : Nat) (x0 : List Int) : Option Bool := ((slices_IndexFunc_int64.f k x0).bind fun t1730 => some (decide (0 ≤ t1730)))
theorem slices_ContainsFunc_int64.calls {k : Nat} {x0 : List Int} {p0 : Value} {w : World} (hp0 : RdS kInt w p0 x0) {r : Bool} (H : slices_ContainsFunc_int64.f k x0 = some r) :
    Calls Try.prog 177 ([p0, .func (.func 178) #[] #[]] : List Value).toArray w (fun e w_ => ∃ v, e = .returned v ∧ v = (.bool r) ∧ Mem w [] w_ []) := by
  have HM := Mem.start w
  refine calls_run (N := 9) Try.func177 rfl rfl rfl rfl ?_
  unfold slices_ContainsFunc_int64.f at H
  refine run_seq ?_
  refine run_region rfl ?_
  refine ops_ex rfl (guard_none rfl) rfl rfl (ex_assign rfl rfl) ?_
  refine ops_nil ?_
  refine at_then ?_
  refine run_seq ?_
  obtain ⟨t1730, h1731, H⟩ := bind_some H
  refine run_region rfl ?_
  refine ops_ex rfl (guard_none rfl) rfl rfl (ex_move rfl rfl) ?_
  refine ops_ex rfl (guard_none rfl) rfl rfl (ex_move rfl rfl) ?_
  refine ops_does rfl (guard_none rfl) rfl rfl (does_callk rfl callok185 rfl (slices_IndexFunc_int64.calls (x0 := x0) (HM.rd hp0) h1731)) ?_
  rintro _ w1732 ⟨rfl, hn⟩
  replace HM : Mem w [] w1732 [] := HM.call hn
  refine ops_ex rfl (guard_none rfl) rfl rfl (ex_geq rfl rfl rfl) ?_
  refine ops_ex rfl (guard_none rfl) rfl rfl (ex_assign rfl rfl) ?_
  refine ops_nil ?_
  refine at_then ?_
  refine run_ret ?_
  have hR := Option.some.inj H
  subst hR
  exact at_ret1 rfl rfl ⟨_, rfl, rfl, HM⟩

def impl_areKeys.f (k : Nat) (x0 : List Int) : Option Bool := ((slices_ContainsFunc_int64.f k x0).bind fun t1735 => some (!t1735))
theorem impl_areKeys.calls {k : Nat} {x0 : List Int} {p0 : Value} {w : World} (hp0 : RdS kInt w p0 x0) {r : Bool} (H : impl_areKeys.f k x0 = some r) :
    Calls Try.prog 159 ([p0] : List Value).toArray w (fun e w_ => ∃ v, e = .returned v ∧ v = (.bool r) ∧ Mem w [] w_ []) := by
  have HM := Mem.start w
  refine calls_run (N := 6) Try.func159 rfl rfl rfl rfl ?_
  unfold impl_areKeys.f at H
  refine run_seq ?_
  refine run_region rfl ?_
  refine ops_ex rfl (guard_none rfl) rfl rfl (ex_assign rfl rfl) ?_
  refine ops_nil ?_
  refine at_then ?_
  refine run_seq ?_
  obtain ⟨t1735, h1736, H⟩ := bind_some H
  refine run_region rfl ?_
  refine ops_ex rfl (guard_none rfl) rfl rfl (ex_move rfl rfl) ?_
  refine ops_does rfl (guard_none rfl) rfl rfl (does_callk rfl callok177 rfl (slices_ContainsFunc_int64.calls (x0 := x0) (HM.rd hp0) h1736)) ?_
  rintro _ w1737 ⟨rfl, hn⟩
  replace HM : Mem w [] w1737 [] := HM.call hn
  refine ops_ex rfl (guard_none rfl) rfl rfl (ex_not rfl rfl) ?_
  refine ops_ex rfl (guard_none rfl) rfl rfl (ex_assign rfl rfl) ?_
  refine ops_nil ?_
  refine at_then ?_
  refine run_ret ?_
  have hR := Option.some.inj H
  subst hR
  exact at_ret1 rfl rfl ⟨_, rfl, rfl, HM⟩

def impl_isRising.l0 (x0 : List Int) : Nat → Int → Option (Bool ⊕ Unit)
  | 0, _ => none
  | k + 1, a1793 => (bif (decide (a1793 < (x0.length : Int))) then (chk (idxOk a1793 x0.length) (chk (idxOk (wrap64 (a1793 - 1)) x0.length) (bif (decide ((gt x0 a1793) ≤ (gt x0 (wrap64 (a1793 - 1))))) then some (.inl false) else impl_isRising.l0 x0 k (wrap64 (a1793 + 1))))) else some (.inr ()))
theorem impl_isRising.l0_z (x0 : List Int) (a1793 : Int) : impl_isRising.l0 x0 0 a1793 = none := rfl
theorem impl_isRising.l0_s (x0 : List Int) (k : Nat) (a1793 : Int) : impl_isRising.l0 x0 (k + 1) a1793 = (bif (decide (a1793 < (x0.length : Int))) then (chk (idxOk a1793 x0.length) (chk (idxOk (wrap64 (a1793 - 1)) x0.length) (bif (decide ((gt x0 a1793) ≤ (gt x0 (wrap64 (a1793 - 1))))) then some (.inl false) else impl_isRising.l0 x0 k (wrap64 (a1793 + 1))))) else some (.inr ())) := rfl
def impl_isRising.f (k : Nat) (x0 : List Int) : Option Bool := ((impl_isRising.l0 x0 k 1).bind fun o1785 => thn o1785 (fun r => some r) (fun _ => some true))
theorem impl_isRising.calls {k : Nat} {x0 : List Int} {p0 : Value} {w : World} (hp0 : RdS kInt w p0 x0) {r : Bool} (H : impl_isRising.f k x0 = some r) :
    Calls Try.prog 160 ([p0] : List Value).toArray w (fun e w_ => ∃ v, e = .returned v ∧ v = (.bool r) ∧ Mem w [] w_ []) := by
  have HM := Mem.start w
  refine calls_run (N := 20) Try.func160 rfl rfl rfl rfl ?_
  unfold impl_isRising.f at H
  refine run_seq ?_
  refine run_region rfl ?_
  refine ops_ex rfl (guard_none rfl) rfl rfl (ex_assign rfl rfl) ?_
  refine ops_nil ?_
  refine at_then ?_
  obtain ⟨o1785, ho1786, H⟩ := bind_some H
  refine run_mid (fun ρ_ w_ => Sum.inr () = o1785 ∧ ρ_ = [] ∧ Mem w [] w_ []) ?_ ?_
  · skip
    refine run_seq ?_
    refine run_region rfl ?_
    refine ops_ex rfl (guard_none rfl) rfl rfl (ex_assign rfl rfl) ?_
    refine ops_nil ?_
    refine at_then ?_
    refine run_block ?_
    refine run_loop (fun k_ ρ_ w_ => ∃ a1793 : Int, impl_isRising.l0 x0 k_ a1793 = some o1785 ∧ ρ_ = [(0, p0), (3, .int .i64 a1793)] ∧ Mem w [] w_ []) k (ρ1 := [(0, p0), (3, .int .i64 1)]) ⟨_, ho1786, rfl, HM⟩ (Sub.cons rfl (Sub.cons rfl Sub.nil)) ?_
    clear HM ho1786
    rintro k1800 _ w1801 ⟨a1793, ho1786, rfl, HM⟩
    obtain _ | k1800 := k1800
    · exact nomatch ((impl_isRising.l0_z x0 a1793).symm.trans ho1786)
    replace ho1786 := (impl_isRising.l0_s x0 k1800 a1793).symm.trans ho1786
    refine run_seq ?_
    refine run_seq ?_
    refine run_region rfl ?_
    refine ops_ex rfl (guard_none rfl) rfl rfl (ex_move rfl rfl) ?_
    refine ops_ex rfl (guard_none rfl) rfl rfl (ex_move rfl rfl) ?_
    refine ops_ex rfl (guard_none rfl) rfl rfl (ex_len (d := kInt) (xs := x0) rfl rfl Try.underlying111 hp0) ?_
    refine ops_ex rfl (guard_none rfl) rfl rfl (ex_lss rfl rfl rfl) ?_
    refine ops_nil ?_
    refine at_then ?_
    refine run_cond (b := (decide (a1793 < (x0.length : Int)))) rfl (fun hb1802 => ?_) (fun hb1802 => ?_)
    · replace ho1786 := cond_t hb1802 ho1786
      refine run_skip ?_
      refine at_then ?_
      refine run_seq ?_
      refine run_block ?_
      refine run_seq ?_
      obtain ⟨e1803, ho1786⟩ := chk_some ho1786
      obtain ⟨e1805, ho1786⟩ := chk_some ho1786
      refine run_drawf (fun w_ => Mem w [] w_ []) [(0, true), (1, true), (2, true), (3, true), (4, true), (5, true), (6, true), (7, true), (8, true), (9, true)] mixed rfl rfl (by kernel_rfl) ?_
      replace HM := HM.grow (fr_drew _)
      have hS := Mem.suf (M := []) HM
      refine drwp_take rfl (guard_none rfl) rfl rfl (fun w_ hS_ => (ex_move rfl rfl)) hS ?_
      refine drwp_take rfl (guard_none rfl) rfl rfl (fun w_ hS_ => (ex_move rfl rfl)) hS ?_
      have hc1804 : CellsAt _ (sb p0) (so p0 + (a1793).toNat * 1) [(.int .i64 (gt x0 a1793))] := rd_plain hp0 e1803
      refine drwp_take rfl (guard_none rfl) rfl rfl (fun w_ hS_ => (ex_indexAddr (d := kInt) rfl rfl rfl Try.underlying111 tsz2 hp0 (idx_lo e1803) (idx_hi e1803))) hS ?_
      refine drwp_take rfl (guard_none rfl) rfl rfl (fun w_ hS_ => (ex_load1 rfl rfl Try.underlying2 rfl ((hS_.at_ hc1804) 0 _ rfl))) hS ?_
      refine drwp_take rfl (guard_none rfl) rfl rfl (fun w_ hS_ => (ex_move rfl rfl)) hS ?_
      refine drwp_take rfl (guard_none rfl) rfl rfl (fun w_ hS_ => (ex_move rfl rfl)) hS ?_
      refine drwp_take rfl (guard_none rfl) rfl rfl (fun w_ hS_ => (ex_sub rfl rfl rfl)) hS ?_
      have hc1806 : CellsAt _ (sb p0) (so p0 + (wrap64 (a1793 - 1)).toNat * 1) [(.int .i64 (gt x0 (wrap64 (a1793 - 1))))] := rd_plain hp0 e1805
      refine drwp_take rfl (guard_none rfl) rfl rfl (fun w_ hS_ => (ex_indexAddr (d := kInt) rfl rfl rfl Try.underlying111 tsz2 hp0 (idx_lo e1805) (idx_hi e1805))) hS ?_
      refine drwp_take rfl (guard_none rfl) rfl rfl (fun w_ hS_ => (ex_load1 rfl rfl Try.underlying2 rfl ((hS_.at_ hc1806) 0 _ rfl))) hS ?_
      refine drwp_take rfl (guard_none rfl) rfl rfl (fun w_ hS_ => (ex_leq rfl rfl rfl)) hS ?_
      refine drwp_done ?_
      refine at_then ?_
      refine run_cond (b := (decide ((gt x0 a1793) ≤ (gt x0 (wrap64 (a1793 - 1)))))) rfl (fun hb1807 => ?_) (fun hb1807 => ?_)
      · replace ho1786 := cond_t hb1807 ho1786
        refine run_seq ?_
        refine run_region rfl ?_
        refine ops_ex rfl (guard_none rfl) rfl rfl (ex_assign rfl rfl) ?_
        refine ops_nil ?_
        refine at_then ?_
        refine run_ret ?_
        refine at_block_ret ?_
        refine at_then_ret ?_
        refine at_then_ret ?_
        refine at_block_ret ?_
        refine at_then_ret ?_
        have hR := Option.some.inj ho1786
        subst hR
        have hT := thn_inl H
        have hR := Option.some.inj hT
        subst hR
        exact at_ret1 rfl rfl ⟨_, rfl, rfl, HM⟩
      · replace ho1786 := cond_f hb1807 ho1786
        refine run_skip ?_
        refine at_block ?_
        refine at_then ?_
        refine run_region rfl ?_
        refine ops_ex rfl (guard_none rfl) rfl rfl (ex_move rfl rfl) ?_
        refine ops_ex rfl (guard_none rfl) rfl rfl (ex_add rfl rfl rfl) ?_
        refine ops_ex rfl (guard_none rfl) rfl rfl (ex_assign rfl rfl) ?_
        refine ops_nil ?_
        exact at_again k1800 (ρ1 := [(0, p0), (3, .int .i64 (wrap64 (a1793 + 1)))]) (Nat.lt_succ_self _) ⟨_, ho1786, rfl, HM⟩ (Sub.cons rfl (Sub.cons rfl Sub.nil))
    · replace ho1786 := cond_f hb1802 ho1786
      refine run_exit ?_
      refine at_then_exit ?_
      refine at_then_exit ?_
      refine at_block_exit ?_
      exact at_mid (ρ' := []) ⟨(Option.some.inj ho1786), rfl, HM⟩ Sub.nil
  · rintro _ w1808 ⟨rfl, rfl, HM⟩
    replace H := (thn_inr H)
    refine run_seq ?_
    refine run_region rfl ?_
    refine ops_ex rfl (guard_none rfl) rfl rfl (ex_assign rfl rfl) ?_
    refine ops_nil ?_
    refine at_then ?_
    refine run_ret ?_
    have hR := Option.some.inj H
    subst hR
    exact at_ret1 rfl rfl ⟨_, rfl, rfl, HM⟩

def impl_RuleFault.f (k : Nat) (x0 : Rule) : Option Int := ((impl_within.f k (x0.fKeys.length : Int) 1 3).bind fun t1816 => (bif !t1816 then some 2 else ((impl_areKeys.f k x0.fKeys).bind fun t1820 => ((bif (!(!t1820)) then impl_within.f k x0.fNeed 1 (x0.fKeys.length : Int) else some default).bind fun t1822 => ((bif (!((!t1820) || (!t1822))) then impl_isHeight.f k x0.fAfter else some default).bind fun t1824 => (bif (((!t1820) || (!t1822)) || (!t1824)) then some 3 else ((impl_isRising.f k x0.fKeys).bind fun t1836 => (bif !t1836 then some 1 else some 0))))))))
theorem impl_RuleFault.calls {k : Nat} {x0 : Rule} {p0_0 : Value} {w : World} (hp0_0 : RdS kInt w p0_0 x0.fKeys) {r : Int} (H : impl_RuleFault.f k x0 = some r) :
    Calls Try.prog 125 ([.agg #[p0_0, (.int .i64 x0.fNeed), (.int .i64 x0.fAfter)]] : List Value).toArray w (fun e w_ => ∃ v, e = .returned v ∧ v = (.int .i64 r) ∧ Mem w [] w_ []) := by
  have HM := Mem.start w
  refine calls_run (N := 34) Try.func125 rfl rfl rfl rfl ?_
  unfold impl_RuleFault.f at H
  refine run_seq ?_
  refine run_region rfl ?_
  refine ops_does rfl (guard_none rfl) rfl rfl (does_box (cs := [p0_0, .int .i64 x0.fNeed, .int .i64 x0.fAfter]) rfl rfl rfl HM) ?_
  rintro _ w1815 ⟨b1812, rfl, HM⟩
  refine ops_ex rfl (guard_none rfl) rfl rfl (ex_assign rfl rfl) ?_
  refine ops_nil ?_
  refine at_then ?_
  refine run_seq ?_
  refine run_region rfl ?_
  refine ops_ex rfl (guard_none rfl) rfl rfl (ex_fieldAddr (off' := 0) rfl rfl Try.underlying119 rfl tsz111 rfl) ?_
  refine ops_ex rfl (guard_none rfl) rfl rfl (ex_load1 rfl rfl Try.underlying111 rfl ((HM.box_at 0 rfl) 0 _ rfl)) ?_
  refine ops_ex rfl (guard_none rfl) rfl rfl (ex_len (d := kInt) (xs := x0.fKeys) rfl rfl Try.underlying111 hp0_0) ?_
  refine ops_ex rfl (guard_none rfl) rfl rfl (ex_assign rfl rfl) ?_
  refine ops_nil ?_
  refine at_then ?_
  refine run_seq ?_
  refine run_block ?_
  refine run_seq ?_
  obtain ⟨t1816, h1817, H⟩ := bind_some H
  refine run_region rfl ?_
  refine ops_ex rfl (guard_none rfl) rfl rfl (ex_move rfl rfl) ?_
  refine ops_does rfl (guard_none rfl) rfl rfl (does_callk rfl callok112 rfl (impl_within.calls (x0 := (x0.fKeys.length : Int)) (x1 := 1) (x2 := 3) h1817)) ?_
  rintro _ w1818 ⟨rfl, hn⟩
  replace HM : Mem w [] w1818 [box b1812 119 [p0_0, .int .i64 x0.fNeed, .int .i64 x0.fAfter]] := HM.call hn
  refine ops_ex rfl (guard_none rfl) rfl rfl (ex_not rfl rfl) ?_
  refine ops_ex rfl (guard_none rfl) rfl rfl (ex_assign rfl rfl) ?_
  refine ops_nil ?_
  refine at_then ?_
  refine run_cond (b := !t1816) rfl (fun hb1819 => ?_) (fun hb1819 => ?_)
  · replace H := cond_t hb1819 H
    refine run_seq ?_
    refine run_region rfl ?_
    refine ops_ex rfl (guard_none rfl) rfl rfl (ex_assign rfl rfl) ?_
    refine ops_nil ?_
    refine at_then ?_
    refine run_ret ?_
    refine at_block_ret ?_
    refine at_then_ret ?_
    replace HM := (HM.front 0 rfl rfl).drop
    have hR := Option.some.inj H
    subst hR
    exact at_ret1 rfl rfl ⟨_, rfl, rfl, HM⟩
  · replace H := cond_f hb1819 H
    refine run_seq ?_
    obtain ⟨t1820, h1821, H⟩ := bind_some H
    obtain ⟨t1822, h1823, H⟩ := bind_some H
    obtain ⟨t1824, h1825, H⟩ := bind_some H
    refine run_meet (fun ρ_ w_ => ρ_ = [(1, .pointer (some ⟨b1812, 0, none⟩)), (11, .bool (((!t1820) || (!t1822)) || (!t1824)))] ∧ Mem w [] w_ [box b1812 119 [p0_0, .int .i64 x0.fNeed, .int .i64 x0.fAfter]]) ?_ ?_
    · skip
      refine run_region rfl ?_
      refine ops_ex rfl (guard_none rfl) rfl rfl (ex_fieldAddr (off' := 0) rfl rfl Try.underlying119 rfl tsz111 rfl) ?_
      refine ops_ex rfl (guard_none rfl) rfl rfl (ex_load1 rfl rfl Try.underlying111 rfl ((HM.box_at 0 rfl) 0 _ rfl)) ?_
      refine ops_does rfl (guard_none rfl) rfl rfl (does_callk rfl callok159 rfl (impl_areKeys.calls (x0 := x0.fKeys) (HM.rd hp0_0) h1821)) ?_
      rintro _ w1826 ⟨rfl, hn⟩
      replace HM : Mem w [] w1826 [box b1812 119 [p0_0, .int .i64 x0.fNeed, .int .i64 x0.fAfter]] := HM.call hn
      refine ops_ex rfl (guard_none rfl) rfl rfl (ex_not rfl rfl) ?_
      refine ops_ex rfl (guard_none rfl) rfl rfl (ex_move rfl rfl) ?_
      refine bool_cases (!t1820) (fun hg1827 => ?_) (fun hg1827 => ?_)
      · skip
        refine ops_off rfl (guard_off rfl rfl rfl hg1827) rfl rfl ?_
        refine ops_off rfl (guard_off rfl rfl rfl hg1827) rfl rfl ?_
        refine ops_off rfl (guard_off rfl rfl rfl hg1827) rfl rfl ?_
        refine ops_off rfl (guard_off rfl rfl rfl hg1827) rfl rfl ?_
        refine ops_off rfl (guard_off rfl rfl rfl hg1827) rfl rfl ?_
        have hg1828 : ((!t1820) || (!t1822)) = true := by simp only [hg1827, Bool.and_true, Bool.true_and, Bool.and_false, Bool.false_and, Bool.or_true, Bool.true_or, Bool.or_false, Bool.false_or, Bool.not_true, Bool.not_false, Bool.not_not]
        refine ops_ex (v := .bool ((!t1820) || (!t1822))) rfl (guard_none rfl) rfl rfl (ex_por_t rfl rfl hg1827) ?_
        refine ops_ex rfl (guard_none rfl) rfl rfl (ex_move rfl rfl) ?_
        refine ops_off rfl (guard_off rfl rfl rfl hg1828) rfl rfl ?_
        refine ops_off rfl (guard_off rfl rfl rfl hg1828) rfl rfl ?_
        refine ops_off rfl (guard_off rfl rfl rfl hg1828) rfl rfl ?_
        refine ops_off rfl (guard_off rfl rfl rfl hg1828) rfl rfl ?_
        have hg1829 : (((!t1820) || (!t1822)) || (!t1824)) = true := by simp only [hg1828, Bool.and_true, Bool.true_and, Bool.and_false, Bool.false_and, Bool.or_true, Bool.true_or, Bool.or_false, Bool.false_or, Bool.not_true, Bool.not_false, Bool.not_not]
        refine ops_ex (v := .bool (((!t1820) || (!t1822)) || (!t1824))) rfl (guard_none rfl) rfl rfl (ex_por_t rfl rfl hg1828) ?_
        refine ops_ex rfl (guard_none rfl) rfl rfl (ex_assign rfl rfl) ?_
        refine ops_nil ?_
        exact at_meet [(1, .pointer (some ⟨b1812, 0, none⟩)), (11, .bool (((!t1820) || (!t1822)) || (!t1824)))] ⟨rfl, HM⟩ (Sub.cons rfl (Sub.cons rfl Sub.nil))
      · skip
        refine ops_ex rfl (guard_on rfl rfl rfl hg1827) rfl rfl (ex_fieldAddr (off' := 1) rfl rfl Try.underlying119 rfl tsz2 rfl) ?_
        refine ops_ex rfl (guard_on rfl rfl rfl hg1827) rfl rfl (ex_load1 rfl rfl Try.underlying2 rfl ((HM.box_at 0 rfl) 1 _ rfl)) ?_
        refine ops_ex rfl (guard_on rfl rfl rfl hg1827) rfl rfl (ex_move rfl rfl) ?_
        refine ops_does rfl (guard_on rfl rfl rfl hg1827) rfl rfl (does_callk rfl callok112 rfl (impl_within.calls (x0 := x0.fNeed) (x1 := 1) (x2 := (x0.fKeys.length : Int)) (cond_t (not_mk hg1827) h1823))) ?_
        rintro _ w1830 ⟨rfl, hn⟩
        replace HM : Mem w [] w1830 [box b1812 119 [p0_0, .int .i64 x0.fNeed, .int .i64 x0.fAfter]] := HM.call hn
        refine ops_ex rfl (guard_on rfl rfl rfl hg1827) rfl rfl (ex_not rfl rfl) ?_
        refine ops_ex (v := .bool ((!t1820) || (!t1822))) rfl (guard_none rfl) rfl rfl (ex_por_f rfl rfl hg1827 rfl) ?_
        refine ops_ex rfl (guard_none rfl) rfl rfl (ex_move rfl rfl) ?_
        refine bool_cases ((!t1820) || (!t1822)) (fun hg1831 => ?_) (fun hg1831 => ?_)
        · skip
          refine ops_off rfl (guard_off rfl rfl rfl hg1831) rfl rfl ?_
          refine ops_off rfl (guard_off rfl rfl rfl hg1831) rfl rfl ?_
          refine ops_off rfl (guard_off rfl rfl rfl hg1831) rfl rfl ?_
          refine ops_off rfl (guard_off rfl rfl rfl hg1831) rfl rfl ?_
          have hg1832 : (((!t1820) || (!t1822)) || (!t1824)) = true := by simp only [hg1831, Bool.and_true, Bool.true_and, Bool.and_false, Bool.false_and, Bool.or_true, Bool.true_or, Bool.or_false, Bool.false_or, Bool.not_true, Bool.not_false, Bool.not_not]
          refine ops_ex (v := .bool (((!t1820) || (!t1822)) || (!t1824))) rfl (guard_none rfl) rfl rfl (ex_por_t rfl rfl hg1831) ?_
          refine ops_ex rfl (guard_none rfl) rfl rfl (ex_assign rfl rfl) ?_
          refine ops_nil ?_
          exact at_meet [(1, .pointer (some ⟨b1812, 0, none⟩)), (11, .bool (((!t1820) || (!t1822)) || (!t1824)))] ⟨rfl, HM⟩ (Sub.cons rfl (Sub.cons rfl Sub.nil))
        · skip
          refine ops_ex rfl (guard_on rfl rfl rfl hg1831) rfl rfl (ex_fieldAddr (off' := 2) rfl rfl Try.underlying119 rfl tsz2 rfl) ?_
          refine ops_ex rfl (guard_on rfl rfl rfl hg1831) rfl rfl (ex_load1 rfl rfl Try.underlying2 rfl ((HM.box_at 0 rfl) 2 _ rfl)) ?_
          refine ops_does rfl (guard_on rfl rfl rfl hg1831) rfl rfl (does_callk rfl callok124 rfl (impl_isHeight.calls (x0 := x0.fAfter) (cond_t (not_mk hg1831) h1825))) ?_
          rintro _ w1833 ⟨rfl, hn⟩
          replace HM : Mem w [] w1833 [box b1812 119 [p0_0, .int .i64 x0.fNeed, .int .i64 x0.fAfter]] := HM.call hn
          refine ops_ex rfl (guard_on rfl rfl rfl hg1831) rfl rfl (ex_not rfl rfl) ?_
          refine ops_ex (v := .bool (((!t1820) || (!t1822)) || (!t1824))) rfl (guard_none rfl) rfl rfl (ex_por_f rfl rfl hg1831 rfl) ?_
          refine ops_ex rfl (guard_none rfl) rfl rfl (ex_assign rfl rfl) ?_
          refine ops_nil ?_
          exact at_meet [(1, .pointer (some ⟨b1812, 0, none⟩)), (11, .bool (((!t1820) || (!t1822)) || (!t1824)))] ⟨rfl, HM⟩ (Sub.cons rfl (Sub.cons rfl Sub.nil))
    · rintro _ w1834 ⟨rfl, HM⟩
      refine at_then ?_
      refine run_cond (b := (((!t1820) || (!t1822)) || (!t1824))) rfl (fun hb1835 => ?_) (fun hb1835 => ?_)
      · replace H := cond_t hb1835 H
        refine run_seq ?_
        refine run_region rfl ?_
        refine ops_ex rfl (guard_none rfl) rfl rfl (ex_assign rfl rfl) ?_
        refine ops_nil ?_
        refine at_then ?_
        refine run_ret ?_
        refine at_block_ret ?_
        refine at_then_ret ?_
        replace HM := (HM.front 0 rfl rfl).drop
        have hR := Option.some.inj H
        subst hR
        exact at_ret1 rfl rfl ⟨_, rfl, rfl, HM⟩
      · replace H := cond_f hb1835 H
        refine run_seq ?_
        obtain ⟨t1836, h1837, H⟩ := bind_some H
        refine run_region rfl ?_
        refine ops_ex rfl (guard_none rfl) rfl rfl (ex_fieldAddr (off' := 0) rfl rfl Try.underlying119 rfl tsz111 rfl) ?_
        refine ops_ex rfl (guard_none rfl) rfl rfl (ex_load1 rfl rfl Try.underlying111 rfl ((HM.box_at 0 rfl) 0 _ rfl)) ?_
        refine ops_does rfl (guard_none rfl) rfl rfl (does_callk rfl callok160 rfl (impl_isRising.calls (x0 := x0.fKeys) (HM.rd hp0_0) h1837)) ?_
        rintro _ w1838 ⟨rfl, hn⟩
        replace HM : Mem w [] w1838 [box b1812 119 [p0_0, .int .i64 x0.fNeed, .int .i64 x0.fAfter]] := HM.call hn
        refine ops_ex rfl (guard_none rfl) rfl rfl (ex_not rfl rfl) ?_
        refine ops_ex rfl (guard_none rfl) rfl rfl (ex_assign rfl rfl) ?_
        refine ops_nil ?_
        refine at_then ?_
        refine run_cond (b := !t1836) rfl (fun hb1839 => ?_) (fun hb1839 => ?_)
        · replace H := cond_t hb1839 H
          refine run_seq ?_
          refine run_region rfl ?_
          refine ops_ex rfl (guard_none rfl) rfl rfl (ex_assign rfl rfl) ?_
          refine ops_nil ?_
          refine at_then ?_
          refine run_ret ?_
          refine at_block_ret ?_
          refine at_then_ret ?_
          replace HM := (HM.front 0 rfl rfl).drop
          have hR := Option.some.inj H
          subst hR
          exact at_ret1 rfl rfl ⟨_, rfl, rfl, HM⟩
        · replace H := cond_f hb1839 H
          refine run_skip ?_
          refine at_block ?_
          refine at_then ?_
          refine run_seq ?_
          refine run_region rfl ?_
          refine ops_ex rfl (guard_none rfl) rfl rfl (ex_assign rfl rfl) ?_
          refine ops_nil ?_
          refine at_then ?_
          refine run_ret ?_
          replace HM := (HM.front 0 rfl rfl).drop
          have hR := Option.some.inj H
          subst hR
          exact at_ret1 rfl rfl ⟨_, rfl, rfl, HM⟩
end Go.Proofs.Ytigojhglkilodaa.Zk
