/- What functions of the program compute, each as a plain function, and that they do. Conditions: as each theorem states them. -/
import Derived.Test.YtigojhglkilodaaTakeCoinsZkF1
namespace Go.Proofs.Ytigojhglkilodaa.Zk
open Go Go.RowKit Go.IntWalk Go.Proofs
set_option linter.unusedVariables false
set_option linter.unusedSimpArgs false
set_option maxRecDepth 100000
set_option maxHeartbeats 4000000
def spec_l4Copy.l0 (x0 : List Coin) : Nat → (List Coin) → Int → Option ((List Coin))
  | 0, _, _ => none
  | k + 1, a1500, a1502 => (bif (decide (a1502 < (x0.length : Int))) then (chk (idxOk a1502 x0.length) ((spec_l2Copy.f k ((gt x0 a1502).fOut.fRule)).bind fun t1533 => (chk (leB ((a1500.length + ([(⟨(gt x0 a1502).fRef, (⟨(gt x0 a1502).fOut.fValue, t1533⟩ : Out), (gt x0 a1502).fHeight, (gt x0 a1502).fMined⟩ : Coin)] : List Coin).length) * 80) 140737488355328) (spec_l4Copy.l0 x0 k (a1500 ++ ([(⟨(gt x0 a1502).fRef, (⟨(gt x0 a1502).fOut.fValue, t1533⟩ : Out), (gt x0 a1502).fHeight, (gt x0 a1502).fMined⟩ : Coin)] : List Coin)) (wrap64 (a1502 + 1)))))) else some a1500)
theorem spec_l4Copy.l0_z (x0 : List Coin) (a1500 : List Coin) (a1502 : Int) : spec_l4Copy.l0 x0 0 a1500 a1502 = none := rfl
theorem spec_l4Copy.l0_s (x0 : List Coin) (k : Nat) (a1500 : List Coin) (a1502 : Int) : spec_l4Copy.l0 x0 (k + 1) a1500 a1502 = (bif (decide (a1502 < (x0.length : Int))) then (chk (idxOk a1502 x0.length) ((spec_l2Copy.f k ((gt x0 a1502).fOut.fRule)).bind fun t1533 => (chk (leB ((a1500.length + ([(⟨(gt x0 a1502).fRef, (⟨(gt x0 a1502).fOut.fValue, t1533⟩ : Out), (gt x0 a1502).fHeight, (gt x0 a1502).fMined⟩ : Coin)] : List Coin).length) * 80) 140737488355328) (spec_l4Copy.l0 x0 k (a1500 ++ ([(⟨(gt x0 a1502).fRef, (⟨(gt x0 a1502).fOut.fValue, t1533⟩ : Out), (gt x0 a1502).fHeight, (gt x0 a1502).fMined⟩ : Coin)] : List Coin)) (wrap64 (a1502 + 1)))))) else some a1500) := rfl
def spec_l4Copy.f (k : Nat) (x0 : List Coin) : Option ((List Coin)) := ((spec_l4Copy.l0 x0 k ([] : List Coin) 0).bind (fun a1477 => some a1477))
theorem spec_l4Copy.calls {k : Nat} {x0 : List Coin} {p0 : Value} {w : World} (hp0 : RdS kCoin w p0 x0) {r : (List Coin)} (H : spec_l4Copy.f k x0 = some r) :
    Calls Try.prog 81 ([p0] : List Value).toArray w (fun e w_ => ∃ v, e = .returned v ∧ ∃ u0 : Value, v = u0 ∧ Mem w [] w_ [own kCoin 123 u0 r]) := by
  have HM := Mem.start w
  refine calls_run (N := 28) Try.func81 rfl rfl rfl rfl ?_
  unfold spec_l4Copy.f at H
  refine run_seq ?_
  refine run_region rfl ?_
  refine ops_ex rfl (guard_none rfl) rfl rfl (ex_assign rfl rfl) ?_
  refine ops_nil ?_
  refine at_then ?_
  refine run_seq ?_
  refine run_region rfl ?_
  refine ops_does rfl (guard_none rfl) rfl rfl (does_lit (e := 123) (cs := []) (xs := ([] : List Coin)) kCoin rfl rfl (fun _ => by kernel_rfl) rfl rfl (fun _ _ h => by have h' : _ = [] := h; subst h'; exact .nil) HM.emp) ?_
  rintro v1414 w1417 HM
  refine ops_ex rfl (guard_none rfl) rfl rfl (ex_assign rfl rfl) ?_
  refine ops_nil ?_
  refine at_then ?_
  obtain ⟨o1479, ho1480, H⟩ := bind_some H
  refine run_mid (fun ρ_ w_ => ∃ v1476 : Value, ∃ a1477 : List Coin, a1477 = o1479 ∧ ρ_ = [(3, v1476)] ∧ Mem w [] w_ [own kCoin 123 v1476 a1477]) ?_ ?_
  · clear H
    refine run_seq ?_
    refine run_region rfl ?_
    refine ops_ex rfl (guard_none rfl) rfl rfl (ex_assign rfl rfl) ?_
    refine ops_nil ?_
    refine at_then ?_
    refine run_block ?_
    refine run_loop (fun k_ ρ_ w_ => ∃ v1499 : Value, ∃ a1500 : List Coin, ∃ a1502 : Int, spec_l4Copy.l0 x0 k_ a1500 a1502 = some o1479 ∧ ρ_ = [(0, p0), (3, v1499), (4, .int .i64 a1502)] ∧ Mem w [] w_ [own kCoin 123 v1499 a1500]) k (ρ1 := [(0, p0), (3, v1414), (4, .int .i64 0)]) ⟨_, _, _, ho1480, rfl, HM⟩ (Sub.cons rfl (Sub.cons rfl (Sub.cons rfl Sub.nil))) ?_
    clear HM ho1480
    rintro k1521 _ w1522 ⟨v1499, a1500, a1502, ho1480, rfl, HM⟩
    obtain _ | k1521 := k1521
    · exact nomatch ((spec_l4Copy.l0_z x0 a1500 a1502).symm.trans ho1480)
    replace ho1480 := (spec_l4Copy.l0_s x0 k1521 a1500 a1502).symm.trans ho1480
    refine run_seq ?_
    refine run_seq ?_
    refine run_region rfl ?_
    refine ops_ex rfl (guard_none rfl) rfl rfl (ex_move rfl rfl) ?_
    refine ops_ex rfl (guard_none rfl) rfl rfl (ex_move rfl rfl) ?_
    refine ops_ex rfl (guard_none rfl) rfl rfl (ex_len (d := kCoin) (xs := x0) rfl rfl Try.underlying44 hp0) ?_
    refine ops_ex rfl (guard_none rfl) rfl rfl (ex_lss rfl rfl rfl) ?_
    refine ops_nil ?_
    refine at_then ?_
    refine run_cond (b := (decide (a1502 < (x0.length : Int)))) rfl (fun hb1523 => ?_) (fun hb1523 => ?_)
    · replace ho1480 := cond_t hb1523 ho1480
      refine run_skip ?_
      refine at_then ?_
      refine run_seq ?_
      refine run_block ?_
      refine run_seq ?_
      obtain ⟨e1524, ho1480⟩ := chk_some ho1480
      refine run_region rfl ?_
      refine ops_ex rfl (guard_none rfl) rfl rfl (ex_move rfl rfl) ?_
      refine ops_ex rfl (guard_none rfl) rfl rfl (ex_move rfl rfl) ?_
      obtain ⟨kv1526, hc1525, hk1527⟩ : ∃ u, CellsAt _ (sb p0) (so p0 + (a1502).toNat * 8) [(.int .i64 ((gt x0 a1502).fRef.fTx)), (.int .i64 ((gt x0 a1502).fRef.fAt)), (.int .i64 ((gt x0 a1502).fOut.fValue)), u, (.int .i64 ((gt x0 a1502).fOut.fRule.fNeed)), (.int .i64 ((gt x0 a1502).fOut.fRule.fAfter)), (.int .i64 ((gt x0 a1502).fHeight)), (.bool ((gt x0 a1502).fMined))] ∧ RdS kInt _ u ((gt x0 a1502).fOut.fRule.fKeys) := rd_with1 hp0 e1524
      refine ops_ex rfl (guard_none rfl) rfl rfl (ex_indexAddr (d := kCoin) rfl rfl rfl Try.underlying44 tsz123 hp0 (idx_lo e1524) (idx_hi e1524)) ?_
      refine ops_ex rfl (guard_none rfl) rfl rfl (ex_loadN (cs := [(.int .i64 ((gt x0 a1502).fRef.fTx)), (.int .i64 ((gt x0 a1502).fRef.fAt)), (.int .i64 ((gt x0 a1502).fOut.fValue)), kv1526, (.int .i64 ((gt x0 a1502).fOut.fRule.fNeed)), (.int .i64 ((gt x0 a1502).fOut.fRule.fAfter)), (.int .i64 ((gt x0 a1502).fHeight)), (.bool ((gt x0 a1502).fMined))]) rfl rfl Try.underlying123 rfl tsz123 rfl ((HM.at_ hc1525).sub 0 8 rfl)) ?_
      refine ops_does rfl (guard_none rfl) rfl rfl (does_alloc (cs := [.int .i64 0, .int .i64 0, .int .i64 0, .slice none 0 0, .int .i64 0, .int .i64 0, .int .i64 0, .bool false]) rfl tz123 rfl HM) ?_
      rintro _ w1531 ⟨b1528, rfl, HM⟩
      refine ops_doesS rfl (guard_none rfl) rfl (does_store (vs := [.int .i64 ((gt x0 a1502).fRef.fTx), .int .i64 ((gt x0 a1502).fRef.fAt), .int .i64 ((gt x0 a1502).fOut.fValue), kv1526, .int .i64 ((gt x0 a1502).fOut.fRule.fNeed), .int .i64 ((gt x0 a1502).fOut.fRule.fAfter), .int .i64 ((gt x0 a1502).fHeight), .bool ((gt x0 a1502).fMined)]) (cs' := [.int .i64 ((gt x0 a1502).fRef.fTx), .int .i64 ((gt x0 a1502).fRef.fAt), .int .i64 ((gt x0 a1502).fOut.fValue), kv1526, .int .i64 ((gt x0 a1502).fOut.fRule.fNeed), .int .i64 ((gt x0 a1502).fOut.fRule.fAfter), .int .i64 ((gt x0 a1502).fHeight), .bool ((gt x0 a1502).fMined)]) rfl rfl rfl rfl tsz123 (Ones.int (Ones.int (Ones.int (Ones.rd hk1527 (Ones.int (Ones.int (Ones.int (Ones.bool Ones.nil)))))))) rfl rfl HM) ?_
      rintro w1532 HM
      refine ops_nil ?_
      refine at_then ?_
      refine run_seq ?_
      obtain ⟨t1533, h1534, ho1480⟩ := bind_some ho1480
      refine run_region rfl ?_
      refine ops_ex rfl (guard_none rfl) rfl rfl (ex_fieldAddr (off' := 2) rfl rfl Try.underlying123 rfl tsz121 rfl) ?_
      refine ops_ex rfl (guard_none rfl) rfl rfl (ex_fieldAddr (off' := 3) rfl rfl Try.underlying121 rfl tsz119 rfl) ?_
      refine ops_ex rfl (guard_none rfl) rfl rfl (ex_loadN (cs := [kv1526, (.int .i64 ((gt x0 a1502).fOut.fRule.fNeed)), (.int .i64 ((gt x0 a1502).fOut.fRule.fAfter))]) rfl rfl Try.underlying119 rfl tsz119 rfl ((HM.box_at 0 rfl).sub 3 3 rfl)) ?_
      refine ops_does rfl (guard_none rfl) rfl rfl (does_callk rfl callok128 rfl (spec_l2Copy.calls (x0 := (gt x0 a1502).fOut.fRule) (HM.rd hk1527) h1534)) ?_
      rintro _ w1537 ⟨u1535, rfl, hn⟩
      replace HM : Mem w [] w1537 [own kInt 2 u1535 t1533.fKeys, box b1528 123 [.int .i64 ((gt x0 a1502).fRef.fTx), .int .i64 ((gt x0 a1502).fRef.fAt), .int .i64 ((gt x0 a1502).fOut.fValue), kv1526, .int .i64 ((gt x0 a1502).fOut.fRule.fNeed), .int .i64 ((gt x0 a1502).fOut.fRule.fAfter), .int .i64 ((gt x0 a1502).fHeight), .bool ((gt x0 a1502).fMined)], own kCoin 123 v1499 a1500] := HM.call hn
      refine ops_ex rfl (guard_none rfl) rfl rfl (ex_fieldAddr (off' := 2) rfl rfl Try.underlying123 rfl tsz121 rfl) ?_
      refine ops_ex rfl (guard_none rfl) rfl rfl (ex_fieldAddr (off' := 3) rfl rfl Try.underlying121 rfl tsz119 rfl) ?_
      replace HM := HM.front 1 rfl rfl
      refine ops_doesS rfl (guard_none rfl) rfl (does_store (vs := [u1535, .int .i64 t1533.fNeed, .int .i64 t1533.fAfter]) (cs' := [.int .i64 ((gt x0 a1502).fRef.fTx), .int .i64 ((gt x0 a1502).fRef.fAt), .int .i64 ((gt x0 a1502).fOut.fValue), u1535, .int .i64 t1533.fNeed, .int .i64 t1533.fAfter, .int .i64 ((gt x0 a1502).fHeight), .bool ((gt x0 a1502).fMined)]) rfl rfl rfl rfl tsz119 (Ones.rd (HM.own_rd 1 rfl) (Ones.int (Ones.int Ones.nil))) rfl rfl HM) ?_
      rintro w1538 HM
      refine ops_nil ?_
      refine at_then ?_
      obtain ⟨e1542, ho1480⟩ := chk_some ho1480
      refine run_region rfl ?_
      refine ops_ex rfl (guard_none rfl) rfl rfl (ex_move rfl rfl) ?_
      refine ops_ex rfl (guard_none rfl) rfl rfl (ex_loadN (cs := [(.int .i64 ((gt x0 a1502).fRef.fTx)), (.int .i64 ((gt x0 a1502).fRef.fAt)), (.int .i64 ((gt x0 a1502).fOut.fValue)), u1535, (.int .i64 t1533.fNeed), (.int .i64 t1533.fAfter), (.int .i64 ((gt x0 a1502).fHeight)), (.bool ((gt x0 a1502).fMined))]) rfl rfl Try.underlying123 rfl tsz123 rfl ((HM.box_at 0 rfl).sub 0 8 rfl)) ?_
      replace HM := HM.front 1 rfl rfl
      refine ops_does rfl (guard_none rfl) rfl rfl (does_lit (e := 123) (cs := [(.int .i64 ((gt x0 a1502).fRef.fTx)), (.int .i64 ((gt x0 a1502).fRef.fAt)), (.int .i64 ((gt x0 a1502).fOut.fValue)), u1535, (.int .i64 t1533.fNeed), (.int .i64 t1533.fAfter), (.int .i64 ((gt x0 a1502).fHeight)), (.bool ((gt x0 a1502).fMined))]) (xs := ([(⟨(gt x0 a1502).fRef, (⟨(gt x0 a1502).fOut.fValue, t1533⟩ : Out), (gt x0 a1502).fHeight, (gt x0 a1502).fMined⟩ : Coin)] : List Coin)) kCoin rfl rfl (fun _ => by kernel_rfl) rfl rfl (fun _ _ h => by have := Elems.cons (d := kCoin) (x := (⟨(gt x0 a1502).fRef, (⟨(gt x0 a1502).fOut.fValue, t1533⟩ : Out), (gt x0 a1502).fHeight, (gt x0 a1502).fMined⟩ : Coin)) ⟨_, rfl, h⟩ .nil; rw [List.append_nil, List.append_nil] at this; exact this) HM) ?_
      rintro v1539 w1545 HM
      replace HM := HM.front 2 rfl rfl
      refine ops_does rfl (guard_none rfl) rfl rfl (does_append kCoin rfl rfl rfl Try.underlying44 tsz123 rfl tby123 tz123 rfl rfl (leB_le e1542) HM) ?_
      rintro v1543 w1546 HM
      refine ops_ex rfl (guard_none rfl) rfl rfl (ex_assign rfl rfl) ?_
      refine ops_nil ?_
      refine at_block ?_
      refine at_then ?_
      refine run_region rfl ?_
      refine ops_ex rfl (guard_none rfl) rfl rfl (ex_move rfl rfl) ?_
      refine ops_ex rfl (guard_none rfl) rfl rfl (ex_add rfl rfl rfl) ?_
      refine ops_ex rfl (guard_none rfl) rfl rfl (ex_assign rfl rfl) ?_
      refine ops_nil ?_
      replace HM := (HM.front 1 rfl rfl).drop
      exact at_again k1521 (ρ1 := [(0, p0), (3, v1543), (4, .int .i64 (wrap64 (a1502 + 1)))]) (Nat.lt_succ_self _) ⟨_, _, _, ho1480, rfl, HM⟩ (Sub.cons rfl (Sub.cons rfl (Sub.cons rfl Sub.nil)))
    · replace ho1480 := cond_f hb1523 ho1480
      refine run_exit ?_
      refine at_then_exit ?_
      refine at_then_exit ?_
      refine at_block_exit ?_
      exact at_mid (ρ' := [(3, v1499)]) ⟨_, _, (Option.some.inj ho1480), rfl, HM⟩ (Sub.cons rfl Sub.nil)
  · rintro _ w1547 ⟨v1476, a1477, rfl, rfl, HM⟩
    refine run_seq ?_
    refine run_region rfl ?_
    refine ops_ex rfl (guard_none rfl) rfl rfl (ex_move rfl rfl) ?_
    refine ops_ex rfl (guard_none rfl) rfl rfl (ex_assign rfl rfl) ?_
    refine ops_nil ?_
    refine at_then ?_
    refine run_ret ?_
    have hR := Option.some.inj H
    subst hR
    exact at_ret1 rfl rfl ⟨_, rfl, _, rfl, HM⟩

def spec_l4At.l0 (x0 : List Coin) (x1 : Ref) : Nat → Int → Option (Int ⊕ Unit)
  | 0, _ => none
  | k + 1, a1610 => (bif (decide (a1610 < (x0.length : Int))) then (chk (idxOk a1610 x0.length) (bif ((((gt x0 a1610).fRef.fTx) == x1.fTx) && (((gt x0 a1610).fRef.fAt) == x1.fAt)) then some (.inl a1610) else spec_l4At.l0 x0 x1 k (wrap64 (a1610 + 1)))) else some (.inr ()))
theorem spec_l4At.l0_z (x0 : List Coin) (x1 : Ref) (a1610 : Int) : spec_l4At.l0 x0 x1 0 a1610 = none := rfl
theorem spec_l4At.l0_s (x0 : List Coin) (x1 : Ref) (k : Nat) (a1610 : Int) : spec_l4At.l0 x0 x1 (k + 1) a1610 = (bif (decide (a1610 < (x0.length : Int))) then (chk (idxOk a1610 x0.length) (bif ((((gt x0 a1610).fRef.fTx) == x1.fTx) && (((gt x0 a1610).fRef.fAt) == x1.fAt)) then some (.inl a1610) else spec_l4At.l0 x0 x1 k (wrap64 (a1610 + 1)))) else some (.inr ())) := rfl
def spec_l4At.f (k : Nat) (x0 : List Coin) (x1 : Ref) : Option Int := ((spec_l4At.l0 x0 x1 k 0).bind fun o1602 => thn o1602 (fun r => some r) (fun _ => some (-1)))
theorem spec_l4At.calls {k : Nat} {x0 : List Coin} {x1 : Ref} {p0 : Value} {w : World} (hp0 : RdS kCoin w p0 x0) {r : Int} (H : spec_l4At.f k x0 x1 = some r) :
    Calls Try.prog 80 ([p0, .agg #[(.int .i64 x1.fTx), (.int .i64 x1.fAt)]] : List Value).toArray w (fun e w_ => ∃ v, e = .returned v ∧ v = (.int .i64 r) ∧ Mem w [] w_ []) := by
  have HM := Mem.start w
  refine calls_run (N := 20) Try.func80 rfl rfl rfl rfl ?_
  unfold spec_l4At.f at H
  refine run_seq ?_
  refine run_region rfl ?_
  refine ops_does rfl (guard_none rfl) rfl rfl (does_box (cs := [.int .i64 x1.fTx, .int .i64 x1.fAt]) rfl rfl rfl HM) ?_
  rintro _ w1582 ⟨b1579, rfl, HM⟩
  refine ops_ex rfl (guard_none rfl) rfl rfl (ex_assign rfl rfl) ?_
  refine ops_nil ?_
  refine at_then ?_
  obtain ⟨o1602, ho1603, H⟩ := bind_some H
  refine run_mid (fun ρ_ w_ => Sum.inr () = o1602 ∧ ρ_ = [] ∧ Mem w [] w_ []) ?_ ?_
  · skip
    refine run_seq ?_
    refine run_region rfl ?_
    refine ops_ex rfl (guard_none rfl) rfl rfl (ex_assign rfl rfl) ?_
    refine ops_nil ?_
    refine at_then ?_
    refine run_block ?_
    refine run_loop (fun k_ ρ_ w_ => ∃ a1610 : Int, spec_l4At.l0 x0 x1 k_ a1610 = some o1602 ∧ ρ_ = [(0, p0), (3, .pointer (some ⟨b1579, 0, none⟩)), (5, .int .i64 a1610)] ∧ Mem w [] w_ [box b1579 54 [.int .i64 x1.fTx, .int .i64 x1.fAt]]) k (ρ1 := [(0, p0), (3, .pointer (some ⟨b1579, 0, none⟩)), (5, .int .i64 0)]) ⟨_, ho1603, rfl, HM⟩ (Sub.cons rfl (Sub.cons rfl (Sub.cons rfl Sub.nil))) ?_
    clear HM ho1603
    rintro k1617 _ w1618 ⟨a1610, ho1603, rfl, HM⟩
    obtain _ | k1617 := k1617
    · exact nomatch ((spec_l4At.l0_z x0 x1 a1610).symm.trans ho1603)
    replace ho1603 := (spec_l4At.l0_s x0 x1 k1617 a1610).symm.trans ho1603
    refine run_seq ?_
    refine run_seq ?_
    refine run_region rfl ?_
    refine ops_ex rfl (guard_none rfl) rfl rfl (ex_move rfl rfl) ?_
    refine ops_ex rfl (guard_none rfl) rfl rfl (ex_move rfl rfl) ?_
    refine ops_ex rfl (guard_none rfl) rfl rfl (ex_len (d := kCoin) (xs := x0) rfl rfl Try.underlying44 hp0) ?_
    refine ops_ex rfl (guard_none rfl) rfl rfl (ex_lss rfl rfl rfl) ?_
    refine ops_nil ?_
    refine at_then ?_
    refine run_cond (b := (decide (a1610 < (x0.length : Int)))) rfl (fun hb1619 => ?_) (fun hb1619 => ?_)
    · replace ho1603 := cond_t hb1619 ho1603
      refine run_skip ?_
      refine at_then ?_
      refine run_seq ?_
      refine run_block ?_
      refine run_seq ?_
      obtain ⟨e1620, ho1603⟩ := chk_some ho1603
      refine run_drawf (fun w_ => Mem w [] w_ [box b1579 54 [.int .i64 x1.fTx, .int .i64 x1.fAt]]) [(0, true), (1, true), (2, true), (3, true), (4, true), (5, true), (6, true)] mixed rfl rfl (by kernel_rfl) ?_
      replace HM := HM.grow (fr_drew _)
      have hS := Mem.suf (M := []) HM
      refine drwp_take rfl (guard_none rfl) rfl rfl (fun w_ hS_ => (ex_move rfl rfl)) hS ?_
      refine drwp_take rfl (guard_none rfl) rfl rfl (fun w_ hS_ => (ex_move rfl rfl)) hS ?_
      obtain ⟨kv1622, hc1621, hk1623⟩ : ∃ u, CellsAt _ (sb p0) (so p0 + (a1610).toNat * 8) [(.int .i64 ((gt x0 a1610).fRef.fTx)), (.int .i64 ((gt x0 a1610).fRef.fAt)), (.int .i64 ((gt x0 a1610).fOut.fValue)), u, (.int .i64 ((gt x0 a1610).fOut.fRule.fNeed)), (.int .i64 ((gt x0 a1610).fOut.fRule.fAfter)), (.int .i64 ((gt x0 a1610).fHeight)), (.bool ((gt x0 a1610).fMined))] ∧ RdS kInt _ u ((gt x0 a1610).fOut.fRule.fKeys) := rd_with1 hp0 e1620
      refine drwp_take rfl (guard_none rfl) rfl rfl (fun w_ hS_ => (ex_indexAddr (d := kCoin) rfl rfl rfl Try.underlying44 tsz123 hp0 (idx_lo e1620) (idx_hi e1620))) hS ?_
      refine drwp_take rfl (guard_none rfl) rfl rfl (fun w_ hS_ => (ex_fieldAddr (off' := so p0 + (a1610).toNat * 8) rfl rfl Try.underlying123 rfl tsz54 rfl)) hS ?_
      refine drwp_take rfl (guard_none rfl) rfl rfl (fun w_ hS_ => (ex_loadN (cs := [(.int .i64 ((gt x0 a1610).fRef.fTx)), (.int .i64 ((gt x0 a1610).fRef.fAt))]) rfl rfl Try.underlying54 rfl tsz54 rfl ((hS_.at_ hc1621).sub 0 2 rfl))) hS ?_
      refine drwp_take rfl (guard_none rfl) rfl rfl (fun w_ hS_ => (ex_loadN (cs := [(.int .i64 x1.fTx), (.int .i64 x1.fAt)]) rfl rfl Try.underlying54 rfl tsz54 rfl ((hS_.box_at 0 rfl).sub 0 2 rfl))) hS ?_
      refine drwp_take rfl (guard_none rfl) rfl rfl (fun w_ hS_ => (ex_aeql rfl rfl rfl (by kernel_rfl) (eqs54 _ _ _ _ _))) hS ?_
      refine drwp_done ?_
      refine at_then ?_
      refine run_cond (b := ((((gt x0 a1610).fRef.fTx) == x1.fTx) && (((gt x0 a1610).fRef.fAt) == x1.fAt))) rfl (fun hb1624 => ?_) (fun hb1624 => ?_)
      · replace ho1603 := cond_t hb1624 ho1603
        refine run_seq ?_
        refine run_region rfl ?_
        refine ops_ex rfl (guard_none rfl) rfl rfl (ex_move rfl rfl) ?_
        refine ops_ex rfl (guard_none rfl) rfl rfl (ex_assign rfl rfl) ?_
        refine ops_nil ?_
        refine at_then ?_
        refine run_ret ?_
        refine at_block_ret ?_
        refine at_then_ret ?_
        refine at_then_ret ?_
        refine at_block_ret ?_
        refine at_then_ret ?_
        replace HM := (HM.front 0 rfl rfl).drop
        have hR := Option.some.inj ho1603
        subst hR
        have hT := thn_inl H
        have hR := Option.some.inj hT
        subst hR
        exact at_ret1 rfl rfl ⟨_, rfl, rfl, HM⟩
      · replace ho1603 := cond_f hb1624 ho1603
        refine run_skip ?_
        refine at_block ?_
        refine at_then ?_
        refine run_region rfl ?_
        refine ops_ex rfl (guard_none rfl) rfl rfl (ex_move rfl rfl) ?_
        refine ops_ex rfl (guard_none rfl) rfl rfl (ex_add rfl rfl rfl) ?_
        refine ops_ex rfl (guard_none rfl) rfl rfl (ex_assign rfl rfl) ?_
        refine ops_nil ?_
        exact at_again k1617 (ρ1 := [(0, p0), (3, .pointer (some ⟨b1579, 0, none⟩)), (5, .int .i64 (wrap64 (a1610 + 1)))]) (Nat.lt_succ_self _) ⟨_, ho1603, rfl, HM⟩ (Sub.cons rfl (Sub.cons rfl (Sub.cons rfl Sub.nil)))
    · replace ho1603 := cond_f hb1619 ho1603
      refine run_exit ?_
      refine at_then_exit ?_
      refine at_then_exit ?_
      refine at_block_exit ?_
      replace HM := (HM.front 0 rfl rfl).drop
      exact at_mid (ρ' := []) ⟨(Option.some.inj ho1603), rfl, HM⟩ Sub.nil
  · rintro _ w1625 ⟨rfl, rfl, HM⟩
    replace H := (thn_inr H)
    refine run_seq ?_
    refine run_region rfl ?_
    refine ops_ex rfl (guard_none rfl) rfl rfl (ex_assign rfl rfl) ?_
    refine ops_nil ?_
    refine at_then ?_
    refine run_ret ?_
    have hR := Option.some.inj H
    subst hR
    exact at_ret1 rfl rfl ⟨_, rfl, rfl, HM⟩

def spec_l4Take.l0 (x1 : List Ref) : Nat → (List Coin) → Int → Option (((List Coin) × Bool) ⊕ ((List Coin)))
  | 0, _, _ => none
  | k + 1, a1773, a1775 => (bif (decide (a1775 < (x1.length : Int))) then (chk (idxOk a1775 x1.length) ((spec_l4At.f k a1773 (gt x1 a1775)).bind fun t1799 => (bif (decide (t1799 < 0)) then some (.inl (([] : List Coin), false)) else (chk (cutOk t1799 a1773.length) (chk (cutOk (wrap64 (t1799 + 1)) a1773.length) (chk (leB ((t1799).toNat * 80) 140737488355328) (chk (leB (((t1799).toNat + (a1773.length - (wrap64 (t1799 + 1)).toNat)) * 80) 140737488355328) (chk (decide ((t1799).toNat ≤ (wrap64 (t1799 + 1)).toNat)) (spec_l4Take.l0 x1 k (a1773.take (t1799).toNat ++ a1773.drop (wrap64 (t1799 + 1)).toNat) (wrap64 (a1775 + 1))))))))))) else some (.inr a1773))
theorem spec_l4Take.l0_z (x1 : List Ref) (a1773 : List Coin) (a1775 : Int) : spec_l4Take.l0 x1 0 a1773 a1775 = none := rfl
theorem spec_l4Take.l0_s (x1 : List Ref) (k : Nat) (a1773 : List Coin) (a1775 : Int) : spec_l4Take.l0 x1 (k + 1) a1773 a1775 = (bif (decide (a1775 < (x1.length : Int))) then (chk (idxOk a1775 x1.length) ((spec_l4At.f k a1773 (gt x1 a1775)).bind fun t1799 => (bif (decide (t1799 < 0)) then some (.inl (([] : List Coin), false)) else (chk (cutOk t1799 a1773.length) (chk (cutOk (wrap64 (t1799 + 1)) a1773.length) (chk (leB ((t1799).toNat * 80) 140737488355328) (chk (leB (((t1799).toNat + (a1773.length - (wrap64 (t1799 + 1)).toNat)) * 80) 140737488355328) (chk (decide ((t1799).toNat ≤ (wrap64 (t1799 + 1)).toNat)) (spec_l4Take.l0 x1 k (a1773.take (t1799).toNat ++ a1773.drop (wrap64 (t1799 + 1)).toNat) (wrap64 (a1775 + 1))))))))))) else some (.inr a1773)) := rfl
def spec_l4Take.f (k : Nat) (x0 : List Coin) (x1 : List Ref) : Option ((List Coin) × Bool) := ((spec_l4Copy.f k x0).bind fun t1686 => ((spec_l4Take.l0 x1 k t1686 0).bind fun o1752 => thn o1752 (fun r => some r) (fun a1750 => some (a1750, true))))
theorem spec_l4Take.calls {k : Nat} {x0 : List Coin} {x1 : List Ref} {p0 : Value} {p1 : Value} {w : World} (hp0 : RdS kCoin w p0 x0) (hp1 : RdS kRef w p1 x1) {r : (List Coin) × Bool} (H : spec_l4Take.f k x0 x1 = some r) :
    Calls Try.prog 96 ([p0, p1] : List Value).toArray w (fun e w_ => ∃ v, e = .returned v ∧ ∃ u0 : Value, v = (.tuple #[u0, .bool r.2]) ∧ Mem w [] w_ [own kCoin 123 u0 r.1]) := by
  have HM := Mem.start w
  refine calls_run (N := 36) Try.func96 rfl rfl rfl rfl ?_
  unfold spec_l4Take.f at H
  refine run_seq ?_
  refine run_region rfl ?_
  refine ops_ex rfl (guard_none rfl) rfl rfl (ex_assign rfl rfl) ?_
  refine ops_ex rfl (guard_none rfl) rfl rfl (ex_assign rfl rfl) ?_
  refine ops_nil ?_
  refine at_then ?_
  refine run_seq ?_
  obtain ⟨t1686, h1687, H⟩ := bind_some H
  refine run_region rfl ?_
  refine ops_ex rfl (guard_none rfl) rfl rfl (ex_move rfl rfl) ?_
  refine ops_does rfl (guard_none rfl) rfl rfl (does_callk rfl callok81 rfl (spec_l4Copy.calls (x0 := x0) (HM.rd hp0) h1687)) ?_
  rintro u1688 w1690 ⟨_, rfl, hn⟩
  replace HM : Mem w [] w1690 [own kCoin 123 u1688 t1686] := HM.call hn
  refine ops_ex rfl (guard_none rfl) rfl rfl (ex_assign rfl rfl) ?_
  refine ops_nil ?_
  refine at_then ?_
  obtain ⟨o1752, ho1753, H⟩ := bind_some H
  refine run_mid (fun ρ_ w_ => ∃ v1749 : Value, ∃ a1750 : List Coin, Sum.inr a1750 = o1752 ∧ ρ_ = [(6, v1749)] ∧ Mem w [] w_ [own kCoin 123 v1749 a1750]) ?_ ?_
  · skip
    refine run_seq ?_
    refine run_region rfl ?_
    refine ops_ex rfl (guard_none rfl) rfl rfl (ex_assign rfl rfl) ?_
    refine ops_nil ?_
    refine at_then ?_
    refine run_block ?_
    refine run_loop (fun k_ ρ_ w_ => ∃ v1772 : Value, ∃ a1773 : List Coin, ∃ a1775 : Int, spec_l4Take.l0 x1 k_ a1773 a1775 = some o1752 ∧ ρ_ = [(1, p1), (6, v1772), (7, .int .i64 a1775)] ∧ Mem w [] w_ [own kCoin 123 v1772 a1773]) k (ρ1 := [(1, p1), (6, u1688), (7, .int .i64 0)]) ⟨_, _, _, ho1753, rfl, HM⟩ (Sub.cons rfl (Sub.cons rfl (Sub.cons rfl Sub.nil))) ?_
    clear HM ho1753
    rintro k1794 _ w1795 ⟨v1772, a1773, a1775, ho1753, rfl, HM⟩
    obtain _ | k1794 := k1794
    · exact nomatch ((spec_l4Take.l0_z x1 a1773 a1775).symm.trans ho1753)
    replace ho1753 := (spec_l4Take.l0_s x1 k1794 a1773 a1775).symm.trans ho1753
    refine run_seq ?_
    refine run_seq ?_
    refine run_region rfl ?_
    refine ops_ex rfl (guard_none rfl) rfl rfl (ex_move rfl rfl) ?_
    refine ops_ex rfl (guard_none rfl) rfl rfl (ex_move rfl rfl) ?_
    refine ops_ex rfl (guard_none rfl) rfl rfl (ex_len (d := kRef) (xs := x1) rfl rfl Try.underlying72 hp1) ?_
    refine ops_ex rfl (guard_none rfl) rfl rfl (ex_lss rfl rfl rfl) ?_
    refine ops_nil ?_
    refine at_then ?_
    refine run_cond (b := (decide (a1775 < (x1.length : Int)))) rfl (fun hb1796 => ?_) (fun hb1796 => ?_)
    · replace ho1753 := cond_t hb1796 ho1753
      refine run_skip ?_
      refine at_then ?_
      refine run_seq ?_
      refine run_block ?_
      refine run_seq ?_
      obtain ⟨e1797, ho1753⟩ := chk_some ho1753
      obtain ⟨t1799, h1800, ho1753⟩ := bind_some ho1753
      refine run_region rfl ?_
      refine ops_ex rfl (guard_none rfl) rfl rfl (ex_move rfl rfl) ?_
      refine ops_ex rfl (guard_none rfl) rfl rfl (ex_move rfl rfl) ?_
      refine ops_ex rfl (guard_none rfl) rfl rfl (ex_move rfl rfl) ?_
      have hc1798 : CellsAt _ (sb p1) (so p1 + (a1775).toNat * 2) [(.int .i64 ((gt x1 a1775).fTx)), (.int .i64 ((gt x1 a1775).fAt))] := rd_plain hp1 e1797
      refine ops_ex rfl (guard_none rfl) rfl rfl (ex_indexAddr (d := kRef) rfl rfl rfl Try.underlying72 tsz54 hp1 (idx_lo e1797) (idx_hi e1797)) ?_
      refine ops_ex rfl (guard_none rfl) rfl rfl (ex_loadN (cs := [(.int .i64 ((gt x1 a1775).fTx)), (.int .i64 ((gt x1 a1775).fAt))]) rfl rfl Try.underlying54 rfl tsz54 rfl ((HM.at_ hc1798).sub 0 2 rfl)) ?_
      refine ops_does rfl (guard_none rfl) rfl rfl (does_callk rfl callok80 rfl (spec_l4At.calls (x0 := a1773) (x1 := (gt x1 a1775)) (HM.own_rd 0 rfl) h1800)) ?_
      rintro _ w1801 ⟨rfl, hn⟩
      replace HM : Mem w [] w1801 [own kCoin 123 v1772 a1773] := HM.call hn
      refine ops_ex rfl (guard_none rfl) rfl rfl (ex_assign rfl rfl) ?_
      refine ops_nil ?_
      refine at_then ?_
      refine run_seq ?_
      refine run_seq ?_
      refine run_region rfl ?_
      refine ops_ex rfl (guard_none rfl) rfl rfl (ex_move rfl rfl) ?_
      refine ops_ex rfl (guard_none rfl) rfl rfl (ex_lss rfl rfl rfl) ?_
      refine ops_nil ?_
      refine at_then ?_
      refine run_cond (b := (decide (t1799 < 0))) rfl (fun hb1803 => ?_) (fun hb1803 => ?_)
      · replace ho1753 := cond_t hb1803 ho1753
        refine run_seq ?_
        refine run_region rfl ?_
        refine ops_ex rfl (guard_none rfl) rfl rfl (ex_assign rfl rfl) ?_
        refine ops_ex rfl (guard_none rfl) rfl rfl (ex_assign rfl rfl) ?_
        refine ops_nil ?_
        refine at_then ?_
        refine run_ret ?_
        refine at_then_ret ?_
        refine at_block_ret ?_
        refine at_then_ret ?_
        refine at_then_ret ?_
        refine at_block_ret ?_
        refine at_then_ret ?_
        replace HM := HM.empty kCoin 123 none
        replace HM := (HM.front 1 rfl rfl).drop
        have hR := Option.some.inj ho1753
        subst hR
        have hT := thn_inl H
        have hR := Option.some.inj hT
        subst hR
        exact at_ret2 rfl rfl rfl ⟨_, rfl, _, rfl, HM⟩
      · replace ho1753 := cond_f hb1803 ho1753
        refine run_skip ?_
        refine at_then ?_
        obtain ⟨e1805, ho1753⟩ := chk_some ho1753
        obtain ⟨e1806, ho1753⟩ := chk_some ho1753
        obtain ⟨e1811, ho1753⟩ := chk_some ho1753
        obtain ⟨e1813, ho1753⟩ := chk_some ho1753
        obtain ⟨e1814, ho1753⟩ := chk_some ho1753
        refine run_drawf (fun w_ => Mem w [] w_ []) [(1, true), (2, true), (3, true), (5, true), (6, true), (7, true), (8, true), (0, false), (4, false), (9, false), (10, true)] mixed rfl rfl (by kernel_rfl) ?_
        replace HM := HM.grow (fr_drew _)
        have hS := Mem.suf (M := [own kCoin 123 v1772 a1773]) HM
        refine drwp_take rfl (guard_none rfl) rfl rfl (fun w_ hS_ => (ex_move rfl rfl)) hS ?_
        refine drwp_take rfl (guard_none rfl) rfl rfl (fun w_ hS_ => (ex_move rfl rfl)) hS ?_
        refine drwp_take rfl (guard_none rfl) rfl rfl (fun w_ hS_ => (ex_cutvH rfl rfl rfl Try.underlying44 tsz123 (cut_lo e1805) ((HM.own_rd 0 rfl).cap.le (cut_hi e1805)))) hS ?_
        refine drwp_take rfl (guard_none rfl) rfl rfl (fun w_ hS_ => (ex_move rfl rfl)) hS ?_
        refine drwp_take rfl (guard_none rfl) rfl rfl (fun w_ hS_ => (ex_move rfl rfl)) hS ?_
        refine drwp_take rfl (guard_none rfl) rfl rfl (fun w_ hS_ => (ex_add rfl rfl rfl)) hS ?_
        refine drwp_take rfl (guard_none rfl) rfl rfl (fun w_ hS_ => (ex_cutvL rfl rfl rfl Try.underlying44 tsz123 (HM.own_rd 0 rfl) e1806)) hS ?_
        refine drwp_one rfl (guard_none rfl) rfl rfl (does_lit (e := 123) (cs := []) (xs := ([] : List Coin)) kCoin rfl rfl (fun _ => by kernel_rfl) rfl rfl (fun _ _ h => by have h' : _ = [] := h; subst h'; exact .nil) HM.emp) ?_
        rintro v1807 w1816 HM
        refine ⟨Mem.suf (M := [own kCoin 123 v1807 ([] : List Coin), own kCoin 123 v1772 a1773]) HM, ?_⟩
        have hS := Mem.suf (M := [own kCoin 123 v1807 ([] : List Coin), own kCoin 123 v1772 a1773]) HM
        replace HM := HM.front 1 rfl rfl
        replace HM := HM.front 1 rfl rfl
        refine drwp_one rfl (guard_none rfl) rfl rfl (does_mv1 (k := (t1799).toNat) kCoin rfl rfl rfl Try.underlying44 tsz123 tby123 tz123 rfl rfl (cut_hi e1805) (leB_le e1811) HM) ?_
        rintro v1810 w1817 HM
        refine ⟨Mem.suf (M := [mvC kCoin 123 v1772 a1773 v1810 (t1799).toNat]) HM, ?_⟩
        have hS := Mem.suf (M := [mvC kCoin 123 v1772 a1773 v1810 (t1799).toNat]) HM
        refine drwp_one rfl (guard_none rfl) rfl rfl (does_mv2 (j := (wrap64 (t1799 + 1)).toNat) kCoin rfl rfl rfl Try.underlying44 tsz123 tby123 tz123 rfl rfl (of_decide_eq_true e1814) (cut_hi e1806) (leB_le e1813) HM) ?_
        rintro v1812 w1818 HM
        refine ⟨Mem.suf (M := [own kCoin 123 v1812 (a1773.take (t1799).toNat ++ a1773.drop (wrap64 (t1799 + 1)).toNat)]) HM, ?_⟩
        have hS := Mem.suf (M := [own kCoin 123 v1812 (a1773.take (t1799).toNat ++ a1773.drop (wrap64 (t1799 + 1)).toNat)]) HM
        refine drwp_take rfl (guard_none rfl) rfl rfl (fun w_ hS_ => (ex_assign rfl rfl)) hS ?_
        refine drwp_done ?_
        refine at_block ?_
        refine at_then ?_
        refine run_region rfl ?_
        refine ops_ex rfl (guard_none rfl) rfl rfl (ex_move rfl rfl) ?_
        refine ops_ex rfl (guard_none rfl) rfl rfl (ex_add rfl rfl rfl) ?_
        refine ops_ex rfl (guard_none rfl) rfl rfl (ex_assign rfl rfl) ?_
        refine ops_nil ?_
        exact at_again k1794 (ρ1 := [(1, p1), (6, v1812), (7, .int .i64 (wrap64 (a1775 + 1)))]) (Nat.lt_succ_self _) ⟨_, _, _, ho1753, rfl, HM⟩ (Sub.cons rfl (Sub.cons rfl (Sub.cons rfl Sub.nil)))
    · replace ho1753 := cond_f hb1796 ho1753
      refine run_exit ?_
      refine at_then_exit ?_
      refine at_then_exit ?_
      refine at_block_exit ?_
      exact at_mid (ρ' := [(6, v1772)]) ⟨_, _, (Option.some.inj ho1753), rfl, HM⟩ (Sub.cons rfl Sub.nil)
  · rintro _ w1819 ⟨v1749, a1750, rfl, rfl, HM⟩
    replace H := (thn_inr H)
    refine run_seq ?_
    refine run_region rfl ?_
    refine ops_ex rfl (guard_none rfl) rfl rfl (ex_move rfl rfl) ?_
    refine ops_ex rfl (guard_none rfl) rfl rfl (ex_assign rfl rfl) ?_
    refine ops_ex rfl (guard_none rfl) rfl rfl (ex_assign rfl rfl) ?_
    refine ops_nil ?_
    refine at_then ?_
    refine run_ret ?_
    have hR := Option.some.inj H
    subst hR
    exact at_ret2 rfl rfl rfl ⟨_, rfl, _, rfl, HM⟩

def spec_TakeCoins.f (k : Nat) (x0 : List Coin) (x1 : List Ref) : Option CoinsResult := ((spec_l4Fault.f k x0).bind fun t1832 => (bif (t1832 != 0) then some (⟨t1832, ([] : List Coin)⟩ : CoinsResult) else (bif (decide (4 < (x1.length : Int))) then some (⟨2, ([] : List Coin)⟩ : CoinsResult) else ((spec_l4Take.f k x0 x1).bind fun t1842 => (bif !t1842.2 then some (⟨4, ([] : List Coin)⟩ : CoinsResult) else some (⟨0, t1842.1⟩ : CoinsResult))))))
theorem spec_TakeCoins.calls {k : Nat} {x0 : List Coin} {x1 : List Ref} {p0 : Value} {p1 : Value} {w : World} (hp0 : RdS kCoin w p0 x0) (hp1 : RdS kRef w p1 x1) {r : CoinsResult} (H : spec_TakeCoins.f k x0 x1 = some r) :
    Calls Try.prog 45 ([p0, p1] : List Value).toArray w (fun e w_ => ∃ v, e = .returned v ∧ ∃ u0 : Value, v = (.agg #[.int .i64 r.fCode, u0]) ∧ Mem w [] w_ [own kCoin 123 u0 r.fCoins]) := by
  have HM := Mem.start w
  refine calls_run (N := 29) Try.func45 rfl rfl rfl rfl ?_
  unfold spec_TakeCoins.f at H
  refine run_seq ?_
  refine run_region rfl ?_
  refine ops_does rfl (guard_none rfl) rfl rfl (does_alloc (cs := [.int .i64 0, .slice none 0 0]) rfl tz52 rfl HM) ?_
  rintro _ w1828 ⟨b1825, rfl, HM⟩
  refine ops_nil ?_
  refine at_then ?_
  refine run_seq ?_
  refine run_seq ?_
  obtain ⟨t1832, h1833, H⟩ := bind_some H
  refine run_region rfl ?_
  refine ops_ex rfl (guard_none rfl) rfl rfl (ex_move rfl rfl) ?_
  refine ops_does rfl (guard_none rfl) rfl rfl (does_callk rfl callok73 rfl (spec_l4Fault.calls (x0 := x0) (HM.rd hp0) h1833)) ?_
  rintro _ w1834 ⟨rfl, hn⟩
  replace HM : Mem w [] w1834 [box b1825 52 [.int .i64 0, .slice none 0 0]] := HM.call hn
  refine ops_ex rfl (guard_none rfl) rfl rfl (ex_assign rfl rfl) ?_
  refine ops_nil ?_
  refine at_then ?_
  refine run_seq ?_
  refine run_region rfl ?_
  refine ops_ex rfl (guard_none rfl) rfl rfl (ex_move rfl rfl) ?_
  refine ops_ex rfl (guard_none rfl) rfl rfl (ex_neq rfl rfl rfl) ?_
  refine ops_nil ?_
  refine at_then ?_
  refine run_cond (b := (t1832 != 0)) rfl (fun hb1835 => ?_) (fun hb1835 => ?_)
  · replace H := cond_t hb1835 H
    refine run_seq ?_
    refine run_region rfl ?_
    refine ops_ex rfl (guard_none rfl) rfl rfl (ex_move rfl rfl) ?_
    refine ops_ex rfl (guard_none rfl) rfl rfl (ex_build (cells := #[(.int .i64 t1832), (.slice none 0 0)]) rfl rfl (by kernel_rfl)) ?_
    refine ops_doesS rfl (guard_none rfl) rfl (does_store (vs := [.int .i64 t1832, .slice none 0 0]) (cs' := [.int .i64 t1832, .slice none 0 0]) rfl rfl rfl rfl tsz52 (Ones.int (Ones.sl Ones.nil)) rfl rfl HM) ?_
    rintro w1836 HM
    refine ops_nil ?_
    refine at_then ?_
    refine run_ret ?_
    refine at_then_ret ?_
    replace HM := HM.empty kCoin 123 none
    replace HM := HM.front 1 rfl rfl
    have hcb0 := HM.box_at 0 rfl
    replace HM := (HM.front 0 rfl rfl).drop
    have hR := Option.some.inj H
    subst hR
    exact at_retN rfl rfl Try.underlying52 rfl tsz52 rfl hcb0 ⟨_, rfl, _, rfl, HM⟩
  · replace H := cond_f hb1835 H
    refine run_skip ?_
    refine at_then ?_
    refine run_seq ?_
    refine run_seq ?_
    refine run_region rfl ?_
    refine ops_ex rfl (guard_none rfl) rfl rfl (ex_move rfl rfl) ?_
    refine ops_ex rfl (guard_none rfl) rfl rfl (ex_len (d := kRef) (xs := x1) rfl rfl Try.underlying72 hp1) ?_
    refine ops_ex rfl (guard_none rfl) rfl rfl (ex_gtr rfl rfl rfl) ?_
    refine ops_nil ?_
    refine at_then ?_
    refine run_cond (b := (decide (4 < (x1.length : Int)))) rfl (fun hb1839 => ?_) (fun hb1839 => ?_)
    · replace H := cond_t hb1839 H
      refine run_seq ?_
      refine run_region rfl ?_
      refine ops_ex rfl (guard_none rfl) rfl rfl (ex_build (cells := #[(.int .i64 2), (.slice none 0 0)]) rfl rfl (by kernel_rfl)) ?_
      refine ops_doesS rfl (guard_none rfl) rfl (does_store (vs := [.int .i64 2, .slice none 0 0]) (cs' := [.int .i64 2, .slice none 0 0]) rfl rfl rfl rfl tsz52 (Ones.int (Ones.sl Ones.nil)) rfl rfl HM) ?_
      rintro w1840 HM
      refine ops_nil ?_
      refine at_then ?_
      refine run_ret ?_
      refine at_then_ret ?_
      replace HM := HM.empty kCoin 123 none
      replace HM := HM.front 1 rfl rfl
      have hcb0 := HM.box_at 0 rfl
      replace HM := (HM.front 0 rfl rfl).drop
      have hR := Option.some.inj H
      subst hR
      exact at_retN rfl rfl Try.underlying52 rfl tsz52 rfl hcb0 ⟨_, rfl, _, rfl, HM⟩
    · replace H := cond_f hb1839 H
      refine run_skip ?_
      refine at_then ?_
      refine run_seq ?_
      obtain ⟨t1842, h1843, H⟩ := bind_some H
      refine run_region rfl ?_
      refine ops_ex rfl (guard_none rfl) rfl rfl (ex_move rfl rfl) ?_
      refine ops_ex rfl (guard_none rfl) rfl rfl (ex_move rfl rfl) ?_
      refine ops_does rfl (guard_none rfl) rfl rfl (does_callk rfl callok96 rfl (spec_l4Take.calls (x0 := x0) (x1 := x1) (HM.rd hp0) (HM.rd hp1) h1843)) ?_
      rintro _ w1846 ⟨u1844, rfl, hn⟩
      replace HM : Mem w [] w1846 [own kCoin 123 u1844 t1842.1, box b1825 52 [.int .i64 0, .slice none 0 0]] := HM.call hn
      refine ops_ex rfl (guard_none rfl) rfl rfl (ex_move rfl rfl) ?_
      refine ops_ex rfl (guard_none rfl) rfl rfl (ex_extract rfl rfl rfl) ?_
      refine ops_ex rfl (guard_none rfl) rfl rfl (ex_extract rfl rfl rfl) ?_
      refine ops_ex rfl (guard_none rfl) rfl rfl (ex_assign rfl rfl) ?_
      refine ops_ex rfl (guard_none rfl) rfl rfl (ex_assign rfl rfl) ?_
      refine ops_nil ?_
      refine at_then ?_
      refine run_seq ?_
      refine run_seq ?_
      refine run_region rfl ?_
      refine ops_ex rfl (guard_none rfl) rfl rfl (ex_move rfl rfl) ?_
      refine ops_ex rfl (guard_none rfl) rfl rfl (ex_not rfl rfl) ?_
      refine ops_nil ?_
      refine at_then ?_
      refine run_cond (b := !t1842.2) rfl (fun hb1847 => ?_) (fun hb1847 => ?_)
      · replace H := cond_t hb1847 H
        refine run_seq ?_
        refine run_region rfl ?_
        refine ops_ex rfl (guard_none rfl) rfl rfl (ex_build (cells := #[(.int .i64 4), (.slice none 0 0)]) rfl rfl (by kernel_rfl)) ?_
        replace HM := HM.front 1 rfl rfl
        refine ops_doesS rfl (guard_none rfl) rfl (does_store (vs := [.int .i64 4, .slice none 0 0]) (cs' := [.int .i64 4, .slice none 0 0]) rfl rfl rfl rfl tsz52 (Ones.int (Ones.sl Ones.nil)) rfl rfl HM) ?_
        rintro w1848 HM
        refine ops_nil ?_
        refine at_then ?_
        refine run_ret ?_
        refine at_then_ret ?_
        replace HM := HM.empty kCoin 123 none
        replace HM := (HM.front 2 rfl rfl).drop
        replace HM := HM.front 1 rfl rfl
        have hcb0 := HM.box_at 0 rfl
        replace HM := (HM.front 0 rfl rfl).drop
        have hR := Option.some.inj H
        subst hR
        exact at_retN rfl rfl Try.underlying52 rfl tsz52 rfl hcb0 ⟨_, rfl, _, rfl, HM⟩
      · replace H := cond_f hb1847 H
        refine run_skip ?_
        refine at_then ?_
        refine run_seq ?_
        refine run_region rfl ?_
        refine ops_ex rfl (guard_none rfl) rfl rfl (ex_move rfl rfl) ?_
        refine ops_ex rfl (guard_none rfl) rfl rfl (ex_build1 (fun u1844 => [(1, u1844)]) (fun u1844 => #[.int .i64 0, u1844]) rfl rfl (fun _ _ _ => by kernel_rfl) (HM.own_rd 0 rfl).isSl) ?_
        replace HM := HM.front 1 rfl rfl
        refine ops_doesS rfl (guard_none rfl) rfl (does_store (vs := [.int .i64 0, u1844]) (cs' := [.int .i64 0, u1844]) rfl rfl rfl rfl tsz52 (Ones.int (Ones.rd (HM.own_rd 1 rfl) Ones.nil)) rfl rfl HM) ?_
        rintro w1850 HM
        refine ops_nil ?_
        refine at_then ?_
        refine run_ret ?_
        have hcb0 := HM.box_at 0 rfl
        replace HM := (HM.front 0 rfl rfl).drop
        have hR := Option.some.inj H
        subst hR
        exact at_retN rfl rfl Try.underlying52 rfl tsz52 rfl hcb0 ⟨_, rfl, _, rfl, HM⟩

def impl_within.f (k : Nat) (x0 : Int) (x1 : Int) (x2 : Int) : Option Bool := some ((decide (x1 ≤ x0)) && (decide (x0 ≤ x2)))
theorem impl_within.calls {k : Nat} {x0 : Int} {x1 : Int} {x2 : Int}  {w : World}  {r : Bool} (H : impl_within.f k x0 x1 x2 = some r) :
    Calls Try.prog 112 ([.int .i64 x0, .int .i64 x1, .int .i64 x2] : List Value).toArray w (fun e w_ => ∃ v, e = .returned v ∧ v = (.bool r) ∧ Mem w [] w_ []) := by
  have HM := Mem.start w
  refine calls_run (N := 15) Try.func112 rfl rfl rfl rfl ?_
  unfold impl_within.f at H
  refine run_seq ?_
  refine run_region rfl ?_
  refine ops_ex rfl (guard_none rfl) rfl rfl (ex_assign rfl rfl) ?_
  refine ops_nil ?_
  refine at_then ?_
  refine run_seq ?_
  refine run_meet (fun ρ_ w_ => ρ_ = [(6, .bool ((decide (x1 ≤ x0)) && (decide (x0 ≤ x2))))] ∧ Mem w [] w_ []) ?_ ?_
  · skip
    refine run_region rfl ?_
    refine ops_ex rfl (guard_none rfl) rfl rfl (ex_move rfl rfl) ?_
    refine ops_ex rfl (guard_none rfl) rfl rfl (ex_move rfl rfl) ?_
    refine ops_ex rfl (guard_none rfl) rfl rfl (ex_geq rfl rfl rfl) ?_
    refine ops_ex rfl (guard_none rfl) rfl rfl (ex_move rfl rfl) ?_
    refine bool_cases (decide (x1 ≤ x0)) (fun hg1882 => ?_) (fun hg1882 => ?_)
    · skip
      refine ops_ex rfl (guard_on rfl rfl rfl hg1882) rfl rfl (ex_move rfl rfl) ?_
      refine ops_ex rfl (guard_on rfl rfl rfl hg1882) rfl rfl (ex_move rfl rfl) ?_
      refine ops_ex rfl (guard_on rfl rfl rfl hg1882) rfl rfl (ex_leq rfl rfl rfl) ?_
      refine ops_ex (v := .bool ((decide (x1 ≤ x0)) && (decide (x0 ≤ x2)))) rfl (guard_none rfl) rfl rfl (ex_pand_t rfl rfl hg1882 rfl) ?_
      refine ops_ex rfl (guard_none rfl) rfl rfl (ex_assign rfl rfl) ?_
      refine ops_nil ?_
      exact at_meet [(6, .bool ((decide (x1 ≤ x0)) && (decide (x0 ≤ x2))))] ⟨rfl, HM⟩ (Sub.cons rfl Sub.nil)
    · skip
      refine ops_off rfl (guard_off rfl rfl rfl hg1882) rfl rfl ?_
      refine ops_off rfl (guard_off rfl rfl rfl hg1882) rfl rfl ?_
      refine ops_off rfl (guard_off rfl rfl rfl hg1882) rfl rfl ?_
      have hg1883 : ((decide (x1 ≤ x0)) && (decide (x0 ≤ x2))) = false := by simp only [hg1882, Bool.and_true, Bool.true_and, Bool.and_false, Bool.false_and, Bool.or_true, Bool.true_or, Bool.or_false, Bool.false_or, Bool.not_true, Bool.not_false, Bool.not_not]
      refine ops_ex (v := .bool ((decide (x1 ≤ x0)) && (decide (x0 ≤ x2)))) rfl (guard_none rfl) rfl rfl (ex_pand_f rfl rfl hg1882) ?_
      refine ops_ex rfl (guard_none rfl) rfl rfl (ex_assign rfl rfl) ?_
      refine ops_nil ?_
      exact at_meet [(6, .bool ((decide (x1 ≤ x0)) && (decide (x0 ≤ x2))))] ⟨rfl, HM⟩ (Sub.cons rfl Sub.nil)
  · rintro _ w1884 ⟨rfl, HM⟩
    refine at_then ?_
    refine run_ret ?_
    have hR := Option.some.inj H
    subst hR
    exact at_ret1 rfl rfl ⟨_, rfl, rfl, HM⟩

def impl_isId.f (k : Nat) (x0 : Int) : Option Bool := ((impl_within.f k x0 1 60).bind fun t1887 => some t1887)
theorem impl_isId.calls {k : Nat} {x0 : Int}  {w : World}  {r : Bool} (H : impl_isId.f k x0 = some r) :
    Calls Try.prog 142 ([.int .i64 x0] : List Value).toArray w (fun e w_ => ∃ v, e = .returned v ∧ v = (.bool r) ∧ Mem w [] w_ []) := by
  have HM := Mem.start w
  refine calls_run (N := 5) Try.func142 rfl rfl rfl rfl ?_
  unfold impl_isId.f at H
  refine run_seq ?_
  refine run_region rfl ?_
  refine ops_ex rfl (guard_none rfl) rfl rfl (ex_assign rfl rfl) ?_
  refine ops_nil ?_
  refine at_then ?_
  refine run_seq ?_
  obtain ⟨t1887, h1888, H⟩ := bind_some H
  refine run_region rfl ?_
  refine ops_ex rfl (guard_none rfl) rfl rfl (ex_move rfl rfl) ?_
  refine ops_does rfl (guard_none rfl) rfl rfl (does_callk rfl callok112 rfl (impl_within.calls (x0 := x0) (x1 := 1) (x2 := 60) h1888)) ?_
  rintro _ w1889 ⟨rfl, hn⟩
  replace HM : Mem w [] w1889 [] := HM.call hn
  refine ops_ex rfl (guard_none rfl) rfl rfl (ex_assign rfl rfl) ?_
  refine ops_nil ?_
  refine at_then ?_
  refine run_ret ?_
  have hR := Option.some.inj H
  subst hR
  exact at_ret1 rfl rfl ⟨_, rfl, rfl, HM⟩

def impl_isRef.f (k : Nat) (x0 : Ref) : Option Bool := ((impl_isId.f k x0.fTx).bind fun t1898 => ((bif t1898 then impl_within.f k x0.fAt 0 3 else some default).bind fun t1900 => some (t1898 && t1900)))
theorem impl_isRef.calls {k : Nat} {x0 : Ref}  {w : World}  {r : Bool} (H : impl_isRef.f k x0 = some r) :
    Calls Try.prog 123 ([.agg #[(.int .i64 x0.fTx), (.int .i64 x0.fAt)]] : List Value).toArray w (fun e w_ => ∃ v, e = .returned v ∧ v = (.bool r) ∧ Mem w [] w_ []) := by
  have HM := Mem.start w
  refine calls_run (N := 11) Try.func123 rfl rfl rfl rfl ?_
  unfold impl_isRef.f at H
  refine run_seq ?_
  refine run_region rfl ?_
  refine ops_does rfl (guard_none rfl) rfl rfl (does_box (cs := [.int .i64 x0.fTx, .int .i64 x0.fAt]) rfl rfl rfl HM) ?_
  rintro _ w1897 ⟨b1894, rfl, HM⟩
  refine ops_ex rfl (guard_none rfl) rfl rfl (ex_assign rfl rfl) ?_
  refine ops_nil ?_
  refine at_then ?_
  refine run_seq ?_
  obtain ⟨t1898, h1899, H⟩ := bind_some H
  obtain ⟨t1900, h1901, H⟩ := bind_some H
  refine run_meet (fun ρ_ w_ => ρ_ = [(2, .bool (t1898 && t1900))] ∧ Mem w [] w_ []) ?_ ?_
  · skip
    refine run_region rfl ?_
    refine ops_ex rfl (guard_none rfl) rfl rfl (ex_fieldAddr (off' := 0) rfl rfl Try.underlying54 rfl tsz2 rfl) ?_
    refine ops_ex rfl (guard_none rfl) rfl rfl (ex_load1 rfl rfl Try.underlying2 rfl ((HM.box_at 0 rfl) 0 _ rfl)) ?_
    refine ops_does rfl (guard_none rfl) rfl rfl (does_callk rfl callok142 rfl (impl_isId.calls (x0 := x0.fTx) h1899)) ?_
    rintro _ w1902 ⟨rfl, hn⟩
    replace HM : Mem w [] w1902 [box b1894 54 [.int .i64 x0.fTx, .int .i64 x0.fAt]] := HM.call hn
    refine ops_ex rfl (guard_none rfl) rfl rfl (ex_move rfl rfl) ?_
    refine bool_cases t1898 (fun hg1903 => ?_) (fun hg1903 => ?_)
    · skip
      refine ops_ex rfl (guard_on rfl rfl rfl hg1903) rfl rfl (ex_fieldAddr (off' := 1) rfl rfl Try.underlying54 rfl tsz2 rfl) ?_
      refine ops_ex rfl (guard_on rfl rfl rfl hg1903) rfl rfl (ex_load1 rfl rfl Try.underlying2 rfl ((HM.box_at 0 rfl) 1 _ rfl)) ?_
      refine ops_does rfl (guard_on rfl rfl rfl hg1903) rfl rfl (does_callk rfl callok112 rfl (impl_within.calls (x0 := x0.fAt) (x1 := 0) (x2 := 3) (cond_t hg1903 h1901))) ?_
      rintro _ w1904 ⟨rfl, hn⟩
      replace HM : Mem w [] w1904 [box b1894 54 [.int .i64 x0.fTx, .int .i64 x0.fAt]] := HM.call hn
      refine ops_ex (v := .bool (t1898 && t1900)) rfl (guard_none rfl) rfl rfl (ex_pand_t rfl rfl hg1903 rfl) ?_
      refine ops_ex rfl (guard_none rfl) rfl rfl (ex_assign rfl rfl) ?_
      refine ops_nil ?_
      replace HM := (HM.front 0 rfl rfl).drop
      exact at_meet [(2, .bool (t1898 && t1900))] ⟨rfl, HM⟩ (Sub.cons rfl Sub.nil)
    · skip
      refine ops_off rfl (guard_off rfl rfl rfl hg1903) rfl rfl ?_
      refine ops_off rfl (guard_off rfl rfl rfl hg1903) rfl rfl ?_
      refine ops_off rfl (guard_off rfl rfl rfl hg1903) rfl rfl ?_
      have hg1905 : (t1898 && t1900) = false := by simp only [hg1903, Bool.and_true, Bool.true_and, Bool.and_false, Bool.false_and, Bool.or_true, Bool.true_or, Bool.or_false, Bool.false_or, Bool.not_true, Bool.not_false, Bool.not_not]
      refine ops_ex (v := .bool (t1898 && t1900)) rfl (guard_none rfl) rfl rfl (ex_pand_f rfl rfl hg1903) ?_
      refine ops_ex rfl (guard_none rfl) rfl rfl (ex_assign rfl rfl) ?_
      refine ops_nil ?_
      replace HM := (HM.front 0 rfl rfl).drop
      exact at_meet [(2, .bool (t1898 && t1900))] ⟨rfl, HM⟩ (Sub.cons rfl Sub.nil)
  · rintro _ w1906 ⟨rfl, HM⟩
    refine at_then ?_
    refine run_ret ?_
    have hR := Option.some.inj H
    subst hR
    exact at_ret1 rfl rfl ⟨_, rfl, rfl, HM⟩

def impl_isHeight.f (k : Nat) (x0 : Int) : Option Bool := ((impl_within.f k x0 0 999).bind fun t1911 => some t1911)
theorem impl_isHeight.calls {k : Nat} {x0 : Int}  {w : World}  {r : Bool} (H : impl_isHeight.f k x0 = some r) :
    Calls Try.prog 124 ([.int .i64 x0] : List Value).toArray w (fun e w_ => ∃ v, e = .returned v ∧ v = (.bool r) ∧ Mem w [] w_ []) := by
  have HM := Mem.start w
  refine calls_run (N := 5) Try.func124 rfl rfl rfl rfl ?_
  unfold impl_isHeight.f at H
  refine run_seq ?_
  refine run_region rfl ?_
  refine ops_ex rfl (guard_none rfl) rfl rfl (ex_assign rfl rfl) ?_
  refine ops_nil ?_
  refine at_then ?_
  refine run_seq ?_
  obtain ⟨t1911, h1912, H⟩ := bind_some H
  refine run_region rfl ?_
  refine ops_ex rfl (guard_none rfl) rfl rfl (ex_move rfl rfl) ?_
  refine ops_does rfl (guard_none rfl) rfl rfl (does_callk rfl callok112 rfl (impl_within.calls (x0 := x0) (x1 := 0) (x2 := 999) h1912)) ?_
  rintro _ w1913 ⟨rfl, hn⟩
  replace HM : Mem w [] w1913 [] := HM.call hn
  refine ops_ex rfl (guard_none rfl) rfl rfl (ex_assign rfl rfl) ?_
  refine ops_nil ?_
  refine at_then ?_
  refine run_ret ?_
  have hR := Option.some.inj H
  subst hR
  exact at_ret1 rfl rfl ⟨_, rfl, rfl, HM⟩

def impl_isKey.f (k : Nat) (x0 : Int) : Option Bool := ((impl_within.f k x0 1 999).bind fun t1937 => some t1937)
theorem impl_isKey.calls {k : Nat} {x0 : Int}  {w : World}  {r : Bool} (H : impl_isKey.f k x0 = some r) :
    Calls Try.prog 111 ([.int .i64 x0] : List Value).toArray w (fun e w_ => ∃ v, e = .returned v ∧ v = (.bool r) ∧ Mem w [] w_ []) := by
  have HM := Mem.start w
  refine calls_run (N := 5) Try.func111 rfl rfl rfl rfl ?_
  unfold impl_isKey.f at H
  refine run_seq ?_
  refine run_region rfl ?_
  refine ops_ex rfl (guard_none rfl) rfl rfl (ex_assign rfl rfl) ?_
  refine ops_nil ?_
  refine at_then ?_
  refine run_seq ?_
  obtain ⟨t1937, h1938, H⟩ := bind_some H
  refine run_region rfl ?_
  refine ops_ex rfl (guard_none rfl) rfl rfl (ex_move rfl rfl) ?_
  refine ops_does rfl (guard_none rfl) rfl rfl (does_callk rfl callok112 rfl (impl_within.calls (x0 := x0) (x1 := 1) (x2 := 999) h1938)) ?_
  rintro _ w1939 ⟨rfl, hn⟩
  replace HM : Mem w [] w1939 [] := HM.call hn
  refine ops_ex rfl (guard_none rfl) rfl rfl (ex_assign rfl rfl) ?_
  refine ops_nil ?_
  refine at_then ?_
  refine run_ret ?_
  have hR := Option.some.inj H
  subst hR
  exact at_ret1 rfl rfl ⟨_, rfl, rfl, HM⟩

def impl_areKeys_1.f (k : Nat) (x0 : Int) : Option Bool := ((impl_isKey.f k x0).bind fun t1942 => some (!t1942))
theorem impl_areKeys_1.calls {k : Nat} {x0 : Int}  {w : World}  {r : Bool} (H : impl_areKeys_1.f k x0 = some r) :
    Calls Try.prog 178 ([.int .i64 x0] : List Value).toArray w (fun e w_ => ∃ v, e = .returned v ∧ v = (.bool r) ∧ Mem w [] w_ []) := by
  have HM := Mem.start w
  refine calls_run (N := 6) Try.func178 rfl rfl rfl rfl ?_
  unfold impl_areKeys_1.f at H
  refine run_seq ?_
  refine run_region rfl ?_
  refine ops_ex rfl (guard_none rfl) rfl rfl (ex_assign rfl rfl) ?_
  refine ops_nil ?_
  refine at_then ?_
  refine run_seq ?_
  obtain ⟨t1942, h1943, H⟩ := bind_some H
  refine run_region rfl ?_
  refine ops_ex rfl (guard_none rfl) rfl rfl (ex_move rfl rfl) ?_
  refine ops_does rfl (guard_none rfl) rfl rfl (does_callk rfl callok111 rfl (impl_isKey.calls (x0 := x0) h1943)) ?_
  rintro _ w1944 ⟨rfl, hn⟩
  replace HM : Mem w [] w1944 [] := HM.call hn
  refine ops_ex rfl (guard_none rfl) rfl rfl (ex_not rfl rfl) ?_
  refine ops_ex rfl (guard_none rfl) rfl rfl (ex_assign rfl rfl) ?_
  refine ops_nil ?_
  refine at_then ?_
  refine run_ret ?_
  have hR := Option.some.inj H
  subst hR
  exact at_ret1 rfl rfl ⟨_, rfl, rfl, HM⟩

def slices_IndexFunc_int64.l0 (x0 : List Int) : Nat → Int → Option (Int ⊕ Unit)
  | 0, _ => none
  | k + 1, a1990 => (bif (decide (a1990 < (x0.length : Int))) then (chk (idxOk a1990 x0.length) ((impl_areKeys_1.f k (gt x0 a1990)).bind fun t2002 => (bif t2002 then some (.inl a1990) else slices_IndexFunc_int64.l0 x0 k (wrap64 (a1990 + 1))))) else some (.inr ()))
theorem slices_IndexFunc_int64.l0_z (x0 : List Int) (a1990 : Int) : slices_IndexFunc_int64.l0 x0 0 a1990 = none := rfl
theorem slices_IndexFunc_int64.l0_s (x0 : List Int) (k : Nat) (a1990 : Int) : slices_IndexFunc_int64.l0 x0 (k + 1) a1990 = (bif (decide (a1990 < (x0.length : Int))) then (chk (idxOk a1990 x0.length) ((impl_areKeys_1.f k (gt x0 a1990)).bind fun t2002 => (bif t2002 then some (.inl a1990) else slices_IndexFunc_int64.l0 x0 k (wrap64 (a1990 + 1))))) else some (.inr ())) := rfl
def slices_IndexFunc_int64.f (k : Nat) (x0 : List Int) : Option Int := ((slices_IndexFunc_int64.l0 x0 k 0).bind fun o1982 => thn o1982 (fun r => some r) (fun _ => some (-1)))
theorem slices_IndexFunc_int64.calls {k : Nat} {x0 : List Int} {p0 : Value} {w : World} (hp0 : RdS kInt w p0 x0) {r : Int} (H : slices_IndexFunc_int64.f k x0 = some r) :
    Calls Try.prog 185 ([p0, .func (.func 178) #[] #[]] : List Value).toArray w (fun e w_ => ∃ v, e = .returned v ∧ v = (.int .i64 r) ∧ Mem w [] w_ []) := by
  have HM := Mem.start w
  refine calls_run (N := 19) Try.func185 rfl rfl rfl rfl ?_
  unfold slices_IndexFunc_int64.f at H
  refine run_seq ?_
  refine run_region rfl ?_
  refine ops_ex rfl (guard_none rfl) rfl rfl (ex_assign rfl rfl) ?_
  refine ops_nil ?_
  refine at_then ?_
  obtain ⟨o1982, ho1983, H⟩ := bind_some H
  refine run_mid (fun ρ_ w_ => Sum.inr () = o1982 ∧ ρ_ = [] ∧ Mem w [] w_ []) ?_ ?_
  · skip
    refine run_seq ?_
    refine run_region rfl ?_
    refine ops_ex rfl (guard_none rfl) rfl rfl (ex_move rfl rfl) ?_
    refine ops_ex rfl (guard_none rfl) rfl rfl (ex_len (d := kInt) (xs := x0) rfl rfl Try.underlying111 hp0) ?_
    refine ops_ex rfl (guard_none rfl) rfl rfl (ex_move rfl rfl) ?_
    refine ops_nil ?_
    refine at_then ?_
    refine run_block ?_
    refine run_loop (fun k_ ρ_ w_ => ∃ a1990 : Int, slices_IndexFunc_int64.l0 x0 k_ a1990 = some o1982 ∧ ρ_ = [(0, p0), (1, .func (.func 178) #[] #[]), (7, .int .i64 (x0.length : Int)), (8, .int .i64 a1990)] ∧ Mem w [] w_ []) k (ρ1 := [(0, p0), (1, .func (.func 178) #[] #[]), (7, .int .i64 (x0.length : Int)), (8, .int .i64 0)]) ⟨_, ho1983, rfl, HM⟩ (Sub.cons rfl (Sub.cons rfl (Sub.cons rfl (Sub.cons rfl Sub.nil)))) ?_
    clear HM ho1983
    rintro k1997 _ w1998 ⟨a1990, ho1983, rfl, HM⟩
    obtain _ | k1997 := k1997
    · exact nomatch ((slices_IndexFunc_int64.l0_z x0 a1990).symm.trans ho1983)
    replace ho1983 := (slices_IndexFunc_int64.l0_s x0 k1997 a1990).symm.trans ho1983
    refine run_seq ?_
    refine run_region rfl ?_
    refine ops_ex rfl (guard_none rfl) rfl rfl (ex_lss rfl rfl rfl) ?_
    refine ops_nil ?_
    refine at_then ?_
    refine run_seq ?_
    refine run_cond (b := (decide (a1990 < (x0.length : Int)))) rfl (fun hb1999 => ?_) (fun hb1999 => ?_)
    · replace ho1983 := cond_t hb1999 ho1983
      refine run_skip ?_
      refine at_then ?_
      refine run_seq ?_
      refine run_block ?_
      refine run_seq ?_
      refine run_region rfl ?_
      refine ops_ex rfl (guard_none rfl) rfl rfl (ex_move rfl rfl) ?_
      refine ops_ex rfl (guard_none rfl) rfl rfl (ex_assign rfl rfl) ?_
      refine ops_nil ?_
      refine at_then ?_
      refine run_seq ?_
      obtain ⟨e2000, ho1983⟩ := chk_some ho1983
      obtain ⟨t2002, h2003, ho1983⟩ := bind_some ho1983
      refine run_region rfl ?_
      refine ops_ex rfl (guard_none rfl) rfl rfl (ex_move rfl rfl) ?_
      refine ops_ex rfl (guard_none rfl) rfl rfl (ex_move rfl rfl) ?_
      refine ops_ex rfl (guard_none rfl) rfl rfl (ex_move rfl rfl) ?_
      have hc2001 : CellsAt _ (sb p0) (so p0 + (a1990).toNat * 1) [(.int .i64 (gt x0 a1990))] := rd_plain hp0 e2000
      refine ops_ex rfl (guard_none rfl) rfl rfl (ex_indexAddr (d := kInt) rfl rfl rfl Try.underlying111 tsz2 hp0 (idx_lo e2000) (idx_hi e2000)) ?_
      refine ops_ex rfl (guard_none rfl) rfl rfl (ex_load1 rfl rfl Try.underlying2 rfl ((HM.at_ hc2001) 0 _ rfl)) ?_
      refine ops_does rfl (guard_none rfl) rfl rfl (does_callvk rfl callok178 rfl rfl rfl (impl_areKeys_1.calls (x0 := (gt x0 a1990)) h2003)) ?_
      rintro _ w2004 ⟨rfl, hn⟩
      replace HM : Mem w [] w2004 [] := HM.call hn
      refine ops_nil ?_
      refine at_then ?_
      refine run_cond (b := t2002) rfl (fun hb2005 => ?_) (fun hb2005 => ?_)
      · replace ho1983 := cond_t hb2005 ho1983
        refine run_seq ?_
        refine run_region rfl ?_
        refine ops_ex rfl (guard_none rfl) rfl rfl (ex_move rfl rfl) ?_
        refine ops_ex rfl (guard_none rfl) rfl rfl (ex_assign rfl rfl) ?_
        refine ops_nil ?_
        refine at_then ?_
        refine run_ret ?_
        refine at_block_ret ?_
        refine at_then_ret ?_
        refine at_then_ret ?_
        refine at_block_ret ?_
        refine at_then_ret ?_
        have hR := Option.some.inj ho1983
        subst hR
        have hT := thn_inl H
        have hR := Option.some.inj hT
        subst hR
        exact at_ret1 rfl rfl ⟨_, rfl, rfl, HM⟩
      · replace ho1983 := cond_f hb2005 ho1983
        refine run_skip ?_
        refine at_block ?_
        refine at_then ?_
        refine run_region rfl ?_
        refine ops_ex rfl (guard_none rfl) rfl rfl (ex_add rfl rfl rfl) ?_
        refine ops_ex rfl (guard_none rfl) rfl rfl (ex_move rfl rfl) ?_
        refine ops_nil ?_
        exact at_again k1997 (ρ1 := [(0, p0), (1, .func (.func 178) #[] #[]), (7, .int .i64 (x0.length : Int)), (8, .int .i64 (wrap64 (a1990 + 1)))]) (Nat.lt_succ_self _) ⟨_, ho1983, rfl, HM⟩ (Sub.cons rfl (Sub.cons rfl (Sub.cons rfl (Sub.cons rfl Sub.nil))))
    · replace ho1983 := cond_f hb1999 ho1983
      refine run_exit ?_
      refine at_then_exit ?_
      refine at_then_exit ?_
      refine at_block_exit ?_
      exact at_mid (ρ' := []) ⟨(Option.some.inj ho1983), rfl, HM⟩ Sub.nil
  · rintro _ w2006 ⟨rfl, rfl, HM⟩
    replace H := (thn_inr H)
    refine run_seq ?_
    refine run_region rfl ?_
    refine ops_ex rfl (guard_none rfl) rfl rfl (ex_assign rfl rfl) ?_
    refine ops_nil ?_
    refine at_then ?_
    refine run_ret ?_
    have hR := Option.some.inj H
    subst hR
    exact at_ret1 rfl rfl ⟨_, rfl, rfl, HM⟩

def slices_ContainsFunc_int64.f (k : Nat) (x0 : List Int) : Option Bool := ((slices_IndexFunc_int64.f k x0).bind fun t2009 => some (decide (0 ≤ t2009)))
theorem slices_ContainsFunc_int64.calls {k : Nat} {x0 : List Int} {p0 : Value} {w : World} (hp0 : RdS kInt w p0 x0) {r : Bool} (H : slices_ContainsFunc_int64.f k x0 = some r) :
    Calls Try.prog 177 ([p0, .func (.func 178) #[] #[]] : List Value).toArray w (fun e w_ => ∃ v, e = .returned v ∧ v = (.bool r) ∧ Mem w [] w_ []) := by
  have HM := Mem.start w
  refine calls_run (N := 9) Try.func177 rfl rfl rfl rfl ?_
  unfold slices_ContainsFunc_int64.f at H
  refine run_seq ?_
  refine run_region rfl ?_
  refine ops_ex rfl (guard_none rfl) rfl rfl (ex_assign rfl rfl) ?_
  refine ops_nil ?_
  refine at_then ?_
  refine run_seq ?_
  obtain ⟨t2009, h2010, H⟩ := bind_some H
  refine run_region rfl ?_
  refine ops_ex rfl (guard_none rfl) rfl rfl (ex_move rfl rfl) ?_
  refine ops_ex rfl (guard_none rfl) rfl rfl (ex_move rfl rfl) ?_
  refine ops_does rfl (guard_none rfl) rfl rfl (does_callk rfl callok185 rfl (slices_IndexFunc_int64.calls (x0 := x0) (HM.rd hp0) h2010)) ?_
  rintro _ w2011 ⟨rfl, hn⟩
  replace HM : Mem w [] w2011 [] := HM.call hn
  refine ops_ex rfl (guard_none rfl) rfl rfl (ex_geq rfl rfl rfl) ?_
  refine ops_ex rfl (guard_none rfl) rfl rfl (ex_assign rfl rfl) ?_
  refine ops_nil ?_
  refine at_then ?_
  refine run_ret ?_
  have hR := Option.some.inj H
  subst hR
  exact at_ret1 rfl rfl ⟨_, rfl, rfl, HM⟩

def impl_areKeys.f (k : Nat) (x0 : List Int) : Option Bool := ((slices_ContainsFunc_int64.f k x0).bind fun t2014 => some (!t2014))
theorem impl_areKeys.calls {k : Nat} {x0 : List Int} {p0 : Value} {w : World} (hp0 : RdS kInt w p0 x0) {r : Bool} (H : impl_areKeys.f k x0 = some r) :
    Calls Try.prog 159 ([p0] : List Value).toArray w (fun e w_ => ∃ v, e = .returned v ∧ v = (.bool r) ∧ Mem w [] w_ []) := by
  have HM := Mem.start w
  refine calls_run (N := 6) Try.func159 rfl rfl rfl rfl ?_
  unfold impl_areKeys.f at H
  refine run_seq ?_
  refine run_region rfl ?_
  refine ops_ex rfl (guard_none rfl) rfl rfl (ex_assign rfl rfl) ?_
  refine ops_nil ?_
  refine at_then ?_
  refine run_seq ?_
  obtain ⟨t2014, h2015, H⟩ := bind_some H
  refine run_region rfl ?_
  refine ops_ex rfl (guard_none rfl) rfl rfl (ex_move rfl rfl) ?_
  refine ops_does rfl (guard_none rfl) rfl rfl (does_callk rfl callok177 rfl (slices_ContainsFunc_int64.calls (x0 := x0) (HM.rd hp0) h2015)) ?_
  rintro _ w2016 ⟨rfl, hn⟩
  replace HM : Mem w [] w2016 [] := HM.call hn
  refine ops_ex rfl (guard_none rfl) rfl rfl (ex_not rfl rfl) ?_
  refine ops_ex rfl (guard_none rfl) rfl rfl (ex_assign rfl rfl) ?_
  refine ops_nil ?_
  refine at_then ?_
  refine run_ret ?_
  have hR := Option.some.inj H
  subst hR
  exact at_ret1 rfl rfl ⟨_, rfl, rfl, HM⟩

def impl_isRising.l0 (x0 : List Int) : Nat → Int → Option (Bool ⊕ Unit)
  | 0, _ => none
  | k + 1, a2072 => (bif (decide (a2072 < (x0.length : Int))) then (chk (idxOk a2072 x0.length) (chk (idxOk (wrap64 (a2072 - 1)) x0.length) (bif (decide ((gt x0 a2072) ≤ (gt x0 (wrap64 (a2072 - 1))))) then some (.inl false) else impl_isRising.l0 x0 k (wrap64 (a2072 + 1))))) else some (.inr ()))
theorem impl_isRising.l0_z (x0 : List Int) (a2072 : Int) : impl_isRising.l0 x0 0 a2072 = none := rfl
theorem impl_isRising.l0_s (x0 : List Int) (k : Nat) (a2072 : Int) : impl_isRising.l0 x0 (k + 1) a2072 = (bif (decide (a2072 < (x0.length : Int))) then (chk (idxOk a2072 x0.length) (chk (idxOk (wrap64 (a2072 - 1)) x0.length) (bif (decide ((gt x0 a2072) ≤ (gt x0 (wrap64 (a2072 - 1))))) then some (.inl false) else impl_isRising.l0 x0 k (wrap64 (a2072 + 1))))) else some (.inr ())) := rfl
def impl_isRising.f (k : Nat) (x0 : List Int) : Option Bool := ((impl_isRising.l0 x0 k 1).bind fun o2064 => thn o2064 (fun r => some r) (fun _ => some true))
theorem impl_isRising.calls {k : Nat} {x0 : List Int} {p0 : Value} {w : World} (hp0 : RdS kInt w p0 x0) {r : Bool} (H : impl_isRising.f k x0 = some r) :
    Calls Try.prog 160 ([p0] : List Value).toArray w (fun e w_ => ∃ v, e = .returned v ∧ v = (.bool r) ∧ Mem w [] w_ []) := by
  have HM := Mem.start w
  refine calls_run (N := 20) Try.func160 rfl rfl rfl rfl ?_
  unfold impl_isRising.f at H
  refine run_seq ?_
  refine run_region rfl ?_
  refine ops_ex rfl (guard_none rfl) rfl rfl (ex_assign rfl rfl) ?_
  refine ops_nil ?_
  refine at_then ?_
  obtain ⟨o2064, ho2065, H⟩ := bind_some H
  refine run_mid (fun ρ_ w_ => Sum.inr () = o2064 ∧ ρ_ = [] ∧ Mem w [] w_ []) ?_ ?_
  · skip
    refine run_seq ?_
    refine run_region rfl ?_
    refine ops_ex rfl (guard_none rfl) rfl rfl (ex_assign rfl rfl) ?_
    refine ops_nil ?_
    refine at_then ?_
    refine run_block ?_
    refine run_loop (fun k_ ρ_ w_ => ∃ a2072 : Int, impl_isRising.l0 x0 k_ a2072 = some o2064 ∧ ρ_ = [(0, p0), (3, .int .i64 a2072)] ∧ Mem w [] w_ []) k (ρ1 := [(0, p0), (3, .int .i64 1)]) ⟨_, ho2065, rfl, HM⟩ (Sub.cons rfl (Sub.cons rfl Sub.nil)) ?_
    clear HM ho2065
    rintro k2079 _ w2080 ⟨a2072, ho2065, rfl, HM⟩
    obtain _ | k2079 := k2079
    · exact nomatch ((impl_isRising.l0_z x0 a2072).symm.trans ho2065)
    replace ho2065 := (impl_isRising.l0_s x0 k2079 a2072).symm.trans ho2065
    refine run_seq ?_
    refine run_seq ?_
    refine run_region rfl ?_
    refine ops_ex rfl (guard_none rfl) rfl rfl (ex_move rfl rfl) ?_
    refine ops_ex rfl (guard_none rfl) rfl rfl (ex_move rfl rfl) ?_
    refine ops_ex rfl (guard_none rfl) rfl rfl (ex_len (d := kInt) (xs := x0) rfl rfl Try.underlying111 hp0) ?_
    refine ops_ex rfl (guard_none rfl) rfl rfl (ex_lss rfl rfl rfl) ?_
    refine ops_nil ?_
    refine at_then ?_
    refine run_cond (b := (decide (a2072 < (x0.length : Int)))) rfl (fun hb2081 => ?_) (fun hb2081 => ?_)
    · replace ho2065 := cond_t hb2081 ho2065
      refine run_skip ?_
      refine at_then ?_
      refine run_seq ?_
      refine run_block ?_
      refine run_seq ?_
      obtain ⟨e2082, ho2065⟩ := chk_some ho2065
      obtain ⟨e2084, ho2065⟩ := chk_some ho2065
      refine run_drawf (fun w_ => Mem w [] w_ []) [(0, true), (1, true), (2, true), (3, true), (4, true), (5, true), (6, true), (7, true), (8, true), (9, true)] mixed rfl rfl (by kernel_rfl) ?_
      replace HM := HM.grow (fr_drew _)
      have hS := Mem.suf (M := []) HM
      refine drwp_take rfl (guard_none rfl) rfl rfl (fun w_ hS_ => (ex_move rfl rfl)) hS ?_
      refine drwp_take rfl (guard_none rfl) rfl rfl (fun w_ hS_ => (ex_move rfl rfl)) hS ?_
      have hc2083 : CellsAt _ (sb p0) (so p0 + (a2072).toNat * 1) [(.int .i64 (gt x0 a2072))] := rd_plain hp0 e2082
      refine drwp_take rfl (guard_none rfl) rfl rfl (fun w_ hS_ => (ex_indexAddr (d := kInt) rfl rfl rfl Try.underlying111 tsz2 hp0 (idx_lo e2082) (idx_hi e2082))) hS ?_
      refine drwp_take rfl (guard_none rfl) rfl rfl (fun w_ hS_ => (ex_load1 rfl rfl Try.underlying2 rfl ((hS_.at_ hc2083) 0 _ rfl))) hS ?_
      refine drwp_take rfl (guard_none rfl) rfl rfl (fun w_ hS_ => (ex_move rfl rfl)) hS ?_
      refine drwp_take rfl (guard_none rfl) rfl rfl (fun w_ hS_ => (ex_move rfl rfl)) hS ?_
      refine drwp_take rfl (guard_none rfl) rfl rfl (fun w_ hS_ => (ex_sub rfl rfl rfl)) hS ?_
      have hc2085 : CellsAt _ (sb p0) (so p0 + (wrap64 (a2072 - 1)).toNat * 1) [(.int .i64 (gt x0 (wrap64 (a2072 - 1))))] := rd_plain hp0 e2084
      refine drwp_take rfl (guard_none rfl) rfl rfl (fun w_ hS_ => (ex_indexAddr (d := kInt) rfl rfl rfl Try.underlying111 tsz2 hp0 (idx_lo e2084) (idx_hi e2084))) hS ?_
      refine drwp_take rfl (guard_none rfl) rfl rfl (fun w_ hS_ => (ex_load1 rfl rfl Try.underlying2 rfl ((hS_.at_ hc2085) 0 _ rfl))) hS ?_
      refine drwp_take rfl (guard_none rfl) rfl rfl (fun w_ hS_ => (ex_leq rfl rfl rfl)) hS ?_
      refine drwp_done ?_
      refine at_then ?_
      refine run_cond (b := (decide ((gt x0 a2072) ≤ (gt x0 (wrap64 (a2072 - 1)))))) rfl (fun hb2086 => ?_) (fun hb2086 => ?_)
      · replace ho2065 := cond_t hb2086 ho2065
        refine run_seq ?_
        refine run_region rfl ?_
        refine ops_ex rfl (guard_none rfl) rfl rfl (ex_assign rfl rfl) ?_
        refine ops_nil ?_
        refine at_then ?_
        refine run_ret ?_
        refine at_block_ret ?_
        refine at_then_ret ?_
        refine at_then_ret ?_
        refine at_block_ret ?_
        refine at_then_ret ?_
        have hR := Option.some.inj ho2065
        subst hR
        have hT := thn_inl H
        have hR := Option.some.inj hT
        subst hR
        exact at_ret1 rfl rfl ⟨_, rfl, rfl, HM⟩
      · replace ho2065 := cond_f hb2086 ho2065
        refine run_skip ?_
        refine at_block ?_
        refine at_then ?_
        refine run_region rfl ?_
        refine ops_ex rfl (guard_none rfl) rfl rfl (ex_move rfl rfl) ?_
        refine ops_ex rfl (guard_none rfl) rfl rfl (ex_add rfl rfl rfl) ?_
        refine ops_ex rfl (guard_none rfl) rfl rfl (ex_assign rfl rfl) ?_
        refine ops_nil ?_
        exact at_again k2079 (ρ1 := [(0, p0), (3, .int .i64 (wrap64 (a2072 + 1)))]) (Nat.lt_succ_self _) ⟨_, ho2065, rfl, HM⟩ (Sub.cons rfl (Sub.cons rfl Sub.nil))
    · replace ho2065 := cond_f hb2081 ho2065
      refine run_exit ?_
      refine at_then_exit ?_
      refine at_then_exit ?_
      refine at_block_exit ?_
      exact at_mid (ρ' := []) ⟨(Option.some.inj ho2065), rfl, HM⟩ Sub.nil
  · rintro _ w2087 ⟨rfl, rfl, HM⟩
    replace H := (thn_inr H)
    refine run_seq ?_
    refine run_region rfl ?_
    refine ops_ex rfl (guard_none rfl) rfl rfl (ex_assign rfl rfl) ?_
    refine ops_nil ?_
    refine at_then ?_
    refine run_ret ?_
    have hR := Option.some.inj H
    subst hR
    exact at_ret1 rfl rfl ⟨_, rfl, rfl, HM⟩
end Go.Proofs.Ytigojhglkilodaa.Zk
