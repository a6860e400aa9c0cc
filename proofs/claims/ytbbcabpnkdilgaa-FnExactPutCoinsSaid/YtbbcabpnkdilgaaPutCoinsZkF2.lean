/- What functions of the program compute, each as a plain function, and that they do. Conditions: as each theorem states them. -/
import Derived.Test.YtbbcabpnkdilgaaPutCoinsZkF1
namespace Go.Proofs.Ytbbcabpnkdilgaa.Zk
open Go Go.RowKit Go.IntWalk Go.Proofs
set_option linter.unusedVariables false
set_option linter.unusedSimpArgs false
set_option maxRecDepth 100000
set_option maxHeartbeats 4000000
def spec_l4Of.l0 (x0 : List Coin) (x1 : Int) : Nat → Int → Option (Bool ⊕ Unit)
  | 0, _ => none
  | k + 1, a1529 => (bif (decide (a1529 < (x0.length : Int))) then (chk (idxOk a1529 x0.length) (bif (((gt x0 a1529).fRef.fTx) == x1) then some (.inl true) else spec_l4Of.l0 x0 x1 k (wrap64 (a1529 + 1)))) else some (.inr ()))
theorem spec_l4Of.l0_z (x0 : List Coin) (x1 : Int) (a1529 : Int) : spec_l4Of.l0 x0 x1 0 a1529 = none := rfl
theorem spec_l4Of.l0_s (x0 : List Coin) (x1 : Int) (k : Nat) (a1529 : Int) : spec_l4Of.l0 x0 x1 (k + 1) a1529 = (bif (decide (a1529 < (x0.length : Int))) then (chk (idxOk a1529 x0.length) (bif (((gt x0 a1529).fRef.fTx) == x1) then some (.inl true) else spec_l4Of.l0 x0 x1 k (wrap64 (a1529 + 1)))) else some (.inr ())) := rfl
def spec_l4Of.f (k : Nat) (x0 : List Coin) (x1 : Int) : Option Bool := ((spec_l4Of.l0 x0 x1 k 0).bind fun o1521 => thn o1521 (fun r => some r) (fun _ => some false))
theorem spec_l4Of.calls {k : Nat} {x0 : List Coin} {x1 : Int} {p0 : Value} {w : World} (hp0 : RdS kCoin w p0 x0) {r : Bool} (H : spec_l4Of.f k x0 x1 = some r) :
    Calls Try.prog 81 ([p0, .int .i64 x1] : List Value).toArray w (fun e w_ => ∃ v, e = .returned v ∧ v = (.bool r) ∧ Mem w [] w_ []) := by
  have HM := Mem.start w
  refine calls_run (N := 20) Try.func81 rfl rfl rfl rfl ?_
  unfold spec_l4Of.f at H
  refine run_seq ?_
  refine run_region rfl ?_
  refine ops_ex rfl (guard_none rfl) rfl rfl (ex_assign rfl rfl) ?_
  refine ops_nil ?_
  refine at_then ?_
  obtain ⟨o1521, ho1522, H⟩ := bind_some H
  refine run_mid (fun ρ_ w_ => Sum.inr () = o1521 ∧ ρ_ = [] ∧ Mem w [] w_ []) ?_ ?_
  · skip
    refine run_seq ?_
    refine run_region rfl ?_
    refine ops_ex rfl (guard_none rfl) rfl rfl (ex_assign rfl rfl) ?_
    refine ops_nil ?_
    refine at_then ?_
    refine run_block ?_
    refine run_loop (fun k_ ρ_ w_ => ∃ a1529 : Int, spec_l4Of.l0 x0 x1 k_ a1529 = some o1521 ∧ ρ_ = [(0, p0), (1, .int .i64 x1), (5, .int .i64 a1529)] ∧ Mem w [] w_ []) k (ρ1 := [(0, p0), (1, .int .i64 x1), (5, .int .i64 0)]) ⟨_, ho1522, rfl, HM⟩ (Sub.cons rfl (Sub.cons rfl (Sub.cons rfl Sub.nil))) ?_
    clear HM ho1522
    rintro k1536 _ w1537 ⟨a1529, ho1522, rfl, HM⟩
    obtain _ | k1536 := k1536
    · exact nomatch ((spec_l4Of.l0_z x0 x1 a1529).symm.trans ho1522)
    replace ho1522 := (spec_l4Of.l0_s x0 x1 k1536 a1529).symm.trans ho1522
    refine run_seq ?_
    refine run_seq ?_
    refine run_region rfl ?_
    refine ops_ex rfl (guard_none rfl) rfl rfl (ex_move rfl rfl) ?_
    refine ops_ex rfl (guard_none rfl) rfl rfl (ex_move rfl rfl) ?_
    refine ops_ex rfl (guard_none rfl) rfl rfl (ex_len (d := kCoin) (xs := x0) rfl rfl Try.underlying60 hp0) ?_
    refine ops_ex rfl (guard_none rfl) rfl rfl (ex_lss rfl rfl rfl) ?_
    refine ops_nil ?_
    refine at_then ?_
    refine run_cond (b := (decide (a1529 < (x0.length : Int)))) rfl (fun hb1538 => ?_) (fun hb1538 => ?_)
    · replace ho1522 := cond_t hb1538 ho1522
      refine run_skip ?_
      refine at_then ?_
      refine run_seq ?_
      refine run_block ?_
      refine run_seq ?_
      obtain ⟨e1539, ho1522⟩ := chk_some ho1522
      refine run_region rfl ?_
      refine ops_ex rfl (guard_none rfl) rfl rfl (ex_move rfl rfl) ?_
      refine ops_ex rfl (guard_none rfl) rfl rfl (ex_move rfl rfl) ?_
      obtain ⟨kv1541, hc1540, hk1542⟩ : ∃ u, CellsAt _ (sb p0) (so p0 + (a1529).toNat * 8) [(.int .i64 ((gt x0 a1529).fRef.fTx)), (.int .i64 ((gt x0 a1529).fRef.fAt)), (.int .i64 ((gt x0 a1529).fOut.fValue)), u, (.int .i64 ((gt x0 a1529).fOut.fRule.fNeed)), (.int .i64 ((gt x0 a1529).fOut.fRule.fAfter)), (.int .i64 ((gt x0 a1529).fHeight)), (.bool ((gt x0 a1529).fMined))] ∧ RdS kInt _ u ((gt x0 a1529).fOut.fRule.fKeys) := rd_with1 hp0 e1539
      refine ops_ex rfl (guard_none rfl) rfl rfl (ex_indexAddr (d := kCoin) rfl rfl rfl Try.underlying60 tsz72 hp0 (idx_lo e1539) (idx_hi e1539)) ?_
      refine ops_ex rfl (guard_none rfl) rfl rfl (ex_fieldAddr (off' := so p0 + (a1529).toNat * 8) rfl rfl Try.underlying72 rfl tsz36 rfl) ?_
      refine ops_ex rfl (guard_none rfl) rfl rfl (ex_fieldAddr (off' := so p0 + (a1529).toNat * 8) rfl rfl Try.underlying36 rfl tsz2 rfl) ?_
      refine ops_ex rfl (guard_none rfl) rfl rfl (ex_load1 rfl rfl Try.underlying2 rfl ((HM.at_ hc1540) 0 _ rfl)) ?_
      refine ops_ex rfl (guard_none rfl) rfl rfl (ex_move rfl rfl) ?_
      refine ops_ex rfl (guard_none rfl) rfl rfl (ex_eql rfl rfl rfl) ?_
      refine ops_nil ?_
      refine at_then ?_
      refine run_cond (b := (((gt x0 a1529).fRef.fTx) == x1)) rfl (fun hb1543 => ?_) (fun hb1543 => ?_)
      · replace ho1522 := cond_t hb1543 ho1522
        refine run_seq ?_
        refine run_region rfl ?_
        refine ops_ex rfl (guard_none rfl) rfl rfl (ex_assign rfl rfl) ?_
        refine ops_nil ?_
        refine at_then ?_
        refine run_ret ?_
        refine at_block_ret ?_
        refine at_then_ret ?_
        refine at_then_ret ?_
        refine at_block_ret ?_
        refine at_then_ret ?_
        have hR := Option.some.inj ho1522
        subst hR
        have hT := thn_inl H
        have hR := Option.some.inj hT
        subst hR
        exact at_ret1 rfl rfl ⟨_, rfl, rfl, HM⟩
      · replace ho1522 := cond_f hb1543 ho1522
        refine run_skip ?_
        refine at_block ?_
        refine at_then ?_
        refine run_region rfl ?_
        refine ops_ex rfl (guard_none rfl) rfl rfl (ex_move rfl rfl) ?_
        refine ops_ex rfl (guard_none rfl) rfl rfl (ex_add rfl rfl rfl) ?_
        refine ops_ex rfl (guard_none rfl) rfl rfl (ex_assign rfl rfl) ?_
        refine ops_nil ?_
        exact at_again k1536 (ρ1 := [(0, p0), (1, .int .i64 x1), (5, .int .i64 (wrap64 (a1529 + 1)))]) (Nat.lt_succ_self _) ⟨_, ho1522, rfl, HM⟩ (Sub.cons rfl (Sub.cons rfl (Sub.cons rfl Sub.nil)))
    · replace ho1522 := cond_f hb1538 ho1522
      refine run_exit ?_
      refine at_then_exit ?_
      refine at_then_exit ?_
      refine at_block_exit ?_
      exact at_mid (ρ' := []) ⟨(Option.some.inj ho1522), rfl, HM⟩ Sub.nil
  · rintro _ w1544 ⟨rfl, rfl, HM⟩
    replace H := (thn_inr H)
    refine run_seq ?_
    refine run_region rfl ?_
    refine ops_ex rfl (guard_none rfl) rfl rfl (ex_assign rfl rfl) ?_
    refine ops_nil ?_
    refine at_then ?_
    refine run_ret ?_
    have hR := Option.some.inj H
    subst hR
    exact at_ret1 rfl rfl ⟨_, rfl, rfl, HM⟩

def spec_l2Copy.f (k : Nat) (x0 : Rule) : Option Rule := (chk (leB ((([] : List Int).length + x0.fKeys.length) * 8) 140737488355328) (some (⟨([] : List Int) ++ x0.fKeys, x0.fNeed, x0.fAfter⟩ : Rule)))
theorem spec_l2Copy.calls {k : Nat} {x0 : Rule} {p0_0 : Value} {w : World} (hp0_0 : RdS kInt w p0_0 x0.fKeys) {r : Rule} (H : spec_l2Copy.f k x0 = some r) :
    Calls Try.prog 134 ([.agg #[p0_0, (.int .i64 x0.fNeed), (.int .i64 x0.fAfter)]] : List Value).toArray w (fun e w_ => ∃ v, e = .returned v ∧ ∃ u0 : Value, v = (.agg #[u0, .int .i64 r.fNeed, .int .i64 r.fAfter]) ∧ Mem w [] w_ [own kInt 2 u0 r.fKeys]) := by
  have HM := Mem.start w
  refine calls_run (N := 9) Try.func134 rfl rfl rfl rfl ?_
  unfold spec_l2Copy.f at H
  refine run_seq ?_
  refine run_region rfl ?_
  refine ops_does rfl (guard_none rfl) rfl rfl (does_box (cs := [p0_0, .int .i64 x0.fNeed, .int .i64 x0.fAfter]) rfl rfl rfl HM) ?_
  rintro _ w1582 ⟨b1576, rfl, HM⟩
  refine ops_does rfl (guard_none rfl) rfl rfl (does_alloc (cs := [.slice none 0 0, .int .i64 0, .int .i64 0]) rfl tz67 rfl HM) ?_
  rintro _ w1583 ⟨b1579, rfl, HM⟩
  refine ops_nil ?_
  refine at_then ?_
  refine run_seq ?_
  obtain ⟨e1587, H⟩ := chk_some H
  refine run_region rfl ?_
  refine ops_does rfl (guard_none rfl) rfl rfl (does_lit (e := 2) (cs := []) (xs := ([] : List Int)) kInt rfl rfl (fun _ => by kernel_rfl) rfl rfl (fun _ _ h => by have h' : _ = [] := h; subst h'; exact .nil) HM.emp) ?_
  rintro v1584 w1590 HM
  refine ops_ex rfl (guard_none rfl) rfl rfl (ex_fieldAddr (off' := 0) rfl rfl Try.underlying67 rfl tsz39 rfl) ?_
  refine ops_ex rfl (guard_none rfl) rfl rfl (ex_load1 rfl rfl Try.underlying39 rfl ((HM.box_at 2 rfl) 0 _ rfl)) ?_
  refine ops_does rfl (guard_none rfl) rfl rfl (does_appendR kInt flat_plain rfl rfl rfl Try.underlying39 tsz2 rfl tby2 tz2 rfl rfl (leB_le e1587) (HM.rd hp0_0) HM) ?_
  rintro v1588 w1591 HM
  refine ops_ex rfl (guard_none rfl) rfl rfl (ex_fieldAddr (off' := 0) rfl rfl Try.underlying67 rfl tsz39 rfl) ?_
  replace HM := HM.front 2 rfl rfl
  refine ops_doesS rfl (guard_none rfl) rfl (does_store (vs := [v1588]) (cs' := [v1588, .int .i64 x0.fNeed, .int .i64 x0.fAfter]) rfl rfl rfl (rd_cells (HM.own_rd 1 rfl)) tsz39 (Ones.rd (HM.own_rd 1 rfl) Ones.nil) rfl rfl HM) ?_
  rintro w1592 HM
  refine ops_nil ?_
  refine at_then ?_
  refine run_seq ?_
  refine run_region rfl ?_
  refine ops_ex rfl (guard_none rfl) rfl rfl (ex_loadN (cs := [v1588, (.int .i64 x0.fNeed), (.int .i64 x0.fAfter)]) rfl rfl Try.underlying67 rfl tsz67 rfl ((HM.box_at 0 rfl).sub 0 3 rfl)) ?_
  replace HM := HM.front 2 rfl rfl
  refine ops_doesS rfl (guard_none rfl) rfl (does_store (vs := [v1588, .int .i64 x0.fNeed, .int .i64 x0.fAfter]) (cs' := [v1588, .int .i64 x0.fNeed, .int .i64 x0.fAfter]) rfl rfl rfl rfl tsz67 (Ones.rd (HM.own_rd 2 rfl) (Ones.int (Ones.int Ones.nil))) rfl rfl HM) ?_
  rintro w1593 HM
  refine ops_nil ?_
  refine at_then ?_
  refine run_ret ?_
  replace HM := (HM.front 1 rfl rfl).drop
  have hcb0 := HM.box_at 0 rfl
  replace HM := (HM.front 0 rfl rfl).drop
  have hR := Option.some.inj H
  subst hR
  exact at_retN rfl rfl Try.underlying67 rfl tsz67 rfl hcb0 ⟨_, rfl, _, rfl, HM⟩

def spec_l4Copy.l0 (x0 : List Coin) : Nat → (List Coin) → Int → Option ((List Coin))
  | 0, _, _ => none
  | k + 1, a1735, a1737 => (bif (decide (a1737 < (x0.length : Int))) then (chk (idxOk a1737 x0.length) ((spec_l2Copy.f k ((gt x0 a1737).fOut.fRule)).bind fun t1768 => (chk (leB ((a1735.length + ([(⟨(gt x0 a1737).fRef, (⟨(gt x0 a1737).fOut.fValue, t1768⟩ : Out), (gt x0 a1737).fHeight, (gt x0 a1737).fMined⟩ : Coin)] : List Coin).length) * 80) 140737488355328) (spec_l4Copy.l0 x0 k (a1735 ++ ([(⟨(gt x0 a1737).fRef, (⟨(gt x0 a1737).fOut.fValue, t1768⟩ : Out), (gt x0 a1737).fHeight, (gt x0 a1737).fMined⟩ : Coin)] : List Coin)) (wrap64 (a1737 + 1)))))) else some a1735)
theorem spec_l4Copy.l0_z (x0 : List Coin) (a1735 : List Coin) (a1737 : Int) : spec_l4Copy.l0 x0 0 a1735 a1737 = none := rfl
theorem spec_l4Copy.l0_s (x0 : List Coin) (k : Nat) (a1735 : List Coin) (a1737 : Int) : spec_l4Copy.l0 x0 (k + 1) a1735 a1737 = (bif (decide (a1737 < (x0.length : Int))) then (chk (idxOk a1737 x0.length) ((spec_l2Copy.f k ((gt x0 a1737).fOut.fRule)).bind fun t1768 => (chk (leB ((a1735.length + ([(⟨(gt x0 a1737).fRef, (⟨(gt x0 a1737).fOut.fValue, t1768⟩ : Out), (gt x0 a1737).fHeight, (gt x0 a1737).fMined⟩ : Coin)] : List Coin).length) * 80) 140737488355328) (spec_l4Copy.l0 x0 k (a1735 ++ ([(⟨(gt x0 a1737).fRef, (⟨(gt x0 a1737).fOut.fValue, t1768⟩ : Out), (gt x0 a1737).fHeight, (gt x0 a1737).fMined⟩ : Coin)] : List Coin)) (wrap64 (a1737 + 1)))))) else some a1735) := rfl
def spec_l4Copy.f (k : Nat) (x0 : List Coin) : Option ((List Coin)) := ((spec_l4Copy.l0 x0 k ([] : List Coin) 0).bind (fun a1712 => some a1712))
theorem spec_l4Copy.calls {k : Nat} {x0 : List Coin} {p0 : Value} {w : World} (hp0 : RdS kCoin w p0 x0) {r : (List Coin)} (H : spec_l4Copy.f k x0 = some r) :
    Calls Try.prog 133 ([p0] : List Value).toArray w (fun e w_ => ∃ v, e = .returned v ∧ ∃ u0 : Value, v = u0 ∧ Mem w [] w_ [own kCoin 72 u0 r]) := by
  have HM := Mem.start w
  refine calls_run (N := 28) Try.func133 rfl rfl rfl rfl ?_
  unfold spec_l4Copy.f at H
  refine run_seq ?_
  refine run_region rfl ?_
  refine ops_ex rfl (guard_none rfl) rfl rfl (ex_assign rfl rfl) ?_
  refine ops_nil ?_
  refine at_then ?_
  refine run_seq ?_
  refine run_region rfl ?_
  refine ops_does rfl (guard_none rfl) rfl rfl (does_lit (e := 72) (cs := []) (xs := ([] : List Coin)) kCoin rfl rfl (fun _ => by kernel_rfl) rfl rfl (fun _ _ h => by have h' : _ = [] := h; subst h'; exact .nil) HM.emp) ?_
  rintro v1649 w1652 HM
  refine ops_ex rfl (guard_none rfl) rfl rfl (ex_assign rfl rfl) ?_
  refine ops_nil ?_
  refine at_then ?_
  obtain ⟨o1714, ho1715, H⟩ := bind_some H
  refine run_mid (fun ρ_ w_ => ∃ v1711 : Value, ∃ a1712 : List Coin, a1712 = o1714 ∧ ρ_ = [(3, v1711)] ∧ Mem w [] w_ [own kCoin 72 v1711 a1712]) ?_ ?_
  · clear H
    refine run_seq ?_
    refine run_region rfl ?_
    refine ops_ex rfl (guard_none rfl) rfl rfl (ex_assign rfl rfl) ?_
    refine ops_nil ?_
    refine at_then ?_
    refine run_block ?_
    refine run_loop (fun k_ ρ_ w_ => ∃ v1734 : Value, ∃ a1735 : List Coin, ∃ a1737 : Int, spec_l4Copy.l0 x0 k_ a1735 a1737 = some o1714 ∧ ρ_ = [(0, p0), (3, v1734), (4, .int .i64 a1737)] ∧ Mem w [] w_ [own kCoin 72 v1734 a1735]) k (ρ1 := [(0, p0), (3, v1649), (4, .int .i64 0)]) ⟨_, _, _, ho1715, rfl, HM⟩ (Sub.cons rfl (Sub.cons rfl (Sub.cons rfl Sub.nil))) ?_
    clear HM ho1715
    rintro k1756 _ w1757 ⟨v1734, a1735, a1737, ho1715, rfl, HM⟩
    obtain _ | k1756 := k1756
    · exact nomatch ((spec_l4Copy.l0_z x0 a1735 a1737).symm.trans ho1715)
    replace ho1715 := (spec_l4Copy.l0_s x0 k1756 a1735 a1737).symm.trans ho1715
    refine run_seq ?_
    refine run_seq ?_
    refine run_region rfl ?_
    refine ops_ex rfl (guard_none rfl) rfl rfl (ex_move rfl rfl) ?_
    refine ops_ex rfl (guard_none rfl) rfl rfl (ex_move rfl rfl) ?_
    refine ops_ex rfl (guard_none rfl) rfl rfl (ex_len (d := kCoin) (xs := x0) rfl rfl Try.underlying60 hp0) ?_
    refine ops_ex rfl (guard_none rfl) rfl rfl (ex_lss rfl rfl rfl) ?_
    refine ops_nil ?_
    refine at_then ?_
    refine run_cond (b := (decide (a1737 < (x0.length : Int)))) rfl (fun hb1758 => ?_) (fun hb1758 => ?_)
    · replace ho1715 := cond_t hb1758 ho1715
      refine run_skip ?_
      refine at_then ?_
      refine run_seq ?_
      refine run_block ?_
      refine run_seq ?_
      obtain ⟨e1759, ho1715⟩ := chk_some ho1715
      refine run_region rfl ?_
      refine ops_ex rfl (guard_none rfl) rfl rfl (ex_move rfl rfl) ?_
      refine ops_ex rfl (guard_none rfl) rfl rfl (ex_move rfl rfl) ?_
      obtain ⟨kv1761, hc1760, hk1762⟩ : ∃ u, CellsAt _ (sb p0) (so p0 + (a1737).toNat * 8) [(.int .i64 ((gt x0 a1737).fRef.fTx)), (.int .i64 ((gt x0 a1737).fRef.fAt)), (.int .i64 ((gt x0 a1737).fOut.fValue)), u, (.int .i64 ((gt x0 a1737).fOut.fRule.fNeed)), (.int .i64 ((gt x0 a1737).fOut.fRule.fAfter)), (.int .i64 ((gt x0 a1737).fHeight)), (.bool ((gt x0 a1737).fMined))] ∧ RdS kInt _ u ((gt x0 a1737).fOut.fRule.fKeys) := rd_with1 hp0 e1759
      refine ops_ex rfl (guard_none rfl) rfl rfl (ex_indexAddr (d := kCoin) rfl rfl rfl Try.underlying60 tsz72 hp0 (idx_lo e1759) (idx_hi e1759)) ?_
      refine ops_ex rfl (guard_none rfl) rfl rfl (ex_loadN (cs := [(.int .i64 ((gt x0 a1737).fRef.fTx)), (.int .i64 ((gt x0 a1737).fRef.fAt)), (.int .i64 ((gt x0 a1737).fOut.fValue)), kv1761, (.int .i64 ((gt x0 a1737).fOut.fRule.fNeed)), (.int .i64 ((gt x0 a1737).fOut.fRule.fAfter)), (.int .i64 ((gt x0 a1737).fHeight)), (.bool ((gt x0 a1737).fMined))]) rfl rfl Try.underlying72 rfl tsz72 rfl ((HM.at_ hc1760).sub 0 8 rfl)) ?_
      refine ops_does rfl (guard_none rfl) rfl rfl (does_alloc (cs := [.int .i64 0, .int .i64 0, .int .i64 0, .slice none 0 0, .int .i64 0, .int .i64 0, .int .i64 0, .bool false]) rfl tz72 rfl HM) ?_
      rintro _ w1766 ⟨b1763, rfl, HM⟩
      refine ops_doesS rfl (guard_none rfl) rfl (does_store (vs := [.int .i64 ((gt x0 a1737).fRef.fTx), .int .i64 ((gt x0 a1737).fRef.fAt), .int .i64 ((gt x0 a1737).fOut.fValue), kv1761, .int .i64 ((gt x0 a1737).fOut.fRule.fNeed), .int .i64 ((gt x0 a1737).fOut.fRule.fAfter), .int .i64 ((gt x0 a1737).fHeight), .bool ((gt x0 a1737).fMined)]) (cs' := [.int .i64 ((gt x0 a1737).fRef.fTx), .int .i64 ((gt x0 a1737).fRef.fAt), .int .i64 ((gt x0 a1737).fOut.fValue), kv1761, .int .i64 ((gt x0 a1737).fOut.fRule.fNeed), .int .i64 ((gt x0 a1737).fOut.fRule.fAfter), .int .i64 ((gt x0 a1737).fHeight), .bool ((gt x0 a1737).fMined)]) rfl rfl rfl rfl tsz72 (Ones.int (Ones.int (Ones.int (Ones.rd hk1762 (Ones.int (Ones.int (Ones.int (Ones.bool Ones.nil)))))))) rfl rfl HM) ?_
      rintro w1767 HM
      refine ops_nil ?_
      refine at_then ?_
      refine run_seq ?_
      obtain ⟨t1768, h1769, ho1715⟩ := bind_some ho1715
      refine run_region rfl ?_
      refine ops_ex rfl (guard_none rfl) rfl rfl (ex_fieldAddr (off' := 2) rfl rfl Try.underlying72 rfl tsz69 rfl) ?_
      refine ops_ex rfl (guard_none rfl) rfl rfl (ex_fieldAddr (off' := 3) rfl rfl Try.underlying69 rfl tsz67 rfl) ?_
      refine ops_ex rfl (guard_none rfl) rfl rfl (ex_loadN (cs := [kv1761, (.int .i64 ((gt x0 a1737).fOut.fRule.fNeed)), (.int .i64 ((gt x0 a1737).fOut.fRule.fAfter))]) rfl rfl Try.underlying67 rfl tsz67 rfl ((HM.box_at 0 rfl).sub 3 3 rfl)) ?_
      refine ops_does rfl (guard_none rfl) rfl rfl (does_callk rfl callok134 rfl (spec_l2Copy.calls (x0 := (gt x0 a1737).fOut.fRule) (HM.rd hk1762) h1769)) ?_
      rintro _ w1772 ⟨u1770, rfl, hn⟩
      replace HM : Mem w [] w1772 [own kInt 2 u1770 t1768.fKeys, box b1763 72 [.int .i64 ((gt x0 a1737).fRef.fTx), .int .i64 ((gt x0 a1737).fRef.fAt), .int .i64 ((gt x0 a1737).fOut.fValue), kv1761, .int .i64 ((gt x0 a1737).fOut.fRule.fNeed), .int .i64 ((gt x0 a1737).fOut.fRule.fAfter), .int .i64 ((gt x0 a1737).fHeight), .bool ((gt x0 a1737).fMined)], own kCoin 72 v1734 a1735] := HM.call hn
      refine ops_ex rfl (guard_none rfl) rfl rfl (ex_fieldAddr (off' := 2) rfl rfl Try.underlying72 rfl tsz69 rfl) ?_
      refine ops_ex rfl (guard_none rfl) rfl rfl (ex_fieldAddr (off' := 3) rfl rfl Try.underlying69 rfl tsz67 rfl) ?_
      replace HM := HM.front 1 rfl rfl
      refine ops_doesS rfl (guard_none rfl) rfl (does_store (vs := [u1770, .int .i64 t1768.fNeed, .int .i64 t1768.fAfter]) (cs' := [.int .i64 ((gt x0 a1737).fRef.fTx), .int .i64 ((gt x0 a1737).fRef.fAt), .int .i64 ((gt x0 a1737).fOut.fValue), u1770, .int .i64 t1768.fNeed, .int .i64 t1768.fAfter, .int .i64 ((gt x0 a1737).fHeight), .bool ((gt x0 a1737).fMined)]) rfl rfl rfl rfl tsz67 (Ones.rd (HM.own_rd 1 rfl) (Ones.int (Ones.int Ones.nil))) rfl rfl HM) ?_
      rintro w1773 HM
      refine ops_nil ?_
      refine at_then ?_
      obtain ⟨e1777, ho1715⟩ := chk_some ho1715
      refine run_region rfl ?_
      refine ops_ex rfl (guard_none rfl) rfl rfl (ex_move rfl rfl) ?_
      refine ops_ex rfl (guard_none rfl) rfl rfl (ex_loadN (cs := [(.int .i64 ((gt x0 a1737).fRef.fTx)), (.int .i64 ((gt x0 a1737).fRef.fAt)), (.int .i64 ((gt x0 a1737).fOut.fValue)), u1770, (.int .i64 t1768.fNeed), (.int .i64 t1768.fAfter), (.int .i64 ((gt x0 a1737).fHeight)), (.bool ((gt x0 a1737).fMined))]) rfl rfl Try.underlying72 rfl tsz72 rfl ((HM.box_at 0 rfl).sub 0 8 rfl)) ?_
      replace HM := HM.front 1 rfl rfl
      refine ops_does rfl (guard_none rfl) rfl rfl (does_lit (e := 72) (cs := [(.int .i64 ((gt x0 a1737).fRef.fTx)), (.int .i64 ((gt x0 a1737).fRef.fAt)), (.int .i64 ((gt x0 a1737).fOut.fValue)), u1770, (.int .i64 t1768.fNeed), (.int .i64 t1768.fAfter), (.int .i64 ((gt x0 a1737).fHeight)), (.bool ((gt x0 a1737).fMined))]) (xs := ([(⟨(gt x0 a1737).fRef, (⟨(gt x0 a1737).fOut.fValue, t1768⟩ : Out), (gt x0 a1737).fHeight, (gt x0 a1737).fMined⟩ : Coin)] : List Coin)) kCoin rfl rfl (fun _ => by kernel_rfl) rfl rfl (fun _ _ h => by have := Elems.cons (d := kCoin) (x := (⟨(gt x0 a1737).fRef, (⟨(gt x0 a1737).fOut.fValue, t1768⟩ : Out), (gt x0 a1737).fHeight, (gt x0 a1737).fMined⟩ : Coin)) ⟨_, rfl, h⟩ .nil; rw [List.append_nil, List.append_nil] at this; exact this) HM) ?_
      rintro v1774 w1780 HM
      replace HM := HM.front 2 rfl rfl
      refine ops_does rfl (guard_none rfl) rfl rfl (does_append kCoin rfl rfl rfl Try.underlying60 tsz72 rfl tby72 tz72 rfl rfl (leB_le e1777) HM) ?_
      rintro v1778 w1781 HM
      refine ops_ex rfl (guard_none rfl) rfl rfl (ex_assign rfl rfl) ?_
      refine ops_nil ?_
      refine at_block ?_
      refine at_then ?_
      refine run_region rfl ?_
      refine ops_ex rfl (guard_none rfl) rfl rfl (ex_move rfl rfl) ?_
      refine ops_ex rfl (guard_none rfl) rfl rfl (ex_add rfl rfl rfl) ?_
      refine ops_ex rfl (guard_none rfl) rfl rfl (ex_assign rfl rfl) ?_
      refine ops_nil ?_
      replace HM := (HM.front 1 rfl rfl).drop
      exact at_again k1756 (ρ1 := [(0, p0), (3, v1778), (4, .int .i64 (wrap64 (a1737 + 1)))]) (Nat.lt_succ_self _) ⟨_, _, _, ho1715, rfl, HM⟩ (Sub.cons rfl (Sub.cons rfl (Sub.cons rfl Sub.nil)))
    · replace ho1715 := cond_f hb1758 ho1715
      refine run_exit ?_
      refine at_then_exit ?_
      refine at_then_exit ?_
      refine at_block_exit ?_
      exact at_mid (ρ' := [(3, v1734)]) ⟨_, _, (Option.some.inj ho1715), rfl, HM⟩ (Sub.cons rfl Sub.nil)
  · rintro _ w1782 ⟨v1711, a1712, rfl, rfl, HM⟩
    refine run_seq ?_
    refine run_region rfl ?_
    refine ops_ex rfl (guard_none rfl) rfl rfl (ex_move rfl rfl) ?_
    refine ops_ex rfl (guard_none rfl) rfl rfl (ex_assign rfl rfl) ?_
    refine ops_nil ?_
    refine at_then ?_
    refine run_ret ?_
    have hR := Option.some.inj H
    subst hR
    exact at_ret1 rfl rfl ⟨_, rfl, _, rfl, HM⟩

def spec_l4Add.l0 (x0 : List Coin) (x1 : Coin) : Nat → Int → Option Int
  | 0, _ => none
  | k + 1, a1932 => (chk (!(decide (a1932 < (x0.length : Int))) || (idxOk a1932 x0.length)) ((bif (decide (a1932 < (x0.length : Int))) then spec_l4Ahead.f k ((gt x0 a1932).fRef) x1.fRef else some default).bind fun t1940 => (bif ((decide (a1932 < (x0.length : Int))) && t1940) then spec_l4Add.l0 x0 x1 k (wrap64 (a1932 + 1)) else some a1932)))
theorem spec_l4Add.l0_z (x0 : List Coin) (x1 : Coin) (a1932 : Int) : spec_l4Add.l0 x0 x1 0 a1932 = none := rfl
theorem spec_l4Add.l0_s (x0 : List Coin) (x1 : Coin) (k : Nat) (a1932 : Int) : spec_l4Add.l0 x0 x1 (k + 1) a1932 = (chk (!(decide (a1932 < (x0.length : Int))) || (idxOk a1932 x0.length)) ((bif (decide (a1932 < (x0.length : Int))) then spec_l4Ahead.f k ((gt x0 a1932).fRef) x1.fRef else some default).bind fun t1940 => (bif ((decide (a1932 < (x0.length : Int))) && t1940) then spec_l4Add.l0 x0 x1 k (wrap64 (a1932 + 1)) else some a1932))) := rfl
def spec_l4Add.f (k : Nat) (x0 : List Coin) (x1 : Coin) : Option ((List Coin)) := ((spec_l4Add.l0 x0 x1 k 0).bind (fun a1925 => (chk (cutOk a1925 x0.length) (chk (leB ((a1925).toNat * 80) 140737488355328) (chk (cutOk a1925 x0.length) (chk (leB (((a1925).toNat + ([x1] : List Coin).length) * 80) 140737488355328) (chk (leB (((a1925).toNat + ([x1] : List Coin).length + (x0.length - (a1925).toNat)) * 80) 140737488355328) (chk (decide ((a1925).toNat ≤ (a1925).toNat)) (some (x0.take (a1925).toNat ++ ([x1] : List Coin) ++ x0.drop (a1925).toNat))))))))))
theorem spec_l4Add.calls {k : Nat} {x0 : List Coin} {x1 : Coin} {p0 : Value} {p1_0 : Value} {w wo : World} {X : List Nat} (hwo : Olds wo w X) (hX : Hold w [own kCoin 72 p0 x0, own kInt 2 p1_0 x1.fOut.fRule.fKeys] X) (hXn : X.Nodup) (hXl : ∀ b ∈ X, b < w.heap.size)  {r : (List Coin)} (H : spec_l4Add.f k x0 x1 = some r) :
    Calls Try.prog 135 ([p0, .agg #[(.int .i64 x1.fRef.fTx), (.int .i64 x1.fRef.fAt), (.int .i64 x1.fOut.fValue), p1_0, (.int .i64 x1.fOut.fRule.fNeed), (.int .i64 x1.fOut.fRule.fAfter), (.int .i64 x1.fHeight), (.bool x1.fMined)]] : List Value).toArray w (fun e w_ => ∃ v, e = .returned v ∧ ∃ u0 : Value, v = u0 ∧ Mem w X w_ [own kCoin 72 u0 r]) := by
  have HM := Mem.startX hX hXn hXl
  refine calls_run (N := 36) Try.func135 rfl rfl rfl rfl ?_
  unfold spec_l4Add.f at H
  refine run_seq ?_
  refine run_region rfl ?_
  refine ops_does rfl (guard_none rfl) rfl rfl (does_box (cs := [.int .i64 x1.fRef.fTx, .int .i64 x1.fRef.fAt, .int .i64 x1.fOut.fValue, p1_0, .int .i64 x1.fOut.fRule.fNeed, .int .i64 x1.fOut.fRule.fAfter, .int .i64 x1.fHeight, .bool x1.fMined]) rfl rfl rfl HM) ?_
  rintro _ w1911 ⟨b1908, rfl, HM⟩
  refine ops_ex rfl (guard_none rfl) rfl rfl (ex_assign rfl rfl) ?_
  refine ops_nil ?_
  refine at_then ?_
  refine run_seq ?_
  refine run_region rfl ?_
  refine ops_ex rfl (guard_none rfl) rfl rfl (ex_assign rfl rfl) ?_
  refine ops_nil ?_
  refine at_then ?_
  obtain ⟨o1926, ho1927, H⟩ := bind_some H
  refine run_mid (fun ρ_ w_ => ∃ a1925 : Int, a1925 = o1926 ∧ ρ_ = [(0, p0), (3, .pointer (some ⟨b1908, 0, none⟩)), (5, .int .i64 a1925)] ∧ Mem w X w_ [own kCoin 72 p0 x0, own kInt 2 p1_0 x1.fOut.fRule.fKeys, box b1908 72 [.int .i64 x1.fRef.fTx, .int .i64 x1.fRef.fAt, .int .i64 x1.fOut.fValue, p1_0, .int .i64 x1.fOut.fRule.fNeed, .int .i64 x1.fOut.fRule.fAfter, .int .i64 x1.fHeight, .bool x1.fMined]]) ?_ ?_
  · clear H
    refine run_block ?_
    replace HM := HM.front 2 rfl rfl
    replace HM := HM.front 2 rfl rfl
    refine run_loop (fun k_ ρ_ w_ => ∃ a1932 : Int, spec_l4Add.l0 x0 x1 k_ a1932 = some o1926 ∧ ρ_ = [(0, p0), (3, .pointer (some ⟨b1908, 0, none⟩)), (5, .int .i64 a1932)] ∧ Mem w X w_ [own kCoin 72 p0 x0, own kInt 2 p1_0 x1.fOut.fRule.fKeys, box b1908 72 [.int .i64 x1.fRef.fTx, .int .i64 x1.fRef.fAt, .int .i64 x1.fOut.fValue, p1_0, .int .i64 x1.fOut.fRule.fNeed, .int .i64 x1.fOut.fRule.fAfter, .int .i64 x1.fHeight, .bool x1.fMined]]) k (ρ1 := [(0, p0), (3, .pointer (some ⟨b1908, 0, none⟩)), (5, .int .i64 0)]) ⟨_, ho1927, rfl, HM⟩ (Sub.cons rfl (Sub.cons rfl (Sub.cons rfl Sub.nil))) ?_
    clear HM ho1927
    rintro k1937 _ w1938 ⟨a1932, ho1927, rfl, HM⟩
    obtain _ | k1937 := k1937
    · exact nomatch ((spec_l4Add.l0_z x0 x1 a1932).symm.trans ho1927)
    replace ho1927 := (spec_l4Add.l0_s x0 x1 k1937 a1932).symm.trans ho1927
    refine run_seq ?_
    refine run_seq ?_
    obtain ⟨e1939, ho1927⟩ := chk_some ho1927
    obtain ⟨t1940, h1941, ho1927⟩ := bind_some ho1927
    refine run_meet (fun ρ_ w_ => ρ_ = [(0, p0), (3, .pointer (some ⟨b1908, 0, none⟩)), (5, .int .i64 a1932), (20, .bool ((decide (a1932 < (x0.length : Int))) && t1940))] ∧ Mem w X w_ [own kCoin 72 p0 x0, own kInt 2 p1_0 x1.fOut.fRule.fKeys, box b1908 72 [.int .i64 x1.fRef.fTx, .int .i64 x1.fRef.fAt, .int .i64 x1.fOut.fValue, p1_0, .int .i64 x1.fOut.fRule.fNeed, .int .i64 x1.fOut.fRule.fAfter, .int .i64 x1.fHeight, .bool x1.fMined]]) ?_ ?_
    · skip
      refine run_drawf (fun w_ => Mem w X w_ [own kCoin 72 p0 x0, own kInt 2 p1_0 x1.fOut.fRule.fKeys, box b1908 72 [.int .i64 x1.fRef.fTx, .int .i64 x1.fRef.fAt, .int .i64 x1.fOut.fValue, p1_0, .int .i64 x1.fOut.fRule.fNeed, .int .i64 x1.fOut.fRule.fAfter, .int .i64 x1.fHeight, .bool x1.fMined]]) [(0, true), (1, true), (2, true), (3, true), (4, true), (5, true), (6, true), (7, true), (8, true), (9, true), (10, true), (11, true), (12, false), (13, true)] mixed rfl rfl (by kernel_rfl) ?_
      replace HM := HM.grow (fr_drew _)
      have hS := Mem.suf (M := []) HM
      refine drwp_take rfl (guard_none rfl) rfl rfl (fun w_ hS_ => (ex_move rfl rfl)) hS ?_
      refine drwp_take rfl (guard_none rfl) rfl rfl (fun w_ hS_ => (ex_move rfl rfl)) hS ?_
      refine drwp_take rfl (guard_none rfl) rfl rfl (fun w_ hS_ => (ex_len (d := kCoin) (xs := x0) rfl rfl Try.underlying60 (hS_.own_rd 0 rfl))) hS ?_
      refine drwp_take rfl (guard_none rfl) rfl rfl (fun w_ hS_ => (ex_lss rfl rfl rfl)) hS ?_
      refine drwp_take rfl (guard_none rfl) rfl rfl (fun w_ hS_ => (ex_move rfl rfl)) hS ?_
      refine bool_cases (decide (a1932 < (x0.length : Int))) (fun hg1942 => ?_) (fun hg1942 => ?_)
      · skip
        refine drwp_take rfl (guard_on rfl rfl rfl hg1942) rfl rfl (fun w_ hS_ => (ex_move rfl rfl)) hS ?_
        refine drwp_take rfl (guard_on rfl rfl rfl hg1942) rfl rfl (fun w_ hS_ => (ex_move rfl rfl)) hS ?_
        refine drwp_take rfl (guard_on rfl rfl rfl hg1942) rfl rfl (fun w_ hS_ => (ex_indexAddr (d := kCoin) rfl rfl rfl Try.underlying60 tsz72 (hS_.own_rd 0 rfl) (idx_lo (or_t e1939 hg1942)) (idx_hi (or_t e1939 hg1942)))) hS ?_
        refine drwp_take rfl (guard_on rfl rfl rfl hg1942) rfl rfl (fun w_ hS_ => (ex_fieldAddr (off' := so p0 + (a1932).toNat * 8) rfl rfl Try.underlying72 rfl tsz36 rfl)) hS ?_
        refine drwp_take rfl (guard_on rfl rfl rfl hg1942) rfl rfl (fun w_ hS_ => (let ⟨_, hc_, _⟩ := rd_with1 (hS_.own_rd 0 rfl) (or_t e1939 hg1942); ex_loadN (cs := [(.int .i64 ((gt x0 a1932).fRef.fTx)), (.int .i64 ((gt x0 a1932).fRef.fAt))]) rfl rfl Try.underlying36 rfl tsz36 rfl (hc_.sub 0 2 rfl))) hS ?_
        refine drwp_take rfl (guard_on rfl rfl rfl hg1942) rfl rfl (fun w_ hS_ => (ex_fieldAddr (off' := 0) rfl rfl Try.underlying72 rfl tsz36 rfl)) hS ?_
        refine drwp_take rfl (guard_on rfl rfl rfl hg1942) rfl rfl (fun w_ hS_ => (ex_loadN (cs := [(.int .i64 x1.fRef.fTx), (.int .i64 x1.fRef.fAt)]) rfl rfl Try.underlying36 rfl tsz36 rfl ((hS_.box_at 2 rfl).sub 0 2 rfl))) hS ?_
        refine drwp_one rfl (guard_on rfl rfl rfl hg1942) rfl rfl (does_callk rfl callok131 rfl (spec_l4Ahead.calls (x0 := (gt x0 a1932).fRef) (x1 := x1.fRef) (cond_t hg1942 h1941))) ?_
        rintro _ w1943 ⟨rfl, hn⟩
        replace HM : Mem w X w1943 [own kCoin 72 p0 x0, own kInt 2 p1_0 x1.fOut.fRule.fKeys, box b1908 72 [.int .i64 x1.fRef.fTx, .int .i64 x1.fRef.fAt, .int .i64 x1.fOut.fValue, p1_0, .int .i64 x1.fOut.fRule.fNeed, .int .i64 x1.fOut.fRule.fAfter, .int .i64 x1.fHeight, .bool x1.fMined]] := HM.call hn
        refine ⟨Mem.suf (M := []) HM, ?_⟩
        have hS := Mem.suf (M := []) HM
        refine drwp_take (v := .bool ((decide (a1932 < (x0.length : Int))) && t1940)) rfl (guard_none rfl) rfl rfl (fun w_ hS_ => (ex_pand_t rfl rfl hg1942 rfl)) hS ?_
        refine drwp_done ?_
        exact at_meet [(0, p0), (3, .pointer (some ⟨b1908, 0, none⟩)), (5, .int .i64 a1932), (20, .bool ((decide (a1932 < (x0.length : Int))) && t1940))] ⟨rfl, HM⟩ (Sub.cons rfl (Sub.cons rfl (Sub.cons rfl (Sub.cons rfl Sub.nil))))
      · skip
        refine drwp_off rfl (guard_off rfl rfl rfl hg1942) rfl rfl hS ?_
        refine drwp_off rfl (guard_off rfl rfl rfl hg1942) rfl rfl hS ?_
        refine drwp_off rfl (guard_off rfl rfl rfl hg1942) rfl rfl hS ?_
        refine drwp_off rfl (guard_off rfl rfl rfl hg1942) rfl rfl hS ?_
        refine drwp_off rfl (guard_off rfl rfl rfl hg1942) rfl rfl hS ?_
        refine drwp_off rfl (guard_off rfl rfl rfl hg1942) rfl rfl hS ?_
        refine drwp_off rfl (guard_off rfl rfl rfl hg1942) rfl rfl hS ?_
        refine drwp_off1 rfl (guard_off rfl rfl rfl hg1942) rfl rfl ⟨hS, ?_⟩
        have hg1944 : ((decide (a1932 < (x0.length : Int))) && t1940) = false := by simp only [hg1942, Bool.and_true, Bool.true_and, Bool.and_false, Bool.false_and, Bool.or_true, Bool.true_or, Bool.or_false, Bool.false_or, Bool.not_true, Bool.not_false, Bool.not_not]
        refine drwp_take (v := .bool ((decide (a1932 < (x0.length : Int))) && t1940)) rfl (guard_none rfl) rfl rfl (fun w_ hS_ => (ex_pand_f rfl rfl hg1942)) hS ?_
        refine drwp_done ?_
        exact at_meet [(0, p0), (3, .pointer (some ⟨b1908, 0, none⟩)), (5, .int .i64 a1932), (20, .bool ((decide (a1932 < (x0.length : Int))) && t1940))] ⟨rfl, HM⟩ (Sub.cons rfl (Sub.cons rfl (Sub.cons rfl (Sub.cons rfl Sub.nil))))
    · rintro _ w1945 ⟨rfl, HM⟩
      refine at_then ?_
      refine run_cond (b := ((decide (a1932 < (x0.length : Int))) && t1940)) rfl (fun hb1946 => ?_) (fun hb1946 => ?_)
      · replace ho1927 := cond_t hb1946 ho1927
        refine run_skip ?_
        refine at_then ?_
        refine run_block ?_
        refine run_region rfl ?_
        refine ops_ex rfl (guard_none rfl) rfl rfl (ex_move rfl rfl) ?_
        refine ops_ex rfl (guard_none rfl) rfl rfl (ex_add rfl rfl rfl) ?_
        refine ops_ex rfl (guard_none rfl) rfl rfl (ex_assign rfl rfl) ?_
        refine ops_nil ?_
        refine at_block ?_
        exact at_again k1937 (ρ1 := [(0, p0), (3, .pointer (some ⟨b1908, 0, none⟩)), (5, .int .i64 (wrap64 (a1932 + 1)))]) (Nat.lt_succ_self _) ⟨_, ho1927, rfl, HM⟩ (Sub.cons rfl (Sub.cons rfl (Sub.cons rfl Sub.nil)))
      · replace ho1927 := cond_f hb1946 ho1927
        refine run_exit ?_
        refine at_then_exit ?_
        refine at_then_exit ?_
        refine at_block_exit ?_
        exact at_mid (ρ' := [(0, p0), (3, .pointer (some ⟨b1908, 0, none⟩)), (5, .int .i64 a1932)]) ⟨_, (Option.some.inj ho1927), rfl, HM⟩ (Sub.cons rfl (Sub.cons rfl (Sub.cons rfl Sub.nil)))
  · rintro _ w1947 ⟨a1925, rfl, rfl, HM⟩
    refine run_seq ?_
    obtain ⟨e1951, H⟩ := chk_some H
    obtain ⟨e1953, H⟩ := chk_some H
    refine run_region rfl ?_
    refine ops_does rfl (guard_none rfl) rfl rfl (does_lit (e := 72) (cs := []) (xs := ([] : List Coin)) kCoin rfl rfl (fun _ => by kernel_rfl) rfl rfl (fun _ _ h => by have h' : _ = [] := h; subst h'; exact .nil) HM.emp) ?_
    rintro v1948 w1954 HM
    refine ops_ex rfl (guard_none rfl) rfl rfl (ex_move rfl rfl) ?_
    refine ops_ex rfl (guard_none rfl) rfl rfl (ex_move rfl rfl) ?_
    refine ops_ex rfl (guard_none rfl) rfl rfl (ex_cutvH rfl rfl rfl Try.underlying60 tsz72 (cut_lo e1951) ((HM.own_rd 1 rfl).cap.le (cut_hi e1951))) ?_
    replace HM := HM.front 1 rfl rfl
    replace HM := HM.front 1 rfl rfl
    refine ops_does rfl (guard_none rfl) rfl rfl (does_mv1 (k := (a1925).toNat) kCoin rfl rfl rfl Try.underlying60 tsz72 tby72 tz72 rfl rfl (cut_hi e1951) (leB_le e1953) HM) ?_
    rintro v1952 w1955 HM
    refine ops_ex rfl (guard_none rfl) rfl rfl (ex_assign rfl rfl) ?_
    refine ops_nil ?_
    refine at_then ?_
    refine run_seq ?_
    obtain ⟨e1956, H⟩ := chk_some H
    obtain ⟨e1961, H⟩ := chk_some H
    obtain ⟨e1963, H⟩ := chk_some H
    obtain ⟨e1964, H⟩ := chk_some H
    replace HM := HM.front 1 rfl rfl
    replace HM := HM.front 1 rfl rfl
    refine run_drawf (fun w_ => Mem w X w_ [box b1908 72 [.int .i64 x1.fRef.fTx, .int .i64 x1.fRef.fAt, .int .i64 x1.fOut.fValue, p1_0, .int .i64 x1.fOut.fRule.fNeed, .int .i64 x1.fOut.fRule.fAfter, .int .i64 x1.fHeight, .bool x1.fMined]]) [(0, true), (1, true), (4, true), (5, true), (6, true), (2, false), (3, false), (7, false), (8, true)] mixed rfl rfl (by kernel_rfl) ?_
    replace HM := HM.grow (fr_drew _)
    have hS := Mem.suf (M := [mvC kCoin 72 p0 x0 v1952 (a1925).toNat, own kInt 2 p1_0 x1.fOut.fRule.fKeys]) HM
    refine drwp_take rfl (guard_none rfl) rfl rfl (fun w_ hS_ => (ex_move rfl rfl)) hS ?_
    refine drwp_take rfl (guard_none rfl) rfl rfl (fun w_ hS_ => (ex_loadN (cs := [(.int .i64 x1.fRef.fTx), (.int .i64 x1.fRef.fAt), (.int .i64 x1.fOut.fValue), p1_0, (.int .i64 x1.fOut.fRule.fNeed), (.int .i64 x1.fOut.fRule.fAfter), (.int .i64 x1.fHeight), (.bool x1.fMined)]) rfl rfl Try.underlying72 rfl tsz72 rfl ((hS_.box_at 0 rfl).sub 0 8 rfl))) hS ?_
    refine drwp_take rfl (guard_none rfl) rfl rfl (fun w_ hS_ => (ex_move rfl rfl)) hS ?_
    refine drwp_take rfl (guard_none rfl) rfl rfl (fun w_ hS_ => (ex_move rfl rfl)) hS ?_
    refine drwp_take rfl (guard_none rfl) rfl rfl (fun w_ hS_ => (ex_cutvL rfl rfl rfl Try.underlying60 tsz72 (HM.mv_rd 0 rfl) e1956)) hS ?_
    replace HM := HM.front 1 rfl rfl
    refine drwp_one rfl (guard_none rfl) rfl rfl (does_lit (e := 72) (cs := [(.int .i64 x1.fRef.fTx), (.int .i64 x1.fRef.fAt), (.int .i64 x1.fOut.fValue), p1_0, (.int .i64 x1.fOut.fRule.fNeed), (.int .i64 x1.fOut.fRule.fAfter), (.int .i64 x1.fHeight), (.bool x1.fMined)]) (xs := ([x1] : List Coin)) kCoin rfl rfl (fun _ => by kernel_rfl) rfl rfl (fun _ _ h => by have := Elems.cons (d := kCoin) (x := x1) ⟨_, rfl, h⟩ .nil; rw [List.append_nil, List.append_nil] at this; exact this) HM) ?_
    rintro v1957 w1966 HM
    refine ⟨Mem.suf (M := [own kCoin 72 v1957 ([x1] : List Coin), mvC kCoin 72 p0 x0 v1952 (a1925).toNat]) HM, ?_⟩
    have hS := Mem.suf (M := [own kCoin 72 v1957 ([x1] : List Coin), mvC kCoin 72 p0 x0 v1952 (a1925).toNat]) HM
    replace HM := HM.front 1 rfl rfl
    refine drwp_one rfl (guard_none rfl) rfl rfl (does_mvA (k := (a1925).toNat) kCoin rfl rfl rfl Try.underlying60 tsz72 tby72 tz72 rfl rfl (leB_le e1961) HM) ?_
    rintro v1960 w1967 HM
    refine ⟨Mem.suf (M := [mvC2 kCoin 72 p0 x0 v1960 (a1925).toNat ([x1] : List Coin)]) HM, ?_⟩
    have hS := Mem.suf (M := [mvC2 kCoin 72 p0 x0 v1960 (a1925).toNat ([x1] : List Coin)]) HM
    refine drwp_one rfl (guard_none rfl) rfl rfl (does_mv3 (j := (a1925).toNat) kCoin rfl rfl rfl Try.underlying60 tsz72 tby72 tz72 rfl rfl (of_decide_eq_true e1964) (cut_hi e1956) (leB_le e1963) HM) ?_
    rintro v1962 w1968 HM
    refine ⟨Mem.suf (M := [own kCoin 72 v1962 (x0.take (a1925).toNat ++ ([x1] : List Coin) ++ x0.drop (a1925).toNat)]) HM, ?_⟩
    have hS := Mem.suf (M := [own kCoin 72 v1962 (x0.take (a1925).toNat ++ ([x1] : List Coin) ++ x0.drop (a1925).toNat)]) HM
    refine drwp_take rfl (guard_none rfl) rfl rfl (fun w_ hS_ => (ex_assign rfl rfl)) hS ?_
    refine drwp_done ?_
    refine at_then ?_
    refine run_ret ?_
    replace HM := (HM.front 1 rfl rfl).drop
    have hR := Option.some.inj H
    subst hR
    exact at_ret1 rfl rfl ⟨_, rfl, _, rfl, HM⟩

def spec_l4Put.l0 (x1 : Int) (x2 : List Out) (x3 : Int) (x4 : Bool) : Nat → (List Coin) → Int → Option ((List Coin))
  | 0, _, _ => none
  | k + 1, a2159, a2161 => (bif (decide (a2161 < (x2.length : Int))) then (chk (idxOk a2161 x2.length) (chk (idxOk a2161 x2.length) ((spec_l2Copy.f k ((gt x2 a2161).fRule)).bind fun t2199 => ((spec_l4Add.f k a2159 (⟨(⟨x1, a2161⟩ : Ref), (⟨(gt x2 a2161).fValue, t2199⟩ : Out), x3, x4⟩ : Coin)).bind fun t2213 => spec_l4Put.l0 x1 x2 x3 x4 k t2213 (wrap64 (a2161 + 1)))))) else some a2159)
theorem spec_l4Put.l0_z (x1 : Int) (x2 : List Out) (x3 : Int) (x4 : Bool) (a2159 : List Coin) (a2161 : Int) : spec_l4Put.l0 x1 x2 x3 x4 0 a2159 a2161 = none := rfl
theorem spec_l4Put.l0_s (x1 : Int) (x2 : List Out) (x3 : Int) (x4 : Bool) (k : Nat) (a2159 : List Coin) (a2161 : Int) : spec_l4Put.l0 x1 x2 x3 x4 (k + 1) a2159 a2161 = (bif (decide (a2161 < (x2.length : Int))) then (chk (idxOk a2161 x2.length) (chk (idxOk a2161 x2.length) ((spec_l2Copy.f k ((gt x2 a2161).fRule)).bind fun t2199 => ((spec_l4Add.f k a2159 (⟨(⟨x1, a2161⟩ : Ref), (⟨(gt x2 a2161).fValue, t2199⟩ : Out), x3, x4⟩ : Coin)).bind fun t2213 => spec_l4Put.l0 x1 x2 x3 x4 k t2213 (wrap64 (a2161 + 1)))))) else some a2159) := rfl
def spec_l4Put.f (k : Nat) (x0 : List Coin) (x1 : Int) (x2 : List Out) (x3 : Int) (x4 : Bool) : Option ((List Coin)) := ((spec_l4Copy.f k x0).bind fun t2040 => ((spec_l4Put.l0 x1 x2 x3 x4 k t2040 0).bind (fun a2128 => some a2128)))
theorem spec_l4Put.calls {k : Nat} {x0 : List Coin} {x1 : Int} {x2 : List Out} {x3 : Int} {x4 : Bool} {p0 : Value} {p2 : Value} {w : World} (hp0 : RdS kCoin w p0 x0) (hp2 : RdS kOut w p2 x2) {r : (List Coin)} (H : spec_l4Put.f k x0 x1 x2 x3 x4 = some r) :
    Calls Try.prog 82 ([p0, .int .i64 x1, p2, .int .i64 x3, .bool x4] : List Value).toArray w (fun e w_ => ∃ v, e = .returned v ∧ ∃ u0 : Value, v = u0 ∧ Mem w [] w_ [own kCoin 72 u0 r]) := by
  have HM := Mem.start w
  refine calls_run (N := 44) Try.func82 rfl rfl rfl rfl ?_
  unfold spec_l4Put.f at H
  refine run_seq ?_
  refine run_region rfl ?_
  refine ops_ex rfl (guard_none rfl) rfl rfl (ex_assign rfl rfl) ?_
  refine ops_nil ?_
  refine at_then ?_
  refine run_seq ?_
  obtain ⟨t2040, h2041, H⟩ := bind_some H
  refine run_region rfl ?_
  refine ops_ex rfl (guard_none rfl) rfl rfl (ex_move rfl rfl) ?_
  refine ops_does rfl (guard_none rfl) rfl rfl (does_callk rfl callok133 rfl (spec_l4Copy.calls (x0 := x0) (HM.rd hp0) h2041)) ?_
  rintro u2042 w2044 ⟨_, rfl, hn⟩
  replace HM : Mem w [] w2044 [own kCoin 72 u2042 t2040] := HM.call hn
  refine ops_ex rfl (guard_none rfl) rfl rfl (ex_assign rfl rfl) ?_
  refine ops_nil ?_
  refine at_then ?_
  obtain ⟨o2130, ho2131, H⟩ := bind_some H
  refine run_mid (fun ρ_ w_ => ∃ v2127 : Value, ∃ a2128 : List Coin, a2128 = o2130 ∧ ρ_ = [(11, v2127)] ∧ Mem w [] w_ [own kCoin 72 v2127 a2128]) ?_ ?_
  · clear H
    refine run_seq ?_
    refine run_region rfl ?_
    refine ops_ex rfl (guard_none rfl) rfl rfl (ex_assign rfl rfl) ?_
    refine ops_nil ?_
    refine at_then ?_
    refine run_block ?_
    refine run_loop (fun k_ ρ_ w_ => ∃ v2158 : Value, ∃ a2159 : List Coin, ∃ a2161 : Int, spec_l4Put.l0 x1 x2 x3 x4 k_ a2159 a2161 = some o2130 ∧ ρ_ = [(1, .int .i64 x1), (2, p2), (3, .int .i64 x3), (4, .bool x4), (11, v2158), (12, .int .i64 a2161)] ∧ Mem w [] w_ [own kCoin 72 v2158 a2159]) k (ρ1 := [(1, .int .i64 x1), (2, p2), (3, .int .i64 x3), (4, .bool x4), (11, u2042), (12, .int .i64 0)]) ⟨_, _, _, ho2131, rfl, HM⟩ (Sub.cons rfl (Sub.cons rfl (Sub.cons rfl (Sub.cons rfl (Sub.cons rfl (Sub.cons rfl Sub.nil)))))) ?_
    clear HM ho2131
    rintro k2188 _ w2189 ⟨v2158, a2159, a2161, ho2131, rfl, HM⟩
    obtain _ | k2188 := k2188
    · exact nomatch ((spec_l4Put.l0_z x1 x2 x3 x4 a2159 a2161).symm.trans ho2131)
    replace ho2131 := (spec_l4Put.l0_s x1 x2 x3 x4 k2188 a2159 a2161).symm.trans ho2131
    refine run_seq ?_
    refine run_seq ?_
    refine run_region rfl ?_
    refine ops_ex rfl (guard_none rfl) rfl rfl (ex_move rfl rfl) ?_
    refine ops_ex rfl (guard_none rfl) rfl rfl (ex_move rfl rfl) ?_
    refine ops_ex rfl (guard_none rfl) rfl rfl (ex_len (d := kOut) (xs := x2) rfl rfl Try.underlying26 hp2) ?_
    refine ops_ex rfl (guard_none rfl) rfl rfl (ex_lss rfl rfl rfl) ?_
    refine ops_nil ?_
    refine at_then ?_
    refine run_cond (b := (decide (a2161 < (x2.length : Int)))) rfl (fun hb2190 => ?_) (fun hb2190 => ?_)
    · replace ho2131 := cond_t hb2190 ho2131
      refine run_skip ?_
      refine at_then ?_
      refine run_seq ?_
      refine run_block ?_
      refine run_seq ?_
      obtain ⟨e2191, ho2131⟩ := chk_some ho2131
      obtain ⟨e2195, ho2131⟩ := chk_some ho2131
      obtain ⟨t2199, h2200, ho2131⟩ := bind_some ho2131
      refine run_meet (fun ρ_ w_ => ∃ u2201 : Value, ∃ b2203 : Nat, ρ_ = [(1, .int .i64 x1), (2, p2), (3, .int .i64 x3), (4, .bool x4), (11, v2158), (12, .int .i64 a2161), (13, .pointer (some ⟨b2203, 0, none⟩))] ∧ Mem w [] w_ [own kCoin 72 v2158 a2159, box b2203 69 [.int .i64 ((gt x2 a2161).fValue), u2201, .int .i64 t2199.fNeed, .int .i64 t2199.fAfter], own kInt 2 u2201 t2199.fKeys]) ?_ ?_
      · skip
        refine run_draw (fun w_ => Mem w [] w_ [own kCoin 72 v2158 a2159]) mixed rfl (l := #[false, false, false, false, false, false, false, false, false, false, false, false, false, false]) rfl ?_
        replace HM := HM.grow (fr_drew _)
        have hS := Mem.suf (M := []) HM
        refine drw_take (i := 0) (l' := #[true, false, false, false, false, false, false, false, false, false, false, false, false, false]) rfl (guard_none rfl) rfl rfl (by kernel_rfl) (fun w_ hS_ => (ex_move rfl rfl)) hS ?_
        refine drw_take (i := 1) (l' := #[true, true, false, false, false, false, false, false, false, false, false, false, false, false]) rfl (guard_none rfl) rfl rfl (by kernel_rfl) (fun w_ hS_ => (ex_move rfl rfl)) hS ?_
        obtain ⟨kv2193, hc2192, hk2194⟩ : ∃ u, CellsAt _ (sb p2) (so p2 + (a2161).toNat * 4) [(.int .i64 ((gt x2 a2161).fValue)), u, (.int .i64 ((gt x2 a2161).fRule.fNeed)), (.int .i64 ((gt x2 a2161).fRule.fAfter))] ∧ RdS kInt _ u ((gt x2 a2161).fRule.fKeys) := rd_with1 hp2 e2191
        refine drw_take (i := 2) (l' := #[true, true, true, false, false, false, false, false, false, false, false, false, false, false]) rfl (guard_none rfl) rfl rfl (by kernel_rfl) (fun w_ hS_ => (ex_indexAddr (d := kOut) rfl rfl rfl Try.underlying26 tsz69 hp2 (idx_lo e2191) (idx_hi e2191))) hS ?_
        refine drw_take (i := 3) (l' := #[true, true, true, true, false, false, false, false, false, false, false, false, false, false]) rfl (guard_none rfl) rfl rfl (by kernel_rfl) (fun w_ hS_ => (ex_fieldAddr (off' := so p2 + (a2161).toNat * 4) rfl rfl Try.underlying69 rfl tsz2 rfl)) hS ?_
        refine drw_take (i := 4) (l' := #[true, true, true, true, true, false, false, false, false, false, false, false, false, false]) rfl (guard_none rfl) rfl rfl (by kernel_rfl) (fun w_ hS_ => (ex_load1 rfl rfl Try.underlying2 rfl ((hS_.at_ hc2192) 0 _ rfl))) hS ?_
        refine drw_take (i := 5) (l' := #[true, true, true, true, true, true, false, false, false, false, false, false, false, false]) rfl (guard_none rfl) rfl rfl (by kernel_rfl) (fun w_ hS_ => (ex_move rfl rfl)) hS ?_
        refine drw_take (i := 6) (l' := #[true, true, true, true, true, true, true, false, false, false, false, false, false, false]) rfl (guard_none rfl) rfl rfl (by kernel_rfl) (fun w_ hS_ => (ex_move rfl rfl)) hS ?_
        obtain ⟨kv2197, hc2196, hk2198⟩ : ∃ u, CellsAt _ (sb p2) (so p2 + (a2161).toNat * 4) [(.int .i64 ((gt x2 a2161).fValue)), u, (.int .i64 ((gt x2 a2161).fRule.fNeed)), (.int .i64 ((gt x2 a2161).fRule.fAfter))] ∧ RdS kInt _ u ((gt x2 a2161).fRule.fKeys) := rd_with1 hp2 e2195
        refine drw_take (i := 7) (l' := #[true, true, true, true, true, true, true, true, false, false, false, false, false, false]) rfl (guard_none rfl) rfl rfl (by kernel_rfl) (fun w_ hS_ => (ex_indexAddr (d := kOut) rfl rfl rfl Try.underlying26 tsz69 hp2 (idx_lo e2195) (idx_hi e2195))) hS ?_
        refine drw_take (i := 8) (l' := #[true, true, true, true, true, true, true, true, true, false, false, false, false, false]) rfl (guard_none rfl) rfl rfl (by kernel_rfl) (fun w_ hS_ => (ex_fieldAddr (off' := so p2 + (a2161).toNat * 4 + 1) rfl rfl Try.underlying69 rfl tsz67 rfl)) hS ?_
        refine drw_take (i := 9) (l' := #[true, true, true, true, true, true, true, true, true, true, false, false, false, false]) rfl (guard_none rfl) rfl rfl (by kernel_rfl) (fun w_ hS_ => (ex_loadN (cs := [kv2197, (.int .i64 ((gt x2 a2161).fRule.fNeed)), (.int .i64 ((gt x2 a2161).fRule.fAfter))]) rfl rfl Try.underlying67 rfl tsz67 rfl ((hS_.at_ hc2196).sub 1 3 rfl))) hS ?_
        refine drw_any [10, 12] (by kernel_rfl) rfl (.cons ?_ (.cons ?_ .nil))
        · skip
          refine br_does (l' := #[true, true, true, true, true, true, true, true, true, true, true, false, false, false]) rfl (guard_none rfl) rfl rfl (by kernel_rfl) (does_callk rfl callok134 rfl (spec_l2Copy.calls (x0 := (gt x2 a2161).fRule) (HM.rd hk2198) h2200)) ?_
          rintro _ w2206 ⟨u2201, rfl, hn⟩
          replace HM : Mem w [] w2206 [own kInt 2 u2201 t2199.fKeys, own kCoin 72 v2158 a2159] := HM.call hn
          refine ⟨Mem.suf (M := [own kInt 2 u2201 t2199.fKeys]) HM, ?_⟩
          have hS := Mem.suf (M := [own kInt 2 u2201 t2199.fKeys]) HM
          refine drw_take (i := 11) (l' := #[true, true, true, true, true, true, true, true, true, true, true, true, false, false]) rfl (guard_none rfl) rfl rfl (by kernel_rfl) (fun w_ hS_ => (ex_build1 (fun u2201 => [(0, .int .i64 ((gt x2 a2161).fValue)), (1, .agg #[u2201, (.int .i64 t2199.fNeed), (.int .i64 t2199.fAfter)])]) (fun u2201 => #[.int .i64 ((gt x2 a2161).fValue), u2201, .int .i64 t2199.fNeed, .int .i64 t2199.fAfter]) rfl rfl (fun _ _ _ => by kernel_rfl) (HM.own_rd 0 rfl).isSl)) hS ?_
          refine drw_any [12] (by kernel_rfl) rfl (.cons ?_ .nil)
          refine br_does (l' := #[true, true, true, true, true, true, true, true, true, true, true, true, true, false]) rfl (guard_none rfl) rfl rfl (by kernel_rfl) (does_alloc (cs := [.int .i64 0, .slice none 0 0, .int .i64 0, .int .i64 0]) rfl tz69 rfl HM) ?_
          rintro _ w2207 ⟨b2203, rfl, HM⟩
          refine ⟨Mem.suf (M := [box b2203 69 [.int .i64 0, .slice none 0 0, .int .i64 0, .int .i64 0], own kInt 2 u2201 t2199.fKeys]) HM, ?_⟩
          have hS := Mem.suf (M := [box b2203 69 [.int .i64 0, .slice none 0 0, .int .i64 0, .int .i64 0], own kInt 2 u2201 t2199.fKeys]) HM
          refine drw_any [13] (by kernel_rfl) rfl (.cons ?_ .nil)
          refine br_doesS (l' := #[true, true, true, true, true, true, true, true, true, true, true, true, true, true]) rfl (guard_none rfl) rfl (by kernel_rfl) (does_store (vs := [.int .i64 ((gt x2 a2161).fValue), u2201, .int .i64 t2199.fNeed, .int .i64 t2199.fAfter]) (cs' := [.int .i64 ((gt x2 a2161).fValue), u2201, .int .i64 t2199.fNeed, .int .i64 t2199.fAfter]) rfl rfl rfl rfl tsz69 (Ones.int (Ones.rd (HM.own_rd 1 rfl) (Ones.int (Ones.int Ones.nil)))) rfl rfl HM) ?_
          rintro w2208 HM
          refine ⟨Mem.suf (M := [box b2203 69 [.int .i64 ((gt x2 a2161).fValue), u2201, .int .i64 t2199.fNeed, .int .i64 t2199.fAfter], own kInt 2 u2201 t2199.fKeys]) HM, ?_⟩
          have hS := Mem.suf (M := [box b2203 69 [.int .i64 ((gt x2 a2161).fValue), u2201, .int .i64 t2199.fNeed, .int .i64 t2199.fAfter], own kInt 2 u2201 t2199.fKeys]) HM
          refine drw_done (by kernel_rfl) ?_
          replace HM := HM.front 1 rfl rfl
          replace HM := HM.front 1 rfl rfl
          replace HM := HM.front 2 rfl rfl
          exact at_meet [(1, .int .i64 x1), (2, p2), (3, .int .i64 x3), (4, .bool x4), (11, v2158), (12, .int .i64 a2161), (13, .pointer (some ⟨b2203, 0, none⟩))] ⟨_, _, rfl, HM⟩ (Sub.cons rfl (Sub.cons rfl (Sub.cons rfl (Sub.cons rfl (Sub.cons rfl (Sub.cons rfl (Sub.cons rfl Sub.nil)))))))
        · skip
          refine br_does (l' := #[true, true, true, true, true, true, true, true, true, true, false, false, true, false]) rfl (guard_none rfl) rfl rfl (by kernel_rfl) (does_alloc (cs := [.int .i64 0, .slice none 0 0, .int .i64 0, .int .i64 0]) rfl tz69 rfl HM) ?_
          rintro _ w2209 ⟨b2203, rfl, HM⟩
          refine ⟨Mem.suf (M := [box b2203 69 [.int .i64 0, .slice none 0 0, .int .i64 0, .int .i64 0]]) HM, ?_⟩
          have hS := Mem.suf (M := [box b2203 69 [.int .i64 0, .slice none 0 0, .int .i64 0, .int .i64 0]]) HM
          refine drw_any [10] (by kernel_rfl) rfl (.cons ?_ .nil)
          refine br_does (l' := #[true, true, true, true, true, true, true, true, true, true, true, false, true, false]) rfl (guard_none rfl) rfl rfl (by kernel_rfl) (does_callk rfl callok134 rfl (spec_l2Copy.calls (x0 := (gt x2 a2161).fRule) (HM.rd hk2198) h2200)) ?_
          rintro _ w2210 ⟨u2201, rfl, hn⟩
          replace HM : Mem w [] w2210 [own kInt 2 u2201 t2199.fKeys, box b2203 69 [.int .i64 0, .slice none 0 0, .int .i64 0, .int .i64 0], own kCoin 72 v2158 a2159] := HM.call hn
          refine ⟨Mem.suf (M := [own kInt 2 u2201 t2199.fKeys, box b2203 69 [.int .i64 0, .slice none 0 0, .int .i64 0, .int .i64 0]]) HM, ?_⟩
          have hS := Mem.suf (M := [own kInt 2 u2201 t2199.fKeys, box b2203 69 [.int .i64 0, .slice none 0 0, .int .i64 0, .int .i64 0]]) HM
          refine drw_take (i := 11) (l' := #[true, true, true, true, true, true, true, true, true, true, true, true, true, false]) rfl (guard_none rfl) rfl rfl (by kernel_rfl) (fun w_ hS_ => (ex_build1 (fun u2201 => [(0, .int .i64 ((gt x2 a2161).fValue)), (1, .agg #[u2201, (.int .i64 t2199.fNeed), (.int .i64 t2199.fAfter)])]) (fun u2201 => #[.int .i64 ((gt x2 a2161).fValue), u2201, .int .i64 t2199.fNeed, .int .i64 t2199.fAfter]) rfl rfl (fun _ _ _ => by kernel_rfl) (HM.own_rd 0 rfl).isSl)) hS ?_
          replace HM := HM.front 1 rfl rfl
          refine drw_any [13] (by kernel_rfl) rfl (.cons ?_ .nil)
          refine br_doesS (l' := #[true, true, true, true, true, true, true, true, true, true, true, true, true, true]) rfl (guard_none rfl) rfl (by kernel_rfl) (does_store (vs := [.int .i64 ((gt x2 a2161).fValue), u2201, .int .i64 t2199.fNeed, .int .i64 t2199.fAfter]) (cs' := [.int .i64 ((gt x2 a2161).fValue), u2201, .int .i64 t2199.fNeed, .int .i64 t2199.fAfter]) rfl rfl rfl rfl tsz69 (Ones.int (Ones.rd (HM.own_rd 1 rfl) (Ones.int (Ones.int Ones.nil)))) rfl rfl HM) ?_
          rintro w2211 HM
          refine ⟨Mem.suf (M := [box b2203 69 [.int .i64 ((gt x2 a2161).fValue), u2201, .int .i64 t2199.fNeed, .int .i64 t2199.fAfter], own kInt 2 u2201 t2199.fKeys]) HM, ?_⟩
          have hS := Mem.suf (M := [box b2203 69 [.int .i64 ((gt x2 a2161).fValue), u2201, .int .i64 t2199.fNeed, .int .i64 t2199.fAfter], own kInt 2 u2201 t2199.fKeys]) HM
          refine drw_done (by kernel_rfl) ?_
          replace HM := HM.front 1 rfl rfl
          replace HM := HM.front 1 rfl rfl
          replace HM := HM.front 2 rfl rfl
          exact at_meet [(1, .int .i64 x1), (2, p2), (3, .int .i64 x3), (4, .bool x4), (11, v2158), (12, .int .i64 a2161), (13, .pointer (some ⟨b2203, 0, none⟩))] ⟨_, _, rfl, HM⟩ (Sub.cons rfl (Sub.cons rfl (Sub.cons rfl (Sub.cons rfl (Sub.cons rfl (Sub.cons rfl (Sub.cons rfl Sub.nil)))))))
      · rintro _ w2212 ⟨u2201, b2203, rfl, HM⟩
        refine at_then ?_
        obtain ⟨t2213, h2214, ho2131⟩ := bind_some ho2131
        refine run_region rfl ?_
        refine ops_ex rfl (guard_none rfl) rfl rfl (ex_move rfl rfl) ?_
        refine ops_ex rfl (guard_none rfl) rfl rfl (ex_move rfl rfl) ?_
        refine ops_ex rfl (guard_none rfl) rfl rfl (ex_move rfl rfl) ?_
        refine ops_ex rfl (guard_none rfl) rfl rfl (ex_build (cells := #[(.int .i64 x1), (.int .i64 a2161)]) rfl rfl (by kernel_rfl)) ?_
        refine ops_ex rfl (guard_none rfl) rfl rfl (ex_loadN (cs := [(.int .i64 ((gt x2 a2161).fValue)), u2201, (.int .i64 t2199.fNeed), (.int .i64 t2199.fAfter)]) rfl rfl Try.underlying69 rfl tsz69 rfl ((HM.box_at 1 rfl).sub 0 4 rfl)) ?_
        refine ops_ex rfl (guard_none rfl) rfl rfl (ex_move rfl rfl) ?_
        refine ops_ex rfl (guard_none rfl) rfl rfl (ex_move rfl rfl) ?_
        refine ops_ex rfl (guard_none rfl) rfl rfl (ex_build1 (fun u2201 => [(0, .agg #[(.int .i64 x1), (.int .i64 a2161)]), (1, .agg #[(.int .i64 ((gt x2 a2161).fValue)), u2201, (.int .i64 t2199.fNeed), (.int .i64 t2199.fAfter)]), (2, .int .i64 x3), (3, .bool x4)]) (fun u2201 => #[.int .i64 x1, .int .i64 a2161, .int .i64 ((gt x2 a2161).fValue), u2201, .int .i64 t2199.fNeed, .int .i64 t2199.fAfter, .int .i64 x3, .bool x4]) rfl rfl (fun _ _ _ => by kernel_rfl) (HM.own_rd 2 rfl).isSl) ?_
        replace HM := HM.front 2 rfl rfl
        replace HM := HM.front 1 rfl rfl
        obtain ⟨F2217, hF2218, hFn2219, hFl2220, HMh2221, hcl2222⟩ := HM.hide (Ms := [own kCoin 72 v2158 a2159, own kInt 2 u2201 t2199.fKeys])
        refine ops_does rfl (guard_none rfl) rfl rfl (does_callk rfl callok135 rfl (spec_l4Add.calls (x0 := a2159) (x1 := (⟨(⟨x1, a2161⟩ : Ref), (⟨(gt x2 a2161).fValue, t2199⟩ : Out), x3, x4⟩ : Coin)) (hide_olds _ _) hF2218 hFn2219 hFl2220 h2214)) ?_
        rintro u2215 w2223 ⟨_, rfl, hn⟩
        replace HM : Mem w [] w2223 [own kCoin 72 u2215 t2213, box b2203 69 [.int .i64 ((gt x2 a2161).fValue), u2201, .int .i64 t2199.fNeed, .int .i64 t2199.fAfter]] := hcl2222 _ _ hn
        refine ops_ex rfl (guard_none rfl) rfl rfl (ex_assign rfl rfl) ?_
        refine ops_nil ?_
        refine at_block ?_
        refine at_then ?_
        refine run_region rfl ?_
        refine ops_ex rfl (guard_none rfl) rfl rfl (ex_move rfl rfl) ?_
        refine ops_ex rfl (guard_none rfl) rfl rfl (ex_add rfl rfl rfl) ?_
        refine ops_ex rfl (guard_none rfl) rfl rfl (ex_assign rfl rfl) ?_
        refine ops_nil ?_
        replace HM := (HM.front 1 rfl rfl).drop
        exact at_again k2188 (ρ1 := [(1, .int .i64 x1), (2, p2), (3, .int .i64 x3), (4, .bool x4), (11, u2215), (12, .int .i64 (wrap64 (a2161 + 1)))]) (Nat.lt_succ_self _) ⟨_, _, _, ho2131, rfl, HM⟩ (Sub.cons rfl (Sub.cons rfl (Sub.cons rfl (Sub.cons rfl (Sub.cons rfl (Sub.cons rfl Sub.nil))))))
    · replace ho2131 := cond_f hb2190 ho2131
      refine run_exit ?_
      refine at_then_exit ?_
      refine at_then_exit ?_
      refine at_block_exit ?_
      exact at_mid (ρ' := [(11, v2158)]) ⟨_, _, (Option.some.inj ho2131), rfl, HM⟩ (Sub.cons rfl Sub.nil)
  · rintro _ w2224 ⟨v2127, a2128, rfl, rfl, HM⟩
    refine run_seq ?_
    refine run_region rfl ?_
    refine ops_ex rfl (guard_none rfl) rfl rfl (ex_move rfl rfl) ?_
    refine ops_ex rfl (guard_none rfl) rfl rfl (ex_assign rfl rfl) ?_
    refine ops_nil ?_
    refine at_then ?_
    refine run_ret ?_
    have hR := Option.some.inj H
    subst hR
    exact at_ret1 rfl rfl ⟨_, rfl, _, rfl, HM⟩

def spec_PutCoins.l0 (x2 : List Out) : Nat → Int → Option (CoinsResult ⊕ Unit)
  | 0, _ => none
  | k + 1, a2298 => (bif (decide (a2298 < (x2.length : Int))) then (chk (idxOk a2298 x2.length) ((spec_l4Out.f k (gt x2 a2298)).bind fun t2314 => (bif (t2314 != 0) then some (.inl (⟨t2314, ([] : List Coin)⟩ : CoinsResult)) else spec_PutCoins.l0 x2 k (wrap64 (a2298 + 1))))) else some (.inr ()))
theorem spec_PutCoins.l0_z (x2 : List Out) (a2298 : Int) : spec_PutCoins.l0 x2 0 a2298 = none := rfl
theorem spec_PutCoins.l0_s (x2 : List Out) (k : Nat) (a2298 : Int) : spec_PutCoins.l0 x2 (k + 1) a2298 = (bif (decide (a2298 < (x2.length : Int))) then (chk (idxOk a2298 x2.length) ((spec_l4Out.f k (gt x2 a2298)).bind fun t2314 => (bif (t2314 != 0) then some (.inl (⟨t2314, ([] : List Coin)⟩ : CoinsResult)) else spec_PutCoins.l0 x2 k (wrap64 (a2298 + 1))))) else some (.inr ())) := rfl
def spec_PutCoins.f (k : Nat) (x0 : List Coin) (x1 : Int) (x2 : List Out) (x3 : Int) (x4 : Bool) : Option CoinsResult := ((spec_l4Fault.f k x0).bind fun t2236 => (bif (t2236 != 0) then some (⟨t2236, ([] : List Coin)⟩ : CoinsResult) else ((spec_l1In.f k x1 1 60).bind fun t2247 => ((bif (!(!t2247)) then spec_l2Height.f k x3 else some default).bind fun t2249 => (bif ((!t2247) || (!t2249)) then some (⟨3, ([] : List Coin)⟩ : CoinsResult) else (bif (decide (4 < (x2.length : Int))) then some (⟨2, ([] : List Coin)⟩ : CoinsResult) else ((spec_PutCoins.l0 x2 k 0).bind fun o2288 => thn o2288 (fun r => some r) (fun _ => ((spec_l4Of.f k x0 x1).bind fun t2324 => (bif t2324 then some (⟨7, ([] : List Coin)⟩ : CoinsResult) else (bif (decide (40 < (wrap64 ((x0.length : Int) + (x2.length : Int))))) then some (⟨2, ([] : List Coin)⟩ : CoinsResult) else ((spec_l4Put.f k x0 x1 x2 x3 x4).bind fun t2334 => some (⟨0, t2334⟩ : CoinsResult)))))))))))))
theorem spec_PutCoins.calls {k : Nat} {x0 : List Coin} {x1 : Int} {x2 : List Out} {x3 : Int} {x4 : Bool} {p0 : Value} {p2 : Value} {w : World} (hp0 : RdS kCoin w p0 x0) (hp2 : RdS kOut w p2 x2) {r : CoinsResult} (H : spec_PutCoins.f k x0 x1 x2 x3 x4 = some r) :
    Calls Try.prog 28 ([p0, .int .i64 x1, p2, .int .i64 x3, .bool x4] : List Value).toArray w (fun e w_ => ∃ v, e = .returned v ∧ ∃ u0 : Value, v = (.agg #[.int .i64 r.fCode, u0]) ∧ Mem w [] w_ [own kCoin 72 u0 r.fCoins]) := by
  have HM := Mem.start w
  refine calls_run (N := 65) Try.func28 rfl rfl rfl rfl ?_
  unfold spec_PutCoins.f at H
  refine run_seq ?_
  refine run_region rfl ?_
  refine ops_does rfl (guard_none rfl) rfl rfl (does_alloc (cs := [.int .i64 0, .slice none 0 0]) rfl tz64 rfl HM) ?_
  rintro _ w2232 ⟨b2229, rfl, HM⟩
  refine ops_nil ?_
  refine at_then ?_
  refine run_seq ?_
  refine run_seq ?_
  obtain ⟨t2236, h2237, H⟩ := bind_some H
  refine run_region rfl ?_
  refine ops_ex rfl (guard_none rfl) rfl rfl (ex_move rfl rfl) ?_
  refine ops_does rfl (guard_none rfl) rfl rfl (does_callk rfl callok78 rfl (spec_l4Fault.calls (x0 := x0) (HM.rd hp0) h2237)) ?_
  rintro _ w2238 ⟨rfl, hn⟩
  replace HM : Mem w [] w2238 [box b2229 64 [.int .i64 0, .slice none 0 0]] := HM.call hn
  refine ops_ex rfl (guard_none rfl) rfl rfl (ex_assign rfl rfl) ?_
  refine ops_nil ?_
  refine at_then ?_
  refine run_seq ?_
  refine run_region rfl ?_
  refine ops_ex rfl (guard_none rfl) rfl rfl (ex_move rfl rfl) ?_
  refine ops_ex rfl (guard_none rfl) rfl rfl (ex_neq rfl rfl rfl) ?_
  refine ops_nil ?_
  refine at_then ?_
  refine run_cond (b := (t2236 != 0)) rfl (fun hb2239 => ?_) (fun hb2239 => ?_)
  · replace H := cond_t hb2239 H
    refine run_seq ?_
    refine run_region rfl ?_
    refine ops_ex rfl (guard_none rfl) rfl rfl (ex_move rfl rfl) ?_
    refine ops_ex rfl (guard_none rfl) rfl rfl (ex_build (cells := #[(.int .i64 t2236), (.slice none 0 0)]) rfl rfl (by kernel_rfl)) ?_
    refine ops_doesS rfl (guard_none rfl) rfl (does_store (vs := [.int .i64 t2236, .slice none 0 0]) (cs' := [.int .i64 t2236, .slice none 0 0]) rfl rfl rfl rfl tsz64 (Ones.int (Ones.sl Ones.nil)) rfl rfl HM) ?_
    rintro w2240 HM
    refine ops_nil ?_
    refine at_then ?_
    refine run_ret ?_
    refine at_then_ret ?_
    replace HM := HM.empty kCoin 72 none
    replace HM := HM.front 1 rfl rfl
    have hcb0 := HM.box_at 0 rfl
    replace HM := (HM.front 0 rfl rfl).drop
    have hR := Option.some.inj H
    subst hR
    exact at_retN rfl rfl Try.underlying64 rfl tsz64 rfl hcb0 ⟨_, rfl, _, rfl, HM⟩
  · replace H := cond_f hb2239 H
    refine run_skip ?_
    refine at_then ?_
    refine run_seq ?_
    refine run_seq ?_
    obtain ⟨t2247, h2248, H⟩ := bind_some H
    obtain ⟨t2249, h2250, H⟩ := bind_some H
    refine run_meet (fun ρ_ w_ => ρ_ = [(0, p0), (1, .int .i64 x1), (2, p2), (3, .int .i64 x3), (4, .bool x4), (10, .pointer (some ⟨b2229, 0, none⟩)), (27, .bool ((!t2247) || (!t2249)))] ∧ Mem w [] w_ [box b2229 64 [.int .i64 0, .slice none 0 0]]) ?_ ?_
    · skip
      refine run_region rfl ?_
      refine ops_ex rfl (guard_none rfl) rfl rfl (ex_move rfl rfl) ?_
      refine ops_does rfl (guard_none rfl) rfl rfl (does_callk rfl callok58 rfl (spec_l1In.calls (x0 := x1) (x1 := 1) (x2 := 60) h2248)) ?_
      rintro _ w2251 ⟨rfl, hn⟩
      replace HM : Mem w [] w2251 [box b2229 64 [.int .i64 0, .slice none 0 0]] := HM.call hn
      refine ops_ex rfl (guard_none rfl) rfl rfl (ex_not rfl rfl) ?_
      refine ops_ex rfl (guard_none rfl) rfl rfl (ex_move rfl rfl) ?_
      refine bool_cases (!t2247) (fun hg2252 => ?_) (fun hg2252 => ?_)
      · skip
        refine ops_off rfl (guard_off rfl rfl rfl hg2252) rfl rfl ?_
        refine ops_off rfl (guard_off rfl rfl rfl hg2252) rfl rfl ?_
        refine ops_off rfl (guard_off rfl rfl rfl hg2252) rfl rfl ?_
        have hg2253 : ((!t2247) || (!t2249)) = true := by simp only [hg2252, Bool.and_true, Bool.true_and, Bool.and_false, Bool.false_and, Bool.or_true, Bool.true_or, Bool.or_false, Bool.false_or, Bool.not_true, Bool.not_false, Bool.not_not]
        refine ops_ex (v := .bool ((!t2247) || (!t2249))) rfl (guard_none rfl) rfl rfl (ex_por_t rfl rfl hg2252) ?_
        refine ops_nil ?_
        exact at_meet [(0, p0), (1, .int .i64 x1), (2, p2), (3, .int .i64 x3), (4, .bool x4), (10, .pointer (some ⟨b2229, 0, none⟩)), (27, .bool ((!t2247) || (!t2249)))] ⟨rfl, HM⟩ (Sub.cons rfl (Sub.cons rfl (Sub.cons rfl (Sub.cons rfl (Sub.cons rfl (Sub.cons rfl (Sub.cons rfl Sub.nil)))))))
      · skip
        refine ops_ex rfl (guard_on rfl rfl rfl hg2252) rfl rfl (ex_move rfl rfl) ?_
        refine ops_does rfl (guard_on rfl rfl rfl hg2252) rfl rfl (does_callk rfl callok79 rfl (spec_l2Height.calls (x0 := x3) (cond_t (not_mk hg2252) h2250))) ?_
        rintro _ w2254 ⟨rfl, hn⟩
        replace HM : Mem w [] w2254 [box b2229 64 [.int .i64 0, .slice none 0 0]] := HM.call hn
        refine ops_ex rfl (guard_on rfl rfl rfl hg2252) rfl rfl (ex_not rfl rfl) ?_
        refine ops_ex (v := .bool ((!t2247) || (!t2249))) rfl (guard_none rfl) rfl rfl (ex_por_f rfl rfl hg2252 rfl) ?_
        refine ops_nil ?_
        exact at_meet [(0, p0), (1, .int .i64 x1), (2, p2), (3, .int .i64 x3), (4, .bool x4), (10, .pointer (some ⟨b2229, 0, none⟩)), (27, .bool ((!t2247) || (!t2249)))] ⟨rfl, HM⟩ (Sub.cons rfl (Sub.cons rfl (Sub.cons rfl (Sub.cons rfl (Sub.cons rfl (Sub.cons rfl (Sub.cons rfl Sub.nil)))))))
    · rintro _ w2255 ⟨rfl, HM⟩
      refine at_then ?_
      refine run_cond (b := ((!t2247) || (!t2249))) rfl (fun hb2256 => ?_) (fun hb2256 => ?_)
      · replace H := cond_t hb2256 H
        refine run_seq ?_
        refine run_region rfl ?_
        refine ops_ex rfl (guard_none rfl) rfl rfl (ex_build (cells := #[(.int .i64 3), (.slice none 0 0)]) rfl rfl (by kernel_rfl)) ?_
        refine ops_doesS rfl (guard_none rfl) rfl (does_store (vs := [.int .i64 3, .slice none 0 0]) (cs' := [.int .i64 3, .slice none 0 0]) rfl rfl rfl rfl tsz64 (Ones.int (Ones.sl Ones.nil)) rfl rfl HM) ?_
        rintro w2257 HM
        refine ops_nil ?_
        refine at_then ?_
        refine run_ret ?_
        refine at_then_ret ?_
        replace HM := HM.empty kCoin 72 none
        replace HM := HM.front 1 rfl rfl
        have hcb0 := HM.box_at 0 rfl
        replace HM := (HM.front 0 rfl rfl).drop
        have hR := Option.some.inj H
        subst hR
        exact at_retN rfl rfl Try.underlying64 rfl tsz64 rfl hcb0 ⟨_, rfl, _, rfl, HM⟩
      · replace H := cond_f hb2256 H
        refine run_skip ?_
        refine at_then ?_
        refine run_seq ?_
        refine run_seq ?_
        refine run_region rfl ?_
        refine ops_ex rfl (guard_none rfl) rfl rfl (ex_move rfl rfl) ?_
        refine ops_ex rfl (guard_none rfl) rfl rfl (ex_len (d := kOut) (xs := x2) rfl rfl Try.underlying26 hp2) ?_
        refine ops_ex rfl (guard_none rfl) rfl rfl (ex_gtr rfl rfl rfl) ?_
        refine ops_nil ?_
        refine at_then ?_
        refine run_cond (b := (decide (4 < (x2.length : Int)))) rfl (fun hb2260 => ?_) (fun hb2260 => ?_)
        · replace H := cond_t hb2260 H
          refine run_seq ?_
          refine run_region rfl ?_
          refine ops_ex rfl (guard_none rfl) rfl rfl (ex_build (cells := #[(.int .i64 2), (.slice none 0 0)]) rfl rfl (by kernel_rfl)) ?_
          refine ops_doesS rfl (guard_none rfl) rfl (does_store (vs := [.int .i64 2, .slice none 0 0]) (cs' := [.int .i64 2, .slice none 0 0]) rfl rfl rfl rfl tsz64 (Ones.int (Ones.sl Ones.nil)) rfl rfl HM) ?_
          rintro w2261 HM
          refine ops_nil ?_
          refine at_then ?_
          refine run_ret ?_
          refine at_then_ret ?_
          replace HM := HM.empty kCoin 72 none
          replace HM := HM.front 1 rfl rfl
          have hcb0 := HM.box_at 0 rfl
          replace HM := (HM.front 0 rfl rfl).drop
          have hR := Option.some.inj H
          subst hR
          exact at_retN rfl rfl Try.underlying64 rfl tsz64 rfl hcb0 ⟨_, rfl, _, rfl, HM⟩
        · replace H := cond_f hb2260 H
          refine run_skip ?_
          refine at_then ?_
          obtain ⟨o2288, ho2289, H⟩ := bind_some H
          refine run_mid (fun ρ_ w_ => Sum.inr () = o2288 ∧ ρ_ = [(0, p0), (1, .int .i64 x1), (2, p2), (3, .int .i64 x3), (4, .bool x4), (10, .pointer (some ⟨b2229, 0, none⟩))] ∧ Mem w [] w_ [box b2229 64 [.int .i64 0, .slice none 0 0]]) ?_ ?_
          · skip
            refine run_seq ?_
            refine run_region rfl ?_
            refine ops_ex rfl (guard_none rfl) rfl rfl (ex_assign rfl rfl) ?_
            refine ops_nil ?_
            refine at_then ?_
            refine run_block ?_
            refine run_loop (fun k_ ρ_ w_ => ∃ a2298 : Int, spec_PutCoins.l0 x2 k_ a2298 = some o2288 ∧ ρ_ = [(0, p0), (1, .int .i64 x1), (2, p2), (3, .int .i64 x3), (4, .bool x4), (10, .pointer (some ⟨b2229, 0, none⟩)), (12, .int .i64 a2298)] ∧ Mem w [] w_ [box b2229 64 [.int .i64 0, .slice none 0 0]]) k (ρ1 := [(0, p0), (1, .int .i64 x1), (2, p2), (3, .int .i64 x3), (4, .bool x4), (10, .pointer (some ⟨b2229, 0, none⟩)), (12, .int .i64 0)]) ⟨_, ho2289, rfl, HM⟩ (Sub.cons rfl (Sub.cons rfl (Sub.cons rfl (Sub.cons rfl (Sub.cons rfl (Sub.cons rfl (Sub.cons rfl Sub.nil))))))) ?_
            clear HM ho2289
            rintro k2307 _ w2308 ⟨a2298, ho2289, rfl, HM⟩
            obtain _ | k2307 := k2307
            · exact nomatch ((spec_PutCoins.l0_z x2 a2298).symm.trans ho2289)
            replace ho2289 := (spec_PutCoins.l0_s x2 k2307 a2298).symm.trans ho2289
            refine run_seq ?_
            refine run_seq ?_
            refine run_region rfl ?_
            refine ops_ex rfl (guard_none rfl) rfl rfl (ex_move rfl rfl) ?_
            refine ops_ex rfl (guard_none rfl) rfl rfl (ex_move rfl rfl) ?_
            refine ops_ex rfl (guard_none rfl) rfl rfl (ex_len (d := kOut) (xs := x2) rfl rfl Try.underlying26 hp2) ?_
            refine ops_ex rfl (guard_none rfl) rfl rfl (ex_lss rfl rfl rfl) ?_
            refine ops_nil ?_
            refine at_then ?_
            refine run_cond (b := (decide (a2298 < (x2.length : Int)))) rfl (fun hb2309 => ?_) (fun hb2309 => ?_)
            · replace ho2289 := cond_t hb2309 ho2289
              refine run_skip ?_
              refine at_then ?_
              refine run_seq ?_
              refine run_block ?_
              refine run_seq ?_
              obtain ⟨e2310, ho2289⟩ := chk_some ho2289
              obtain ⟨t2314, h2315, ho2289⟩ := bind_some ho2289
              refine run_region rfl ?_
              refine ops_ex rfl (guard_none rfl) rfl rfl (ex_move rfl rfl) ?_
              refine ops_ex rfl (guard_none rfl) rfl rfl (ex_move rfl rfl) ?_
              obtain ⟨kv2312, hc2311, hk2313⟩ : ∃ u, CellsAt _ (sb p2) (so p2 + (a2298).toNat * 4) [(.int .i64 ((gt x2 a2298).fValue)), u, (.int .i64 ((gt x2 a2298).fRule.fNeed)), (.int .i64 ((gt x2 a2298).fRule.fAfter))] ∧ RdS kInt _ u ((gt x2 a2298).fRule.fKeys) := rd_with1 hp2 e2310
              refine ops_ex rfl (guard_none rfl) rfl rfl (ex_indexAddr (d := kOut) rfl rfl rfl Try.underlying26 tsz69 hp2 (idx_lo e2310) (idx_hi e2310)) ?_
              refine ops_does rfl (guard_none rfl) rfl rfl (does_callk rfl callok80 rfl (spec_l4Out.calls (x0 := (gt x2 a2298)) (HM.at_ hc2311) (HM.rd hk2313) h2315)) ?_
              rintro _ w2316 ⟨rfl, hn⟩
              replace HM : Mem w [] w2316 [box b2229 64 [.int .i64 0, .slice none 0 0]] := HM.call hn
              refine ops_ex rfl (guard_none rfl) rfl rfl (ex_assign rfl rfl) ?_
              refine ops_nil ?_
              refine at_then ?_
              refine run_seq ?_
              refine run_region rfl ?_
              refine ops_ex rfl (guard_none rfl) rfl rfl (ex_move rfl rfl) ?_
              refine ops_ex rfl (guard_none rfl) rfl rfl (ex_neq rfl rfl rfl) ?_
              refine ops_nil ?_
              refine at_then ?_
              refine run_cond (b := (t2314 != 0)) rfl (fun hb2317 => ?_) (fun hb2317 => ?_)
              · replace ho2289 := cond_t hb2317 ho2289
                refine run_seq ?_
                refine run_region rfl ?_
                refine ops_ex rfl (guard_none rfl) rfl rfl (ex_move rfl rfl) ?_
                refine ops_ex rfl (guard_none rfl) rfl rfl (ex_build (cells := #[(.int .i64 t2314), (.slice none 0 0)]) rfl rfl (by kernel_rfl)) ?_
                refine ops_doesS rfl (guard_none rfl) rfl (does_store (vs := [.int .i64 t2314, .slice none 0 0]) (cs' := [.int .i64 t2314, .slice none 0 0]) rfl rfl rfl rfl tsz64 (Ones.int (Ones.sl Ones.nil)) rfl rfl HM) ?_
                rintro w2318 HM
                refine ops_nil ?_
                refine at_then ?_
                refine run_ret ?_
                refine at_block_ret ?_
                refine at_then_ret ?_
                refine at_then_ret ?_
                refine at_block_ret ?_
                refine at_then_ret ?_
                replace HM := HM.empty kCoin 72 none
                replace HM := HM.front 1 rfl rfl
                have hcb0 := HM.box_at 0 rfl
                replace HM := (HM.front 0 rfl rfl).drop
                have hR := Option.some.inj ho2289
                subst hR
                have hT := thn_inl H
                have hR := Option.some.inj hT
                subst hR
                exact at_retN rfl rfl Try.underlying64 rfl tsz64 rfl hcb0 ⟨_, rfl, _, rfl, HM⟩
              · replace ho2289 := cond_f hb2317 ho2289
                refine run_skip ?_
                refine at_block ?_
                refine at_then ?_
                refine run_region rfl ?_
                refine ops_ex rfl (guard_none rfl) rfl rfl (ex_move rfl rfl) ?_
                refine ops_ex rfl (guard_none rfl) rfl rfl (ex_add rfl rfl rfl) ?_
                refine ops_ex rfl (guard_none rfl) rfl rfl (ex_assign rfl rfl) ?_
                refine ops_nil ?_
                exact at_again k2307 (ρ1 := [(0, p0), (1, .int .i64 x1), (2, p2), (3, .int .i64 x3), (4, .bool x4), (10, .pointer (some ⟨b2229, 0, none⟩)), (12, .int .i64 (wrap64 (a2298 + 1)))]) (Nat.lt_succ_self _) ⟨_, ho2289, rfl, HM⟩ (Sub.cons rfl (Sub.cons rfl (Sub.cons rfl (Sub.cons rfl (Sub.cons rfl (Sub.cons rfl (Sub.cons rfl Sub.nil)))))))
            · replace ho2289 := cond_f hb2309 ho2289
              refine run_exit ?_
              refine at_then_exit ?_
              refine at_then_exit ?_
              refine at_block_exit ?_
              exact at_mid (ρ' := [(0, p0), (1, .int .i64 x1), (2, p2), (3, .int .i64 x3), (4, .bool x4), (10, .pointer (some ⟨b2229, 0, none⟩))]) ⟨(Option.some.inj ho2289), rfl, HM⟩ (Sub.cons rfl (Sub.cons rfl (Sub.cons rfl (Sub.cons rfl (Sub.cons rfl (Sub.cons rfl Sub.nil))))))
          · rintro _ w2320 ⟨rfl, rfl, HM⟩
            replace H := (thn_inr H)
            refine run_seq ?_
            refine run_seq ?_
            obtain ⟨t2324, h2325, H⟩ := bind_some H
            refine run_region rfl ?_
            refine ops_ex rfl (guard_none rfl) rfl rfl (ex_move rfl rfl) ?_
            refine ops_ex rfl (guard_none rfl) rfl rfl (ex_move rfl rfl) ?_
            refine ops_does rfl (guard_none rfl) rfl rfl (does_callk rfl callok81 rfl (spec_l4Of.calls (x0 := x0) (x1 := x1) (HM.rd hp0) h2325)) ?_
            rintro _ w2326 ⟨rfl, hn⟩
            replace HM : Mem w [] w2326 [box b2229 64 [.int .i64 0, .slice none 0 0]] := HM.call hn
            refine ops_nil ?_
            refine at_then ?_
            refine run_cond (b := t2324) rfl (fun hb2327 => ?_) (fun hb2327 => ?_)
            · replace H := cond_t hb2327 H
              refine run_seq ?_
              refine run_region rfl ?_
              refine ops_ex rfl (guard_none rfl) rfl rfl (ex_build (cells := #[(.int .i64 7), (.slice none 0 0)]) rfl rfl (by kernel_rfl)) ?_
              refine ops_doesS rfl (guard_none rfl) rfl (does_store (vs := [.int .i64 7, .slice none 0 0]) (cs' := [.int .i64 7, .slice none 0 0]) rfl rfl rfl rfl tsz64 (Ones.int (Ones.sl Ones.nil)) rfl rfl HM) ?_
              rintro w2328 HM
              refine ops_nil ?_
              refine at_then ?_
              refine run_ret ?_
              refine at_then_ret ?_
              replace HM := HM.empty kCoin 72 none
              replace HM := HM.front 1 rfl rfl
              have hcb0 := HM.box_at 0 rfl
              replace HM := (HM.front 0 rfl rfl).drop
              have hR := Option.some.inj H
              subst hR
              exact at_retN rfl rfl Try.underlying64 rfl tsz64 rfl hcb0 ⟨_, rfl, _, rfl, HM⟩
            · replace H := cond_f hb2327 H
              refine run_skip ?_
              refine at_then ?_
              refine run_seq ?_
              refine run_seq ?_
              refine run_region rfl ?_
              refine ops_ex rfl (guard_none rfl) rfl rfl (ex_move rfl rfl) ?_
              refine ops_ex rfl (guard_none rfl) rfl rfl (ex_len (d := kCoin) (xs := x0) rfl rfl Try.underlying60 hp0) ?_
              refine ops_ex rfl (guard_none rfl) rfl rfl (ex_move rfl rfl) ?_
              refine ops_ex rfl (guard_none rfl) rfl rfl (ex_len (d := kOut) (xs := x2) rfl rfl Try.underlying26 hp2) ?_
              refine ops_ex rfl (guard_none rfl) rfl rfl (ex_add rfl rfl rfl) ?_
              refine ops_ex rfl (guard_none rfl) rfl rfl (ex_gtr rfl rfl rfl) ?_
              refine ops_nil ?_
              refine at_then ?_
              refine run_cond (b := (decide (40 < (wrap64 ((x0.length : Int) + (x2.length : Int)))))) rfl (fun hb2331 => ?_) (fun hb2331 => ?_)
              · replace H := cond_t hb2331 H
                refine run_seq ?_
                refine run_region rfl ?_
                refine ops_ex rfl (guard_none rfl) rfl rfl (ex_build (cells := #[(.int .i64 2), (.slice none 0 0)]) rfl rfl (by kernel_rfl)) ?_
                refine ops_doesS rfl (guard_none rfl) rfl (does_store (vs := [.int .i64 2, .slice none 0 0]) (cs' := [.int .i64 2, .slice none 0 0]) rfl rfl rfl rfl tsz64 (Ones.int (Ones.sl Ones.nil)) rfl rfl HM) ?_
                rintro w2332 HM
                refine ops_nil ?_
                refine at_then ?_
                refine run_ret ?_
                refine at_then_ret ?_
                replace HM := HM.empty kCoin 72 none
                replace HM := HM.front 1 rfl rfl
                have hcb0 := HM.box_at 0 rfl
                replace HM := (HM.front 0 rfl rfl).drop
                have hR := Option.some.inj H
                subst hR
                exact at_retN rfl rfl Try.underlying64 rfl tsz64 rfl hcb0 ⟨_, rfl, _, rfl, HM⟩
              · replace H := cond_f hb2331 H
                refine run_skip ?_
                refine at_then ?_
                refine run_seq ?_
                obtain ⟨t2334, h2335, H⟩ := bind_some H
                refine run_region rfl ?_
                refine ops_ex rfl (guard_none rfl) rfl rfl (ex_move rfl rfl) ?_
                refine ops_ex rfl (guard_none rfl) rfl rfl (ex_move rfl rfl) ?_
                refine ops_ex rfl (guard_none rfl) rfl rfl (ex_move rfl rfl) ?_
                refine ops_ex rfl (guard_none rfl) rfl rfl (ex_move rfl rfl) ?_
                refine ops_ex rfl (guard_none rfl) rfl rfl (ex_move rfl rfl) ?_
                refine ops_does rfl (guard_none rfl) rfl rfl (does_callk rfl callok82 rfl (spec_l4Put.calls (x0 := x0) (x1 := x1) (x2 := x2) (x3 := x3) (x4 := x4) (HM.rd hp0) (HM.rd hp2) h2335)) ?_
                rintro u2336 w2338 ⟨_, rfl, hn⟩
                replace HM : Mem w [] w2338 [own kCoin 72 u2336 t2334, box b2229 64 [.int .i64 0, .slice none 0 0]] := HM.call hn
                refine ops_ex rfl (guard_none rfl) rfl rfl (ex_build1 (fun u2336 => [(1, u2336)]) (fun u2336 => #[.int .i64 0, u2336]) rfl rfl (fun _ _ _ => by kernel_rfl) (HM.own_rd 0 rfl).isSl) ?_
                replace HM := HM.front 1 rfl rfl
                refine ops_doesS rfl (guard_none rfl) rfl (does_store (vs := [.int .i64 0, u2336]) (cs' := [.int .i64 0, u2336]) rfl rfl rfl rfl tsz64 (Ones.int (Ones.rd (HM.own_rd 1 rfl) Ones.nil)) rfl rfl HM) ?_
                rintro w2339 HM
                refine ops_nil ?_
                refine at_then ?_
                refine run_ret ?_
                have hcb0 := HM.box_at 0 rfl
                replace HM := (HM.front 0 rfl rfl).drop
                have hR := Option.some.inj H
                subst hR
                exact at_retN rfl rfl Try.underlying64 rfl tsz64 rfl hcb0 ⟨_, rfl, _, rfl, HM⟩
end Go.Proofs.Ytbbcabpnkdilgaa.Zk
