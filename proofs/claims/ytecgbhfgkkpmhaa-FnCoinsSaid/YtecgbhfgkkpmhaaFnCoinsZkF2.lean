/- What functions of the program compute, each as a plain function, and that they do. Conditions: as each theorem states them. -/
import Derived.Test.YtecgbhfgkkpmhaaFnCoinsZkF1
namespace Go.Proofs.Ytecgbhfgkkpmhaa.Zk
open Go Go.RowKit Go.IntWalk Go.Proofs
set_option linter.unusedVariables false
set_option linter.unusedSimpArgs false
set_option maxRecDepth 100000
set_option maxHeartbeats 4000000
def spec_l4Of.l0 (x0 : List Coin) (x1 : Int) : Nat → Int → Option (Bool ⊕ Unit)
 | 0, _ => none
 | k + 1, a1631 => (bif (decide (a1631 < (x0.length : Int))) then (chk (idxOk a1631 x0.length) (bif (((gt x0 a1631).fRef.fTx) == x1) then some (.inl true) else spec_l4Of.l0 x0 x1 k (wrap64 (a1631 + 1)))) else some (.inr ()))
theorem spec_l4Of.l0_z (x0 : List Coin) (x1 : Int) (a1631 : Int) : spec_l4Of.l0 x0 x1 0 a1631 = none := rfl
theorem spec_l4Of.l0_s (x0 : List Coin) (x1 : Int) (k : Nat) (a1631 : Int) : spec_l4Of.l0 x0 x1 (k + 1) a1631 = (bif (decide (a1631 < (x0.length : Int))) then (chk (idxOk a1631 x0.length) (bif (((gt x0 a1631).fRef.fTx) == x1) then some (.inl true) else spec_l4Of.l0 x0 x1 k (wrap64 (a1631 + 1)))) else some (.inr ())) := rfl
def spec_l4Of.f (k : Nat) (x0 : List Coin) (x1 : Int) : Option Bool := ((spec_l4Of.l0 x0 x1 k 0).bind fun o1623 => thn o1623 (fun r => some r) (fun _ => some false))
theorem spec_l4Of.calls {k : Nat} {x0 : List Coin} {x1 : Int} {p0 : Value} {w : World} (hp0 : RdS kCoin w p0 x0) {r : Bool} (H : spec_l4Of.f k x0 x1 = some r) :
  Calls Try.prog 27 ([p0, .int .i64 x1] : List Value).toArray w (fun e w_ => ∃ v, e = .returned v ∧ v = (.bool r) ∧ Mem w [] w_ []) := by
 have HM := Mem.start w
 refine calls_run (N := 20) Try.func27 rfl rfl rfl rfl ?_
 unfold spec_l4Of.f at H
 refine run_seq ?_
 refine run_region rfl ?_
 refine ox rfl rfl rfl rfl (ex_assign rfl rfl) ?_
 refine ops_nil (at_then ?_)
 obtain ⟨o1623, ho1624, H⟩ := bind_some H
 refine run_mid (fun ρ_ w_ => Sum.inr () = o1623 ∧ ρ_ = [] ∧ Mem w [] w_ []) ?_ ?_
 ·skip
  refine run_seq ?_
  refine run_region rfl ?_
  refine ox rfl rfl rfl rfl (ex_assign rfl rfl) ?_
  refine ops_nil (at_then ?_)
  refine run_block ?_
  refine run_loop (fun k_ ρ_ w_ => ∃ a1631 : Int, spec_l4Of.l0 x0 x1 k_ a1631 = some o1623 ∧ ρ_ = [(0, p0), (1, .int .i64 x1), (5, .int .i64 a1631)] ∧ Mem w [] w_ []) k (ρ1 := [(0, p0), (1, .int .i64 x1), (5, .int .i64 0)]) ⟨_, ho1624, rfl, HM⟩ (Sub.cons rfl (Sub.cons rfl (Sub.cons rfl Sub.nil))) ?_
  clear HM ho1624
  rintro k1638 _ w1639 ⟨a1631, ho1624, rfl, HM⟩
  obtain _ | k1638 := k1638
  ·exact nomatch ((spec_l4Of.l0_z x0 x1 a1631).symm.trans ho1624)
  replace ho1624 := (spec_l4Of.l0_s x0 x1 k1638 a1631).symm.trans ho1624
  refine run_seq ?_
  refine run_seq ?_
  refine run_region rfl ?_
  refine ox rfl rfl rfl rfl (ex_move rfl rfl) ?_
  refine ox rfl rfl rfl rfl (ex_move rfl rfl) ?_
  refine ox rfl rfl rfl rfl (ex_len (d := kCoin) (xs := x0) rfl rfl Try.underlying24 hp0) ?_
  refine ox rfl rfl rfl rfl (ex_lss rfl rfl rfl) ?_
  refine ops_nil (at_then ?_)
  refine run_cond (b := (decide (a1631 < (x0.length : Int)))) rfl (fun hb1640 => ?_) (fun hb1640 => ?_)
  ·replace ho1624 := cond_t hb1640 ho1624
   refine run_skip ?_
   refine at_then ?_
   refine run_seq ?_
   refine run_block ?_
   refine run_seq ?_
   obtain ⟨e1641, ho1624⟩ := chk_some ho1624
   refine run_region rfl ?_
   refine ox rfl rfl rfl rfl (ex_move rfl rfl) ?_
   refine ox rfl rfl rfl rfl (ex_move rfl rfl) ?_
   obtain ⟨kv1643, hc1642, hk1644⟩ : ∃ u, CellsAt _ (sb p0) (so p0 + (a1631).toNat * 8) [(.int .i64 ((gt x0 a1631).fRef.fTx)), (.int .i64 ((gt x0 a1631).fRef.fAt)), (.int .i64 ((gt x0 a1631).fOut.fValue)), u, (.int .i64 ((gt x0 a1631).fOut.fRule.fNeed)), (.int .i64 ((gt x0 a1631).fOut.fRule.fAfter)), (.int .i64 ((gt x0 a1631).fHeight)), (.bool ((gt x0 a1631).fMined))] ∧ RdS kInt _ u ((gt x0 a1631).fOut.fRule.fKeys) := rd_with1 hp0 e1641
   refine ox rfl rfl rfl rfl (ex_indexAddr (d := kCoin) rfl rfl rfl Try.underlying24 tsz41 hp0 (idx_lo e1641) (idx_hi e1641)) ?_
   refine ox rfl rfl rfl rfl (ex_fieldAddr (off' := so p0 + (a1631).toNat * 8) rfl rfl Try.underlying41 rfl tsz38 rfl) ?_
   refine ox rfl rfl rfl rfl (ex_fieldAddr (off' := so p0 + (a1631).toNat * 8) rfl rfl Try.underlying38 rfl tsz2 rfl) ?_
   refine ox rfl rfl rfl rfl (ex_load1 rfl rfl Try.underlying2 rfl ((HM.at_ hc1642) 0 _ rfl)) ?_
   refine ox rfl rfl rfl rfl (ex_move rfl rfl) ?_
   refine ox rfl rfl rfl rfl (ex_eql rfl rfl rfl) ?_
   refine ops_nil (at_then ?_)
   refine run_cond (b := (((gt x0 a1631).fRef.fTx) == x1)) rfl (fun hb1645 => ?_) (fun hb1645 => ?_)
   ·replace ho1624 := cond_t hb1645 ho1624
    refine run_seq ?_
    refine run_region rfl ?_
    refine ox rfl rfl rfl rfl (ex_assign rfl rfl) ?_
    refine ops_nil (at_then ?_)
    refine run_ret ?_
    refine at_block_ret ?_
    refine at_then_ret ?_
    refine at_then_ret ?_
    refine at_block_ret ?_
    refine at_then_ret ?_
    have hR := Option.some.inj ho1624
    subst hR
    have hT := thn_inl H
    have hR := Option.some.inj hT
    subst hR
    exact at_ret1 rfl rfl ⟨_, rfl, rfl, HM⟩
   ·replace ho1624 := cond_f hb1645 ho1624
    refine run_skip ?_
    refine at_block ?_
    refine at_then ?_
    refine run_region rfl ?_
    refine ox rfl rfl rfl rfl (ex_move rfl rfl) ?_
    refine ox rfl rfl rfl rfl (ex_add rfl rfl rfl) ?_
    refine ox rfl rfl rfl rfl (ex_assign rfl rfl) ?_
    refine ops_nil ?_
    exact at_again k1638 (ρ1 := [(0, p0), (1, .int .i64 x1), (5, .int .i64 (wrap64 (a1631 + 1)))]) (Nat.lt_succ_self _) ⟨_, ho1624, rfl, HM⟩ (Sub.cons rfl (Sub.cons rfl (Sub.cons rfl Sub.nil)))
  ·replace ho1624 := cond_f hb1640 ho1624
   refine run_exit ?_
   refine at_then_exit ?_
   refine at_then_exit ?_
   refine at_block_exit ?_
   exact at_mid (ρ' := []) ⟨(Option.some.inj ho1624), rfl, HM⟩ Sub.nil
 ·rintro _ w1646 ⟨rfl, rfl, HM⟩
  replace H := (thn_inr H)
  refine run_seq ?_
  refine run_region rfl ?_
  refine ox rfl rfl rfl rfl (ex_assign rfl rfl) ?_
  refine ops_nil (at_then ?_)
  refine run_ret ?_
  have hR := Option.some.inj H
  subst hR
  exact at_ret1 rfl rfl ⟨_, rfl, rfl, HM⟩

def spec_l2Copy.f (k : Nat) (x0 : Rule) : Option Rule := (chk (leB ((([] : List Int).length + x0.fKeys.length) * 8) 140737488355328) (some (⟨([] : List Int) ++ x0.fKeys, x0.fNeed, x0.fAfter⟩ : Rule)))
theorem spec_l2Copy.calls {k : Nat} {x0 : Rule} {p0_0 : Value} {w : World} (hp0_0 : RdS kInt w p0_0 x0.fKeys) {r : Rule} (H : spec_l2Copy.f k x0 = some r) :
  Calls Try.prog 53 ([.agg #[p0_0, (.int .i64 x0.fNeed), (.int .i64 x0.fAfter)]] : List Value).toArray w (fun e w_ => ∃ v, e = .returned v ∧ ∃ u0 : Value, v = (.agg #[u0, .int .i64 r.fNeed, .int .i64 r.fAfter]) ∧ Mem w [] w_ [own kInt 2 u0 r.fKeys]) := by
 have HM := Mem.start w
 refine calls_run (N := 9) Try.func53 rfl rfl rfl rfl ?_
 unfold spec_l2Copy.f at H
 refine run_seq ?_
 refine run_region rfl ?_
 refine od rfl rfl rfl rfl (does_box (cs := [p0_0, .int .i64 x0.fNeed, .int .i64 x0.fAfter]) rfl rfl rfl HM) ?_
 rintro _ w1684 ⟨b1678, rfl, HM⟩
 refine od rfl rfl rfl rfl (does_alloc (cs := [.slice none 0 0, .int .i64 0, .int .i64 0]) rfl tz34 rfl HM) ?_
 rintro _ w1685 ⟨b1681, rfl, HM⟩
 refine ops_nil (at_then (run_seq ?_))
 obtain ⟨e1689, H⟩ := chk_some H
 refine run_region rfl ?_
 refine od rfl rfl rfl rfl (does_lit (e := 2) (cs := []) (xs := ([] : List Int)) kInt rfl rfl (fun _ => by kernel_rfl) rfl rfl (fun _ _ h => by have h' : _ = [] := h; subst h'; exact .nil) HM.emp) ?_
 rintro v1686 w1692 HM
 refine ox rfl rfl rfl rfl (ex_fieldAddr (off' := 0) rfl rfl Try.underlying34 rfl tsz32 rfl) ?_
 refine ox rfl rfl rfl rfl (ex_load1 rfl rfl Try.underlying32 rfl ((HM.box_at 2 rfl) 0 _ rfl)) ?_
 refine od rfl rfl rfl rfl (does_appendR kInt flat_plain rfl rfl rfl Try.underlying32 tsz2 rfl tby2 tz2 rfl rfl (leB_le e1689) (HM.rd hp0_0) HM) ?_
 rintro v1690 w1693 HM
 refine ox rfl rfl rfl rfl (ex_fieldAddr (off' := 0) rfl rfl Try.underlying34 rfl tsz32 rfl) ?_
 replace HM := HM.front 2 rfl rfl
 refine odS rfl rfl rfl (does_store (vs := [v1690]) (cs' := [v1690, .int .i64 x0.fNeed, .int .i64 x0.fAfter]) rfl rfl rfl (rd_cells (HM.own_rd 1 rfl)) tsz32 (Ones.rd (HM.own_rd 1 rfl) Ones.nil) rfl rfl HM) ?_
 rintro w1694 HM
 refine ops_nil (at_then (run_seq ?_))
 refine run_region rfl ?_
 refine ox rfl rfl rfl rfl (ex_loadN (cs := [v1690, (.int .i64 x0.fNeed), (.int .i64 x0.fAfter)]) rfl rfl Try.underlying34 rfl tsz34 rfl ((HM.box_at 0 rfl).sub 0 3 rfl)) ?_
 replace HM := HM.front 2 rfl rfl
 refine odS rfl rfl rfl (does_store (vs := [v1690, .int .i64 x0.fNeed, .int .i64 x0.fAfter]) (cs' := [v1690, .int .i64 x0.fNeed, .int .i64 x0.fAfter]) rfl rfl rfl rfl tsz34 (Ones.rd (HM.own_rd 2 rfl) (Ones.int (Ones.int Ones.nil))) rfl rfl HM) ?_
 rintro w1695 HM
 refine ops_nil (at_then ?_)
 refine run_ret ?_
 replace HM := (HM.front 1 rfl rfl).drop
 have hcb0 := HM.box_at 0 rfl
 replace HM := (HM.front 0 rfl rfl).drop
 have hR := Option.some.inj H
 subst hR
 exact at_retN rfl rfl Try.underlying34 rfl tsz34 rfl hcb0 ⟨_, rfl, _, rfl, HM⟩

def spec_l4Copy.l0 (x0 : List Coin) : Nat → (List Coin) → Int → Option ((List Coin))
 | 0, _, _ => none
 | k + 1, a1837, a1839 => (bif (decide (a1839 < (x0.length : Int))) then (chk (idxOk a1839 x0.length) ((spec_l2Copy.f k ((gt x0 a1839).fOut.fRule)).bind fun t1870 => (chk (leB ((a1837.length + ([(⟨(gt x0 a1839).fRef, (⟨(gt x0 a1839).fOut.fValue, t1870⟩ : Out), (gt x0 a1839).fHeight, (gt x0 a1839).fMined⟩ : Coin)] : List Coin).length) * 80) 140737488355328) (spec_l4Copy.l0 x0 k (a1837 ++ ([(⟨(gt x0 a1839).fRef, (⟨(gt x0 a1839).fOut.fValue, t1870⟩ : Out), (gt x0 a1839).fHeight, (gt x0 a1839).fMined⟩ : Coin)] : List Coin)) (wrap64 (a1839 + 1)))))) else some a1837)
theorem spec_l4Copy.l0_z (x0 : List Coin) (a1837 : List Coin) (a1839 : Int) : spec_l4Copy.l0 x0 0 a1837 a1839 = none := rfl
theorem spec_l4Copy.l0_s (x0 : List Coin) (k : Nat) (a1837 : List Coin) (a1839 : Int) : spec_l4Copy.l0 x0 (k + 1) a1837 a1839 = (bif (decide (a1839 < (x0.length : Int))) then (chk (idxOk a1839 x0.length) ((spec_l2Copy.f k ((gt x0 a1839).fOut.fRule)).bind fun t1870 => (chk (leB ((a1837.length + ([(⟨(gt x0 a1839).fRef, (⟨(gt x0 a1839).fOut.fValue, t1870⟩ : Out), (gt x0 a1839).fHeight, (gt x0 a1839).fMined⟩ : Coin)] : List Coin).length) * 80) 140737488355328) (spec_l4Copy.l0 x0 k (a1837 ++ ([(⟨(gt x0 a1839).fRef, (⟨(gt x0 a1839).fOut.fValue, t1870⟩ : Out), (gt x0 a1839).fHeight, (gt x0 a1839).fMined⟩ : Coin)] : List Coin)) (wrap64 (a1839 + 1)))))) else some a1837) := rfl
def spec_l4Copy.f (k : Nat) (x0 : List Coin) : Option ((List Coin)) := ((spec_l4Copy.l0 x0 k ([] : List Coin) 0).bind (fun a1814 => some a1814))
theorem spec_l4Copy.calls {k : Nat} {x0 : List Coin} {p0 : Value} {w : World} (hp0 : RdS kCoin w p0 x0) {r : (List Coin)} (H : spec_l4Copy.f k x0 = some r) :
  Calls Try.prog 52 ([p0] : List Value).toArray w (fun e w_ => ∃ v, e = .returned v ∧ ∃ u0 : Value, v = u0 ∧ Mem w [] w_ [own kCoin 41 u0 r]) := by
 have HM := Mem.start w
 refine calls_run (N := 28) Try.func52 rfl rfl rfl rfl ?_
 unfold spec_l4Copy.f at H
 refine run_seq ?_
 refine run_region rfl ?_
 refine ox rfl rfl rfl rfl (ex_assign rfl rfl) ?_
 refine ops_nil (at_then (run_seq ?_))
 refine run_region rfl ?_
 refine od rfl rfl rfl rfl (does_lit (e := 41) (cs := []) (xs := ([] : List Coin)) kCoin rfl rfl (fun _ => by kernel_rfl) rfl rfl (fun _ _ h => by have h' : _ = [] := h; subst h'; exact .nil) HM.emp) ?_
 rintro v1751 w1754 HM
 refine ox rfl rfl rfl rfl (ex_assign rfl rfl) ?_
 refine ops_nil (at_then ?_)
 obtain ⟨o1816, ho1817, H⟩ := bind_some H
 refine run_mid (fun ρ_ w_ => ∃ v1813 : Value, ∃ a1814 : List Coin, a1814 = o1816 ∧ ρ_ = [(3, v1813)] ∧ Mem w [] w_ [own kCoin 41 v1813 a1814]) ?_ ?_
 ·clear H
  refine run_seq ?_
  refine run_region rfl ?_
  refine ox rfl rfl rfl rfl (ex_assign rfl rfl) ?_
  refine ops_nil (at_then ?_)
  refine run_block ?_
  refine run_loop (fun k_ ρ_ w_ => ∃ v1836 : Value, ∃ a1837 : List Coin, ∃ a1839 : Int, spec_l4Copy.l0 x0 k_ a1837 a1839 = some o1816 ∧ ρ_ = [(0, p0), (3, v1836), (4, .int .i64 a1839)] ∧ Mem w [] w_ [own kCoin 41 v1836 a1837]) k (ρ1 := [(0, p0), (3, v1751), (4, .int .i64 0)]) ⟨_, _, _, ho1817, rfl, HM⟩ (Sub.cons rfl (Sub.cons rfl (Sub.cons rfl Sub.nil))) ?_
  clear HM ho1817
  rintro k1858 _ w1859 ⟨v1836, a1837, a1839, ho1817, rfl, HM⟩
  obtain _ | k1858 := k1858
  ·exact nomatch ((spec_l4Copy.l0_z x0 a1837 a1839).symm.trans ho1817)
  replace ho1817 := (spec_l4Copy.l0_s x0 k1858 a1837 a1839).symm.trans ho1817
  refine run_seq ?_
  refine run_seq ?_
  refine run_region rfl ?_
  refine ox rfl rfl rfl rfl (ex_move rfl rfl) ?_
  refine ox rfl rfl rfl rfl (ex_move rfl rfl) ?_
  refine ox rfl rfl rfl rfl (ex_len (d := kCoin) (xs := x0) rfl rfl Try.underlying24 hp0) ?_
  refine ox rfl rfl rfl rfl (ex_lss rfl rfl rfl) ?_
  refine ops_nil (at_then ?_)
  refine run_cond (b := (decide (a1839 < (x0.length : Int)))) rfl (fun hb1860 => ?_) (fun hb1860 => ?_)
  ·replace ho1817 := cond_t hb1860 ho1817
   refine run_skip ?_
   refine at_then ?_
   refine run_seq ?_
   refine run_block ?_
   refine run_seq ?_
   obtain ⟨e1861, ho1817⟩ := chk_some ho1817
   refine run_region rfl ?_
   refine ox rfl rfl rfl rfl (ex_move rfl rfl) ?_
   refine ox rfl rfl rfl rfl (ex_move rfl rfl) ?_
   obtain ⟨kv1863, hc1862, hk1864⟩ : ∃ u, CellsAt _ (sb p0) (so p0 + (a1839).toNat * 8) [(.int .i64 ((gt x0 a1839).fRef.fTx)), (.int .i64 ((gt x0 a1839).fRef.fAt)), (.int .i64 ((gt x0 a1839).fOut.fValue)), u, (.int .i64 ((gt x0 a1839).fOut.fRule.fNeed)), (.int .i64 ((gt x0 a1839).fOut.fRule.fAfter)), (.int .i64 ((gt x0 a1839).fHeight)), (.bool ((gt x0 a1839).fMined))] ∧ RdS kInt _ u ((gt x0 a1839).fOut.fRule.fKeys) := rd_with1 hp0 e1861
   refine ox rfl rfl rfl rfl (ex_indexAddr (d := kCoin) rfl rfl rfl Try.underlying24 tsz41 hp0 (idx_lo e1861) (idx_hi e1861)) ?_
   refine ox rfl rfl rfl rfl (ex_loadN (cs := [(.int .i64 ((gt x0 a1839).fRef.fTx)), (.int .i64 ((gt x0 a1839).fRef.fAt)), (.int .i64 ((gt x0 a1839).fOut.fValue)), kv1863, (.int .i64 ((gt x0 a1839).fOut.fRule.fNeed)), (.int .i64 ((gt x0 a1839).fOut.fRule.fAfter)), (.int .i64 ((gt x0 a1839).fHeight)), (.bool ((gt x0 a1839).fMined))]) rfl rfl Try.underlying41 rfl tsz41 rfl ((HM.at_ hc1862).sub 0 8 rfl)) ?_
   refine od rfl rfl rfl rfl (does_alloc (cs := [.int .i64 0, .int .i64 0, .int .i64 0, .slice none 0 0, .int .i64 0, .int .i64 0, .int .i64 0, .bool false]) rfl tz41 rfl HM) ?_
   rintro _ w1868 ⟨b1865, rfl, HM⟩
   refine odS rfl rfl rfl (does_store (vs := [.int .i64 ((gt x0 a1839).fRef.fTx), .int .i64 ((gt x0 a1839).fRef.fAt), .int .i64 ((gt x0 a1839).fOut.fValue), kv1863, .int .i64 ((gt x0 a1839).fOut.fRule.fNeed), .int .i64 ((gt x0 a1839).fOut.fRule.fAfter), .int .i64 ((gt x0 a1839).fHeight), .bool ((gt x0 a1839).fMined)]) (cs' := [.int .i64 ((gt x0 a1839).fRef.fTx), .int .i64 ((gt x0 a1839).fRef.fAt), .int .i64 ((gt x0 a1839).fOut.fValue), kv1863, .int .i64 ((gt x0 a1839).fOut.fRule.fNeed), .int .i64 ((gt x0 a1839).fOut.fRule.fAfter), .int .i64 ((gt x0 a1839).fHeight), .bool ((gt x0 a1839).fMined)]) rfl rfl rfl rfl tsz41 (Ones.int (Ones.int (Ones.int (Ones.rd hk1864 (Ones.int (Ones.int (Ones.int (Ones.bool Ones.nil)))))))) rfl rfl HM) ?_
   rintro w1869 HM
   refine ops_nil (at_then (run_seq ?_))
   obtain ⟨t1870, h1871, ho1817⟩ := bind_some ho1817
   refine run_region rfl ?_
   refine ox rfl rfl rfl rfl (ex_fieldAddr (off' := 2) rfl rfl Try.underlying41 rfl tsz36 rfl) ?_
   refine ox rfl rfl rfl rfl (ex_fieldAddr (off' := 3) rfl rfl Try.underlying36 rfl tsz34 rfl) ?_
   refine ox rfl rfl rfl rfl (ex_loadN (cs := [kv1863, (.int .i64 ((gt x0 a1839).fOut.fRule.fNeed)), (.int .i64 ((gt x0 a1839).fOut.fRule.fAfter))]) rfl rfl Try.underlying34 rfl tsz34 rfl ((HM.box_at 0 rfl).sub 3 3 rfl)) ?_
   refine od rfl rfl rfl rfl (does_callk rfl callok53 rfl (spec_l2Copy.calls (x0 := (gt x0 a1839).fOut.fRule) (HM.rd hk1864) h1871)) ?_
   rintro _ w1874 ⟨u1872, rfl, hn⟩
   replace HM : Mem w [] w1874 [own kInt 2 u1872 t1870.fKeys, box b1865 41 [.int .i64 ((gt x0 a1839).fRef.fTx), .int .i64 ((gt x0 a1839).fRef.fAt), .int .i64 ((gt x0 a1839).fOut.fValue), kv1863, .int .i64 ((gt x0 a1839).fOut.fRule.fNeed), .int .i64 ((gt x0 a1839).fOut.fRule.fAfter), .int .i64 ((gt x0 a1839).fHeight), .bool ((gt x0 a1839).fMined)], own kCoin 41 v1836 a1837] := HM.call hn
   refine ox rfl rfl rfl rfl (ex_fieldAddr (off' := 2) rfl rfl Try.underlying41 rfl tsz36 rfl) ?_
   refine ox rfl rfl rfl rfl (ex_fieldAddr (off' := 3) rfl rfl Try.underlying36 rfl tsz34 rfl) ?_
   replace HM := HM.front 1 rfl rfl
   refine odS rfl rfl rfl (does_store (vs := [u1872, .int .i64 t1870.fNeed, .int .i64 t1870.fAfter]) (cs' := [.int .i64 ((gt x0 a1839).fRef.fTx), .int .i64 ((gt x0 a1839).fRef.fAt), .int .i64 ((gt x0 a1839).fOut.fValue), u1872, .int .i64 t1870.fNeed, .int .i64 t1870.fAfter, .int .i64 ((gt x0 a1839).fHeight), .bool ((gt x0 a1839).fMined)]) rfl rfl rfl rfl tsz34 (Ones.rd (HM.own_rd 1 rfl) (Ones.int (Ones.int Ones.nil))) rfl rfl HM) ?_
   rintro w1875 HM
   refine ops_nil (at_then ?_)
   obtain ⟨e1879, ho1817⟩ := chk_some ho1817
   refine run_region rfl ?_
   refine ox rfl rfl rfl rfl (ex_move rfl rfl) ?_
   refine ox rfl rfl rfl rfl (ex_loadN (cs := [(.int .i64 ((gt x0 a1839).fRef.fTx)), (.int .i64 ((gt x0 a1839).fRef.fAt)), (.int .i64 ((gt x0 a1839).fOut.fValue)), u1872, (.int .i64 t1870.fNeed), (.int .i64 t1870.fAfter), (.int .i64 ((gt x0 a1839).fHeight)), (.bool ((gt x0 a1839).fMined))]) rfl rfl Try.underlying41 rfl tsz41 rfl ((HM.box_at 0 rfl).sub 0 8 rfl)) ?_
   replace HM := HM.front 1 rfl rfl
   refine od rfl rfl rfl rfl (does_lit (e := 41) (cs := [(.int .i64 ((gt x0 a1839).fRef.fTx)), (.int .i64 ((gt x0 a1839).fRef.fAt)), (.int .i64 ((gt x0 a1839).fOut.fValue)), u1872, (.int .i64 t1870.fNeed), (.int .i64 t1870.fAfter), (.int .i64 ((gt x0 a1839).fHeight)), (.bool ((gt x0 a1839).fMined))]) (xs := ([(⟨(gt x0 a1839).fRef, (⟨(gt x0 a1839).fOut.fValue, t1870⟩ : Out), (gt x0 a1839).fHeight, (gt x0 a1839).fMined⟩ : Coin)] : List Coin)) kCoin rfl rfl (fun _ => by kernel_rfl) rfl rfl (fun _ _ h => by have := Elems.cons (d := kCoin) (x := (⟨(gt x0 a1839).fRef, (⟨(gt x0 a1839).fOut.fValue, t1870⟩ : Out), (gt x0 a1839).fHeight, (gt x0 a1839).fMined⟩ : Coin)) ⟨_, rfl, h⟩ .nil; rw [List.append_nil, List.append_nil] at this; exact this) HM) ?_
   rintro v1876 w1882 HM
   replace HM := HM.front 2 rfl rfl
   refine od rfl rfl rfl rfl (does_append kCoin rfl rfl rfl Try.underlying24 tsz41 rfl tby41 tz41 rfl rfl (leB_le e1879) HM) ?_
   rintro v1880 w1883 HM
   refine ox rfl rfl rfl rfl (ex_assign rfl rfl) ?_
   refine ops_nil ?_
   refine at_block ?_
   refine at_then ?_
   refine run_region rfl ?_
   refine ox rfl rfl rfl rfl (ex_move rfl rfl) ?_
   refine ox rfl rfl rfl rfl (ex_add rfl rfl rfl) ?_
   refine ox rfl rfl rfl rfl (ex_assign rfl rfl) ?_
   refine ops_nil ?_
   replace HM := (HM.front 1 rfl rfl).drop
   exact at_again k1858 (ρ1 := [(0, p0), (3, v1880), (4, .int .i64 (wrap64 (a1839 + 1)))]) (Nat.lt_succ_self _) ⟨_, _, _, ho1817, rfl, HM⟩ (Sub.cons rfl (Sub.cons rfl (Sub.cons rfl Sub.nil)))
  ·replace ho1817 := cond_f hb1860 ho1817
   refine run_exit ?_
   refine at_then_exit ?_
   refine at_then_exit ?_
   refine at_block_exit ?_
   exact at_mid (ρ' := [(3, v1836)]) ⟨_, _, (Option.some.inj ho1817), rfl, HM⟩ (Sub.cons rfl Sub.nil)
 ·rintro _ w1884 ⟨v1813, a1814, rfl, rfl, HM⟩
  refine run_seq ?_
  refine run_region rfl ?_
  refine ox rfl rfl rfl rfl (ex_move rfl rfl) ?_
  refine ox rfl rfl rfl rfl (ex_assign rfl rfl) ?_
  refine ops_nil (at_then ?_)
  refine run_ret ?_
  have hR := Option.some.inj H
  subst hR
  exact at_ret1 rfl rfl ⟨_, rfl, _, rfl, HM⟩

def spec_l4Add.l0 (x0 : List Coin) (x1 : Coin) : Nat → Int → Option Int
 | 0, _ => none
 | k + 1, a2034 => (chk (!(decide (a2034 < (x0.length : Int))) || (idxOk a2034 x0.length)) ((bif (decide (a2034 < (x0.length : Int))) then spec_l4Ahead.f k ((gt x0 a2034).fRef) x1.fRef else some default).bind fun t2042 => (bif ((decide (a2034 < (x0.length : Int))) && t2042) then spec_l4Add.l0 x0 x1 k (wrap64 (a2034 + 1)) else some a2034)))
theorem spec_l4Add.l0_z (x0 : List Coin) (x1 : Coin) (a2034 : Int) : spec_l4Add.l0 x0 x1 0 a2034 = none := rfl
theorem spec_l4Add.l0_s (x0 : List Coin) (x1 : Coin) (k : Nat) (a2034 : Int) : spec_l4Add.l0 x0 x1 (k + 1) a2034 = (chk (!(decide (a2034 < (x0.length : Int))) || (idxOk a2034 x0.length)) ((bif (decide (a2034 < (x0.length : Int))) then spec_l4Ahead.f k ((gt x0 a2034).fRef) x1.fRef else some default).bind fun t2042 => (bif ((decide (a2034 < (x0.length : Int))) && t2042) then spec_l4Add.l0 x0 x1 k (wrap64 (a2034 + 1)) else some a2034))) := rfl
def spec_l4Add.f (k : Nat) (x0 : List Coin) (x1 : Coin) : Option ((List Coin)) := ((spec_l4Add.l0 x0 x1 k 0).bind (fun a2027 => (chk (cutOk a2027 x0.length) (chk (leB ((a2027).toNat * 80) 140737488355328) (chk (cutOk a2027 x0.length) (chk (leB (((a2027).toNat + ([x1] : List Coin).length) * 80) 140737488355328) (chk (leB (((a2027).toNat + ([x1] : List Coin).length + (x0.length - (a2027).toNat)) * 80) 140737488355328) (chk (decide ((a2027).toNat ≤ (a2027).toNat)) (some (x0.take (a2027).toNat ++ ([x1] : List Coin) ++ x0.drop (a2027).toNat))))))))))
theorem spec_l4Add.calls {k : Nat} {x0 : List Coin} {x1 : Coin} {p0 : Value} {p1_0 : Value} {w wo : World} {X : List Nat} (hwo : Olds wo w X) (hX : Hold w [own kCoin 41 p0 x0, own kInt 2 p1_0 x1.fOut.fRule.fKeys] X) (hXn : X.Nodup) (hXl : ∀ b ∈ X, b < w.heap.size)  {r : (List Coin)} (H : spec_l4Add.f k x0 x1 = some r) :
  Calls Try.prog 54 ([p0, .agg #[(.int .i64 x1.fRef.fTx), (.int .i64 x1.fRef.fAt), (.int .i64 x1.fOut.fValue), p1_0, (.int .i64 x1.fOut.fRule.fNeed), (.int .i64 x1.fOut.fRule.fAfter), (.int .i64 x1.fHeight), (.bool x1.fMined)]] : List Value).toArray w (fun e w_ => ∃ v, e = .returned v ∧ ∃ u0 : Value, v = u0 ∧ Mem w X w_ [own kCoin 41 u0 r]) := by
 have HM := Mem.startX hX hXn hXl
 refine calls_run (N := 36) Try.func54 rfl rfl rfl rfl ?_
 unfold spec_l4Add.f at H
 refine run_seq ?_
 refine run_region rfl ?_
 refine od rfl rfl rfl rfl (does_box (cs := [.int .i64 x1.fRef.fTx, .int .i64 x1.fRef.fAt, .int .i64 x1.fOut.fValue, p1_0, .int .i64 x1.fOut.fRule.fNeed, .int .i64 x1.fOut.fRule.fAfter, .int .i64 x1.fHeight, .bool x1.fMined]) rfl rfl rfl HM) ?_
 rintro _ w2013 ⟨b2010, rfl, HM⟩
 refine ox rfl rfl rfl rfl (ex_assign rfl rfl) ?_
 refine ops_nil (at_then (run_seq ?_))
 refine run_region rfl ?_
 refine ox rfl rfl rfl rfl (ex_assign rfl rfl) ?_
 refine ops_nil (at_then ?_)
 obtain ⟨o2028, ho2029, H⟩ := bind_some H
 refine run_mid (fun ρ_ w_ => ∃ a2027 : Int, a2027 = o2028 ∧ ρ_ = [(0, p0), (3, .pointer (some ⟨b2010, 0, none⟩)), (5, .int .i64 a2027)] ∧ Mem w X w_ [own kCoin 41 p0 x0, own kInt 2 p1_0 x1.fOut.fRule.fKeys, box b2010 41 [.int .i64 x1.fRef.fTx, .int .i64 x1.fRef.fAt, .int .i64 x1.fOut.fValue, p1_0, .int .i64 x1.fOut.fRule.fNeed, .int .i64 x1.fOut.fRule.fAfter, .int .i64 x1.fHeight, .bool x1.fMined]]) ?_ ?_
 ·clear H
  refine run_block ?_
  replace HM := HM.front 2 rfl rfl
  replace HM := HM.front 2 rfl rfl
  refine run_loop (fun k_ ρ_ w_ => ∃ a2034 : Int, spec_l4Add.l0 x0 x1 k_ a2034 = some o2028 ∧ ρ_ = [(0, p0), (3, .pointer (some ⟨b2010, 0, none⟩)), (5, .int .i64 a2034)] ∧ Mem w X w_ [own kCoin 41 p0 x0, own kInt 2 p1_0 x1.fOut.fRule.fKeys, box b2010 41 [.int .i64 x1.fRef.fTx, .int .i64 x1.fRef.fAt, .int .i64 x1.fOut.fValue, p1_0, .int .i64 x1.fOut.fRule.fNeed, .int .i64 x1.fOut.fRule.fAfter, .int .i64 x1.fHeight, .bool x1.fMined]]) k (ρ1 := [(0, p0), (3, .pointer (some ⟨b2010, 0, none⟩)), (5, .int .i64 0)]) ⟨_, ho2029, rfl, HM⟩ (Sub.cons rfl (Sub.cons rfl (Sub.cons rfl Sub.nil))) ?_
  clear HM ho2029
  rintro k2039 _ w2040 ⟨a2034, ho2029, rfl, HM⟩
  obtain _ | k2039 := k2039
  ·exact nomatch ((spec_l4Add.l0_z x0 x1 a2034).symm.trans ho2029)
  replace ho2029 := (spec_l4Add.l0_s x0 x1 k2039 a2034).symm.trans ho2029
  refine run_seq ?_
  refine run_seq ?_
  obtain ⟨e2041, ho2029⟩ := chk_some ho2029
  obtain ⟨t2042, h2043, ho2029⟩ := bind_some ho2029
  refine run_meet (fun ρ_ w_ => ρ_ = [(0, p0), (3, .pointer (some ⟨b2010, 0, none⟩)), (5, .int .i64 a2034), (20, .bool ((decide (a2034 < (x0.length : Int))) && t2042))] ∧ Mem w X w_ [own kCoin 41 p0 x0, own kInt 2 p1_0 x1.fOut.fRule.fKeys, box b2010 41 [.int .i64 x1.fRef.fTx, .int .i64 x1.fRef.fAt, .int .i64 x1.fOut.fValue, p1_0, .int .i64 x1.fOut.fRule.fNeed, .int .i64 x1.fOut.fRule.fAfter, .int .i64 x1.fHeight, .bool x1.fMined]]) ?_ ?_
  ·skip
   refine run_drawf (fun w_ => Mem w X w_ [own kCoin 41 p0 x0, own kInt 2 p1_0 x1.fOut.fRule.fKeys, box b2010 41 [.int .i64 x1.fRef.fTx, .int .i64 x1.fRef.fAt, .int .i64 x1.fOut.fValue, p1_0, .int .i64 x1.fOut.fRule.fNeed, .int .i64 x1.fOut.fRule.fAfter, .int .i64 x1.fHeight, .bool x1.fMined]]) [(0, true), (1, true), (2, true), (3, true), (4, true), (5, true), (6, true), (7, true), (8, true), (9, true), (10, true), (11, true), (12, false), (13, true)] mixed rfl rfl (by kernel_rfl) ?_
   replace HM := HM.grow (fr_drew _)
   have hS := Mem.suf (M := []) HM
   refine dp rfl rfl rfl rfl (ex_move rfl rfl) hS ?_
   refine dp rfl rfl rfl rfl (ex_move rfl rfl) hS ?_
   refine drwp_take rfl (guard_none rfl) rfl rfl (fun w_ hS_ => (ex_len (d := kCoin) (xs := x0) rfl rfl Try.underlying24 (hS_.own_rd 0 rfl))) hS ?_
   refine dp rfl rfl rfl rfl (ex_lss rfl rfl rfl) hS ?_
   refine dp rfl rfl rfl rfl (ex_move rfl rfl) hS ?_
   refine bool_cases (decide (a2034 < (x0.length : Int))) (fun hg2044 => ?_) (fun hg2044 => ?_)
   ·skip
    refine drwp_take rfl (guard_on rfl rfl rfl hg2044) rfl rfl (fun w_ hS_ => (ex_move rfl rfl)) hS ?_
    refine drwp_take rfl (guard_on rfl rfl rfl hg2044) rfl rfl (fun w_ hS_ => (ex_move rfl rfl)) hS ?_
    refine drwp_take rfl (guard_on rfl rfl rfl hg2044) rfl rfl (fun w_ hS_ => (ex_indexAddr (d := kCoin) rfl rfl rfl Try.underlying24 tsz41 (hS_.own_rd 0 rfl) (idx_lo (or_t e2041 hg2044)) (idx_hi (or_t e2041 hg2044)))) hS ?_
    refine drwp_take rfl (guard_on rfl rfl rfl hg2044) rfl rfl (fun w_ hS_ => (ex_fieldAddr (off' := so p0 + (a2034).toNat * 8) rfl rfl Try.underlying41 rfl tsz38 rfl)) hS ?_
    refine drwp_take rfl (guard_on rfl rfl rfl hg2044) rfl rfl (fun w_ hS_ => (let ⟨_, hc_, _⟩ := rd_with1 (hS_.own_rd 0 rfl) (or_t e2041 hg2044); ex_loadN (cs := [(.int .i64 ((gt x0 a2034).fRef.fTx)), (.int .i64 ((gt x0 a2034).fRef.fAt))]) rfl rfl Try.underlying38 rfl tsz38 rfl (hc_.sub 0 2 rfl))) hS ?_
    refine drwp_take rfl (guard_on rfl rfl rfl hg2044) rfl rfl (fun w_ hS_ => (ex_fieldAddr (off' := 0) rfl rfl Try.underlying41 rfl tsz38 rfl)) hS ?_
    refine drwp_take rfl (guard_on rfl rfl rfl hg2044) rfl rfl (fun w_ hS_ => (ex_loadN (cs := [(.int .i64 x1.fRef.fTx), (.int .i64 x1.fRef.fAt)]) rfl rfl Try.underlying38 rfl tsz38 rfl ((hS_.box_at 2 rfl).sub 0 2 rfl))) hS ?_
    refine drwp_one rfl (guard_on rfl rfl rfl hg2044) rfl rfl (does_callk rfl callok50 rfl (spec_l4Ahead.calls (x0 := (gt x0 a2034).fRef) (x1 := x1.fRef) (cond_t hg2044 h2043))) ?_
    rintro _ w2045 ⟨rfl, hn⟩
    replace HM : Mem w X w2045 [own kCoin 41 p0 x0, own kInt 2 p1_0 x1.fOut.fRule.fKeys, box b2010 41 [.int .i64 x1.fRef.fTx, .int .i64 x1.fRef.fAt, .int .i64 x1.fOut.fValue, p1_0, .int .i64 x1.fOut.fRule.fNeed, .int .i64 x1.fOut.fRule.fAfter, .int .i64 x1.fHeight, .bool x1.fMined]] := HM.call hn
    have hS := Mem.suf (M := []) HM
    refine ⟨hS, ?_⟩
    refine drwp_take (v := .bool ((decide (a2034 < (x0.length : Int))) && t2042)) rfl (guard_none rfl) rfl rfl (fun w_ hS_ => (ex_pand_t rfl rfl hg2044 rfl)) hS ?_
    refine drwp_done ?_
    exact at_meet [(0, p0), (3, .pointer (some ⟨b2010, 0, none⟩)), (5, .int .i64 a2034), (20, .bool ((decide (a2034 < (x0.length : Int))) && t2042))] ⟨rfl, HM⟩ (Sub.cons rfl (Sub.cons rfl (Sub.cons rfl (Sub.cons rfl Sub.nil))))
   ·skip
    refine drwp_off rfl (guard_off rfl rfl rfl hg2044) rfl rfl hS ?_
    refine drwp_off rfl (guard_off rfl rfl rfl hg2044) rfl rfl hS ?_
    refine drwp_off rfl (guard_off rfl rfl rfl hg2044) rfl rfl hS ?_
    refine drwp_off rfl (guard_off rfl rfl rfl hg2044) rfl rfl hS ?_
    refine drwp_off rfl (guard_off rfl rfl rfl hg2044) rfl rfl hS ?_
    refine drwp_off rfl (guard_off rfl rfl rfl hg2044) rfl rfl hS ?_
    refine drwp_off rfl (guard_off rfl rfl rfl hg2044) rfl rfl hS ?_
    refine drwp_off1 rfl (guard_off rfl rfl rfl hg2044) rfl rfl ⟨hS, ?_⟩
    have hg2046 : ((decide (a2034 < (x0.length : Int))) && t2042) = false := by simp only [hg2044, Bool.and_true, Bool.true_and, Bool.and_false, Bool.false_and, Bool.or_true, Bool.true_or, Bool.or_false, Bool.false_or, Bool.not_true, Bool.not_false, Bool.not_not]
    refine drwp_take (v := .bool ((decide (a2034 < (x0.length : Int))) && t2042)) rfl (guard_none rfl) rfl rfl (fun w_ hS_ => (ex_pand_f rfl rfl hg2044)) hS ?_
    refine drwp_done ?_
    exact at_meet [(0, p0), (3, .pointer (some ⟨b2010, 0, none⟩)), (5, .int .i64 a2034), (20, .bool ((decide (a2034 < (x0.length : Int))) && t2042))] ⟨rfl, HM⟩ (Sub.cons rfl (Sub.cons rfl (Sub.cons rfl (Sub.cons rfl Sub.nil))))
  ·rintro _ w2047 ⟨rfl, HM⟩
   refine at_then ?_
   refine run_cond (b := ((decide (a2034 < (x0.length : Int))) && t2042)) rfl (fun hb2048 => ?_) (fun hb2048 => ?_)
   ·replace ho2029 := cond_t hb2048 ho2029
    refine run_skip ?_
    refine at_then ?_
    refine run_block ?_
    refine run_region rfl ?_
    refine ox rfl rfl rfl rfl (ex_move rfl rfl) ?_
    refine ox rfl rfl rfl rfl (ex_add rfl rfl rfl) ?_
    refine ox rfl rfl rfl rfl (ex_assign rfl rfl) ?_
    refine ops_nil ?_
    refine at_block ?_
    exact at_again k2039 (ρ1 := [(0, p0), (3, .pointer (some ⟨b2010, 0, none⟩)), (5, .int .i64 (wrap64 (a2034 + 1)))]) (Nat.lt_succ_self _) ⟨_, ho2029, rfl, HM⟩ (Sub.cons rfl (Sub.cons rfl (Sub.cons rfl Sub.nil)))
   ·replace ho2029 := cond_f hb2048 ho2029
    refine run_exit ?_
    refine at_then_exit ?_
    refine at_then_exit ?_
    refine at_block_exit ?_
    exact at_mid (ρ' := [(0, p0), (3, .pointer (some ⟨b2010, 0, none⟩)), (5, .int .i64 a2034)]) ⟨_, (Option.some.inj ho2029), rfl, HM⟩ (Sub.cons rfl (Sub.cons rfl (Sub.cons rfl Sub.nil)))
 ·rintro _ w2049 ⟨a2027, rfl, rfl, HM⟩
  refine run_seq ?_
  obtain ⟨e2053, H⟩ := chk_some H
  obtain ⟨e2055, H⟩ := chk_some H
  refine run_region rfl ?_
  refine od rfl rfl rfl rfl (does_lit (e := 41) (cs := []) (xs := ([] : List Coin)) kCoin rfl rfl (fun _ => by kernel_rfl) rfl rfl (fun _ _ h => by have h' : _ = [] := h; subst h'; exact .nil) HM.emp) ?_
  rintro v2050 w2056 HM
  refine ox rfl rfl rfl rfl (ex_move rfl rfl) ?_
  refine ox rfl rfl rfl rfl (ex_move rfl rfl) ?_
  refine ox rfl rfl rfl rfl (ex_cutvH rfl rfl rfl Try.underlying24 tsz41 (cut_lo e2053) ((HM.own_rd 1 rfl).cap.le (cut_hi e2053))) ?_
  replace HM := HM.front 1 rfl rfl
  replace HM := HM.front 1 rfl rfl
  refine od rfl rfl rfl rfl (does_mv1 (k := (a2027).toNat) kCoin rfl rfl rfl Try.underlying24 tsz41 tby41 tz41 rfl rfl (cut_hi e2053) (leB_le e2055) HM) ?_
  rintro v2054 w2057 HM
  refine ox rfl rfl rfl rfl (ex_assign rfl rfl) ?_
  refine ops_nil (at_then (run_seq ?_))
  obtain ⟨e2058, H⟩ := chk_some H
  obtain ⟨e2063, H⟩ := chk_some H
  obtain ⟨e2065, H⟩ := chk_some H
  obtain ⟨e2066, H⟩ := chk_some H
  replace HM := HM.front 1 rfl rfl
  replace HM := HM.front 1 rfl rfl
  refine run_drawf (fun w_ => Mem w X w_ [box b2010 41 [.int .i64 x1.fRef.fTx, .int .i64 x1.fRef.fAt, .int .i64 x1.fOut.fValue, p1_0, .int .i64 x1.fOut.fRule.fNeed, .int .i64 x1.fOut.fRule.fAfter, .int .i64 x1.fHeight, .bool x1.fMined]]) [(0, true), (1, true), (4, true), (5, true), (6, true), (2, false), (3, false), (7, false), (8, true)] mixed rfl rfl (by kernel_rfl) ?_
  replace HM := HM.grow (fr_drew _)
  have hS := Mem.suf (M := [mvC kCoin 41 p0 x0 v2054 (a2027).toNat, own kInt 2 p1_0 x1.fOut.fRule.fKeys]) HM
  refine dp rfl rfl rfl rfl (ex_move rfl rfl) hS ?_
  refine drwp_take rfl (guard_none rfl) rfl rfl (fun w_ hS_ => (ex_loadN (cs := [(.int .i64 x1.fRef.fTx), (.int .i64 x1.fRef.fAt), (.int .i64 x1.fOut.fValue), p1_0, (.int .i64 x1.fOut.fRule.fNeed), (.int .i64 x1.fOut.fRule.fAfter), (.int .i64 x1.fHeight), (.bool x1.fMined)]) rfl rfl Try.underlying41 rfl tsz41 rfl ((hS_.box_at 0 rfl).sub 0 8 rfl))) hS ?_
  refine dp rfl rfl rfl rfl (ex_move rfl rfl) hS ?_
  refine dp rfl rfl rfl rfl (ex_move rfl rfl) hS ?_
  refine dp rfl rfl rfl rfl (ex_cutvL rfl rfl rfl Try.underlying24 tsz41 (HM.mv_rd 0 rfl) e2058) hS ?_
  replace HM := HM.front 1 rfl rfl
  refine drwp_one rfl (guard_none rfl) rfl rfl (does_lit (e := 41) (cs := [(.int .i64 x1.fRef.fTx), (.int .i64 x1.fRef.fAt), (.int .i64 x1.fOut.fValue), p1_0, (.int .i64 x1.fOut.fRule.fNeed), (.int .i64 x1.fOut.fRule.fAfter), (.int .i64 x1.fHeight), (.bool x1.fMined)]) (xs := ([x1] : List Coin)) kCoin rfl rfl (fun _ => by kernel_rfl) rfl rfl (fun _ _ h => by have := Elems.cons (d := kCoin) (x := x1) ⟨_, rfl, h⟩ .nil; rw [List.append_nil, List.append_nil] at this; exact this) HM) ?_
  rintro v2059 w2068 HM
  have hS := Mem.suf (M := [own kCoin 41 v2059 ([x1] : List Coin), mvC kCoin 41 p0 x0 v2054 (a2027).toNat]) HM
  refine ⟨hS, ?_⟩
  replace HM := HM.front 1 rfl rfl
  refine drwp_one rfl (guard_none rfl) rfl rfl (does_mvA (k := (a2027).toNat) kCoin rfl rfl rfl Try.underlying24 tsz41 tby41 tz41 rfl rfl (leB_le e2063) HM) ?_
  rintro v2062 w2069 HM
  have hS := Mem.suf (M := [mvC2 kCoin 41 p0 x0 v2062 (a2027).toNat ([x1] : List Coin)]) HM
  refine ⟨hS, ?_⟩
  refine drwp_one rfl (guard_none rfl) rfl rfl (does_mv3 (j := (a2027).toNat) kCoin rfl rfl rfl Try.underlying24 tsz41 tby41 tz41 rfl rfl (of_decide_eq_true e2066) (cut_hi e2058) (leB_le e2065) HM) ?_
  rintro v2064 w2070 HM
  have hS := Mem.suf (M := [own kCoin 41 v2064 (x0.take (a2027).toNat ++ ([x1] : List Coin) ++ x0.drop (a2027).toNat)]) HM
  refine ⟨hS, ?_⟩
  refine dp rfl rfl rfl rfl (ex_assign rfl rfl) hS ?_
  refine drwp_done ?_
  refine at_then ?_
  refine run_ret ?_
  replace HM := (HM.front 1 rfl rfl).drop
  have hR := Option.some.inj H
  subst hR
  exact at_ret1 rfl rfl ⟨_, rfl, _, rfl, HM⟩

def spec_l4Put.l0 (x1 : Int) (x2 : List Out) (x3 : Int) (x4 : Bool) : Nat → (List Coin) → Int → Option ((List Coin))
 | 0, _, _ => none
 | k + 1, a2261, a2263 => (bif (decide (a2263 < (x2.length : Int))) then (chk (idxOk a2263 x2.length) (chk (idxOk a2263 x2.length) ((spec_l2Copy.f k ((gt x2 a2263).fRule)).bind fun t2301 => ((spec_l4Add.f k a2261 (⟨(⟨x1, a2263⟩ : Ref), (⟨(gt x2 a2263).fValue, t2301⟩ : Out), x3, x4⟩ : Coin)).bind fun t2321 => spec_l4Put.l0 x1 x2 x3 x4 k t2321 (wrap64 (a2263 + 1)))))) else some a2261)
theorem spec_l4Put.l0_z (x1 : Int) (x2 : List Out) (x3 : Int) (x4 : Bool) (a2261 : List Coin) (a2263 : Int) : spec_l4Put.l0 x1 x2 x3 x4 0 a2261 a2263 = none := rfl
theorem spec_l4Put.l0_s (x1 : Int) (x2 : List Out) (x3 : Int) (x4 : Bool) (k : Nat) (a2261 : List Coin) (a2263 : Int) : spec_l4Put.l0 x1 x2 x3 x4 (k + 1) a2261 a2263 = (bif (decide (a2263 < (x2.length : Int))) then (chk (idxOk a2263 x2.length) (chk (idxOk a2263 x2.length) ((spec_l2Copy.f k ((gt x2 a2263).fRule)).bind fun t2301 => ((spec_l4Add.f k a2261 (⟨(⟨x1, a2263⟩ : Ref), (⟨(gt x2 a2263).fValue, t2301⟩ : Out), x3, x4⟩ : Coin)).bind fun t2321 => spec_l4Put.l0 x1 x2 x3 x4 k t2321 (wrap64 (a2263 + 1)))))) else some a2261) := rfl
def spec_l4Put.f (k : Nat) (x0 : List Coin) (x1 : Int) (x2 : List Out) (x3 : Int) (x4 : Bool) : Option ((List Coin)) := ((spec_l4Copy.f k x0).bind fun t2142 => ((spec_l4Put.l0 x1 x2 x3 x4 k t2142 0).bind (fun a2230 => some a2230)))
theorem spec_l4Put.calls {k : Nat} {x0 : List Coin} {x1 : Int} {x2 : List Out} {x3 : Int} {x4 : Bool} {p0 : Value} {p2 : Value} {w : World} (hp0 : RdS kCoin w p0 x0) (hp2 : RdS kOut w p2 x2) {r : (List Coin)} (H : spec_l4Put.f k x0 x1 x2 x3 x4 = some r) :
  Calls Try.prog 28 ([p0, .int .i64 x1, p2, .int .i64 x3, .bool x4] : List Value).toArray w (fun e w_ => ∃ v, e = .returned v ∧ ∃ u0 : Value, v = u0 ∧ Mem w [] w_ [own kCoin 41 u0 r]) := by
 have HM := Mem.start w
 refine calls_run (N := 44) Try.func28 rfl rfl rfl rfl ?_
 unfold spec_l4Put.f at H
 refine run_seq ?_
 refine run_region rfl ?_
 refine ox rfl rfl rfl rfl (ex_assign rfl rfl) ?_
 refine ops_nil (at_then (run_seq ?_))
 obtain ⟨t2142, h2143, H⟩ := bind_some H
 refine run_region rfl ?_
 refine ox rfl rfl rfl rfl (ex_move rfl rfl) ?_
 refine od rfl rfl rfl rfl (does_callk rfl callok52 rfl (spec_l4Copy.calls (x0 := x0) (HM.rd hp0) h2143)) ?_
 rintro u2144 w2146 ⟨_, rfl, hn⟩
 replace HM : Mem w [] w2146 [own kCoin 41 u2144 t2142] := HM.call hn
 refine ox rfl rfl rfl rfl (ex_assign rfl rfl) ?_
 refine ops_nil (at_then ?_)
 obtain ⟨o2232, ho2233, H⟩ := bind_some H
 refine run_mid (fun ρ_ w_ => ∃ v2229 : Value, ∃ a2230 : List Coin, a2230 = o2232 ∧ ρ_ = [(11, v2229)] ∧ Mem w [] w_ [own kCoin 41 v2229 a2230]) ?_ ?_
 ·clear H
  refine run_seq ?_
  refine run_region rfl ?_
  refine ox rfl rfl rfl rfl (ex_assign rfl rfl) ?_
  refine ops_nil (at_then ?_)
  refine run_block ?_
  refine run_loop (fun k_ ρ_ w_ => ∃ v2260 : Value, ∃ a2261 : List Coin, ∃ a2263 : Int, spec_l4Put.l0 x1 x2 x3 x4 k_ a2261 a2263 = some o2232 ∧ ρ_ = [(1, .int .i64 x1), (2, p2), (3, .int .i64 x3), (4, .bool x4), (11, v2260), (12, .int .i64 a2263)] ∧ Mem w [] w_ [own kCoin 41 v2260 a2261]) k (ρ1 := [(1, .int .i64 x1), (2, p2), (3, .int .i64 x3), (4, .bool x4), (11, u2144), (12, .int .i64 0)]) ⟨_, _, _, ho2233, rfl, HM⟩ (Sub.cons rfl (Sub.cons rfl (Sub.cons rfl (Sub.cons rfl (Sub.cons rfl (Sub.cons rfl Sub.nil)))))) ?_
  clear HM ho2233
  rintro k2290 _ w2291 ⟨v2260, a2261, a2263, ho2233, rfl, HM⟩
  obtain _ | k2290 := k2290
  ·exact nomatch ((spec_l4Put.l0_z x1 x2 x3 x4 a2261 a2263).symm.trans ho2233)
  replace ho2233 := (spec_l4Put.l0_s x1 x2 x3 x4 k2290 a2261 a2263).symm.trans ho2233
  refine run_seq ?_
  refine run_seq ?_
  refine run_region rfl ?_
  refine ox rfl rfl rfl rfl (ex_move rfl rfl) ?_
  refine ox rfl rfl rfl rfl (ex_move rfl rfl) ?_
  refine ox rfl rfl rfl rfl (ex_len (d := kOut) (xs := x2) rfl rfl Try.underlying25 hp2) ?_
  refine ox rfl rfl rfl rfl (ex_lss rfl rfl rfl) ?_
  refine ops_nil (at_then ?_)
  refine run_cond (b := (decide (a2263 < (x2.length : Int)))) rfl (fun hb2292 => ?_) (fun hb2292 => ?_)
  ·replace ho2233 := cond_t hb2292 ho2233
   refine run_skip ?_
   refine at_then ?_
   refine run_seq ?_
   refine run_block ?_
   refine run_seq ?_
   obtain ⟨e2293, ho2233⟩ := chk_some ho2233
   obtain ⟨e2297, ho2233⟩ := chk_some ho2233
   obtain ⟨t2301, h2302, ho2233⟩ := bind_some ho2233
   refine run_meet (fun ρ_ w_ => ∃ u2303 : Value, ∃ b2305 : Nat, ρ_ = [(1, .int .i64 x1), (2, p2), (3, .int .i64 x3), (4, .bool x4), (11, v2260), (12, .int .i64 a2263), (13, .pointer (some ⟨b2305, 0, none⟩))] ∧ Mem w [] w_ [own kCoin 41 v2260 a2261, box b2305 36 [.int .i64 ((gt x2 a2263).fValue), u2303, .int .i64 t2301.fNeed, .int .i64 t2301.fAfter], own kInt 2 u2303 t2301.fKeys]) ?_ ?_
   ·skip
    refine run_draw (fun w_ => Mem w [] w_ [own kCoin 41 v2260 a2261]) mixed rfl (l := #[false, false, false, false, false, false, false, false, false, false, false, false, false, false]) rfl ?_
    replace HM := HM.grow (fr_drew _)
    have hS := Mem.suf (M := []) HM
    refine drw_cut2 (l' := (bs 14 8191)) (f' := 1) (fun (u2303 : Value) => fun (b2305 : Nat) => [(1, .int .i64 x1), (2, p2), (3, .int .i64 x3), (4, .bool x4), (11, v2260), (12, .int .i64 a2263), (33, .agg #[(.int .i64 ((gt x2 a2263).fValue)), u2303, (.int .i64 t2301.fNeed), (.int .i64 t2301.fAfter)]), (13, .pointer (some ⟨b2305, 0, none⟩))]) (fun (u2303 : Value) => fun (b2305 : Nat) => fun w_ => Mem w [] w_ [box b2305 36 [.int .i64 0, .slice none 0 0, .int .i64 0, .int .i64 0], own kInt 2 u2303 t2301.fKeys, own kCoin 41 v2260 a2261]) ?_ (fun K2313 => ?_)
    ·rintro u2303 b2305 w2314 HM
     replace HM : Mem w [] w2314 [box b2305 36 [.int .i64 0, .slice none 0 0, .int .i64 0, .int .i64 0], own kInt 2 u2303 t2301.fKeys, own kCoin 41 v2260 a2261] := HM
     have hS := Mem.suf (M := [box b2305 36 [.int .i64 0, .slice none 0 0, .int .i64 0, .int .i64 0], own kInt 2 u2303 t2301.fKeys]) HM
     refine drw_any [13] (by kernel_rfl) rfl (.cons ?_ .nil)
     refine br_doesS (l' := (bs 14 16383)) rfl (guard_none rfl) rfl (by kernel_rfl) (does_store (vs := [.int .i64 ((gt x2 a2263).fValue), u2303, .int .i64 t2301.fNeed, .int .i64 t2301.fAfter]) (cs' := [.int .i64 ((gt x2 a2263).fValue), u2303, .int .i64 t2301.fNeed, .int .i64 t2301.fAfter]) rfl rfl rfl rfl tsz36 (Ones.int (Ones.rd (HM.own_rd 1 rfl) (Ones.int (Ones.int Ones.nil)))) rfl rfl HM) ?_
     rintro w2315 HM
     have hS := Mem.suf (M := [box b2305 36 [.int .i64 ((gt x2 a2263).fValue), u2303, .int .i64 t2301.fNeed, .int .i64 t2301.fAfter], own kInt 2 u2303 t2301.fKeys]) HM
     refine ⟨hS, ?_⟩
     refine drw_done (by kernel_rfl) ?_
     replace HM := HM.front 1 rfl rfl
     replace HM := HM.front 1 rfl rfl
     replace HM := HM.front 2 rfl rfl
     exact at_meet [(1, .int .i64 x1), (2, p2), (3, .int .i64 x3), (4, .bool x4), (11, v2260), (12, .int .i64 a2263), (13, .pointer (some ⟨b2305, 0, none⟩))] ⟨_, _, rfl, HM⟩ (Sub.cons rfl (Sub.cons rfl (Sub.cons rfl (Sub.cons rfl (Sub.cons rfl (Sub.cons rfl (Sub.cons rfl Sub.nil)))))))
    refine dt 0 (bs 14 1) rfl rfl rfl rfl (by kernel_rfl) (ex_move rfl rfl) hS ?_
    refine dt 1 (bs 14 3) rfl rfl rfl rfl (by kernel_rfl) (ex_move rfl rfl) hS ?_
    obtain ⟨kv2295, hc2294, hk2296⟩ : ∃ u, CellsAt _ (sb p2) (so p2 + (a2263).toNat * 4) [(.int .i64 ((gt x2 a2263).fValue)), u, (.int .i64 ((gt x2 a2263).fRule.fNeed)), (.int .i64 ((gt x2 a2263).fRule.fAfter))] ∧ RdS kInt _ u ((gt x2 a2263).fRule.fKeys) := rd_with1 hp2 e2293
    refine dt 2 (bs 14 7) rfl rfl rfl rfl (by kernel_rfl) (ex_indexAddr (d := kOut) rfl rfl rfl Try.underlying25 tsz36 hp2 (idx_lo e2293) (idx_hi e2293)) hS ?_
    refine dt 3 (bs 14 15) rfl rfl rfl rfl (by kernel_rfl) (ex_fieldAddr (off' := so p2 + (a2263).toNat * 4) rfl rfl Try.underlying36 rfl tsz2 rfl) hS ?_
    refine drw_take (i := 4) (l' := (bs 14 31)) rfl (guard_none rfl) rfl rfl (by kernel_rfl) (fun w_ hS_ => (ex_load1 rfl rfl Try.underlying2 rfl ((hS_.at_ hc2294) 0 _ rfl))) hS ?_
    refine dt 5 (bs 14 63) rfl rfl rfl rfl (by kernel_rfl) (ex_move rfl rfl) hS ?_
    refine dt 6 (bs 14 127) rfl rfl rfl rfl (by kernel_rfl) (ex_move rfl rfl) hS ?_
    obtain ⟨kv2299, hc2298, hk2300⟩ : ∃ u, CellsAt _ (sb p2) (so p2 + (a2263).toNat * 4) [(.int .i64 ((gt x2 a2263).fValue)), u, (.int .i64 ((gt x2 a2263).fRule.fNeed)), (.int .i64 ((gt x2 a2263).fRule.fAfter))] ∧ RdS kInt _ u ((gt x2 a2263).fRule.fKeys) := rd_with1 hp2 e2297
    refine dt 7 (bs 14 255) rfl rfl rfl rfl (by kernel_rfl) (ex_indexAddr (d := kOut) rfl rfl rfl Try.underlying25 tsz36 hp2 (idx_lo e2297) (idx_hi e2297)) hS ?_
    refine dt 8 (bs 14 511) rfl rfl rfl rfl (by kernel_rfl) (ex_fieldAddr (off' := so p2 + (a2263).toNat * 4 + 1) rfl rfl Try.underlying36 rfl tsz34 rfl) hS ?_
    refine drw_take (i := 9) (l' := (bs 14 1023)) rfl (guard_none rfl) rfl rfl (by kernel_rfl) (fun w_ hS_ => (ex_loadN (cs := [kv2299, (.int .i64 ((gt x2 a2263).fRule.fNeed)), (.int .i64 ((gt x2 a2263).fRule.fAfter))]) rfl rfl Try.underlying34 rfl tsz34 rfl ((hS_.at_ hc2298).sub 1 3 rfl))) hS ?_
    refine drw_any [10, 12] (by kernel_rfl) rfl (.cons ?_ (.cons ?_ .nil))
    ·skip
     refine br_does (l' := (bs 14 2047)) rfl (guard_none rfl) rfl rfl (by kernel_rfl) (does_callk rfl callok53 rfl (spec_l2Copy.calls (x0 := (gt x2 a2263).fRule) (HM.rd hk2300) h2302)) ?_
     rintro _ w2316 ⟨u2303, rfl, hn⟩
     replace HM : Mem w [] w2316 [own kInt 2 u2303 t2301.fKeys, own kCoin 41 v2260 a2261] := HM.call hn
     have hS := Mem.suf (M := [own kInt 2 u2303 t2301.fKeys]) HM
     refine ⟨hS, ?_⟩
     refine dt 11 (bs 14 4095) rfl rfl rfl rfl (by kernel_rfl) (ex_build1 (fun u2303 => [(0, .int .i64 ((gt x2 a2263).fValue)), (1, .agg #[u2303, (.int .i64 t2301.fNeed), (.int .i64 t2301.fAfter)])]) (fun u2303 => #[.int .i64 ((gt x2 a2263).fValue), u2303, .int .i64 t2301.fNeed, .int .i64 t2301.fAfter]) rfl rfl (fun _ _ _ => by kernel_rfl) (HM.own_rd 0 rfl).isSl) hS ?_
     refine drw_any [12] (by kernel_rfl) rfl (.cons ?_ .nil)
     refine br_does (l' := (bs 14 8191)) rfl (guard_none rfl) rfl rfl (by kernel_rfl) (does_alloc (cs := [.int .i64 0, .slice none 0 0, .int .i64 0, .int .i64 0]) rfl tz36 rfl HM) ?_
     rintro _ w2317 ⟨b2305, rfl, HM⟩
     have hS := Mem.suf (M := [box b2305 36 [.int .i64 0, .slice none 0 0, .int .i64 0, .int .i64 0], own kInt 2 u2303 t2301.fKeys]) HM
     refine ⟨hS, ?_⟩
     exact drw_sub (K2313 u2303 b2305 _ HM) (Sub.cons rfl (Sub.cons rfl (Sub.cons rfl (Sub.cons rfl (Sub.cons rfl (Sub.cons rfl (Sub.cons rfl (Sub.cons rfl Sub.nil))))))))
    ·skip
     refine br_does (l' := (bs 14 5119)) rfl (guard_none rfl) rfl rfl (by kernel_rfl) (does_alloc (cs := [.int .i64 0, .slice none 0 0, .int .i64 0, .int .i64 0]) rfl tz36 rfl HM) ?_
     rintro _ w2318 ⟨b2305, rfl, HM⟩
     have hS := Mem.suf (M := [box b2305 36 [.int .i64 0, .slice none 0 0, .int .i64 0, .int .i64 0]]) HM
     refine ⟨hS, ?_⟩
     refine drw_any [10] (by kernel_rfl) rfl (.cons ?_ .nil)
     refine br_does (l' := (bs 14 6143)) rfl (guard_none rfl) rfl rfl (by kernel_rfl) (does_callk rfl callok53 rfl (spec_l2Copy.calls (x0 := (gt x2 a2263).fRule) (HM.rd hk2300) h2302)) ?_
     rintro _ w2319 ⟨u2303, rfl, hn⟩
     replace HM : Mem w [] w2319 [own kInt 2 u2303 t2301.fKeys, box b2305 36 [.int .i64 0, .slice none 0 0, .int .i64 0, .int .i64 0], own kCoin 41 v2260 a2261] := HM.call hn
     have hS := Mem.suf (M := [own kInt 2 u2303 t2301.fKeys, box b2305 36 [.int .i64 0, .slice none 0 0, .int .i64 0, .int .i64 0]]) HM
     refine ⟨hS, ?_⟩
     refine dt 11 (bs 14 8191) rfl rfl rfl rfl (by kernel_rfl) (ex_build1 (fun u2303 => [(0, .int .i64 ((gt x2 a2263).fValue)), (1, .agg #[u2303, (.int .i64 t2301.fNeed), (.int .i64 t2301.fAfter)])]) (fun u2303 => #[.int .i64 ((gt x2 a2263).fValue), u2303, .int .i64 t2301.fNeed, .int .i64 t2301.fAfter]) rfl rfl (fun _ _ _ => by kernel_rfl) (HM.own_rd 0 rfl).isSl) hS ?_
     replace HM := HM.front 2 rfl rfl
     replace HM := HM.front 1 rfl rfl
     replace HM := HM.front 2 rfl rfl
     exact drw_sub (K2313 u2303 b2305 _ HM) (Sub.cons rfl (Sub.cons rfl (Sub.cons rfl (Sub.cons rfl (Sub.cons rfl (Sub.cons rfl (Sub.cons rfl (Sub.cons rfl Sub.nil))))))))
   ·rintro _ w2320 ⟨u2303, b2305, rfl, HM⟩
    refine at_then ?_
    obtain ⟨t2321, h2322, ho2233⟩ := bind_some ho2233
    refine run_region rfl ?_
    refine ox rfl rfl rfl rfl (ex_move rfl rfl) ?_
    refine ox rfl rfl rfl rfl (ex_move rfl rfl) ?_
    refine ox rfl rfl rfl rfl (ex_move rfl rfl) ?_
    refine ox rfl rfl rfl rfl (ex_build (cells := #[(.int .i64 x1), (.int .i64 a2263)]) rfl rfl (by kernel_rfl)) ?_
    refine ox rfl rfl rfl rfl (ex_loadN (cs := [(.int .i64 ((gt x2 a2263).fValue)), u2303, (.int .i64 t2301.fNeed), (.int .i64 t2301.fAfter)]) rfl rfl Try.underlying36 rfl tsz36 rfl ((HM.box_at 1 rfl).sub 0 4 rfl)) ?_
    refine ox rfl rfl rfl rfl (ex_move rfl rfl) ?_
    refine ox rfl rfl rfl rfl (ex_move rfl rfl) ?_
    refine ox rfl rfl rfl rfl (ex_build1 (fun u2303 => [(0, .agg #[(.int .i64 x1), (.int .i64 a2263)]), (1, .agg #[(.int .i64 ((gt x2 a2263).fValue)), u2303, (.int .i64 t2301.fNeed), (.int .i64 t2301.fAfter)]), (2, .int .i64 x3), (3, .bool x4)]) (fun u2303 => #[.int .i64 x1, .int .i64 a2263, .int .i64 ((gt x2 a2263).fValue), u2303, .int .i64 t2301.fNeed, .int .i64 t2301.fAfter, .int .i64 x3, .bool x4]) rfl rfl (fun _ _ _ => by kernel_rfl) (HM.own_rd 2 rfl).isSl) ?_
    replace HM := HM.front 2 rfl rfl
    replace HM := HM.front 1 rfl rfl
    obtain ⟨F2325, hF2326, hFn2327, hFl2328, HMh2329, hcl2330⟩ := HM.hide (Ms := [own kCoin 41 v2260 a2261, own kInt 2 u2303 t2301.fKeys])
    refine od rfl rfl rfl rfl (does_callk rfl callok54 rfl (spec_l4Add.calls (x0 := a2261) (x1 := (⟨(⟨x1, a2263⟩ : Ref), (⟨(gt x2 a2263).fValue, t2301⟩ : Out), x3, x4⟩ : Coin)) (hide_olds _ _) hF2326 hFn2327 hFl2328 h2322)) ?_
    rintro u2323 w2331 ⟨_, rfl, hn⟩
    replace HM : Mem w [] w2331 [own kCoin 41 u2323 t2321, box b2305 36 [.int .i64 ((gt x2 a2263).fValue), u2303, .int .i64 t2301.fNeed, .int .i64 t2301.fAfter]] := hcl2330 _ _ hn
    refine ox rfl rfl rfl rfl (ex_assign rfl rfl) ?_
    refine ops_nil ?_
    refine at_block ?_
    refine at_then ?_
    refine run_region rfl ?_
    refine ox rfl rfl rfl rfl (ex_move rfl rfl) ?_
    refine ox rfl rfl rfl rfl (ex_add rfl rfl rfl) ?_
    refine ox rfl rfl rfl rfl (ex_assign rfl rfl) ?_
    refine ops_nil ?_
    replace HM := (HM.front 1 rfl rfl).drop
    exact at_again k2290 (ρ1 := [(1, .int .i64 x1), (2, p2), (3, .int .i64 x3), (4, .bool x4), (11, u2323), (12, .int .i64 (wrap64 (a2263 + 1)))]) (Nat.lt_succ_self _) ⟨_, _, _, ho2233, rfl, HM⟩ (Sub.cons rfl (Sub.cons rfl (Sub.cons rfl (Sub.cons rfl (Sub.cons rfl (Sub.cons rfl Sub.nil))))))
  ·replace ho2233 := cond_f hb2292 ho2233
   refine run_exit ?_
   refine at_then_exit ?_
   refine at_then_exit ?_
   refine at_block_exit ?_
   exact at_mid (ρ' := [(11, v2260)]) ⟨_, _, (Option.some.inj ho2233), rfl, HM⟩ (Sub.cons rfl Sub.nil)
 ·rintro _ w2332 ⟨v2229, a2230, rfl, rfl, HM⟩
  refine run_seq ?_
  refine run_region rfl ?_
  refine ox rfl rfl rfl rfl (ex_move rfl rfl) ?_
  refine ox rfl rfl rfl rfl (ex_assign rfl rfl) ?_
  refine ops_nil (at_then ?_)
  refine run_ret ?_
  have hR := Option.some.inj H
  subst hR
  exact at_ret1 rfl rfl ⟨_, rfl, _, rfl, HM⟩

def spec_PutCoins.l0 (x2 : List Out) : Nat → Int → Option (CoinsResult ⊕ Unit)
 | 0, _ => none
 | k + 1, a2406 => (bif (decide (a2406 < (x2.length : Int))) then (chk (idxOk a2406 x2.length) ((spec_l4Out.f k (gt x2 a2406)).bind fun t2422 => (bif (t2422 != 0) then some (.inl (⟨t2422, ([] : List Coin)⟩ : CoinsResult)) else spec_PutCoins.l0 x2 k (wrap64 (a2406 + 1))))) else some (.inr ()))
theorem spec_PutCoins.l0_z (x2 : List Out) (a2406 : Int) : spec_PutCoins.l0 x2 0 a2406 = none := rfl
theorem spec_PutCoins.l0_s (x2 : List Out) (k : Nat) (a2406 : Int) : spec_PutCoins.l0 x2 (k + 1) a2406 = (bif (decide (a2406 < (x2.length : Int))) then (chk (idxOk a2406 x2.length) ((spec_l4Out.f k (gt x2 a2406)).bind fun t2422 => (bif (t2422 != 0) then some (.inl (⟨t2422, ([] : List Coin)⟩ : CoinsResult)) else spec_PutCoins.l0 x2 k (wrap64 (a2406 + 1))))) else some (.inr ())) := rfl
def spec_PutCoins.f (k : Nat) (x0 : List Coin) (x1 : Int) (x2 : List Out) (x3 : Int) (x4 : Bool) : Option CoinsResult := ((spec_l4Fault.f k x0).bind fun t2344 => (bif (t2344 != 0) then some (⟨t2344, ([] : List Coin)⟩ : CoinsResult) else ((spec_l1In.f k x1 1 60).bind fun t2355 => ((bif (!(!t2355)) then spec_l2Height.f k x3 else some default).bind fun t2357 => (bif ((!t2355) || (!t2357)) then some (⟨3, ([] : List Coin)⟩ : CoinsResult) else (bif (decide (4 < (x2.length : Int))) then some (⟨2, ([] : List Coin)⟩ : CoinsResult) else ((spec_PutCoins.l0 x2 k 0).bind fun o2396 => thn o2396 (fun r => some r) (fun _ => ((spec_l4Of.f k x0 x1).bind fun t2432 => (bif t2432 then some (⟨7, ([] : List Coin)⟩ : CoinsResult) else (bif (decide (40 < (wrap64 ((x0.length : Int) + (x2.length : Int))))) then some (⟨2, ([] : List Coin)⟩ : CoinsResult) else ((spec_l4Put.f k x0 x1 x2 x3 x4).bind fun t2442 => some (⟨0, t2442⟩ : CoinsResult)))))))))))))
theorem spec_PutCoins.calls {k : Nat} {x0 : List Coin} {x1 : Int} {x2 : List Out} {x3 : Int} {x4 : Bool} {p0 : Value} {p2 : Value} {w : World} (hp0 : RdS kCoin w p0 x0) (hp2 : RdS kOut w p2 x2) {r : CoinsResult} (H : spec_PutCoins.f k x0 x1 x2 x3 x4 = some r) :
  Calls Try.prog 7 ([p0, .int .i64 x1, p2, .int .i64 x3, .bool x4] : List Value).toArray w (fun e w_ => ∃ v, e = .returned v ∧ ∃ u0 : Value, v = (.agg #[.int .i64 r.fCode, u0]) ∧ Mem w [] w_ [own kCoin 41 u0 r.fCoins]) := by
 have HM := Mem.start w
 refine calls_run (N := 65) Try.func7 rfl rfl rfl rfl ?_
 unfold spec_PutCoins.f at H
 refine run_seq ?_
 refine run_region rfl ?_
 refine od rfl rfl rfl rfl (does_alloc (cs := [.int .i64 0, .slice none 0 0]) rfl tz29 rfl HM) ?_
 rintro _ w2340 ⟨b2337, rfl, HM⟩
 refine ops_nil (at_then (run_seq ?_))
 refine run_seq ?_
 obtain ⟨t2344, h2345, H⟩ := bind_some H
 refine run_region rfl ?_
 refine ox rfl rfl rfl rfl (ex_move rfl rfl) ?_
 refine od rfl rfl rfl rfl (does_callk rfl callok23 rfl (spec_l4Fault.calls (x0 := x0) (HM.rd hp0) h2345)) ?_
 rintro _ w2346 ⟨rfl, hn⟩
 replace HM : Mem w [] w2346 [box b2337 29 [.int .i64 0, .slice none 0 0]] := HM.call hn
 refine ox rfl rfl rfl rfl (ex_assign rfl rfl) ?_
 refine ops_nil (at_then (run_seq ?_))
 refine run_region rfl ?_
 refine ox rfl rfl rfl rfl (ex_move rfl rfl) ?_
 refine ox rfl rfl rfl rfl (ex_neq rfl rfl rfl) ?_
 refine ops_nil (at_then ?_)
 refine run_cond (b := (t2344 != 0)) rfl (fun hb2347 => ?_) (fun hb2347 => ?_)
 ·replace H := cond_t hb2347 H
  refine run_seq ?_
  refine run_region rfl ?_
  refine ox rfl rfl rfl rfl (ex_move rfl rfl) ?_
  refine ox rfl rfl rfl rfl (ex_build (cells := #[(.int .i64 t2344), (.slice none 0 0)]) rfl rfl (by kernel_rfl)) ?_
  refine odS rfl rfl rfl (does_store (vs := [.int .i64 t2344, .slice none 0 0]) (cs' := [.int .i64 t2344, .slice none 0 0]) rfl rfl rfl rfl tsz29 (Ones.int (Ones.sl Ones.nil)) rfl rfl HM) ?_
  rintro w2348 HM
  refine ops_nil (at_then ?_)
  refine run_ret ?_
  refine at_then_ret ?_
  replace HM := HM.empty kCoin 41 none
  replace HM := HM.front 1 rfl rfl
  have hcb0 := HM.box_at 0 rfl
  replace HM := (HM.front 0 rfl rfl).drop
  have hR := Option.some.inj H
  subst hR
  exact at_retN rfl rfl Try.underlying29 rfl tsz29 rfl hcb0 ⟨_, rfl, _, rfl, HM⟩
 ·replace H := cond_f hb2347 H
  refine run_skip ?_
  refine at_then ?_
  refine run_seq ?_
  refine run_seq ?_
  obtain ⟨t2355, h2356, H⟩ := bind_some H
  obtain ⟨t2357, h2358, H⟩ := bind_some H
  refine run_meet (fun ρ_ w_ => ρ_ = [(0, p0), (1, .int .i64 x1), (2, p2), (3, .int .i64 x3), (4, .bool x4), (10, .pointer (some ⟨b2337, 0, none⟩)), (27, .bool ((!t2355) || (!t2357)))] ∧ Mem w [] w_ [box b2337 29 [.int .i64 0, .slice none 0 0]]) ?_ ?_
  ·skip
   refine run_region rfl ?_
   refine ox rfl rfl rfl rfl (ex_move rfl rfl) ?_
   refine od rfl rfl rfl rfl (does_callk rfl callok24 rfl (spec_l1In.calls (x0 := x1) (x1 := 1) (x2 := 60) h2356)) ?_
   rintro _ w2359 ⟨rfl, hn⟩
   replace HM : Mem w [] w2359 [box b2337 29 [.int .i64 0, .slice none 0 0]] := HM.call hn
   refine ox rfl rfl rfl rfl (ex_not rfl rfl) ?_
   refine ox rfl rfl rfl rfl (ex_move rfl rfl) ?_
   refine bool_cases (!t2355) (fun hg2360 => ?_) (fun hg2360 => ?_)
   ·skip
    refine ops_off rfl (guard_off rfl rfl rfl hg2360) rfl rfl ?_
    refine ops_off rfl (guard_off rfl rfl rfl hg2360) rfl rfl ?_
    refine ops_off rfl (guard_off rfl rfl rfl hg2360) rfl rfl ?_
    have hg2361 : ((!t2355) || (!t2357)) = true := by simp only [hg2360, Bool.and_true, Bool.true_and, Bool.and_false, Bool.false_and, Bool.or_true, Bool.true_or, Bool.or_false, Bool.false_or, Bool.not_true, Bool.not_false, Bool.not_not]
    refine ops_ex (v := .bool ((!t2355) || (!t2357))) rfl (guard_none rfl) rfl rfl (ex_por_t rfl rfl hg2360) ?_
    refine ops_nil ?_
    exact at_meet [(0, p0), (1, .int .i64 x1), (2, p2), (3, .int .i64 x3), (4, .bool x4), (10, .pointer (some ⟨b2337, 0, none⟩)), (27, .bool ((!t2355) || (!t2357)))] ⟨rfl, HM⟩ (Sub.cons rfl (Sub.cons rfl (Sub.cons rfl (Sub.cons rfl (Sub.cons rfl (Sub.cons rfl (Sub.cons rfl Sub.nil)))))))
   ·skip
    refine ops_ex rfl (guard_on rfl rfl rfl hg2360) rfl rfl (ex_move rfl rfl) ?_
    refine ops_does rfl (guard_on rfl rfl rfl hg2360) rfl rfl (does_callk rfl callok25 rfl (spec_l2Height.calls (x0 := x3) (cond_t (not_mk hg2360) h2358))) ?_
    rintro _ w2362 ⟨rfl, hn⟩
    replace HM : Mem w [] w2362 [box b2337 29 [.int .i64 0, .slice none 0 0]] := HM.call hn
    refine ops_ex rfl (guard_on rfl rfl rfl hg2360) rfl rfl (ex_not rfl rfl) ?_
    refine ops_ex (v := .bool ((!t2355) || (!t2357))) rfl (guard_none rfl) rfl rfl (ex_por_f rfl rfl hg2360 rfl) ?_
    refine ops_nil ?_
    exact at_meet [(0, p0), (1, .int .i64 x1), (2, p2), (3, .int .i64 x3), (4, .bool x4), (10, .pointer (some ⟨b2337, 0, none⟩)), (27, .bool ((!t2355) || (!t2357)))] ⟨rfl, HM⟩ (Sub.cons rfl (Sub.cons rfl (Sub.cons rfl (Sub.cons rfl (Sub.cons rfl (Sub.cons rfl (Sub.cons rfl Sub.nil)))))))
  ·rintro _ w2363 ⟨rfl, HM⟩
   refine at_then ?_
   refine run_cond (b := ((!t2355) || (!t2357))) rfl (fun hb2364 => ?_) (fun hb2364 => ?_)
   ·replace H := cond_t hb2364 H
    refine run_seq ?_
    refine run_region rfl ?_
    refine ox rfl rfl rfl rfl (ex_build (cells := #[(.int .i64 3), (.slice none 0 0)]) rfl rfl (by kernel_rfl)) ?_
    refine odS rfl rfl rfl (does_store (vs := [.int .i64 3, .slice none 0 0]) (cs' := [.int .i64 3, .slice none 0 0]) rfl rfl rfl rfl tsz29 (Ones.int (Ones.sl Ones.nil)) rfl rfl HM) ?_
    rintro w2365 HM
    refine ops_nil (at_then ?_)
    refine run_ret ?_
    refine at_then_ret ?_
    replace HM := HM.empty kCoin 41 none
    replace HM := HM.front 1 rfl rfl
    have hcb0 := HM.box_at 0 rfl
    replace HM := (HM.front 0 rfl rfl).drop
    have hR := Option.some.inj H
    subst hR
    exact at_retN rfl rfl Try.underlying29 rfl tsz29 rfl hcb0 ⟨_, rfl, _, rfl, HM⟩
   ·replace H := cond_f hb2364 H
    refine run_skip ?_
    refine at_then ?_
    refine run_seq ?_
    refine run_seq ?_
    refine run_region rfl ?_
    refine ox rfl rfl rfl rfl (ex_move rfl rfl) ?_
    refine ox rfl rfl rfl rfl (ex_len (d := kOut) (xs := x2) rfl rfl Try.underlying25 hp2) ?_
    refine ox rfl rfl rfl rfl (ex_gtr rfl rfl rfl) ?_
    refine ops_nil (at_then ?_)
    refine run_cond (b := (decide (4 < (x2.length : Int)))) rfl (fun hb2368 => ?_) (fun hb2368 => ?_)
    ·replace H := cond_t hb2368 H
     refine run_seq ?_
     refine run_region rfl ?_
     refine ox rfl rfl rfl rfl (ex_build (cells := #[(.int .i64 2), (.slice none 0 0)]) rfl rfl (by kernel_rfl)) ?_
     refine odS rfl rfl rfl (does_store (vs := [.int .i64 2, .slice none 0 0]) (cs' := [.int .i64 2, .slice none 0 0]) rfl rfl rfl rfl tsz29 (Ones.int (Ones.sl Ones.nil)) rfl rfl HM) ?_
     rintro w2369 HM
     refine ops_nil (at_then ?_)
     refine run_ret ?_
     refine at_then_ret ?_
     replace HM := HM.empty kCoin 41 none
     replace HM := HM.front 1 rfl rfl
     have hcb0 := HM.box_at 0 rfl
     replace HM := (HM.front 0 rfl rfl).drop
     have hR := Option.some.inj H
     subst hR
     exact at_retN rfl rfl Try.underlying29 rfl tsz29 rfl hcb0 ⟨_, rfl, _, rfl, HM⟩
    ·replace H := cond_f hb2368 H
     refine run_skip ?_
     refine at_then ?_
     obtain ⟨o2396, ho2397, H⟩ := bind_some H
     refine run_mid (fun ρ_ w_ => Sum.inr () = o2396 ∧ ρ_ = [(0, p0), (1, .int .i64 x1), (2, p2), (3, .int .i64 x3), (4, .bool x4), (10, .pointer (some ⟨b2337, 0, none⟩))] ∧ Mem w [] w_ [box b2337 29 [.int .i64 0, .slice none 0 0]]) ?_ ?_
     ·skip
      refine run_seq ?_
      refine run_region rfl ?_
      refine ox rfl rfl rfl rfl (ex_assign rfl rfl) ?_
      refine ops_nil (at_then ?_)
      refine run_block ?_
      refine run_loop (fun k_ ρ_ w_ => ∃ a2406 : Int, spec_PutCoins.l0 x2 k_ a2406 = some o2396 ∧ ρ_ = [(0, p0), (1, .int .i64 x1), (2, p2), (3, .int .i64 x3), (4, .bool x4), (10, .pointer (some ⟨b2337, 0, none⟩)), (12, .int .i64 a2406)] ∧ Mem w [] w_ [box b2337 29 [.int .i64 0, .slice none 0 0]]) k (ρ1 := [(0, p0), (1, .int .i64 x1), (2, p2), (3, .int .i64 x3), (4, .bool x4), (10, .pointer (some ⟨b2337, 0, none⟩)), (12, .int .i64 0)]) ⟨_, ho2397, rfl, HM⟩ (Sub.cons rfl (Sub.cons rfl (Sub.cons rfl (Sub.cons rfl (Sub.cons rfl (Sub.cons rfl (Sub.cons rfl Sub.nil))))))) ?_
      clear HM ho2397
      rintro k2415 _ w2416 ⟨a2406, ho2397, rfl, HM⟩
      obtain _ | k2415 := k2415
      ·exact nomatch ((spec_PutCoins.l0_z x2 a2406).symm.trans ho2397)
      replace ho2397 := (spec_PutCoins.l0_s x2 k2415 a2406).symm.trans ho2397
      refine run_seq ?_
      refine run_seq ?_
      refine run_region rfl ?_
      refine ox rfl rfl rfl rfl (ex_move rfl rfl) ?_
      refine ox rfl rfl rfl rfl (ex_move rfl rfl) ?_
      refine ox rfl rfl rfl rfl (ex_len (d := kOut) (xs := x2) rfl rfl Try.underlying25 hp2) ?_
      refine ox rfl rfl rfl rfl (ex_lss rfl rfl rfl) ?_
      refine ops_nil (at_then ?_)
      refine run_cond (b := (decide (a2406 < (x2.length : Int)))) rfl (fun hb2417 => ?_) (fun hb2417 => ?_)
      ·replace ho2397 := cond_t hb2417 ho2397
       refine run_skip ?_
       refine at_then ?_
       refine run_seq ?_
       refine run_block ?_
       refine run_seq ?_
       obtain ⟨e2418, ho2397⟩ := chk_some ho2397
       obtain ⟨t2422, h2423, ho2397⟩ := bind_some ho2397
       refine run_region rfl ?_
       refine ox rfl rfl rfl rfl (ex_move rfl rfl) ?_
       refine ox rfl rfl rfl rfl (ex_move rfl rfl) ?_
       obtain ⟨kv2420, hc2419, hk2421⟩ : ∃ u, CellsAt _ (sb p2) (so p2 + (a2406).toNat * 4) [(.int .i64 ((gt x2 a2406).fValue)), u, (.int .i64 ((gt x2 a2406).fRule.fNeed)), (.int .i64 ((gt x2 a2406).fRule.fAfter))] ∧ RdS kInt _ u ((gt x2 a2406).fRule.fKeys) := rd_with1 hp2 e2418
       refine ox rfl rfl rfl rfl (ex_indexAddr (d := kOut) rfl rfl rfl Try.underlying25 tsz36 hp2 (idx_lo e2418) (idx_hi e2418)) ?_
       refine od rfl rfl rfl rfl (does_callk rfl callok26 rfl (spec_l4Out.calls (x0 := (gt x2 a2406)) (HM.at_ hc2419) (HM.rd hk2421) h2423)) ?_
       rintro _ w2424 ⟨rfl, hn⟩
       replace HM : Mem w [] w2424 [box b2337 29 [.int .i64 0, .slice none 0 0]] := HM.call hn
       refine ox rfl rfl rfl rfl (ex_assign rfl rfl) ?_
       refine ops_nil (at_then (run_seq ?_))
       refine run_region rfl ?_
       refine ox rfl rfl rfl rfl (ex_move rfl rfl) ?_
       refine ox rfl rfl rfl rfl (ex_neq rfl rfl rfl) ?_
       refine ops_nil (at_then ?_)
       refine run_cond (b := (t2422 != 0)) rfl (fun hb2425 => ?_) (fun hb2425 => ?_)
       ·replace ho2397 := cond_t hb2425 ho2397
        refine run_seq ?_
        refine run_region rfl ?_
        refine ox rfl rfl rfl rfl (ex_move rfl rfl) ?_
        refine ox rfl rfl rfl rfl (ex_build (cells := #[(.int .i64 t2422), (.slice none 0 0)]) rfl rfl (by kernel_rfl)) ?_
        refine odS rfl rfl rfl (does_store (vs := [.int .i64 t2422, .slice none 0 0]) (cs' := [.int .i64 t2422, .slice none 0 0]) rfl rfl rfl rfl tsz29 (Ones.int (Ones.sl Ones.nil)) rfl rfl HM) ?_
        rintro w2426 HM
        refine ops_nil (at_then ?_)
        refine run_ret ?_
        refine at_block_ret ?_
        refine at_then_ret ?_
        refine at_then_ret ?_
        refine at_block_ret ?_
        refine at_then_ret ?_
        replace HM := HM.empty kCoin 41 none
        replace HM := HM.front 1 rfl rfl
        have hcb0 := HM.box_at 0 rfl
        replace HM := (HM.front 0 rfl rfl).drop
        have hR := Option.some.inj ho2397
        subst hR
        have hT := thn_inl H
        have hR := Option.some.inj hT
        subst hR
        exact at_retN rfl rfl Try.underlying29 rfl tsz29 rfl hcb0 ⟨_, rfl, _, rfl, HM⟩
       ·replace ho2397 := cond_f hb2425 ho2397
        refine run_skip ?_
        refine at_block ?_
        refine at_then ?_
        refine run_region rfl ?_
        refine ox rfl rfl rfl rfl (ex_move rfl rfl) ?_
        refine ox rfl rfl rfl rfl (ex_add rfl rfl rfl) ?_
        refine ox rfl rfl rfl rfl (ex_assign rfl rfl) ?_
        refine ops_nil ?_
        exact at_again k2415 (ρ1 := [(0, p0), (1, .int .i64 x1), (2, p2), (3, .int .i64 x3), (4, .bool x4), (10, .pointer (some ⟨b2337, 0, none⟩)), (12, .int .i64 (wrap64 (a2406 + 1)))]) (Nat.lt_succ_self _) ⟨_, ho2397, rfl, HM⟩ (Sub.cons rfl (Sub.cons rfl (Sub.cons rfl (Sub.cons rfl (Sub.cons rfl (Sub.cons rfl (Sub.cons rfl Sub.nil)))))))
      ·replace ho2397 := cond_f hb2417 ho2397
       refine run_exit ?_
       refine at_then_exit ?_
       refine at_then_exit ?_
       refine at_block_exit ?_
       exact at_mid (ρ' := [(0, p0), (1, .int .i64 x1), (2, p2), (3, .int .i64 x3), (4, .bool x4), (10, .pointer (some ⟨b2337, 0, none⟩))]) ⟨(Option.some.inj ho2397), rfl, HM⟩ (Sub.cons rfl (Sub.cons rfl (Sub.cons rfl (Sub.cons rfl (Sub.cons rfl (Sub.cons rfl Sub.nil))))))
     ·rintro _ w2428 ⟨rfl, rfl, HM⟩
      replace H := (thn_inr H)
      refine run_seq ?_
      refine run_seq ?_
      obtain ⟨t2432, h2433, H⟩ := bind_some H
      refine run_region rfl ?_
      refine ox rfl rfl rfl rfl (ex_move rfl rfl) ?_
      refine ox rfl rfl rfl rfl (ex_move rfl rfl) ?_
      refine od rfl rfl rfl rfl (does_callk rfl callok27 rfl (spec_l4Of.calls (x0 := x0) (x1 := x1) (HM.rd hp0) h2433)) ?_
      rintro _ w2434 ⟨rfl, hn⟩
      replace HM : Mem w [] w2434 [box b2337 29 [.int .i64 0, .slice none 0 0]] := HM.call hn
      refine ops_nil (at_then ?_)
      refine run_cond (b := t2432) rfl (fun hb2435 => ?_) (fun hb2435 => ?_)
      ·replace H := cond_t hb2435 H
       refine run_seq ?_
       refine run_region rfl ?_
       refine ox rfl rfl rfl rfl (ex_build (cells := #[(.int .i64 7), (.slice none 0 0)]) rfl rfl (by kernel_rfl)) ?_
       refine odS rfl rfl rfl (does_store (vs := [.int .i64 7, .slice none 0 0]) (cs' := [.int .i64 7, .slice none 0 0]) rfl rfl rfl rfl tsz29 (Ones.int (Ones.sl Ones.nil)) rfl rfl HM) ?_
       rintro w2436 HM
       refine ops_nil (at_then ?_)
       refine run_ret ?_
       refine at_then_ret ?_
       replace HM := HM.empty kCoin 41 none
       replace HM := HM.front 1 rfl rfl
       have hcb0 := HM.box_at 0 rfl
       replace HM := (HM.front 0 rfl rfl).drop
       have hR := Option.some.inj H
       subst hR
       exact at_retN rfl rfl Try.underlying29 rfl tsz29 rfl hcb0 ⟨_, rfl, _, rfl, HM⟩
      ·replace H := cond_f hb2435 H
       refine run_skip ?_
       refine at_then ?_
       refine run_seq ?_
       refine run_seq ?_
       refine run_region rfl ?_
       refine ox rfl rfl rfl rfl (ex_move rfl rfl) ?_
       refine ox rfl rfl rfl rfl (ex_len (d := kCoin) (xs := x0) rfl rfl Try.underlying24 hp0) ?_
       refine ox rfl rfl rfl rfl (ex_move rfl rfl) ?_
       refine ox rfl rfl rfl rfl (ex_len (d := kOut) (xs := x2) rfl rfl Try.underlying25 hp2) ?_
       refine ox rfl rfl rfl rfl (ex_add rfl rfl rfl) ?_
       refine ox rfl rfl rfl rfl (ex_gtr rfl rfl rfl) ?_
       refine ops_nil (at_then ?_)
       refine run_cond (b := (decide (40 < (wrap64 ((x0.length : Int) + (x2.length : Int)))))) rfl (fun hb2439 => ?_) (fun hb2439 => ?_)
       ·replace H := cond_t hb2439 H
        refine run_seq ?_
        refine run_region rfl ?_
        refine ox rfl rfl rfl rfl (ex_build (cells := #[(.int .i64 2), (.slice none 0 0)]) rfl rfl (by kernel_rfl)) ?_
        refine odS rfl rfl rfl (does_store (vs := [.int .i64 2, .slice none 0 0]) (cs' := [.int .i64 2, .slice none 0 0]) rfl rfl rfl rfl tsz29 (Ones.int (Ones.sl Ones.nil)) rfl rfl HM) ?_
        rintro w2440 HM
        refine ops_nil (at_then ?_)
        refine run_ret ?_
        refine at_then_ret ?_
        replace HM := HM.empty kCoin 41 none
        replace HM := HM.front 1 rfl rfl
        have hcb0 := HM.box_at 0 rfl
        replace HM := (HM.front 0 rfl rfl).drop
        have hR := Option.some.inj H
        subst hR
        exact at_retN rfl rfl Try.underlying29 rfl tsz29 rfl hcb0 ⟨_, rfl, _, rfl, HM⟩
       ·replace H := cond_f hb2439 H
        refine run_skip ?_
        refine at_then ?_
        refine run_seq ?_
        obtain ⟨t2442, h2443, H⟩ := bind_some H
        refine run_region rfl ?_
        refine ox rfl rfl rfl rfl (ex_move rfl rfl) ?_
        refine ox rfl rfl rfl rfl (ex_move rfl rfl) ?_
        refine ox rfl rfl rfl rfl (ex_move rfl rfl) ?_
        refine ox rfl rfl rfl rfl (ex_move rfl rfl) ?_
        refine ox rfl rfl rfl rfl (ex_move rfl rfl) ?_
        refine od rfl rfl rfl rfl (does_callk rfl callok28 rfl (spec_l4Put.calls (x0 := x0) (x1 := x1) (x2 := x2) (x3 := x3) (x4 := x4) (HM.rd hp0) (HM.rd hp2) h2443)) ?_
        rintro u2444 w2446 ⟨_, rfl, hn⟩
        replace HM : Mem w [] w2446 [own kCoin 41 u2444 t2442, box b2337 29 [.int .i64 0, .slice none 0 0]] := HM.call hn
        refine ox rfl rfl rfl rfl (ex_build1 (fun u2444 => [(1, u2444)]) (fun u2444 => #[.int .i64 0, u2444]) rfl rfl (fun _ _ _ => by kernel_rfl) (HM.own_rd 0 rfl).isSl) ?_
        replace HM := HM.front 1 rfl rfl
        refine odS rfl rfl rfl (does_store (vs := [.int .i64 0, u2444]) (cs' := [.int .i64 0, u2444]) rfl rfl rfl rfl tsz29 (Ones.int (Ones.rd (HM.own_rd 1 rfl) Ones.nil)) rfl rfl HM) ?_
        rintro w2447 HM
        refine ops_nil (at_then ?_)
        refine run_ret ?_
        have hcb0 := HM.box_at 0 rfl
        replace HM := (HM.front 0 rfl rfl).drop
        have hR := Option.some.inj H
        subst hR
        exact at_retN rfl rfl Try.underlying29 rfl tsz29 rfl hcb0 ⟨_, rfl, _, rfl, HM⟩
end Go.Proofs.Ytecgbhfgkkpmhaa.Zk
