/- What functions of the program compute, each as a plain function, and that they do. Conditions: as each theorem states them. -/
import Derived.Test.YtoiacoiccpiciaaSameStatesZkF2
namespace Go.Proofs.Ytoiacoiccpiciaa.Zk
open Go Go.RowKit Go.IntWalk Go.Proofs
set_option linter.unusedVariables false
set_option linter.unusedSimpArgs false
set_option maxRecDepth 100000
set_option maxHeartbeats 4000000
def slices_EqualFunc_impl_Coin.l0 (x0 : List Coin) (x1 : List Coin) : Nat → Int → Option (Bool ⊕ Unit)
  | 0, _ => none
  | k + 1, a1603 => (bif (decide (a1603 < (x0.length : Int))) then (chk (idxOk a1603 x0.length) (chk (idxOk a1603 x1.length) ((impl_sameCoin.f k (gt x0 a1603) (gt x1 a1603)).bind fun t1643 => (bif !t1643 then some (.inl false) else slices_EqualFunc_impl_Coin.l0 x0 x1 k (wrap64 (a1603 + 1)))))) else some (.inr ()))
theorem slices_EqualFunc_impl_Coin.l0_z (x0 : List Coin) (x1 : List Coin) (a1603 : Int) : slices_EqualFunc_impl_Coin.l0 x0 x1 0 a1603 = none := rfl
theorem slices_EqualFunc_impl_Coin.l0_s (x0 : List Coin) (x1 : List Coin) (k : Nat) (a1603 : Int) : slices_EqualFunc_impl_Coin.l0 x0 x1 (k + 1) a1603 = (bif (decide (a1603 < (x0.length : Int))) then (chk (idxOk a1603 x0.length) (chk (idxOk a1603 x1.length) ((impl_sameCoin.f k (gt x0 a1603) (gt x1 a1603)).bind fun t1643 => (bif !t1643 then some (.inl false) else slices_EqualFunc_impl_Coin.l0 x0 x1 k (wrap64 (a1603 + 1)))))) else some (.inr ())) := rfl
def slices_EqualFunc_impl_Coin.f (k : Nat) (x0 : List Coin) (x1 : List Coin) : Option Bool := (bif ((x0.length : Int) != (x1.length : Int)) then some false else ((slices_EqualFunc_impl_Coin.l0 x0 x1 k 0).bind fun o1583 => thn o1583 (fun r => some r) (fun _ => some true)))
theorem slices_EqualFunc_impl_Coin.calls {k : Nat} {x0 : List Coin} {x1 : List Coin} {p0 : Value} {p1 : Value} {w : World} (hp0 : RdS kCoin w p0 x0) (hp1 : RdS kCoin w p1 x1) {r : Bool} (H : slices_EqualFunc_impl_Coin.f k x0 x1 = some r) :
    Calls Try.prog 65 ([p0, p1, .func (.func 66) #[] #[]] : List Value).toArray w (fun e w_ => ∃ v, e = .returned v ∧ v = (.bool r) ∧ Mem w [] w_ []) := by
  have HM := Mem.start w
  refine calls_run (N := 32) Try.func65 rfl rfl rfl rfl ?_
  unfold slices_EqualFunc_impl_Coin.f at H
  refine run_seq ?_
  refine run_region rfl ?_
  refine ops_ex rfl (guard_none rfl) rfl rfl (ex_assign rfl rfl) ?_
  refine ops_nil ?_
  refine at_then ?_
  refine run_seq ?_
  refine run_seq ?_
  refine run_region rfl ?_
  refine ops_ex rfl (guard_none rfl) rfl rfl (ex_move rfl rfl) ?_
  refine ops_ex rfl (guard_none rfl) rfl rfl (ex_len (d := kCoin) (xs := x0) rfl rfl Try.underlying25 hp0) ?_
  refine ops_ex rfl (guard_none rfl) rfl rfl (ex_move rfl rfl) ?_
  refine ops_ex rfl (guard_none rfl) rfl rfl (ex_len (d := kCoin) (xs := x1) rfl rfl Try.underlying25 hp1) ?_
  refine ops_ex rfl (guard_none rfl) rfl rfl (ex_neq rfl rfl rfl) ?_
  refine ops_nil ?_
  refine at_then ?_
  refine run_cond (b := ((x0.length : Int) != (x1.length : Int))) rfl (fun hb1527 => ?_) (fun hb1527 => ?_)
  · replace H := cond_t hb1527 H
    refine run_seq ?_
    refine run_region rfl ?_
    refine ops_ex rfl (guard_none rfl) rfl rfl (ex_assign rfl rfl) ?_
    refine ops_nil ?_
    refine at_then ?_
    refine run_ret ?_
    refine at_then_ret ?_
    have hR := Option.some.inj H
    subst hR
    exact at_ret1 rfl rfl ⟨_, rfl, rfl, HM⟩
  · replace H := cond_f hb1527 H
    refine run_skip ?_
    refine at_then ?_
    obtain ⟨o1583, ho1584, H⟩ := bind_some H
    refine run_mid (fun ρ_ w_ => Sum.inr () = o1583 ∧ ρ_ = [] ∧ Mem w [] w_ []) ?_ ?_
    · skip
      refine run_seq ?_
      refine run_region rfl ?_
      refine ops_ex rfl (guard_none rfl) rfl rfl (ex_move rfl rfl) ?_
      refine ops_ex rfl (guard_none rfl) rfl rfl (ex_len (d := kCoin) (xs := x0) rfl rfl Try.underlying25 hp0) ?_
      refine ops_ex rfl (guard_none rfl) rfl rfl (ex_move rfl rfl) ?_
      refine ops_nil ?_
      refine at_then ?_
      refine run_block ?_
      refine run_loop (fun k_ ρ_ w_ => ∃ a1603 : Int, slices_EqualFunc_impl_Coin.l0 x0 x1 k_ a1603 = some o1583 ∧ ρ_ = [(1, p1), (2, .func (.func 66) #[] #[]), (15, p0), (16, .int .i64 (x0.length : Int)), (17, .int .i64 a1603)] ∧ Mem w [] w_ []) k (ρ1 := [(1, p1), (2, .func (.func 66) #[] #[]), (15, p0), (16, .int .i64 (x0.length : Int)), (17, .int .i64 0)]) ⟨_, ho1584, rfl, HM⟩ (Sub.cons rfl (Sub.cons rfl (Sub.cons rfl (Sub.cons rfl (Sub.cons rfl Sub.nil))))) ?_
      clear HM ho1584
      rintro k1622 _ w1623 ⟨a1603, ho1584, rfl, HM⟩
      obtain _ | k1622 := k1622
      · exact nomatch ((slices_EqualFunc_impl_Coin.l0_z x0 x1 a1603).symm.trans ho1584)
      replace ho1584 := (slices_EqualFunc_impl_Coin.l0_s x0 x1 k1622 a1603).symm.trans ho1584
      refine run_seq ?_
      refine run_region rfl ?_
      refine ops_ex rfl (guard_none rfl) rfl rfl (ex_lss rfl rfl rfl) ?_
      refine ops_nil ?_
      refine at_then ?_
      refine run_seq ?_
      refine run_cond (b := (decide (a1603 < (x0.length : Int)))) rfl (fun hb1624 => ?_) (fun hb1624 => ?_)
      · replace ho1584 := cond_t hb1624 ho1584
        refine run_skip ?_
        refine at_then ?_
        refine run_seq ?_
        refine run_block ?_
        refine run_seq ?_
        obtain ⟨e1625, ho1584⟩ := chk_some ho1584
        refine run_region rfl ?_
        refine ops_ex rfl (guard_none rfl) rfl rfl (ex_move rfl rfl) ?_
        obtain ⟨kv1627, hc1626, hk1628⟩ : ∃ u, CellsAt _ (sb p0) (so p0 + (a1603).toNat * 8) [(.int .i64 ((gt x0 a1603).fRef.fTx)), (.int .i64 ((gt x0 a1603).fRef.fAt)), (.int .i64 ((gt x0 a1603).fOut.fValue)), u, (.int .i64 ((gt x0 a1603).fOut.fRule.fNeed)), (.int .i64 ((gt x0 a1603).fOut.fRule.fAfter)), (.int .i64 ((gt x0 a1603).fHeight)), (.bool ((gt x0 a1603).fMined))] ∧ RdS kInt _ u ((gt x0 a1603).fOut.fRule.fKeys) := rd_with1 hp0 e1625
        refine ops_ex rfl (guard_none rfl) rfl rfl (ex_indexAddr (d := kCoin) rfl rfl rfl Try.underlying25 tsz104 hp0 (idx_lo e1625) (idx_hi e1625)) ?_
        refine ops_ex rfl (guard_none rfl) rfl rfl (ex_loadN (cs := [(.int .i64 ((gt x0 a1603).fRef.fTx)), (.int .i64 ((gt x0 a1603).fRef.fAt)), (.int .i64 ((gt x0 a1603).fOut.fValue)), kv1627, (.int .i64 ((gt x0 a1603).fOut.fRule.fNeed)), (.int .i64 ((gt x0 a1603).fOut.fRule.fAfter)), (.int .i64 ((gt x0 a1603).fHeight)), (.bool ((gt x0 a1603).fMined))]) rfl rfl Try.underlying104 rfl tsz104 rfl ((HM.at_ hc1626).sub 0 8 rfl)) ?_
        refine ops_does rfl (guard_none rfl) rfl rfl (does_alloc (cs := [.int .i64 0, .int .i64 0, .int .i64 0, .slice none 0 0, .int .i64 0, .int .i64 0, .int .i64 0, .bool false]) rfl tz104 rfl HM) ?_
        rintro _ w1632 ⟨b1629, rfl, HM⟩
        refine ops_ex rfl (guard_none rfl) rfl rfl (ex_assign rfl rfl) ?_
        refine ops_doesS rfl (guard_none rfl) rfl (does_store (vs := [.int .i64 ((gt x0 a1603).fRef.fTx), .int .i64 ((gt x0 a1603).fRef.fAt), .int .i64 ((gt x0 a1603).fOut.fValue), kv1627, .int .i64 ((gt x0 a1603).fOut.fRule.fNeed), .int .i64 ((gt x0 a1603).fOut.fRule.fAfter), .int .i64 ((gt x0 a1603).fHeight), .bool ((gt x0 a1603).fMined)]) (cs' := [.int .i64 ((gt x0 a1603).fRef.fTx), .int .i64 ((gt x0 a1603).fRef.fAt), .int .i64 ((gt x0 a1603).fOut.fValue), kv1627, .int .i64 ((gt x0 a1603).fOut.fRule.fNeed), .int .i64 ((gt x0 a1603).fOut.fRule.fAfter), .int .i64 ((gt x0 a1603).fHeight), .bool ((gt x0 a1603).fMined)]) rfl rfl rfl rfl tsz104 (Ones.int (Ones.int (Ones.int (Ones.rd hk1628 (Ones.int (Ones.int (Ones.int (Ones.bool Ones.nil)))))))) rfl rfl HM) ?_
        rintro w1633 HM
        refine ops_nil ?_
        refine at_then ?_
        refine run_seq ?_
        obtain ⟨e1634, ho1584⟩ := chk_some ho1584
        refine run_region rfl ?_
        refine ops_ex rfl (guard_none rfl) rfl rfl (ex_move rfl rfl) ?_
        refine ops_ex rfl (guard_none rfl) rfl rfl (ex_move rfl rfl) ?_
        obtain ⟨kv1636, hc1635, hk1637⟩ : ∃ u, CellsAt _ (sb p1) (so p1 + (a1603).toNat * 8) [(.int .i64 ((gt x1 a1603).fRef.fTx)), (.int .i64 ((gt x1 a1603).fRef.fAt)), (.int .i64 ((gt x1 a1603).fOut.fValue)), u, (.int .i64 ((gt x1 a1603).fOut.fRule.fNeed)), (.int .i64 ((gt x1 a1603).fOut.fRule.fAfter)), (.int .i64 ((gt x1 a1603).fHeight)), (.bool ((gt x1 a1603).fMined))] ∧ RdS kInt _ u ((gt x1 a1603).fOut.fRule.fKeys) := rd_with1 hp1 e1634
        refine ops_ex rfl (guard_none rfl) rfl rfl (ex_indexAddr (d := kCoin) rfl rfl rfl Try.underlying25 tsz104 hp1 (idx_lo e1634) (idx_hi e1634)) ?_
        refine ops_ex rfl (guard_none rfl) rfl rfl (ex_loadN (cs := [(.int .i64 ((gt x1 a1603).fRef.fTx)), (.int .i64 ((gt x1 a1603).fRef.fAt)), (.int .i64 ((gt x1 a1603).fOut.fValue)), kv1636, (.int .i64 ((gt x1 a1603).fOut.fRule.fNeed)), (.int .i64 ((gt x1 a1603).fOut.fRule.fAfter)), (.int .i64 ((gt x1 a1603).fHeight)), (.bool ((gt x1 a1603).fMined))]) rfl rfl Try.underlying104 rfl tsz104 rfl ((HM.at_ hc1635).sub 0 8 rfl)) ?_
        refine ops_does rfl (guard_none rfl) rfl rfl (does_alloc (cs := [.int .i64 0, .int .i64 0, .int .i64 0, .slice none 0 0, .int .i64 0, .int .i64 0, .int .i64 0, .bool false]) rfl tz104 rfl HM) ?_
        rintro _ w1641 ⟨b1638, rfl, HM⟩
        refine ops_doesS rfl (guard_none rfl) rfl (does_store (vs := [.int .i64 ((gt x1 a1603).fRef.fTx), .int .i64 ((gt x1 a1603).fRef.fAt), .int .i64 ((gt x1 a1603).fOut.fValue), kv1636, .int .i64 ((gt x1 a1603).fOut.fRule.fNeed), .int .i64 ((gt x1 a1603).fOut.fRule.fAfter), .int .i64 ((gt x1 a1603).fHeight), .bool ((gt x1 a1603).fMined)]) (cs' := [.int .i64 ((gt x1 a1603).fRef.fTx), .int .i64 ((gt x1 a1603).fRef.fAt), .int .i64 ((gt x1 a1603).fOut.fValue), kv1636, .int .i64 ((gt x1 a1603).fOut.fRule.fNeed), .int .i64 ((gt x1 a1603).fOut.fRule.fAfter), .int .i64 ((gt x1 a1603).fHeight), .bool ((gt x1 a1603).fMined)]) rfl rfl rfl rfl tsz104 (Ones.int (Ones.int (Ones.int (Ones.rd hk1637 (Ones.int (Ones.int (Ones.int (Ones.bool Ones.nil)))))))) rfl rfl HM) ?_
        rintro w1642 HM
        refine ops_nil ?_
        refine at_then ?_
        refine run_seq ?_
        obtain ⟨t1643, h1644, ho1584⟩ := bind_some ho1584
        refine run_region rfl ?_
        refine ops_ex rfl (guard_none rfl) rfl rfl (ex_move rfl rfl) ?_
        refine ops_ex rfl (guard_none rfl) rfl rfl (ex_loadN (cs := [(.int .i64 ((gt x0 a1603).fRef.fTx)), (.int .i64 ((gt x0 a1603).fRef.fAt)), (.int .i64 ((gt x0 a1603).fOut.fValue)), kv1627, (.int .i64 ((gt x0 a1603).fOut.fRule.fNeed)), (.int .i64 ((gt x0 a1603).fOut.fRule.fAfter)), (.int .i64 ((gt x0 a1603).fHeight)), (.bool ((gt x0 a1603).fMined))]) rfl rfl Try.underlying104 rfl tsz104 rfl ((HM.box_at 1 rfl).sub 0 8 rfl)) ?_
        refine ops_ex rfl (guard_none rfl) rfl rfl (ex_loadN (cs := [(.int .i64 ((gt x1 a1603).fRef.fTx)), (.int .i64 ((gt x1 a1603).fRef.fAt)), (.int .i64 ((gt x1 a1603).fOut.fValue)), kv1636, (.int .i64 ((gt x1 a1603).fOut.fRule.fNeed)), (.int .i64 ((gt x1 a1603).fOut.fRule.fAfter)), (.int .i64 ((gt x1 a1603).fHeight)), (.bool ((gt x1 a1603).fMined))]) rfl rfl Try.underlying104 rfl tsz104 rfl ((HM.box_at 0 rfl).sub 0 8 rfl)) ?_
        refine ops_does rfl (guard_none rfl) rfl rfl (does_callvk rfl callok66 rfl rfl rfl (impl_sameCoin.calls (x0 := (gt x0 a1603)) (x1 := (gt x1 a1603)) (HM.rd hk1628) (HM.rd hk1637) h1644)) ?_
        rintro _ w1645 ⟨rfl, hn⟩
        replace HM : Mem w [] w1645 [box b1638 104 [.int .i64 ((gt x1 a1603).fRef.fTx), .int .i64 ((gt x1 a1603).fRef.fAt), .int .i64 ((gt x1 a1603).fOut.fValue), kv1636, .int .i64 ((gt x1 a1603).fOut.fRule.fNeed), .int .i64 ((gt x1 a1603).fOut.fRule.fAfter), .int .i64 ((gt x1 a1603).fHeight), .bool ((gt x1 a1603).fMined)], box b1629 104 [.int .i64 ((gt x0 a1603).fRef.fTx), .int .i64 ((gt x0 a1603).fRef.fAt), .int .i64 ((gt x0 a1603).fOut.fValue), kv1627, .int .i64 ((gt x0 a1603).fOut.fRule.fNeed), .int .i64 ((gt x0 a1603).fOut.fRule.fAfter), .int .i64 ((gt x0 a1603).fHeight), .bool ((gt x0 a1603).fMined)]] := HM.call hn
        refine ops_ex rfl (guard_none rfl) rfl rfl (ex_not rfl rfl) ?_
        refine ops_nil ?_
        refine at_then ?_
        refine run_cond (b := !t1643) rfl (fun hb1646 => ?_) (fun hb1646 => ?_)
        · replace ho1584 := cond_t hb1646 ho1584
          refine run_seq ?_
          refine run_region rfl ?_
          refine ops_ex rfl (guard_none rfl) rfl rfl (ex_assign rfl rfl) ?_
          refine ops_nil ?_
          refine at_then ?_
          refine run_ret ?_
          refine at_block_ret ?_
          refine at_then_ret ?_
          refine at_then_ret ?_
          refine at_block_ret ?_
          refine at_then_ret ?_
          replace HM := (HM.front 0 rfl rfl).drop
          replace HM := (HM.front 0 rfl rfl).drop
          have hR := Option.some.inj ho1584
          subst hR
          have hT := thn_inl H
          have hR := Option.some.inj hT
          subst hR
          exact at_ret1 rfl rfl ⟨_, rfl, rfl, HM⟩
        · replace ho1584 := cond_f hb1646 ho1584
          refine run_skip ?_
          refine at_block ?_
          refine at_then ?_
          refine run_region rfl ?_
          refine ops_ex rfl (guard_none rfl) rfl rfl (ex_add rfl rfl rfl) ?_
          refine ops_ex rfl (guard_none rfl) rfl rfl (ex_move rfl rfl) ?_
          refine ops_nil ?_
          replace HM := (HM.front 0 rfl rfl).drop
          replace HM := (HM.front 0 rfl rfl).drop
          exact at_again k1622 (ρ1 := [(1, p1), (2, .func (.func 66) #[] #[]), (15, p0), (16, .int .i64 (x0.length : Int)), (17, .int .i64 (wrap64 (a1603 + 1)))]) (Nat.lt_succ_self _) ⟨_, ho1584, rfl, HM⟩ (Sub.cons rfl (Sub.cons rfl (Sub.cons rfl (Sub.cons rfl (Sub.cons rfl Sub.nil)))))
      · replace ho1584 := cond_f hb1624 ho1584
        refine run_exit ?_
        refine at_then_exit ?_
        refine at_then_exit ?_
        refine at_block_exit ?_
        exact at_mid (ρ' := []) ⟨(Option.some.inj ho1584), rfl, HM⟩ Sub.nil
    · rintro _ w1647 ⟨rfl, rfl, HM⟩
      replace H := (thn_inr H)
      refine run_seq ?_
      refine run_region rfl ?_
      refine ops_ex rfl (guard_none rfl) rfl rfl (ex_assign rfl rfl) ?_
      refine ops_nil ?_
      refine at_then ?_
      refine run_ret ?_
      have hR := Option.some.inj H
      subst hR
      exact at_ret1 rfl rfl ⟨_, rfl, rfl, HM⟩

def impl_SameCoins.f (k : Nat) (x0 : List Coin) (x1 : List Coin) : Option Bool := ((slices_EqualFunc_impl_Coin.f k x0 x1).bind fun t1650 => some t1650)
theorem impl_SameCoins.calls {k : Nat} {x0 : List Coin} {x1 : List Coin} {p0 : Value} {p1 : Value} {w : World} (hp0 : RdS kCoin w p0 x0) (hp1 : RdS kCoin w p1 x1) {r : Bool} (H : impl_SameCoins.f k x0 x1 = some r) :
    Calls Try.prog 18 ([p0, p1] : List Value).toArray w (fun e w_ => ∃ v, e = .returned v ∧ v = (.bool r) ∧ Mem w [] w_ []) := by
  have HM := Mem.start w
  refine calls_run (N := 8) Try.func18 rfl rfl rfl rfl ?_
  unfold impl_SameCoins.f at H
  refine run_seq ?_
  refine run_region rfl ?_
  refine ops_ex rfl (guard_none rfl) rfl rfl (ex_assign rfl rfl) ?_
  refine ops_nil ?_
  refine at_then ?_
  refine run_seq ?_
  obtain ⟨t1650, h1651, H⟩ := bind_some H
  refine run_region rfl ?_
  refine ops_ex rfl (guard_none rfl) rfl rfl (ex_move rfl rfl) ?_
  refine ops_ex rfl (guard_none rfl) rfl rfl (ex_move rfl rfl) ?_
  refine ops_does rfl (guard_none rfl) rfl rfl (does_callk rfl callok65 rfl (slices_EqualFunc_impl_Coin.calls (x0 := x0) (x1 := x1) (HM.rd hp0) (HM.rd hp1) h1651)) ?_
  rintro _ w1652 ⟨rfl, hn⟩
  replace HM : Mem w [] w1652 [] := HM.call hn
  refine ops_ex rfl (guard_none rfl) rfl rfl (ex_assign rfl rfl) ?_
  refine ops_nil ?_
  refine at_then ?_
  refine run_ret ?_
  have hR := Option.some.inj H
  subst hR
  exact at_ret1 rfl rfl ⟨_, rfl, rfl, HM⟩

def slices_Equal_impl_Member.l0 (x0 : List Member) (x1 : List Member) : Nat → Int → Option (Bool ⊕ Unit)
  | 0, _ => none
  | k + 1, a1707 => (bif (decide (a1707 < (x0.length : Int))) then (chk (idxOk a1707 x0.length) (chk (idxOk a1707 x1.length) (bif (!((((gt x0 a1707).fKey) == ((gt x1 a1707).fKey)) && ((((gt x0 a1707).fRef.fTx) == ((gt x1 a1707).fRef.fTx)) && (((gt x0 a1707).fRef.fAt) == ((gt x1 a1707).fRef.fAt))))) then some (.inl false) else slices_Equal_impl_Member.l0 x0 x1 k (wrap64 (a1707 + 1))))) else some (.inr ()))
theorem slices_Equal_impl_Member.l0_z (x0 : List Member) (x1 : List Member) (a1707 : Int) : slices_Equal_impl_Member.l0 x0 x1 0 a1707 = none := rfl
theorem slices_Equal_impl_Member.l0_s (x0 : List Member) (x1 : List Member) (k : Nat) (a1707 : Int) : slices_Equal_impl_Member.l0 x0 x1 (k + 1) a1707 = (bif (decide (a1707 < (x0.length : Int))) then (chk (idxOk a1707 x0.length) (chk (idxOk a1707 x1.length) (bif (!((((gt x0 a1707).fKey) == ((gt x1 a1707).fKey)) && ((((gt x0 a1707).fRef.fTx) == ((gt x1 a1707).fRef.fTx)) && (((gt x0 a1707).fRef.fAt) == ((gt x1 a1707).fRef.fAt))))) then some (.inl false) else slices_Equal_impl_Member.l0 x0 x1 k (wrap64 (a1707 + 1))))) else some (.inr ())) := rfl
def slices_Equal_impl_Member.f (k : Nat) (x0 : List Member) (x1 : List Member) : Option Bool := (bif ((x0.length : Int) != (x1.length : Int)) then some false else ((slices_Equal_impl_Member.l0 x0 x1 k 0).bind fun o1699 => thn o1699 (fun r => some r) (fun _ => some true)))
theorem slices_Equal_impl_Member.calls {k : Nat} {x0 : List Member} {x1 : List Member} {p0 : Value} {p1 : Value} {w : World} (hp0 : RdS kMember w p0 x0) (hp1 : RdS kMember w p1 x1) {r : Bool} (H : slices_Equal_impl_Member.f k x0 x1 = some r) :
    Calls Try.prog 142 ([p0, p1] : List Value).toArray w (fun e w_ => ∃ v, e = .returned v ∧ v = (.bool r) ∧ Mem w [] w_ []) := by
  have HM := Mem.start w
  refine calls_run (N := 26) Try.func142 rfl rfl rfl rfl ?_
  unfold slices_Equal_impl_Member.f at H
  refine run_seq ?_
  refine run_region rfl ?_
  refine ops_ex rfl (guard_none rfl) rfl rfl (ex_assign rfl rfl) ?_
  refine ops_nil ?_
  refine at_then ?_
  refine run_seq ?_
  refine run_seq ?_
  refine run_region rfl ?_
  refine ops_ex rfl (guard_none rfl) rfl rfl (ex_move rfl rfl) ?_
  refine ops_ex rfl (guard_none rfl) rfl rfl (ex_len (d := kMember) (xs := x0) rfl rfl Try.underlying49 hp0) ?_
  refine ops_ex rfl (guard_none rfl) rfl rfl (ex_move rfl rfl) ?_
  refine ops_ex rfl (guard_none rfl) rfl rfl (ex_len (d := kMember) (xs := x1) rfl rfl Try.underlying49 hp1) ?_
  refine ops_ex rfl (guard_none rfl) rfl rfl (ex_neq rfl rfl rfl) ?_
  refine ops_nil ?_
  refine at_then ?_
  refine run_cond (b := ((x0.length : Int) != (x1.length : Int))) rfl (fun hb1679 => ?_) (fun hb1679 => ?_)
  · replace H := cond_t hb1679 H
    refine run_seq ?_
    refine run_region rfl ?_
    refine ops_ex rfl (guard_none rfl) rfl rfl (ex_assign rfl rfl) ?_
    refine ops_nil ?_
    refine at_then ?_
    refine run_ret ?_
    refine at_then_ret ?_
    have hR := Option.some.inj H
    subst hR
    exact at_ret1 rfl rfl ⟨_, rfl, rfl, HM⟩
  · replace H := cond_f hb1679 H
    refine run_skip ?_
    refine at_then ?_
    obtain ⟨o1699, ho1700, H⟩ := bind_some H
    refine run_mid (fun ρ_ w_ => Sum.inr () = o1699 ∧ ρ_ = [] ∧ Mem w [] w_ []) ?_ ?_
    · skip
      refine run_seq ?_
      refine run_region rfl ?_
      refine ops_ex rfl (guard_none rfl) rfl rfl (ex_move rfl rfl) ?_
      refine ops_ex rfl (guard_none rfl) rfl rfl (ex_len (d := kMember) (xs := x0) rfl rfl Try.underlying49 hp0) ?_
      refine ops_ex rfl (guard_none rfl) rfl rfl (ex_move rfl rfl) ?_
      refine ops_nil ?_
      refine at_then ?_
      refine run_block ?_
      refine run_loop (fun k_ ρ_ w_ => ∃ a1707 : Int, slices_Equal_impl_Member.l0 x0 x1 k_ a1707 = some o1699 ∧ ρ_ = [(0, p0), (1, p1), (12, .int .i64 (x0.length : Int)), (13, .int .i64 a1707)] ∧ Mem w [] w_ []) k (ρ1 := [(0, p0), (1, p1), (12, .int .i64 (x0.length : Int)), (13, .int .i64 0)]) ⟨_, ho1700, rfl, HM⟩ (Sub.cons rfl (Sub.cons rfl (Sub.cons rfl (Sub.cons rfl Sub.nil)))) ?_
      clear HM ho1700
      rintro k1714 _ w1715 ⟨a1707, ho1700, rfl, HM⟩
      obtain _ | k1714 := k1714
      · exact nomatch ((slices_Equal_impl_Member.l0_z x0 x1 a1707).symm.trans ho1700)
      replace ho1700 := (slices_Equal_impl_Member.l0_s x0 x1 k1714 a1707).symm.trans ho1700
      refine run_seq ?_
      refine run_region rfl ?_
      refine ops_ex rfl (guard_none rfl) rfl rfl (ex_lss rfl rfl rfl) ?_
      refine ops_nil ?_
      refine at_then ?_
      refine run_seq ?_
      refine run_cond (b := (decide (a1707 < (x0.length : Int)))) rfl (fun hb1716 => ?_) (fun hb1716 => ?_)
      · replace ho1700 := cond_t hb1716 ho1700
        refine run_skip ?_
        refine at_then ?_
        refine run_seq ?_
        refine run_block ?_
        refine run_seq ?_
        refine run_region rfl ?_
        refine ops_ex rfl (guard_none rfl) rfl rfl (ex_move rfl rfl) ?_
        refine ops_ex rfl (guard_none rfl) rfl rfl (ex_assign rfl rfl) ?_
        refine ops_nil ?_
        refine at_then ?_
        refine run_seq ?_
        obtain ⟨e1717, ho1700⟩ := chk_some ho1700
        obtain ⟨e1719, ho1700⟩ := chk_some ho1700
        refine run_drawf (fun w_ => Mem w [] w_ []) [(0, true), (1, true), (2, true), (3, true), (4, true), (5, true), (6, true), (7, true), (8, true)] mixed rfl rfl (by kernel_rfl) ?_
        replace HM := HM.grow (fr_drew _)
        have hS := Mem.suf (M := []) HM
        refine drwp_take rfl (guard_none rfl) rfl rfl (fun w_ hS_ => (ex_move rfl rfl)) hS ?_
        refine drwp_take rfl (guard_none rfl) rfl rfl (fun w_ hS_ => (ex_move rfl rfl)) hS ?_
        have hc1718 : CellsAt _ (sb p0) (so p0 + (a1707).toNat * 3) [(.int .i64 ((gt x0 a1707).fKey)), (.int .i64 ((gt x0 a1707).fRef.fTx)), (.int .i64 ((gt x0 a1707).fRef.fAt))] := rd_plain hp0 e1717
        refine drwp_take rfl (guard_none rfl) rfl rfl (fun w_ hS_ => (ex_indexAddr (d := kMember) rfl rfl rfl Try.underlying49 tsz144 hp0 (idx_lo e1717) (idx_hi e1717))) hS ?_
        refine drwp_take rfl (guard_none rfl) rfl rfl (fun w_ hS_ => (ex_loadN (cs := [(.int .i64 ((gt x0 a1707).fKey)), (.int .i64 ((gt x0 a1707).fRef.fTx)), (.int .i64 ((gt x0 a1707).fRef.fAt))]) rfl rfl Try.underlying144 rfl tsz144 rfl ((hS_.at_ hc1718).sub 0 3 rfl))) hS ?_
        refine drwp_take rfl (guard_none rfl) rfl rfl (fun w_ hS_ => (ex_move rfl rfl)) hS ?_
        refine drwp_take rfl (guard_none rfl) rfl rfl (fun w_ hS_ => (ex_move rfl rfl)) hS ?_
        have hc1720 : CellsAt _ (sb p1) (so p1 + (a1707).toNat * 3) [(.int .i64 ((gt x1 a1707).fKey)), (.int .i64 ((gt x1 a1707).fRef.fTx)), (.int .i64 ((gt x1 a1707).fRef.fAt))] := rd_plain hp1 e1719
        refine drwp_take rfl (guard_none rfl) rfl rfl (fun w_ hS_ => (ex_indexAddr (d := kMember) rfl rfl rfl Try.underlying49 tsz144 hp1 (idx_lo e1719) (idx_hi e1719))) hS ?_
        refine drwp_take rfl (guard_none rfl) rfl rfl (fun w_ hS_ => (ex_loadN (cs := [(.int .i64 ((gt x1 a1707).fKey)), (.int .i64 ((gt x1 a1707).fRef.fTx)), (.int .i64 ((gt x1 a1707).fRef.fAt))]) rfl rfl Try.underlying144 rfl tsz144 rfl ((hS_.at_ hc1720).sub 0 3 rfl))) hS ?_
        refine drwp_take rfl (guard_none rfl) rfl rfl (fun w_ hS_ => (ex_aneq rfl rfl rfl (by kernel_rfl) (eqs144 _ _ _ _ _ _ _))) hS ?_
        refine drwp_done ?_
        refine at_then ?_
        refine run_cond (b := (!((((gt x0 a1707).fKey) == ((gt x1 a1707).fKey)) && ((((gt x0 a1707).fRef.fTx) == ((gt x1 a1707).fRef.fTx)) && (((gt x0 a1707).fRef.fAt) == ((gt x1 a1707).fRef.fAt)))))) rfl (fun hb1721 => ?_) (fun hb1721 => ?_)
        · replace ho1700 := cond_t hb1721 ho1700
          refine run_seq ?_
          refine run_region rfl ?_
          refine ops_ex rfl (guard_none rfl) rfl rfl (ex_assign rfl rfl) ?_
          refine ops_nil ?_
          refine at_then ?_
          refine run_ret ?_
          refine at_block_ret ?_
          refine at_then_ret ?_
          refine at_then_ret ?_
          refine at_block_ret ?_
          refine at_then_ret ?_
          have hR := Option.some.inj ho1700
          subst hR
          have hT := thn_inl H
          have hR := Option.some.inj hT
          subst hR
          exact at_ret1 rfl rfl ⟨_, rfl, rfl, HM⟩
        · replace ho1700 := cond_f hb1721 ho1700
          refine run_skip ?_
          refine at_block ?_
          refine at_then ?_
          refine run_region rfl ?_
          refine ops_ex rfl (guard_none rfl) rfl rfl (ex_add rfl rfl rfl) ?_
          refine ops_ex rfl (guard_none rfl) rfl rfl (ex_move rfl rfl) ?_
          refine ops_nil ?_
          exact at_again k1714 (ρ1 := [(0, p0), (1, p1), (12, .int .i64 (x0.length : Int)), (13, .int .i64 (wrap64 (a1707 + 1)))]) (Nat.lt_succ_self _) ⟨_, ho1700, rfl, HM⟩ (Sub.cons rfl (Sub.cons rfl (Sub.cons rfl (Sub.cons rfl Sub.nil))))
      · replace ho1700 := cond_f hb1716 ho1700
        refine run_exit ?_
        refine at_then_exit ?_
        refine at_then_exit ?_
        refine at_block_exit ?_
        exact at_mid (ρ' := []) ⟨(Option.some.inj ho1700), rfl, HM⟩ Sub.nil
    · rintro _ w1722 ⟨rfl, rfl, HM⟩
      replace H := (thn_inr H)
      refine run_seq ?_
      refine run_region rfl ?_
      refine ops_ex rfl (guard_none rfl) rfl rfl (ex_assign rfl rfl) ?_
      refine ops_nil ?_
      refine at_then ?_
      refine run_ret ?_
      have hR := Option.some.inj H
      subst hR
      exact at_ret1 rfl rfl ⟨_, rfl, rfl, HM⟩

def impl_SameMembers.f (k : Nat) (x0 : List Member) (x1 : List Member) : Option Bool := ((slices_Equal_impl_Member.f k x0 x1).bind fun t1725 => some t1725)
theorem impl_SameMembers.calls {k : Nat} {x0 : List Member} {x1 : List Member} {p0 : Value} {p1 : Value} {w : World} (hp0 : RdS kMember w p0 x0) (hp1 : RdS kMember w p1 x1) {r : Bool} (H : impl_SameMembers.f k x0 x1 = some r) :
    Calls Try.prog 90 ([p0, p1] : List Value).toArray w (fun e w_ => ∃ v, e = .returned v ∧ v = (.bool r) ∧ Mem w [] w_ []) := by
  have HM := Mem.start w
  refine calls_run (N := 8) Try.func90 rfl rfl rfl rfl ?_
  unfold impl_SameMembers.f at H
  refine run_seq ?_
  refine run_region rfl ?_
  refine ops_ex rfl (guard_none rfl) rfl rfl (ex_assign rfl rfl) ?_
  refine ops_nil ?_
  refine at_then ?_
  refine run_seq ?_
  obtain ⟨t1725, h1726, H⟩ := bind_some H
  refine run_region rfl ?_
  refine ops_ex rfl (guard_none rfl) rfl rfl (ex_move rfl rfl) ?_
  refine ops_ex rfl (guard_none rfl) rfl rfl (ex_move rfl rfl) ?_
  refine ops_does rfl (guard_none rfl) rfl rfl (does_callk rfl callok142 rfl (slices_Equal_impl_Member.calls (x0 := x0) (x1 := x1) (HM.rd hp0) (HM.rd hp1) h1726)) ?_
  rintro _ w1727 ⟨rfl, hn⟩
  replace HM : Mem w [] w1727 [] := HM.call hn
  refine ops_ex rfl (guard_none rfl) rfl rfl (ex_assign rfl rfl) ?_
  refine ops_nil ?_
  refine at_then ?_
  refine run_ret ?_
  have hR := Option.some.inj H
  subst hR
  exact at_ret1 rfl rfl ⟨_, rfl, rfl, HM⟩

def impl_SameStates.f (k : Nat) (x0 : State) (x1 : State) : Option Bool := ((bif ((x0.fTip == x1.fTip) && (x0.fHeight == x1.fHeight)) then impl_SameCoins.f k x0.fCoins x1.fCoins else some default).bind fun t1738 => ((bif (((x0.fTip == x1.fTip) && (x0.fHeight == x1.fHeight)) && t1738) then impl_SameMembers.f k x0.fMembers x1.fMembers else some default).bind fun t1740 => some ((((x0.fTip == x1.fTip) && (x0.fHeight == x1.fHeight)) && t1738) && t1740)))
theorem impl_SameStates.calls {k : Nat} {x0 : State} {x1 : State} {p0_0 : Value} {p0_1 : Value} {p1_0 : Value} {p1_1 : Value} {w : World} (hp0_0 : RdS kCoin w p0_0 x0.fCoins) (hp0_1 : RdS kMember w p0_1 x0.fMembers) (hp1_0 : RdS kCoin w p1_0 x1.fCoins) (hp1_1 : RdS kMember w p1_1 x1.fMembers) {r : Bool} (H : impl_SameStates.f k x0 x1 = some r) :
    Calls Try.prog 32 ([.agg #[(.int .i64 x0.fTip), (.int .i64 x0.fHeight), p0_0, p0_1], .agg #[(.int .i64 x1.fTip), (.int .i64 x1.fHeight), p1_0, p1_1]] : List Value).toArray w (fun e w_ => ∃ v, e = .returned v ∧ v = (.bool r) ∧ Mem w [] w_ []) := by
  have HM := Mem.start w
  refine calls_run (N := 31) Try.func32 rfl rfl rfl rfl ?_
  unfold impl_SameStates.f at H
  refine run_seq ?_
  refine run_region rfl ?_
  refine ops_does rfl (guard_none rfl) rfl rfl (does_box (cs := [.int .i64 x0.fTip, .int .i64 x0.fHeight, p0_0, p0_1]) rfl rfl rfl HM) ?_
  rintro _ w1736 ⟨b1730, rfl, HM⟩
  refine ops_does rfl (guard_none rfl) rfl rfl (does_box (cs := [.int .i64 x1.fTip, .int .i64 x1.fHeight, p1_0, p1_1]) rfl rfl rfl HM) ?_
  rintro _ w1737 ⟨b1733, rfl, HM⟩
  refine ops_ex rfl (guard_none rfl) rfl rfl (ex_assign rfl rfl) ?_
  refine ops_nil ?_
  refine at_then ?_
  refine run_seq ?_
  obtain ⟨t1738, h1739, H⟩ := bind_some H
  obtain ⟨t1740, h1741, H⟩ := bind_some H
  refine run_meet (fun ρ_ w_ => ρ_ = [(4, .bool ((((x0.fTip == x1.fTip) && (x0.fHeight == x1.fHeight)) && t1738) && t1740))] ∧ Mem w [] w_ []) ?_ ?_
  · skip
    refine run_region rfl ?_
    refine ops_ex rfl (guard_none rfl) rfl rfl (ex_fieldAddr (off' := 0) rfl rfl Try.underlying51 rfl tsz2 rfl) ?_
    refine ops_ex rfl (guard_none rfl) rfl rfl (ex_load1 rfl rfl Try.underlying2 rfl ((HM.box_at 1 rfl) 0 _ rfl)) ?_
    refine ops_ex rfl (guard_none rfl) rfl rfl (ex_fieldAddr (off' := 0) rfl rfl Try.underlying51 rfl tsz2 rfl) ?_
    refine ops_ex rfl (guard_none rfl) rfl rfl (ex_load1 rfl rfl Try.underlying2 rfl ((HM.box_at 0 rfl) 0 _ rfl)) ?_
    refine ops_ex rfl (guard_none rfl) rfl rfl (ex_eql rfl rfl rfl) ?_
    refine ops_ex rfl (guard_none rfl) rfl rfl (ex_move rfl rfl) ?_
    refine bool_cases (x0.fTip == x1.fTip) (fun hg1742 => ?_) (fun hg1742 => ?_)
    · skip
      refine ops_ex rfl (guard_on rfl rfl rfl hg1742) rfl rfl (ex_fieldAddr (off' := 1) rfl rfl Try.underlying51 rfl tsz2 rfl) ?_
      refine ops_ex rfl (guard_on rfl rfl rfl hg1742) rfl rfl (ex_load1 rfl rfl Try.underlying2 rfl ((HM.box_at 1 rfl) 1 _ rfl)) ?_
      refine ops_ex rfl (guard_on rfl rfl rfl hg1742) rfl rfl (ex_fieldAddr (off' := 1) rfl rfl Try.underlying51 rfl tsz2 rfl) ?_
      refine ops_ex rfl (guard_on rfl rfl rfl hg1742) rfl rfl (ex_load1 rfl rfl Try.underlying2 rfl ((HM.box_at 0 rfl) 1 _ rfl)) ?_
      refine ops_ex rfl (guard_on rfl rfl rfl hg1742) rfl rfl (ex_eql rfl rfl rfl) ?_
      refine ops_ex (v := .bool ((x0.fTip == x1.fTip) && (x0.fHeight == x1.fHeight))) rfl (guard_none rfl) rfl rfl (ex_pand_t rfl rfl hg1742 rfl) ?_
      refine ops_ex rfl (guard_none rfl) rfl rfl (ex_move rfl rfl) ?_
      refine bool_cases ((x0.fTip == x1.fTip) && (x0.fHeight == x1.fHeight)) (fun hg1743 => ?_) (fun hg1743 => ?_)
      · skip
        refine ops_ex rfl (guard_on rfl rfl rfl hg1743) rfl rfl (ex_fieldAddr (off' := 2) rfl rfl Try.underlying51 rfl tsz25 rfl) ?_
        refine ops_ex rfl (guard_on rfl rfl rfl hg1743) rfl rfl (ex_load1 rfl rfl Try.underlying25 rfl ((HM.box_at 1 rfl) 2 _ rfl)) ?_
        refine ops_ex rfl (guard_on rfl rfl rfl hg1743) rfl rfl (ex_fieldAddr (off' := 2) rfl rfl Try.underlying51 rfl tsz25 rfl) ?_
        refine ops_ex rfl (guard_on rfl rfl rfl hg1743) rfl rfl (ex_load1 rfl rfl Try.underlying25 rfl ((HM.box_at 0 rfl) 2 _ rfl)) ?_
        refine ops_does rfl (guard_on rfl rfl rfl hg1743) rfl rfl (does_callk rfl callok18 rfl (impl_SameCoins.calls (x0 := x0.fCoins) (x1 := x1.fCoins) (HM.rd hp0_0) (HM.rd hp1_0) (cond_t hg1743 h1739))) ?_
        rintro _ w1744 ⟨rfl, hn⟩
        replace HM : Mem w [] w1744 [box b1733 51 [.int .i64 x1.fTip, .int .i64 x1.fHeight, p1_0, p1_1], box b1730 51 [.int .i64 x0.fTip, .int .i64 x0.fHeight, p0_0, p0_1]] := HM.call hn
        refine ops_ex (v := .bool (((x0.fTip == x1.fTip) && (x0.fHeight == x1.fHeight)) && t1738)) rfl (guard_none rfl) rfl rfl (ex_pand_t rfl rfl hg1743 rfl) ?_
        refine ops_ex rfl (guard_none rfl) rfl rfl (ex_move rfl rfl) ?_
        refine bool_cases (((x0.fTip == x1.fTip) && (x0.fHeight == x1.fHeight)) && t1738) (fun hg1745 => ?_) (fun hg1745 => ?_)
        · skip
          refine ops_ex rfl (guard_on rfl rfl rfl hg1745) rfl rfl (ex_fieldAddr (off' := 3) rfl rfl Try.underlying51 rfl tsz49 rfl) ?_
          refine ops_ex rfl (guard_on rfl rfl rfl hg1745) rfl rfl (ex_load1 rfl rfl Try.underlying49 rfl ((HM.box_at 1 rfl) 3 _ rfl)) ?_
          refine ops_ex rfl (guard_on rfl rfl rfl hg1745) rfl rfl (ex_fieldAddr (off' := 3) rfl rfl Try.underlying51 rfl tsz49 rfl) ?_
          refine ops_ex rfl (guard_on rfl rfl rfl hg1745) rfl rfl (ex_load1 rfl rfl Try.underlying49 rfl ((HM.box_at 0 rfl) 3 _ rfl)) ?_
          refine ops_does rfl (guard_on rfl rfl rfl hg1745) rfl rfl (does_callk rfl callok90 rfl (impl_SameMembers.calls (x0 := x0.fMembers) (x1 := x1.fMembers) (HM.rd hp0_1) (HM.rd hp1_1) (cond_t hg1745 h1741))) ?_
          rintro _ w1746 ⟨rfl, hn⟩
          replace HM : Mem w [] w1746 [box b1733 51 [.int .i64 x1.fTip, .int .i64 x1.fHeight, p1_0, p1_1], box b1730 51 [.int .i64 x0.fTip, .int .i64 x0.fHeight, p0_0, p0_1]] := HM.call hn
          refine ops_ex (v := .bool ((((x0.fTip == x1.fTip) && (x0.fHeight == x1.fHeight)) && t1738) && t1740)) rfl (guard_none rfl) rfl rfl (ex_pand_t rfl rfl hg1745 rfl) ?_
          refine ops_ex rfl (guard_none rfl) rfl rfl (ex_assign rfl rfl) ?_
          refine ops_nil ?_
          replace HM := (HM.front 0 rfl rfl).drop
          replace HM := (HM.front 0 rfl rfl).drop
          exact at_meet [(4, .bool ((((x0.fTip == x1.fTip) && (x0.fHeight == x1.fHeight)) && t1738) && t1740))] ⟨rfl, HM⟩ (Sub.cons rfl Sub.nil)
        · skip
          refine ops_off rfl (guard_off rfl rfl rfl hg1745) rfl rfl ?_
          refine ops_off rfl (guard_off rfl rfl rfl hg1745) rfl rfl ?_
          refine ops_off rfl (guard_off rfl rfl rfl hg1745) rfl rfl ?_
          refine ops_off rfl (guard_off rfl rfl rfl hg1745) rfl rfl ?_
          refine ops_off rfl (guard_off rfl rfl rfl hg1745) rfl rfl ?_
          have hg1747 : ((((x0.fTip == x1.fTip) && (x0.fHeight == x1.fHeight)) && t1738) && t1740) = false := by simp only [hg1745, Bool.and_true, Bool.true_and, Bool.and_false, Bool.false_and, Bool.or_true, Bool.true_or, Bool.or_false, Bool.false_or, Bool.not_true, Bool.not_false, Bool.not_not]
          refine ops_ex (v := .bool ((((x0.fTip == x1.fTip) && (x0.fHeight == x1.fHeight)) && t1738) && t1740)) rfl (guard_none rfl) rfl rfl (ex_pand_f rfl rfl hg1745) ?_
          refine ops_ex rfl (guard_none rfl) rfl rfl (ex_assign rfl rfl) ?_
          refine ops_nil ?_
          replace HM := (HM.front 0 rfl rfl).drop
          replace HM := (HM.front 0 rfl rfl).drop
          exact at_meet [(4, .bool ((((x0.fTip == x1.fTip) && (x0.fHeight == x1.fHeight)) && t1738) && t1740))] ⟨rfl, HM⟩ (Sub.cons rfl Sub.nil)
      · skip
        refine ops_off rfl (guard_off rfl rfl rfl hg1743) rfl rfl ?_
        refine ops_off rfl (guard_off rfl rfl rfl hg1743) rfl rfl ?_
        refine ops_off rfl (guard_off rfl rfl rfl hg1743) rfl rfl ?_
        refine ops_off rfl (guard_off rfl rfl rfl hg1743) rfl rfl ?_
        refine ops_off rfl (guard_off rfl rfl rfl hg1743) rfl rfl ?_
        have hg1748 : (((x0.fTip == x1.fTip) && (x0.fHeight == x1.fHeight)) && t1738) = false := by simp only [hg1743, Bool.and_true, Bool.true_and, Bool.and_false, Bool.false_and, Bool.or_true, Bool.true_or, Bool.or_false, Bool.false_or, Bool.not_true, Bool.not_false, Bool.not_not]
        refine ops_ex (v := .bool (((x0.fTip == x1.fTip) && (x0.fHeight == x1.fHeight)) && t1738)) rfl (guard_none rfl) rfl rfl (ex_pand_f rfl rfl hg1743) ?_
        refine ops_ex rfl (guard_none rfl) rfl rfl (ex_move rfl rfl) ?_
        refine ops_off rfl (guard_off rfl rfl rfl hg1748) rfl rfl ?_
        refine ops_off rfl (guard_off rfl rfl rfl hg1748) rfl rfl ?_
        refine ops_off rfl (guard_off rfl rfl rfl hg1748) rfl rfl ?_
        refine ops_off rfl (guard_off rfl rfl rfl hg1748) rfl rfl ?_
        refine ops_off rfl (guard_off rfl rfl rfl hg1748) rfl rfl ?_
        have hg1749 : ((((x0.fTip == x1.fTip) && (x0.fHeight == x1.fHeight)) && t1738) && t1740) = false := by simp only [hg1748, Bool.and_true, Bool.true_and, Bool.and_false, Bool.false_and, Bool.or_true, Bool.true_or, Bool.or_false, Bool.false_or, Bool.not_true, Bool.not_false, Bool.not_not]
        refine ops_ex (v := .bool ((((x0.fTip == x1.fTip) && (x0.fHeight == x1.fHeight)) && t1738) && t1740)) rfl (guard_none rfl) rfl rfl (ex_pand_f rfl rfl hg1748) ?_
        refine ops_ex rfl (guard_none rfl) rfl rfl (ex_assign rfl rfl) ?_
        refine ops_nil ?_
        replace HM := (HM.front 0 rfl rfl).drop
        replace HM := (HM.front 0 rfl rfl).drop
        exact at_meet [(4, .bool ((((x0.fTip == x1.fTip) && (x0.fHeight == x1.fHeight)) && t1738) && t1740))] ⟨rfl, HM⟩ (Sub.cons rfl Sub.nil)
    · skip
      refine ops_off rfl (guard_off rfl rfl rfl hg1742) rfl rfl ?_
      refine ops_off rfl (guard_off rfl rfl rfl hg1742) rfl rfl ?_
      refine ops_off rfl (guard_off rfl rfl rfl hg1742) rfl rfl ?_
      refine ops_off rfl (guard_off rfl rfl rfl hg1742) rfl rfl ?_
      refine ops_off rfl (guard_off rfl rfl rfl hg1742) rfl rfl ?_
      have hg1750 : ((x0.fTip == x1.fTip) && (x0.fHeight == x1.fHeight)) = false := by simp only [hg1742, Bool.and_true, Bool.true_and, Bool.and_false, Bool.false_and, Bool.or_true, Bool.true_or, Bool.or_false, Bool.false_or, Bool.not_true, Bool.not_false, Bool.not_not]
      refine ops_ex (v := .bool ((x0.fTip == x1.fTip) && (x0.fHeight == x1.fHeight))) rfl (guard_none rfl) rfl rfl (ex_pand_f rfl rfl hg1742) ?_
      refine ops_ex rfl (guard_none rfl) rfl rfl (ex_move rfl rfl) ?_
      refine ops_off rfl (guard_off rfl rfl rfl hg1750) rfl rfl ?_
      refine ops_off rfl (guard_off rfl rfl rfl hg1750) rfl rfl ?_
      refine ops_off rfl (guard_off rfl rfl rfl hg1750) rfl rfl ?_
      refine ops_off rfl (guard_off rfl rfl rfl hg1750) rfl rfl ?_
      refine ops_off rfl (guard_off rfl rfl rfl hg1750) rfl rfl ?_
      have hg1751 : (((x0.fTip == x1.fTip) && (x0.fHeight == x1.fHeight)) && t1738) = false := by simp only [hg1750, Bool.and_true, Bool.true_and, Bool.and_false, Bool.false_and, Bool.or_true, Bool.true_or, Bool.or_false, Bool.false_or, Bool.not_true, Bool.not_false, Bool.not_not]
      refine ops_ex (v := .bool (((x0.fTip == x1.fTip) && (x0.fHeight == x1.fHeight)) && t1738)) rfl (guard_none rfl) rfl rfl (ex_pand_f rfl rfl hg1750) ?_
      refine ops_ex rfl (guard_none rfl) rfl rfl (ex_move rfl rfl) ?_
      refine ops_off rfl (guard_off rfl rfl rfl hg1751) rfl rfl ?_
      refine ops_off rfl (guard_off rfl rfl rfl hg1751) rfl rfl ?_
      refine ops_off rfl (guard_off rfl rfl rfl hg1751) rfl rfl ?_
      refine ops_off rfl (guard_off rfl rfl rfl hg1751) rfl rfl ?_
      refine ops_off rfl (guard_off rfl rfl rfl hg1751) rfl rfl ?_
      have hg1752 : ((((x0.fTip == x1.fTip) && (x0.fHeight == x1.fHeight)) && t1738) && t1740) = false := by simp only [hg1751, Bool.and_true, Bool.true_and, Bool.and_false, Bool.false_and, Bool.or_true, Bool.true_or, Bool.or_false, Bool.false_or, Bool.not_true, Bool.not_false, Bool.not_not]
      refine ops_ex (v := .bool ((((x0.fTip == x1.fTip) && (x0.fHeight == x1.fHeight)) && t1738) && t1740)) rfl (guard_none rfl) rfl rfl (ex_pand_f rfl rfl hg1751) ?_
      refine ops_ex rfl (guard_none rfl) rfl rfl (ex_assign rfl rfl) ?_
      refine ops_nil ?_
      replace HM := (HM.front 0 rfl rfl).drop
      replace HM := (HM.front 0 rfl rfl).drop
      exact at_meet [(4, .bool ((((x0.fTip == x1.fTip) && (x0.fHeight == x1.fHeight)) && t1738) && t1740))] ⟨rfl, HM⟩ (Sub.cons rfl Sub.nil)
  · rintro _ w1753 ⟨rfl, HM⟩
    refine at_then ?_
    refine run_ret ?_
    have hR := Option.some.inj H
    subst hR
    exact at_ret1 rfl rfl ⟨_, rfl, rfl, HM⟩

def laws_eqRef.f (k : Nat) (x0 : Ref) (x1 : Ref) : Option Bool := (bif (x0.fTx != x1.fTx) then some false else (bif (x0.fAt != x1.fAt) then some false else some true))
theorem laws_eqRef.calls {k : Nat} {x0 : Ref} {x1 : Ref}  {w : World}  {r : Bool} (H : laws_eqRef.f k x0 x1 = some r) :
    Calls Try.prog 124 ([.agg #[(.int .i64 x0.fTx), (.int .i64 x0.fAt)], .agg #[(.int .i64 x1.fTx), (.int .i64 x1.fAt)]] : List Value).toArray w (fun e w_ => ∃ v, e = .returned v ∧ v = (.bool r) ∧ Mem w [] w_ []) := by
  have HM := Mem.start w
  refine calls_run (N := 15) Try.func124 rfl rfl rfl rfl ?_
  unfold laws_eqRef.f at H
  refine run_seq ?_
  refine run_region rfl ?_
  refine ops_does rfl (guard_none rfl) rfl rfl (does_box (cs := [.int .i64 x0.fTx, .int .i64 x0.fAt]) rfl rfl rfl HM) ?_
  rintro _ w1806 ⟨b1800, rfl, HM⟩
  refine ops_does rfl (guard_none rfl) rfl rfl (does_box (cs := [.int .i64 x1.fTx, .int .i64 x1.fAt]) rfl rfl rfl HM) ?_
  rintro _ w1807 ⟨b1803, rfl, HM⟩
  refine ops_ex rfl (guard_none rfl) rfl rfl (ex_assign rfl rfl) ?_
  refine ops_nil ?_
  refine at_then ?_
  refine run_seq ?_
  refine run_seq ?_
  refine run_region rfl ?_
  refine ops_ex rfl (guard_none rfl) rfl rfl (ex_fieldAddr (off' := 0) rfl rfl Try.underlying99 rfl tsz2 rfl) ?_
  refine ops_ex rfl (guard_none rfl) rfl rfl (ex_load1 rfl rfl Try.underlying2 rfl ((HM.box_at 1 rfl) 0 _ rfl)) ?_
  refine ops_ex rfl (guard_none rfl) rfl rfl (ex_fieldAddr (off' := 0) rfl rfl Try.underlying99 rfl tsz2 rfl) ?_
  refine ops_ex rfl (guard_none rfl) rfl rfl (ex_load1 rfl rfl Try.underlying2 rfl ((HM.box_at 0 rfl) 0 _ rfl)) ?_
  refine ops_ex rfl (guard_none rfl) rfl rfl (ex_neq rfl rfl rfl) ?_
  refine ops_nil ?_
  refine at_then ?_
  refine run_cond (b := (x0.fTx != x1.fTx)) rfl (fun hb1809 => ?_) (fun hb1809 => ?_)
  · replace H := cond_t hb1809 H
    refine run_seq ?_
    refine run_region rfl ?_
    refine ops_ex rfl (guard_none rfl) rfl rfl (ex_assign rfl rfl) ?_
    refine ops_nil ?_
    refine at_then ?_
    refine run_ret ?_
    refine at_then_ret ?_
    replace HM := (HM.front 0 rfl rfl).drop
    replace HM := (HM.front 0 rfl rfl).drop
    have hR := Option.some.inj H
    subst hR
    exact at_ret1 rfl rfl ⟨_, rfl, rfl, HM⟩
  · replace H := cond_f hb1809 H
    refine run_skip ?_
    refine at_then ?_
    refine run_seq ?_
    refine run_seq ?_
    refine run_region rfl ?_
    refine ops_ex rfl (guard_none rfl) rfl rfl (ex_fieldAddr (off' := 1) rfl rfl Try.underlying99 rfl tsz2 rfl) ?_
    refine ops_ex rfl (guard_none rfl) rfl rfl (ex_load1 rfl rfl Try.underlying2 rfl ((HM.box_at 1 rfl) 1 _ rfl)) ?_
    refine ops_ex rfl (guard_none rfl) rfl rfl (ex_fieldAddr (off' := 1) rfl rfl Try.underlying99 rfl tsz2 rfl) ?_
    refine ops_ex rfl (guard_none rfl) rfl rfl (ex_load1 rfl rfl Try.underlying2 rfl ((HM.box_at 0 rfl) 1 _ rfl)) ?_
    refine ops_ex rfl (guard_none rfl) rfl rfl (ex_neq rfl rfl rfl) ?_
    refine ops_nil ?_
    refine at_then ?_
    refine run_cond (b := (x0.fAt != x1.fAt)) rfl (fun hb1810 => ?_) (fun hb1810 => ?_)
    · replace H := cond_t hb1810 H
      refine run_seq ?_
      refine run_region rfl ?_
      refine ops_ex rfl (guard_none rfl) rfl rfl (ex_assign rfl rfl) ?_
      refine ops_nil ?_
      refine at_then ?_
      refine run_ret ?_
      refine at_then_ret ?_
      replace HM := (HM.front 0 rfl rfl).drop
      replace HM := (HM.front 0 rfl rfl).drop
      have hR := Option.some.inj H
      subst hR
      exact at_ret1 rfl rfl ⟨_, rfl, rfl, HM⟩
    · replace H := cond_f hb1810 H
      refine run_skip ?_
      refine at_then ?_
      refine run_seq ?_
      refine run_region rfl ?_
      refine ops_ex rfl (guard_none rfl) rfl rfl (ex_assign rfl rfl) ?_
      refine ops_nil ?_
      refine at_then ?_
      refine run_ret ?_
      replace HM := (HM.front 0 rfl rfl).drop
      replace HM := (HM.front 0 rfl rfl).drop
      have hR := Option.some.inj H
      subst hR
      exact at_ret1 rfl rfl ⟨_, rfl, rfl, HM⟩

def laws_eqInt64S.l0 (x0 : List Int) (x1 : List Int) : Nat → Int → Option (Bool ⊕ Unit)
  | 0, _ => none
  | k + 1, a1883 => (bif (decide (a1883 < (x0.length : Int))) then (chk (idxOk a1883 x0.length) (chk (idxOk a1883 x1.length) (bif ((gt x0 a1883) != (gt x1 a1883)) then some (.inl false) else laws_eqInt64S.l0 x0 x1 k (wrap64 (a1883 + 1))))) else some (.inr ()))
theorem laws_eqInt64S.l0_z (x0 : List Int) (x1 : List Int) (a1883 : Int) : laws_eqInt64S.l0 x0 x1 0 a1883 = none := rfl
theorem laws_eqInt64S.l0_s (x0 : List Int) (x1 : List Int) (k : Nat) (a1883 : Int) : laws_eqInt64S.l0 x0 x1 (k + 1) a1883 = (bif (decide (a1883 < (x0.length : Int))) then (chk (idxOk a1883 x0.length) (chk (idxOk a1883 x1.length) (bif ((gt x0 a1883) != (gt x1 a1883)) then some (.inl false) else laws_eqInt64S.l0 x0 x1 k (wrap64 (a1883 + 1))))) else some (.inr ())) := rfl
def laws_eqInt64S.f (k : Nat) (x0 : List Int) (x1 : List Int) : Option Bool := (bif ((x0.length : Int) != (x1.length : Int)) then some false else ((laws_eqInt64S.l0 x0 x1 k 0).bind fun o1875 => thn o1875 (fun r => some r) (fun _ => some true)))
theorem laws_eqInt64S.calls {k : Nat} {x0 : List Int} {x1 : List Int} {p0 : Value} {p1 : Value} {w : World} (hp0 : RdS kInt w p0 x0) (hp1 : RdS kInt w p1 x1) {r : Bool} (H : laws_eqInt64S.f k x0 x1 = some r) :
    Calls Try.prog 113 ([p0, p1] : List Value).toArray w (fun e w_ => ∃ v, e = .returned v ∧ v = (.bool r) ∧ Mem w [] w_ []) := by
  have HM := Mem.start w
  refine calls_run (N := 26) Try.func113 rfl rfl rfl rfl ?_
  unfold laws_eqInt64S.f at H
  refine run_seq ?_
  refine run_region rfl ?_
  refine ops_ex rfl (guard_none rfl) rfl rfl (ex_assign rfl rfl) ?_
  refine ops_nil ?_
  refine at_then ?_
  refine run_seq ?_
  refine run_seq ?_
  refine run_region rfl ?_
  refine ops_ex rfl (guard_none rfl) rfl rfl (ex_move rfl rfl) ?_
  refine ops_ex rfl (guard_none rfl) rfl rfl (ex_len (d := kInt) (xs := x0) rfl rfl Try.underlying74 hp0) ?_
  refine ops_ex rfl (guard_none rfl) rfl rfl (ex_move rfl rfl) ?_
  refine ops_ex rfl (guard_none rfl) rfl rfl (ex_len (d := kInt) (xs := x1) rfl rfl Try.underlying74 hp1) ?_
  refine ops_ex rfl (guard_none rfl) rfl rfl (ex_neq rfl rfl rfl) ?_
  refine ops_nil ?_
  refine at_then ?_
  refine run_cond (b := ((x0.length : Int) != (x1.length : Int))) rfl (fun hb1855 => ?_) (fun hb1855 => ?_)
  · replace H := cond_t hb1855 H
    refine run_seq ?_
    refine run_region rfl ?_
    refine ops_ex rfl (guard_none rfl) rfl rfl (ex_assign rfl rfl) ?_
    refine ops_nil ?_
    refine at_then ?_
    refine run_ret ?_
    refine at_then_ret ?_
    have hR := Option.some.inj H
    subst hR
    exact at_ret1 rfl rfl ⟨_, rfl, rfl, HM⟩
  · replace H := cond_f hb1855 H
    refine run_skip ?_
    refine at_then ?_
    obtain ⟨o1875, ho1876, H⟩ := bind_some H
    refine run_mid (fun ρ_ w_ => Sum.inr () = o1875 ∧ ρ_ = [] ∧ Mem w [] w_ []) ?_ ?_
    · skip
      refine run_seq ?_
      refine run_region rfl ?_
      refine ops_ex rfl (guard_none rfl) rfl rfl (ex_assign rfl rfl) ?_
      refine ops_nil ?_
      refine at_then ?_
      refine run_block ?_
      refine run_loop (fun k_ ρ_ w_ => ∃ a1883 : Int, laws_eqInt64S.l0 x0 x1 k_ a1883 = some o1875 ∧ ρ_ = [(0, p0), (1, p1), (5, .int .i64 a1883)] ∧ Mem w [] w_ []) k (ρ1 := [(0, p0), (1, p1), (5, .int .i64 0)]) ⟨_, ho1876, rfl, HM⟩ (Sub.cons rfl (Sub.cons rfl (Sub.cons rfl Sub.nil))) ?_
      clear HM ho1876
      rintro k1890 _ w1891 ⟨a1883, ho1876, rfl, HM⟩
      obtain _ | k1890 := k1890
      · exact nomatch ((laws_eqInt64S.l0_z x0 x1 a1883).symm.trans ho1876)
      replace ho1876 := (laws_eqInt64S.l0_s x0 x1 k1890 a1883).symm.trans ho1876
      refine run_seq ?_
      refine run_seq ?_
      refine run_region rfl ?_
      refine ops_ex rfl (guard_none rfl) rfl rfl (ex_move rfl rfl) ?_
      refine ops_ex rfl (guard_none rfl) rfl rfl (ex_move rfl rfl) ?_
      refine ops_ex rfl (guard_none rfl) rfl rfl (ex_len (d := kInt) (xs := x0) rfl rfl Try.underlying74 hp0) ?_
      refine ops_ex rfl (guard_none rfl) rfl rfl (ex_lss rfl rfl rfl) ?_
      refine ops_nil ?_
      refine at_then ?_
      refine run_cond (b := (decide (a1883 < (x0.length : Int)))) rfl (fun hb1892 => ?_) (fun hb1892 => ?_)
      · replace ho1876 := cond_t hb1892 ho1876
        refine run_skip ?_
        refine at_then ?_
        refine run_seq ?_
        refine run_block ?_
        refine run_seq ?_
        obtain ⟨e1893, ho1876⟩ := chk_some ho1876
        obtain ⟨e1895, ho1876⟩ := chk_some ho1876
        refine run_drawf (fun w_ => Mem w [] w_ []) [(0, true), (1, true), (2, true), (3, true), (4, true), (5, true), (6, true), (7, true), (8, true)] mixed rfl rfl (by kernel_rfl) ?_
        replace HM := HM.grow (fr_drew _)
        have hS := Mem.suf (M := []) HM
        refine drwp_take rfl (guard_none rfl) rfl rfl (fun w_ hS_ => (ex_move rfl rfl)) hS ?_
        refine drwp_take rfl (guard_none rfl) rfl rfl (fun w_ hS_ => (ex_move rfl rfl)) hS ?_
        have hc1894 : CellsAt _ (sb p0) (so p0 + (a1883).toNat * 1) [(.int .i64 (gt x0 a1883))] := rd_plain hp0 e1893
        refine drwp_take rfl (guard_none rfl) rfl rfl (fun w_ hS_ => (ex_indexAddr (d := kInt) rfl rfl rfl Try.underlying74 tsz2 hp0 (idx_lo e1893) (idx_hi e1893))) hS ?_
        refine drwp_take rfl (guard_none rfl) rfl rfl (fun w_ hS_ => (ex_load1 rfl rfl Try.underlying2 rfl ((hS_.at_ hc1894) 0 _ rfl))) hS ?_
        refine drwp_take rfl (guard_none rfl) rfl rfl (fun w_ hS_ => (ex_move rfl rfl)) hS ?_
        refine drwp_take rfl (guard_none rfl) rfl rfl (fun w_ hS_ => (ex_move rfl rfl)) hS ?_
        have hc1896 : CellsAt _ (sb p1) (so p1 + (a1883).toNat * 1) [(.int .i64 (gt x1 a1883))] := rd_plain hp1 e1895
        refine drwp_take rfl (guard_none rfl) rfl rfl (fun w_ hS_ => (ex_indexAddr (d := kInt) rfl rfl rfl Try.underlying74 tsz2 hp1 (idx_lo e1895) (idx_hi e1895))) hS ?_
        refine drwp_take rfl (guard_none rfl) rfl rfl (fun w_ hS_ => (ex_load1 rfl rfl Try.underlying2 rfl ((hS_.at_ hc1896) 0 _ rfl))) hS ?_
        refine drwp_take rfl (guard_none rfl) rfl rfl (fun w_ hS_ => (ex_neq rfl rfl rfl)) hS ?_
        refine drwp_done ?_
        refine at_then ?_
        refine run_cond (b := ((gt x0 a1883) != (gt x1 a1883))) rfl (fun hb1897 => ?_) (fun hb1897 => ?_)
        · replace ho1876 := cond_t hb1897 ho1876
          refine run_seq ?_
          refine run_region rfl ?_
          refine ops_ex rfl (guard_none rfl) rfl rfl (ex_assign rfl rfl) ?_
          refine ops_nil ?_
          refine at_then ?_
          refine run_ret ?_
          refine at_block_ret ?_
          refine at_then_ret ?_
          refine at_then_ret ?_
          refine at_block_ret ?_
          refine at_then_ret ?_
          have hR := Option.some.inj ho1876
          subst hR
          have hT := thn_inl H
          have hR := Option.some.inj hT
          subst hR
          exact at_ret1 rfl rfl ⟨_, rfl, rfl, HM⟩
        · replace ho1876 := cond_f hb1897 ho1876
          refine run_skip ?_
          refine at_block ?_
          refine at_then ?_
          refine run_region rfl ?_
          refine ops_ex rfl (guard_none rfl) rfl rfl (ex_move rfl rfl) ?_
          refine ops_ex rfl (guard_none rfl) rfl rfl (ex_add rfl rfl rfl) ?_
          refine ops_ex rfl (guard_none rfl) rfl rfl (ex_assign rfl rfl) ?_
          refine ops_nil ?_
          exact at_again k1890 (ρ1 := [(0, p0), (1, p1), (5, .int .i64 (wrap64 (a1883 + 1)))]) (Nat.lt_succ_self _) ⟨_, ho1876, rfl, HM⟩ (Sub.cons rfl (Sub.cons rfl (Sub.cons rfl Sub.nil)))
      · replace ho1876 := cond_f hb1892 ho1876
        refine run_exit ?_
        refine at_then_exit ?_
        refine at_then_exit ?_
        refine at_block_exit ?_
        exact at_mid (ρ' := []) ⟨(Option.some.inj ho1876), rfl, HM⟩ Sub.nil
    · rintro _ w1898 ⟨rfl, rfl, HM⟩
      replace H := (thn_inr H)
      refine run_seq ?_
      refine run_region rfl ?_
      refine ops_ex rfl (guard_none rfl) rfl rfl (ex_assign rfl rfl) ?_
      refine ops_nil ?_
      refine at_then ?_
      refine run_ret ?_
      have hR := Option.some.inj H
      subst hR
      exact at_ret1 rfl rfl ⟨_, rfl, rfl, HM⟩

def laws_eqRule.f (k : Nat) (x0 : Rule) (x1 : Rule) : Option Bool := ((laws_eqInt64S.f k x0.fKeys x1.fKeys).bind fun t1919 => (bif !t1919 then some false else (bif (x0.fNeed != x1.fNeed) then some false else (bif (x0.fAfter != x1.fAfter) then some false else some true))))
theorem laws_eqRule.calls {k : Nat} {x0 : Rule} {x1 : Rule} {p0_0 : Value} {p1_0 : Value} {w : World} (hp0_0 : RdS kInt w p0_0 x0.fKeys) (hp1_0 : RdS kInt w p1_0 x1.fKeys) {r : Bool} (H : laws_eqRule.f k x0 x1 = some r) :
    Calls Try.prog 159 ([.agg #[p0_0, (.int .i64 x0.fNeed), (.int .i64 x0.fAfter)], .agg #[p1_0, (.int .i64 x1.fNeed), (.int .i64 x1.fAfter)]] : List Value).toArray w (fun e w_ => ∃ v, e = .returned v ∧ v = (.bool r) ∧ Mem w [] w_ []) := by
  have HM := Mem.start w
  refine calls_run (N := 21) Try.func159 rfl rfl rfl rfl ?_
  unfold laws_eqRule.f at H
  refine run_seq ?_
  refine run_region rfl ?_
  refine ops_does rfl (guard_none rfl) rfl rfl (does_box (cs := [p0_0, .int .i64 x0.fNeed, .int .i64 x0.fAfter]) rfl rfl rfl HM) ?_
  rintro _ w1914 ⟨b1908, rfl, HM⟩
  refine ops_does rfl (guard_none rfl) rfl rfl (does_box (cs := [p1_0, .int .i64 x1.fNeed, .int .i64 x1.fAfter]) rfl rfl rfl HM) ?_
  rintro _ w1915 ⟨b1911, rfl, HM⟩
  refine ops_ex rfl (guard_none rfl) rfl rfl (ex_assign rfl rfl) ?_
  refine ops_nil ?_
  refine at_then ?_
  refine run_seq ?_
  refine run_seq ?_
  obtain ⟨t1919, h1920, H⟩ := bind_some H
  refine run_region rfl ?_
  refine ops_ex rfl (guard_none rfl) rfl rfl (ex_fieldAddr (off' := 0) rfl rfl Try.underlying100 rfl tsz74 rfl) ?_
  refine ops_ex rfl (guard_none rfl) rfl rfl (ex_load1 rfl rfl Try.underlying74 rfl ((HM.box_at 1 rfl) 0 _ rfl)) ?_
  refine ops_ex rfl (guard_none rfl) rfl rfl (ex_fieldAddr (off' := 0) rfl rfl Try.underlying100 rfl tsz74 rfl) ?_
  refine ops_ex rfl (guard_none rfl) rfl rfl (ex_load1 rfl rfl Try.underlying74 rfl ((HM.box_at 0 rfl) 0 _ rfl)) ?_
  refine ops_does rfl (guard_none rfl) rfl rfl (does_callk rfl callok113 rfl (laws_eqInt64S.calls (x0 := x0.fKeys) (x1 := x1.fKeys) (HM.rd hp0_0) (HM.rd hp1_0) h1920)) ?_
  rintro _ w1921 ⟨rfl, hn⟩
  replace HM : Mem w [] w1921 [box b1911 100 [p1_0, .int .i64 x1.fNeed, .int .i64 x1.fAfter], box b1908 100 [p0_0, .int .i64 x0.fNeed, .int .i64 x0.fAfter]] := HM.call hn
  refine ops_ex rfl (guard_none rfl) rfl rfl (ex_not rfl rfl) ?_
  refine ops_nil ?_
  refine at_then ?_
  refine run_cond (b := !t1919) rfl (fun hb1922 => ?_) (fun hb1922 => ?_)
  · replace H := cond_t hb1922 H
    refine run_seq ?_
    refine run_region rfl ?_
    refine ops_ex rfl (guard_none rfl) rfl rfl (ex_assign rfl rfl) ?_
    refine ops_nil ?_
    refine at_then ?_
    refine run_ret ?_
    refine at_then_ret ?_
    replace HM := (HM.front 0 rfl rfl).drop
    replace HM := (HM.front 0 rfl rfl).drop
    have hR := Option.some.inj H
    subst hR
    exact at_ret1 rfl rfl ⟨_, rfl, rfl, HM⟩
  · replace H := cond_f hb1922 H
    refine run_skip ?_
    refine at_then ?_
    refine run_seq ?_
    refine run_seq ?_
    refine run_region rfl ?_
    refine ops_ex rfl (guard_none rfl) rfl rfl (ex_fieldAddr (off' := 1) rfl rfl Try.underlying100 rfl tsz2 rfl) ?_
    refine ops_ex rfl (guard_none rfl) rfl rfl (ex_load1 rfl rfl Try.underlying2 rfl ((HM.box_at 1 rfl) 1 _ rfl)) ?_
    refine ops_ex rfl (guard_none rfl) rfl rfl (ex_fieldAddr (off' := 1) rfl rfl Try.underlying100 rfl tsz2 rfl) ?_
    refine ops_ex rfl (guard_none rfl) rfl rfl (ex_load1 rfl rfl Try.underlying2 rfl ((HM.box_at 0 rfl) 1 _ rfl)) ?_
    refine ops_ex rfl (guard_none rfl) rfl rfl (ex_neq rfl rfl rfl) ?_
    refine ops_nil ?_
    refine at_then ?_
    refine run_cond (b := (x0.fNeed != x1.fNeed)) rfl (fun hb1924 => ?_) (fun hb1924 => ?_)
    · replace H := cond_t hb1924 H
      refine run_seq ?_
      refine run_region rfl ?_
      refine ops_ex rfl (guard_none rfl) rfl rfl (ex_assign rfl rfl) ?_
      refine ops_nil ?_
      refine at_then ?_
      refine run_ret ?_
      refine at_then_ret ?_
      replace HM := (HM.front 0 rfl rfl).drop
      replace HM := (HM.front 0 rfl rfl).drop
      have hR := Option.some.inj H
      subst hR
      exact at_ret1 rfl rfl ⟨_, rfl, rfl, HM⟩
    · replace H := cond_f hb1924 H
      refine run_skip ?_
      refine at_then ?_
      refine run_seq ?_
      refine run_seq ?_
      refine run_region rfl ?_
      refine ops_ex rfl (guard_none rfl) rfl rfl (ex_fieldAddr (off' := 2) rfl rfl Try.underlying100 rfl tsz2 rfl) ?_
      refine ops_ex rfl (guard_none rfl) rfl rfl (ex_load1 rfl rfl Try.underlying2 rfl ((HM.box_at 1 rfl) 2 _ rfl)) ?_
      refine ops_ex rfl (guard_none rfl) rfl rfl (ex_fieldAddr (off' := 2) rfl rfl Try.underlying100 rfl tsz2 rfl) ?_
      refine ops_ex rfl (guard_none rfl) rfl rfl (ex_load1 rfl rfl Try.underlying2 rfl ((HM.box_at 0 rfl) 2 _ rfl)) ?_
      refine ops_ex rfl (guard_none rfl) rfl rfl (ex_neq rfl rfl rfl) ?_
      refine ops_nil ?_
      refine at_then ?_
      refine run_cond (b := (x0.fAfter != x1.fAfter)) rfl (fun hb1925 => ?_) (fun hb1925 => ?_)
      · replace H := cond_t hb1925 H
        refine run_seq ?_
        refine run_region rfl ?_
        refine ops_ex rfl (guard_none rfl) rfl rfl (ex_assign rfl rfl) ?_
        refine ops_nil ?_
        refine at_then ?_
        refine run_ret ?_
        refine at_then_ret ?_
        replace HM := (HM.front 0 rfl rfl).drop
        replace HM := (HM.front 0 rfl rfl).drop
        have hR := Option.some.inj H
        subst hR
        exact at_ret1 rfl rfl ⟨_, rfl, rfl, HM⟩
      · replace H := cond_f hb1925 H
        refine run_skip ?_
        refine at_then ?_
        refine run_seq ?_
        refine run_region rfl ?_
        refine ops_ex rfl (guard_none rfl) rfl rfl (ex_assign rfl rfl) ?_
        refine ops_nil ?_
        refine at_then ?_
        refine run_ret ?_
        replace HM := (HM.front 0 rfl rfl).drop
        replace HM := (HM.front 0 rfl rfl).drop
        have hR := Option.some.inj H
        subst hR
        exact at_ret1 rfl rfl ⟨_, rfl, rfl, HM⟩

def laws_eqOut.f (k : Nat) (x0 : Out) (x1 : Out) : Option Bool := (bif (x0.fValue != x1.fValue) then some false else ((laws_eqRule.f k x0.fRule x1.fRule).bind fun t1939 => (bif !t1939 then some false else some true)))
theorem laws_eqOut.calls {k : Nat} {x0 : Out} {x1 : Out} {p0_0 : Value} {p1_0 : Value} {w : World} (hp0_0 : RdS kInt w p0_0 x0.fRule.fKeys) (hp1_0 : RdS kInt w p1_0 x1.fRule.fKeys) {r : Bool} (H : laws_eqOut.f k x0 x1 = some r) :
    Calls Try.prog 125 ([.agg #[(.int .i64 x0.fValue), p0_0, (.int .i64 x0.fRule.fNeed), (.int .i64 x0.fRule.fAfter)], .agg #[(.int .i64 x1.fValue), p1_0, (.int .i64 x1.fRule.fNeed), (.int .i64 x1.fRule.fAfter)]] : List Value).toArray w (fun e w_ => ∃ v, e = .returned v ∧ v = (.bool r) ∧ Mem w [] w_ []) := by
  have HM := Mem.start w
  refine calls_run (N := 16) Try.func125 rfl rfl rfl rfl ?_
  unfold laws_eqOut.f at H
  refine run_seq ?_
  refine run_region rfl ?_
  refine ops_does rfl (guard_none rfl) rfl rfl (does_box (cs := [.int .i64 x0.fValue, p0_0, .int .i64 x0.fRule.fNeed, .int .i64 x0.fRule.fAfter]) rfl rfl rfl HM) ?_
  rintro _ w1935 ⟨b1929, rfl, HM⟩
  refine ops_does rfl (guard_none rfl) rfl rfl (does_box (cs := [.int .i64 x1.fValue, p1_0, .int .i64 x1.fRule.fNeed, .int .i64 x1.fRule.fAfter]) rfl rfl rfl HM) ?_
  rintro _ w1936 ⟨b1932, rfl, HM⟩
  refine ops_ex rfl (guard_none rfl) rfl rfl (ex_assign rfl rfl) ?_
  refine ops_nil ?_
  refine at_then ?_
  refine run_seq ?_
  refine run_seq ?_
  refine run_region rfl ?_
  refine ops_ex rfl (guard_none rfl) rfl rfl (ex_fieldAddr (off' := 0) rfl rfl Try.underlying102 rfl tsz2 rfl) ?_
  refine ops_ex rfl (guard_none rfl) rfl rfl (ex_load1 rfl rfl Try.underlying2 rfl ((HM.box_at 1 rfl) 0 _ rfl)) ?_
  refine ops_ex rfl (guard_none rfl) rfl rfl (ex_fieldAddr (off' := 0) rfl rfl Try.underlying102 rfl tsz2 rfl) ?_
  refine ops_ex rfl (guard_none rfl) rfl rfl (ex_load1 rfl rfl Try.underlying2 rfl ((HM.box_at 0 rfl) 0 _ rfl)) ?_
  refine ops_ex rfl (guard_none rfl) rfl rfl (ex_neq rfl rfl rfl) ?_
  refine ops_nil ?_
  refine at_then ?_
  refine run_cond (b := (x0.fValue != x1.fValue)) rfl (fun hb1938 => ?_) (fun hb1938 => ?_)
  · replace H := cond_t hb1938 H
    refine run_seq ?_
    refine run_region rfl ?_
    refine ops_ex rfl (guard_none rfl) rfl rfl (ex_assign rfl rfl) ?_
    refine ops_nil ?_
    refine at_then ?_
    refine run_ret ?_
    refine at_then_ret ?_
    replace HM := (HM.front 0 rfl rfl).drop
    replace HM := (HM.front 0 rfl rfl).drop
    have hR := Option.some.inj H
    subst hR
    exact at_ret1 rfl rfl ⟨_, rfl, rfl, HM⟩
  · replace H := cond_f hb1938 H
    refine run_skip ?_
    refine at_then ?_
    refine run_seq ?_
    refine run_seq ?_
    obtain ⟨t1939, h1940, H⟩ := bind_some H
    refine run_region rfl ?_
    refine ops_ex rfl (guard_none rfl) rfl rfl (ex_fieldAddr (off' := 1) rfl rfl Try.underlying102 rfl tsz100 rfl) ?_
    refine ops_ex rfl (guard_none rfl) rfl rfl (ex_loadN (cs := [p0_0, (.int .i64 x0.fRule.fNeed), (.int .i64 x0.fRule.fAfter)]) rfl rfl Try.underlying100 rfl tsz100 rfl ((HM.box_at 1 rfl).sub 1 3 rfl)) ?_
    refine ops_ex rfl (guard_none rfl) rfl rfl (ex_fieldAddr (off' := 1) rfl rfl Try.underlying102 rfl tsz100 rfl) ?_
    refine ops_ex rfl (guard_none rfl) rfl rfl (ex_loadN (cs := [p1_0, (.int .i64 x1.fRule.fNeed), (.int .i64 x1.fRule.fAfter)]) rfl rfl Try.underlying100 rfl tsz100 rfl ((HM.box_at 0 rfl).sub 1 3 rfl)) ?_
    refine ops_does rfl (guard_none rfl) rfl rfl (does_callk rfl callok159 rfl (laws_eqRule.calls (x0 := x0.fRule) (x1 := x1.fRule) (HM.rd hp0_0) (HM.rd hp1_0) h1940)) ?_
    rintro _ w1941 ⟨rfl, hn⟩
    replace HM : Mem w [] w1941 [box b1932 102 [.int .i64 x1.fValue, p1_0, .int .i64 x1.fRule.fNeed, .int .i64 x1.fRule.fAfter], box b1929 102 [.int .i64 x0.fValue, p0_0, .int .i64 x0.fRule.fNeed, .int .i64 x0.fRule.fAfter]] := HM.call hn
    refine ops_ex rfl (guard_none rfl) rfl rfl (ex_not rfl rfl) ?_
    refine ops_nil ?_
    refine at_then ?_
    refine run_cond (b := !t1939) rfl (fun hb1942 => ?_) (fun hb1942 => ?_)
    · replace H := cond_t hb1942 H
      refine run_seq ?_
      refine run_region rfl ?_
      refine ops_ex rfl (guard_none rfl) rfl rfl (ex_assign rfl rfl) ?_
      refine ops_nil ?_
      refine at_then ?_
      refine run_ret ?_
      refine at_then_ret ?_
      replace HM := (HM.front 0 rfl rfl).drop
      replace HM := (HM.front 0 rfl rfl).drop
      have hR := Option.some.inj H
      subst hR
      exact at_ret1 rfl rfl ⟨_, rfl, rfl, HM⟩
    · replace H := cond_f hb1942 H
      refine run_skip ?_
      refine at_then ?_
      refine run_seq ?_
      refine run_region rfl ?_
      refine ops_ex rfl (guard_none rfl) rfl rfl (ex_assign rfl rfl) ?_
      refine ops_nil ?_
      refine at_then ?_
      refine run_ret ?_
      replace HM := (HM.front 0 rfl rfl).drop
      replace HM := (HM.front 0 rfl rfl).drop
      have hR := Option.some.inj H
      subst hR
      exact at_ret1 rfl rfl ⟨_, rfl, rfl, HM⟩
end Go.Proofs.Ytoiacoiccpiciaa.Zk
