/- What functions of the program compute, each as a plain function, and that they do. Conditions: as each theorem states them. -/
import Derived.Test.YtiiimifniobfhaaDoorParseBlockZkF2
namespace Go.Proofs.YtiiimifniobfhaaDoor.Zk
open Go Go.RowKit Go.IntWalk Go.Proofs
set_option linter.unusedVariables false
set_option linter.unusedSimpArgs false
set_option maxRecDepth 100000
set_option maxHeartbeats 4000000
def impl_ParseBlock.f (k : Nat) (x0 : ByteArray) : Option BlockResult := ((impl_readBlock.f k x0).bind fun t1573 => (bif !t1573.2 then some (⟨5, (⟨0, 0, 0, ([] : List Int)⟩ : Block)⟩ : BlockResult) else some (⟨0, (⟨t1573.1.fPrev, t1573.1.fHeight, t1573.1.fMiner, t1573.1.fTxs⟩ : Block)⟩ : BlockResult)))
theorem impl_ParseBlock.calls {k : Nat} {x0 : ByteArray}  {w : World} (htab : TabP w)  {r : BlockResult} (H : impl_ParseBlock.f k x0 = some r) :
    Calls Tryd.prog 19 ([.string x0] : List Value).toArray w (fun e w_ => ∃ v, e = .returned v ∧ ∃ u0 : Value, v = (.agg #[.int .i64 r.fCode, .int .i64 r.fBlock.fPrev, .int .i64 r.fBlock.fHeight, .int .i64 r.fBlock.fMiner, u0]) ∧ Mem w [] w_ [own kInt 2 u0 r.fBlock.fTxs]) := by
  have HM := Mem.start w
  refine calls_run (N := 15) Tryd.func19 rfl rfl rfl rfl ?_
  unfold impl_ParseBlock.f at H
  refine run_seq ?_
  refine run_region rfl ?_
  refine ops_does rfl (guard_none rfl) rfl rfl (does_alloc (cs := [.int .i64 0, .int .i64 0, .int .i64 0, .int .i64 0, .slice none 0 0]) rfl tz50 rfl HM) ?_
  rintro _ w1572 ⟨b1569, rfl, HM⟩
  refine ops_nil ?_
  refine at_then ?_
  refine run_seq ?_
  obtain ⟨t1573, h1574, H⟩ := bind_some H
  refine run_region rfl ?_
  refine ops_ex rfl (guard_none rfl) rfl rfl (ex_move rfl rfl) ?_
  refine ops_does rfl (guard_none rfl) rfl rfl (does_callk rfl callok49 rfl (impl_readBlock.calls (x0 := x0) (HM.tabP htab) h1574)) ?_
  rintro _ w1580 ⟨u1575, rfl, hn⟩
  replace HM : Mem w [] w1580 [own kInt 2 u1575 t1573.1.fTxs, box b1569 50 [.int .i64 0, .int .i64 0, .int .i64 0, .int .i64 0, .slice none 0 0]] := HM.call hn
  refine ops_ex rfl (guard_none rfl) rfl rfl (ex_move rfl rfl) ?_
  refine ops_ex rfl (guard_none rfl) rfl rfl (ex_extract rfl rfl rfl) ?_
  refine ops_ex rfl (guard_none rfl) rfl rfl (ex_extract rfl rfl rfl) ?_
  refine ops_does rfl (guard_none rfl) rfl rfl (does_alloc (cs := [.int .i64 0, .int .i64 0, .int .i64 0, .slice none 0 0]) rfl tz48 rfl HM) ?_
  rintro _ w1581 ⟨b1577, rfl, HM⟩
  refine ops_doesS rfl (guard_none rfl) rfl (does_store (vs := [.int .i64 t1573.1.fPrev, .int .i64 t1573.1.fHeight, .int .i64 t1573.1.fMiner, u1575]) (cs' := [.int .i64 t1573.1.fPrev, .int .i64 t1573.1.fHeight, .int .i64 t1573.1.fMiner, u1575]) rfl rfl rfl rfl tsz48 (Ones.int (Ones.int (Ones.int (Ones.rd (HM.own_rd 1 rfl) Ones.nil)))) rfl rfl HM) ?_
  rintro w1582 HM
  refine ops_ex rfl (guard_none rfl) rfl rfl (ex_assign rfl rfl) ?_
  refine ops_nil ?_
  refine at_then ?_
  refine run_seq ?_
  refine run_seq ?_
  refine run_region rfl ?_
  refine ops_ex rfl (guard_none rfl) rfl rfl (ex_move rfl rfl) ?_
  refine ops_ex rfl (guard_none rfl) rfl rfl (ex_not rfl rfl) ?_
  refine ops_nil ?_
  refine at_then ?_
  refine run_cond (b := !t1573.2) rfl (fun hb1583 => ?_) (fun hb1583 => ?_)
  · replace H := cond_t hb1583 H
    refine run_seq ?_
    refine run_region rfl ?_
    refine ops_ex rfl (guard_none rfl) rfl rfl (ex_build (cells := #[(.int .i64 5), (.int .i64 0), (.int .i64 0), (.int .i64 0), (.slice none 0 0)]) rfl rfl (by kernel_rfl)) ?_
    replace HM := HM.front 2 rfl rfl
    refine ops_doesS rfl (guard_none rfl) rfl (does_store (vs := [.int .i64 5, .int .i64 0, .int .i64 0, .int .i64 0, .slice none 0 0]) (cs' := [.int .i64 5, .int .i64 0, .int .i64 0, .int .i64 0, .slice none 0 0]) rfl rfl rfl rfl tsz50 (Ones.int (Ones.int (Ones.int (Ones.int (Ones.sl Ones.nil))))) rfl rfl HM) ?_
    rintro w1584 HM
    refine ops_nil ?_
    refine at_then ?_
    refine run_ret ?_
    refine at_then_ret ?_
    replace HM := HM.empty kInt 2 none
    replace HM := (HM.front 2 rfl rfl).drop
    replace HM := (HM.front 2 rfl rfl).drop
    replace HM := HM.front 1 rfl rfl
    have hcb0 := HM.box_at 0 rfl
    replace HM := (HM.front 0 rfl rfl).drop
    have hR := Option.some.inj H
    subst hR
    exact at_retN rfl rfl Tryd.underlying50 rfl tsz50 rfl hcb0 ⟨_, rfl, _, rfl, HM⟩
  · replace H := cond_f hb1583 H
    refine run_skip ?_
    refine at_then ?_
    refine run_seq ?_
    refine run_region rfl ?_
    refine ops_ex rfl (guard_none rfl) rfl rfl (ex_loadN (cs := [(.int .i64 t1573.1.fPrev), (.int .i64 t1573.1.fHeight), (.int .i64 t1573.1.fMiner), u1575]) rfl rfl Tryd.underlying48 rfl tsz48 rfl ((HM.box_at 0 rfl).sub 0 4 rfl)) ?_
    refine ops_ex rfl (guard_none rfl) rfl rfl (ex_build1 (fun u1575 => [(1, .agg #[(.int .i64 t1573.1.fPrev), (.int .i64 t1573.1.fHeight), (.int .i64 t1573.1.fMiner), u1575])]) (fun u1575 => #[.int .i64 0, .int .i64 t1573.1.fPrev, .int .i64 t1573.1.fHeight, .int .i64 t1573.1.fMiner, u1575]) rfl rfl (fun _ _ _ => by kernel_rfl) (HM.own_rd 1 rfl).isSl) ?_
    replace HM := HM.front 2 rfl rfl
    refine ops_doesS rfl (guard_none rfl) rfl (does_store (vs := [.int .i64 0, .int .i64 t1573.1.fPrev, .int .i64 t1573.1.fHeight, .int .i64 t1573.1.fMiner, u1575]) (cs' := [.int .i64 0, .int .i64 t1573.1.fPrev, .int .i64 t1573.1.fHeight, .int .i64 t1573.1.fMiner, u1575]) rfl rfl rfl rfl tsz50 (Ones.int (Ones.int (Ones.int (Ones.int (Ones.rd (HM.own_rd 2 rfl) Ones.nil))))) rfl rfl HM) ?_
    rintro w1586 HM
    refine ops_nil ?_
    refine at_then ?_
    refine run_ret ?_
    replace HM := (HM.front 1 rfl rfl).drop
    have hcb0 := HM.box_at 0 rfl
    replace HM := (HM.front 0 rfl rfl).drop
    have hR := Option.some.inj H
    subst hR
    exact at_retN rfl rfl Tryd.underlying50 rfl tsz50 rfl hcb0 ⟨_, rfl, _, rfl, HM⟩

def laws_eqInt64S.l0 (x0 : List Int) (x1 : List Int) : Nat → Int → Option (Bool ⊕ Unit)
  | 0, _ => none
  | k + 1, a1666 => (bif (decide (a1666 < (x0.length : Int))) then (chk (idxOk a1666 x0.length) (chk (idxOk a1666 x1.length) (bif ((gt x0 a1666) != (gt x1 a1666)) then some (.inl false) else laws_eqInt64S.l0 x0 x1 k (wrap64 (a1666 + 1))))) else some (.inr ()))
theorem laws_eqInt64S.l0_z (x0 : List Int) (x1 : List Int) (a1666 : Int) : laws_eqInt64S.l0 x0 x1 0 a1666 = none := rfl
theorem laws_eqInt64S.l0_s (x0 : List Int) (x1 : List Int) (k : Nat) (a1666 : Int) : laws_eqInt64S.l0 x0 x1 (k + 1) a1666 = (bif (decide (a1666 < (x0.length : Int))) then (chk (idxOk a1666 x0.length) (chk (idxOk a1666 x1.length) (bif ((gt x0 a1666) != (gt x1 a1666)) then some (.inl false) else laws_eqInt64S.l0 x0 x1 k (wrap64 (a1666 + 1))))) else some (.inr ())) := rfl
def laws_eqInt64S.f (k : Nat) (x0 : List Int) (x1 : List Int) : Option Bool := (bif ((x0.length : Int) != (x1.length : Int)) then some false else ((laws_eqInt64S.l0 x0 x1 k 0).bind fun o1658 => thn o1658 (fun r => some r) (fun _ => some true)))
theorem laws_eqInt64S.calls {k : Nat} {x0 : List Int} {x1 : List Int} {p0 : Value} {p1 : Value} {w : World} (hp0 : RdS kInt w p0 x0) (hp1 : RdS kInt w p1 x1) {r : Bool} (H : laws_eqInt64S.f k x0 x1 = some r) :
    Calls Tryd.prog 95 ([p0, p1] : List Value).toArray w (fun e w_ => ∃ v, e = .returned v ∧ v = (.bool r) ∧ Mem w [] w_ []) := by
  have HM := Mem.start w
  refine calls_run (N := 26) Tryd.func95 rfl rfl rfl rfl ?_
  unfold laws_eqInt64S.f at H
  refine run_seq ?_
  refine run_region rfl ?_
  refine ops_ex rfl (guard_none rfl) rfl rfl (ex_assign rfl rfl) ?_
  refine ops_nil ?_
  refine at_then ?_
  refine run_seq ?_
  refine run_seq ?_
  refine run_region rfl ?_
  refine ops_ex rfl (guard_none rfl) rfl rfl (ex_move rfl rfl) ?_
  refine ops_ex rfl (guard_none rfl) rfl rfl (ex_len (d := kInt) (xs := x0) rfl rfl Tryd.underlying38 hp0) ?_
  refine ops_ex rfl (guard_none rfl) rfl rfl (ex_move rfl rfl) ?_
  refine ops_ex rfl (guard_none rfl) rfl rfl (ex_len (d := kInt) (xs := x1) rfl rfl Tryd.underlying38 hp1) ?_
  refine ops_ex rfl (guard_none rfl) rfl rfl (ex_neq rfl rfl rfl) ?_
  refine ops_nil ?_
  refine at_then ?_
  refine run_cond (b := ((x0.length : Int) != (x1.length : Int))) rfl (fun hb1638 => ?_) (fun hb1638 => ?_)
  · replace H := cond_t hb1638 H
    refine run_seq ?_
    refine run_region rfl ?_
    refine ops_ex rfl (guard_none rfl) rfl rfl (ex_assign rfl rfl) ?_
    refine ops_nil ?_
    refine at_then ?_
    refine run_ret ?_
    refine at_then_ret ?_
    have hR := Option.some.inj H
    subst hR
    exact at_ret1 rfl rfl ⟨_, rfl, rfl, HM⟩
  · replace H := cond_f hb1638 H
    refine run_skip ?_
    refine at_then ?_
    obtain ⟨o1658, ho1659, H⟩ := bind_some H
    refine run_mid (fun ρ_ w_ => Sum.inr () = o1658 ∧ ρ_ = [] ∧ Mem w [] w_ []) ?_ ?_
    · skip
      refine run_seq ?_
      refine run_region rfl ?_
      refine ops_ex rfl (guard_none rfl) rfl rfl (ex_assign rfl rfl) ?_
      refine ops_nil ?_
      refine at_then ?_
      refine run_block ?_
      refine run_loop (fun k_ ρ_ w_ => ∃ a1666 : Int, laws_eqInt64S.l0 x0 x1 k_ a1666 = some o1658 ∧ ρ_ = [(0, p0), (1, p1), (5, .int .i64 a1666)] ∧ Mem w [] w_ []) k (ρ1 := [(0, p0), (1, p1), (5, .int .i64 0)]) ⟨_, ho1659, rfl, HM⟩ (Sub.cons rfl (Sub.cons rfl (Sub.cons rfl Sub.nil))) ?_
      clear HM ho1659
      rintro k1673 _ w1674 ⟨a1666, ho1659, rfl, HM⟩
      obtain _ | k1673 := k1673
      · exact nomatch ((laws_eqInt64S.l0_z x0 x1 a1666).symm.trans ho1659)
      replace ho1659 := (laws_eqInt64S.l0_s x0 x1 k1673 a1666).symm.trans ho1659
      refine run_seq ?_
      refine run_seq ?_
      refine run_region rfl ?_
      refine ops_ex rfl (guard_none rfl) rfl rfl (ex_move rfl rfl) ?_
      refine ops_ex rfl (guard_none rfl) rfl rfl (ex_move rfl rfl) ?_
      refine ops_ex rfl (guard_none rfl) rfl rfl (ex_len (d := kInt) (xs := x0) rfl rfl Tryd.underlying38 hp0) ?_
      refine ops_ex rfl (guard_none rfl) rfl rfl (ex_lss rfl rfl rfl) ?_
      refine ops_nil ?_
      refine at_then ?_
      refine run_cond (b := (decide (a1666 < (x0.length : Int)))) rfl (fun hb1675 => ?_) (fun hb1675 => ?_)
      · replace ho1659 := cond_t hb1675 ho1659
        refine run_skip ?_
        refine at_then ?_
        refine run_seq ?_
        refine run_block ?_
        refine run_seq ?_
        obtain ⟨e1676, ho1659⟩ := chk_some ho1659
        obtain ⟨e1678, ho1659⟩ := chk_some ho1659
        refine run_drawf (fun w_ => Mem w [] w_ []) [(0, true), (1, true), (2, true), (3, true), (4, true), (5, true), (6, true), (7, true), (8, true)] mixed rfl rfl (by kernel_rfl) ?_
        replace HM := HM.grow (fr_drew _)
        have hS := Mem.suf (M := []) HM
        refine drwp_take rfl (guard_none rfl) rfl rfl (fun w_ hS_ => (ex_move rfl rfl)) hS ?_
        refine drwp_take rfl (guard_none rfl) rfl rfl (fun w_ hS_ => (ex_move rfl rfl)) hS ?_
        have hc1677 : CellsAt _ (sb p0) (so p0 + (a1666).toNat * 1) [(.int .i64 (gt x0 a1666))] := rd_plain hp0 e1676
        refine drwp_take rfl (guard_none rfl) rfl rfl (fun w_ hS_ => (ex_indexAddr (d := kInt) rfl rfl rfl Tryd.underlying38 tsz2 hp0 (idx_lo e1676) (idx_hi e1676))) hS ?_
        refine drwp_take rfl (guard_none rfl) rfl rfl (fun w_ hS_ => (ex_load1 rfl rfl Tryd.underlying2 rfl ((hS_.at_ hc1677) 0 _ rfl))) hS ?_
        refine drwp_take rfl (guard_none rfl) rfl rfl (fun w_ hS_ => (ex_move rfl rfl)) hS ?_
        refine drwp_take rfl (guard_none rfl) rfl rfl (fun w_ hS_ => (ex_move rfl rfl)) hS ?_
        have hc1679 : CellsAt _ (sb p1) (so p1 + (a1666).toNat * 1) [(.int .i64 (gt x1 a1666))] := rd_plain hp1 e1678
        refine drwp_take rfl (guard_none rfl) rfl rfl (fun w_ hS_ => (ex_indexAddr (d := kInt) rfl rfl rfl Tryd.underlying38 tsz2 hp1 (idx_lo e1678) (idx_hi e1678))) hS ?_
        refine drwp_take rfl (guard_none rfl) rfl rfl (fun w_ hS_ => (ex_load1 rfl rfl Tryd.underlying2 rfl ((hS_.at_ hc1679) 0 _ rfl))) hS ?_
        refine drwp_take rfl (guard_none rfl) rfl rfl (fun w_ hS_ => (ex_neq rfl rfl rfl)) hS ?_
        refine drwp_done ?_
        refine at_then ?_
        refine run_cond (b := ((gt x0 a1666) != (gt x1 a1666))) rfl (fun hb1680 => ?_) (fun hb1680 => ?_)
        · replace ho1659 := cond_t hb1680 ho1659
          refine run_seq ?_
          refine run_region rfl ?_
          refine ops_ex rfl (guard_none rfl) rfl rfl (ex_assign rfl rfl) ?_
          refine ops_nil ?_
          refine at_then ?_
          refine run_ret ?_
          refine at_block_ret ?_
          refine at_then_ret ?_
          refine at_then_ret ?_
          refine at_block_ret ?_
          refine at_then_ret ?_
          have hR := Option.some.inj ho1659
          subst hR
          have hT := thn_inl H
          have hR := Option.some.inj hT
          subst hR
          exact at_ret1 rfl rfl ⟨_, rfl, rfl, HM⟩
        · replace ho1659 := cond_f hb1680 ho1659
          refine run_skip ?_
          refine at_block ?_
          refine at_then ?_
          refine run_region rfl ?_
          refine ops_ex rfl (guard_none rfl) rfl rfl (ex_move rfl rfl) ?_
          refine ops_ex rfl (guard_none rfl) rfl rfl (ex_add rfl rfl rfl) ?_
          refine ops_ex rfl (guard_none rfl) rfl rfl (ex_assign rfl rfl) ?_
          refine ops_nil ?_
          exact at_again k1673 (ρ1 := [(0, p0), (1, p1), (5, .int .i64 (wrap64 (a1666 + 1)))]) (Nat.lt_succ_self _) ⟨_, ho1659, rfl, HM⟩ (Sub.cons rfl (Sub.cons rfl (Sub.cons rfl Sub.nil)))
      · replace ho1659 := cond_f hb1675 ho1659
        refine run_exit ?_
        refine at_then_exit ?_
        refine at_then_exit ?_
        refine at_block_exit ?_
        exact at_mid (ρ' := []) ⟨(Option.some.inj ho1659), rfl, HM⟩ Sub.nil
    · rintro _ w1681 ⟨rfl, rfl, HM⟩
      replace H := (thn_inr H)
      refine run_seq ?_
      refine run_region rfl ?_
      refine ops_ex rfl (guard_none rfl) rfl rfl (ex_assign rfl rfl) ?_
      refine ops_nil ?_
      refine at_then ?_
      refine run_ret ?_
      have hR := Option.some.inj H
      subst hR
      exact at_ret1 rfl rfl ⟨_, rfl, rfl, HM⟩

def laws_eqBlock.f (k : Nat) (x0 : Block) (x1 : Block) : Option Bool := (bif (x0.fPrev != x1.fPrev) then some false else (bif (x0.fHeight != x1.fHeight) then some false else (bif (x0.fMiner != x1.fMiner) then some false else ((laws_eqInt64S.f k x0.fTxs x1.fTxs).bind fun t1699 => (bif !t1699 then some false else some true)))))
theorem laws_eqBlock.calls {k : Nat} {x0 : Block} {x1 : Block} {p0_0 : Value} {p1_0 : Value} {w : World} (hp0_0 : RdS kInt w p0_0 x0.fTxs) (hp1_0 : RdS kInt w p1_0 x1.fTxs) {r : Bool} (H : laws_eqBlock.f k x0 x1 = some r) :
    Calls Tryd.prog 50 ([.agg #[(.int .i64 x0.fPrev), (.int .i64 x0.fHeight), (.int .i64 x0.fMiner), p0_0], .agg #[(.int .i64 x1.fPrev), (.int .i64 x1.fHeight), (.int .i64 x1.fMiner), p1_0]] : List Value).toArray w (fun e w_ => ∃ v, e = .returned v ∧ v = (.bool r) ∧ Mem w [] w_ []) := by
  have HM := Mem.start w
  refine calls_run (N := 26) Tryd.func50 rfl rfl rfl rfl ?_
  unfold laws_eqBlock.f at H
  refine run_seq ?_
  refine run_region rfl ?_
  refine ops_does rfl (guard_none rfl) rfl rfl (does_box (cs := [.int .i64 x0.fPrev, .int .i64 x0.fHeight, .int .i64 x0.fMiner, p0_0]) rfl rfl rfl HM) ?_
  rintro _ w1691 ⟨b1685, rfl, HM⟩
  refine ops_does rfl (guard_none rfl) rfl rfl (does_box (cs := [.int .i64 x1.fPrev, .int .i64 x1.fHeight, .int .i64 x1.fMiner, p1_0]) rfl rfl rfl HM) ?_
  rintro _ w1692 ⟨b1688, rfl, HM⟩
  refine ops_ex rfl (guard_none rfl) rfl rfl (ex_assign rfl rfl) ?_
  refine ops_nil ?_
  refine at_then ?_
  refine run_seq ?_
  refine run_seq ?_
  refine run_region rfl ?_
  refine ops_ex rfl (guard_none rfl) rfl rfl (ex_fieldAddr (off' := 0) rfl rfl Tryd.underlying48 rfl tsz2 rfl) ?_
  refine ops_ex rfl (guard_none rfl) rfl rfl (ex_load1 rfl rfl Tryd.underlying2 rfl ((HM.box_at 1 rfl) 0 _ rfl)) ?_
  refine ops_ex rfl (guard_none rfl) rfl rfl (ex_fieldAddr (off' := 0) rfl rfl Tryd.underlying48 rfl tsz2 rfl) ?_
  refine ops_ex rfl (guard_none rfl) rfl rfl (ex_load1 rfl rfl Tryd.underlying2 rfl ((HM.box_at 0 rfl) 0 _ rfl)) ?_
  refine ops_ex rfl (guard_none rfl) rfl rfl (ex_neq rfl rfl rfl) ?_
  refine ops_nil ?_
  refine at_then ?_
  refine run_cond (b := (x0.fPrev != x1.fPrev)) rfl (fun hb1694 => ?_) (fun hb1694 => ?_)
  · replace H := cond_t hb1694 H
    refine run_seq ?_
    refine run_region rfl ?_
    refine ops_ex rfl (guard_none rfl) rfl rfl (ex_assign rfl rfl) ?_
    refine ops_nil ?_
    refine at_then ?_
    refine run_ret ?_
    refine at_then_ret ?_
    replace HM := (HM.front 0 rfl rfl).drop
    replace HM := (HM.front 0 rfl rfl).drop
    have hR := Option.some.inj H
    subst hR
    exact at_ret1 rfl rfl ⟨_, rfl, rfl, HM⟩
  · replace H := cond_f hb1694 H
    refine run_skip ?_
    refine at_then ?_
    refine run_seq ?_
    refine run_seq ?_
    refine run_region rfl ?_
    refine ops_ex rfl (guard_none rfl) rfl rfl (ex_fieldAddr (off' := 1) rfl rfl Tryd.underlying48 rfl tsz2 rfl) ?_
    refine ops_ex rfl (guard_none rfl) rfl rfl (ex_load1 rfl rfl Tryd.underlying2 rfl ((HM.box_at 1 rfl) 1 _ rfl)) ?_
    refine ops_ex rfl (guard_none rfl) rfl rfl (ex_fieldAddr (off' := 1) rfl rfl Tryd.underlying48 rfl tsz2 rfl) ?_
    refine ops_ex rfl (guard_none rfl) rfl rfl (ex_load1 rfl rfl Tryd.underlying2 rfl ((HM.box_at 0 rfl) 1 _ rfl)) ?_
    refine ops_ex rfl (guard_none rfl) rfl rfl (ex_neq rfl rfl rfl) ?_
    refine ops_nil ?_
    refine at_then ?_
    refine run_cond (b := (x0.fHeight != x1.fHeight)) rfl (fun hb1696 => ?_) (fun hb1696 => ?_)
    · replace H := cond_t hb1696 H
      refine run_seq ?_
      refine run_region rfl ?_
      refine ops_ex rfl (guard_none rfl) rfl rfl (ex_assign rfl rfl) ?_
      refine ops_nil ?_
      refine at_then ?_
      refine run_ret ?_
      refine at_then_ret ?_
      replace HM := (HM.front 0 rfl rfl).drop
      replace HM := (HM.front 0 rfl rfl).drop
      have hR := Option.some.inj H
      subst hR
      exact at_ret1 rfl rfl ⟨_, rfl, rfl, HM⟩
    · replace H := cond_f hb1696 H
      refine run_skip ?_
      refine at_then ?_
      refine run_seq ?_
      refine run_seq ?_
      refine run_region rfl ?_
      refine ops_ex rfl (guard_none rfl) rfl rfl (ex_fieldAddr (off' := 2) rfl rfl Tryd.underlying48 rfl tsz2 rfl) ?_
      refine ops_ex rfl (guard_none rfl) rfl rfl (ex_load1 rfl rfl Tryd.underlying2 rfl ((HM.box_at 1 rfl) 2 _ rfl)) ?_
      refine ops_ex rfl (guard_none rfl) rfl rfl (ex_fieldAddr (off' := 2) rfl rfl Tryd.underlying48 rfl tsz2 rfl) ?_
      refine ops_ex rfl (guard_none rfl) rfl rfl (ex_load1 rfl rfl Tryd.underlying2 rfl ((HM.box_at 0 rfl) 2 _ rfl)) ?_
      refine ops_ex rfl (guard_none rfl) rfl rfl (ex_neq rfl rfl rfl) ?_
      refine ops_nil ?_
      refine at_then ?_
      refine run_cond (b := (x0.fMiner != x1.fMiner)) rfl (fun hb1698 => ?_) (fun hb1698 => ?_)
      · replace H := cond_t hb1698 H
        refine run_seq ?_
        refine run_region rfl ?_
        refine ops_ex rfl (guard_none rfl) rfl rfl (ex_assign rfl rfl) ?_
        refine ops_nil ?_
        refine at_then ?_
        refine run_ret ?_
        refine at_then_ret ?_
        replace HM := (HM.front 0 rfl rfl).drop
        replace HM := (HM.front 0 rfl rfl).drop
        have hR := Option.some.inj H
        subst hR
        exact at_ret1 rfl rfl ⟨_, rfl, rfl, HM⟩
      · replace H := cond_f hb1698 H
        refine run_skip ?_
        refine at_then ?_
        refine run_seq ?_
        refine run_seq ?_
        obtain ⟨t1699, h1700, H⟩ := bind_some H
        refine run_region rfl ?_
        refine ops_ex rfl (guard_none rfl) rfl rfl (ex_fieldAddr (off' := 3) rfl rfl Tryd.underlying48 rfl tsz38 rfl) ?_
        refine ops_ex rfl (guard_none rfl) rfl rfl (ex_load1 rfl rfl Tryd.underlying38 rfl ((HM.box_at 1 rfl) 3 _ rfl)) ?_
        refine ops_ex rfl (guard_none rfl) rfl rfl (ex_fieldAddr (off' := 3) rfl rfl Tryd.underlying48 rfl tsz38 rfl) ?_
        refine ops_ex rfl (guard_none rfl) rfl rfl (ex_load1 rfl rfl Tryd.underlying38 rfl ((HM.box_at 0 rfl) 3 _ rfl)) ?_
        refine ops_does rfl (guard_none rfl) rfl rfl (does_callk rfl callok95 rfl (laws_eqInt64S.calls (x0 := x0.fTxs) (x1 := x1.fTxs) (HM.rd hp0_0) (HM.rd hp1_0) h1700)) ?_
        rintro _ w1701 ⟨rfl, hn⟩
        replace HM : Mem w [] w1701 [box b1688 48 [.int .i64 x1.fPrev, .int .i64 x1.fHeight, .int .i64 x1.fMiner, p1_0], box b1685 48 [.int .i64 x0.fPrev, .int .i64 x0.fHeight, .int .i64 x0.fMiner, p0_0]] := HM.call hn
        refine ops_ex rfl (guard_none rfl) rfl rfl (ex_not rfl rfl) ?_
        refine ops_nil ?_
        refine at_then ?_
        refine run_cond (b := !t1699) rfl (fun hb1702 => ?_) (fun hb1702 => ?_)
        · replace H := cond_t hb1702 H
          refine run_seq ?_
          refine run_region rfl ?_
          refine ops_ex rfl (guard_none rfl) rfl rfl (ex_assign rfl rfl) ?_
          refine ops_nil ?_
          refine at_then ?_
          refine run_ret ?_
          refine at_then_ret ?_
          replace HM := (HM.front 0 rfl rfl).drop
          replace HM := (HM.front 0 rfl rfl).drop
          have hR := Option.some.inj H
          subst hR
          exact at_ret1 rfl rfl ⟨_, rfl, rfl, HM⟩
        · replace H := cond_f hb1702 H
          refine run_skip ?_
          refine at_then ?_
          refine run_seq ?_
          refine run_region rfl ?_
          refine ops_ex rfl (guard_none rfl) rfl rfl (ex_assign rfl rfl) ?_
          refine ops_nil ?_
          refine at_then ?_
          refine run_ret ?_
          replace HM := (HM.front 0 rfl rfl).drop
          replace HM := (HM.front 0 rfl rfl).drop
          have hR := Option.some.inj H
          subst hR
          exact at_ret1 rfl rfl ⟨_, rfl, rfl, HM⟩

def laws_eqBlockResult.f (k : Nat) (x0 : BlockResult) (x1 : BlockResult) : Option Bool := (bif (x0.fCode != x1.fCode) then some false else ((laws_eqBlock.f k x0.fBlock x1.fBlock).bind fun t1716 => (bif !t1716 then some false else some true)))
theorem laws_eqBlockResult.calls {k : Nat} {x0 : BlockResult} {x1 : BlockResult} {p0_0 : Value} {p1_0 : Value} {w : World} (hp0_0 : RdS kInt w p0_0 x0.fBlock.fTxs) (hp1_0 : RdS kInt w p1_0 x1.fBlock.fTxs) {r : Bool} (H : laws_eqBlockResult.f k x0 x1 = some r) :
    Calls Tryd.prog 20 ([.agg #[(.int .i64 x0.fCode), (.int .i64 x0.fBlock.fPrev), (.int .i64 x0.fBlock.fHeight), (.int .i64 x0.fBlock.fMiner), p0_0], .agg #[(.int .i64 x1.fCode), (.int .i64 x1.fBlock.fPrev), (.int .i64 x1.fBlock.fHeight), (.int .i64 x1.fBlock.fMiner), p1_0]] : List Value).toArray w (fun e w_ => ∃ v, e = .returned v ∧ v = (.bool r) ∧ Mem w [] w_ []) := by
  have HM := Mem.start w
  refine calls_run (N := 16) Tryd.func20 rfl rfl rfl rfl ?_
  unfold laws_eqBlockResult.f at H
  refine run_seq ?_
  refine run_region rfl ?_
  refine ops_does rfl (guard_none rfl) rfl rfl (does_box (cs := [.int .i64 x0.fCode, .int .i64 x0.fBlock.fPrev, .int .i64 x0.fBlock.fHeight, .int .i64 x0.fBlock.fMiner, p0_0]) rfl rfl rfl HM) ?_
  rintro _ w1712 ⟨b1706, rfl, HM⟩
  refine ops_does rfl (guard_none rfl) rfl rfl (does_box (cs := [.int .i64 x1.fCode, .int .i64 x1.fBlock.fPrev, .int .i64 x1.fBlock.fHeight, .int .i64 x1.fBlock.fMiner, p1_0]) rfl rfl rfl HM) ?_
  rintro _ w1713 ⟨b1709, rfl, HM⟩
  refine ops_ex rfl (guard_none rfl) rfl rfl (ex_assign rfl rfl) ?_
  refine ops_nil ?_
  refine at_then ?_
  refine run_seq ?_
  refine run_seq ?_
  refine run_region rfl ?_
  refine ops_ex rfl (guard_none rfl) rfl rfl (ex_fieldAddr (off' := 0) rfl rfl Tryd.underlying50 rfl tsz2 rfl) ?_
  refine ops_ex rfl (guard_none rfl) rfl rfl (ex_load1 rfl rfl Tryd.underlying2 rfl ((HM.box_at 1 rfl) 0 _ rfl)) ?_
  refine ops_ex rfl (guard_none rfl) rfl rfl (ex_fieldAddr (off' := 0) rfl rfl Tryd.underlying50 rfl tsz2 rfl) ?_
  refine ops_ex rfl (guard_none rfl) rfl rfl (ex_load1 rfl rfl Tryd.underlying2 rfl ((HM.box_at 0 rfl) 0 _ rfl)) ?_
  refine ops_ex rfl (guard_none rfl) rfl rfl (ex_neq rfl rfl rfl) ?_
  refine ops_nil ?_
  refine at_then ?_
  refine run_cond (b := (x0.fCode != x1.fCode)) rfl (fun hb1715 => ?_) (fun hb1715 => ?_)
  · replace H := cond_t hb1715 H
    refine run_seq ?_
    refine run_region rfl ?_
    refine ops_ex rfl (guard_none rfl) rfl rfl (ex_assign rfl rfl) ?_
    refine ops_nil ?_
    refine at_then ?_
    refine run_ret ?_
    refine at_then_ret ?_
    replace HM := (HM.front 0 rfl rfl).drop
    replace HM := (HM.front 0 rfl rfl).drop
    have hR := Option.some.inj H
    subst hR
    exact at_ret1 rfl rfl ⟨_, rfl, rfl, HM⟩
  · replace H := cond_f hb1715 H
    refine run_skip ?_
    refine at_then ?_
    refine run_seq ?_
    refine run_seq ?_
    obtain ⟨t1716, h1717, H⟩ := bind_some H
    refine run_region rfl ?_
    refine ops_ex rfl (guard_none rfl) rfl rfl (ex_fieldAddr (off' := 1) rfl rfl Tryd.underlying50 rfl tsz48 rfl) ?_
    refine ops_ex rfl (guard_none rfl) rfl rfl (ex_loadN (cs := [(.int .i64 x0.fBlock.fPrev), (.int .i64 x0.fBlock.fHeight), (.int .i64 x0.fBlock.fMiner), p0_0]) rfl rfl Tryd.underlying48 rfl tsz48 rfl ((HM.box_at 1 rfl).sub 1 4 rfl)) ?_
    refine ops_ex rfl (guard_none rfl) rfl rfl (ex_fieldAddr (off' := 1) rfl rfl Tryd.underlying50 rfl tsz48 rfl) ?_
    refine ops_ex rfl (guard_none rfl) rfl rfl (ex_loadN (cs := [(.int .i64 x1.fBlock.fPrev), (.int .i64 x1.fBlock.fHeight), (.int .i64 x1.fBlock.fMiner), p1_0]) rfl rfl Tryd.underlying48 rfl tsz48 rfl ((HM.box_at 0 rfl).sub 1 4 rfl)) ?_
    refine ops_does rfl (guard_none rfl) rfl rfl (does_callk rfl callok50 rfl (laws_eqBlock.calls (x0 := x0.fBlock) (x1 := x1.fBlock) (HM.rd hp0_0) (HM.rd hp1_0) h1717)) ?_
    rintro _ w1718 ⟨rfl, hn⟩
    replace HM : Mem w [] w1718 [box b1709 50 [.int .i64 x1.fCode, .int .i64 x1.fBlock.fPrev, .int .i64 x1.fBlock.fHeight, .int .i64 x1.fBlock.fMiner, p1_0], box b1706 50 [.int .i64 x0.fCode, .int .i64 x0.fBlock.fPrev, .int .i64 x0.fBlock.fHeight, .int .i64 x0.fBlock.fMiner, p0_0]] := HM.call hn
    refine ops_ex rfl (guard_none rfl) rfl rfl (ex_not rfl rfl) ?_
    refine ops_nil ?_
    refine at_then ?_
    refine run_cond (b := !t1716) rfl (fun hb1719 => ?_) (fun hb1719 => ?_)
    · replace H := cond_t hb1719 H
      refine run_seq ?_
      refine run_region rfl ?_
      refine ops_ex rfl (guard_none rfl) rfl rfl (ex_assign rfl rfl) ?_
      refine ops_nil ?_
      refine at_then ?_
      refine run_ret ?_
      refine at_then_ret ?_
      replace HM := (HM.front 0 rfl rfl).drop
      replace HM := (HM.front 0 rfl rfl).drop
      have hR := Option.some.inj H
      subst hR
      exact at_ret1 rfl rfl ⟨_, rfl, rfl, HM⟩
    · replace H := cond_f hb1719 H
      refine run_skip ?_
      refine at_then ?_
      refine run_seq ?_
      refine run_region rfl ?_
      refine ops_ex rfl (guard_none rfl) rfl rfl (ex_assign rfl rfl) ?_
      refine ops_nil ?_
      refine at_then ?_
      refine run_ret ?_
      replace HM := (HM.front 0 rfl rfl).drop
      replace HM := (HM.front 0 rfl rfl).drop
      have hR := Option.some.inj H
      subst hR
      exact at_ret1 rfl rfl ⟨_, rfl, rfl, HM⟩

def laws_markInt64S.l0  : Nat → (List Int) → Int → Int → Option ((List Int) × Int)
  | 0, _, _, _ => none
  | k + 1, a1768, a1770, a1771 => (bif (decide (a1771 < (a1768.length : Int))) then (chk (idxOk a1771 a1768.length) (laws_markInt64S.l0 k (a1768.set (a1771).toNat a1770) (wrap64 (a1770 + 1)) (wrap64 (a1771 + 1)))) else some (a1768, a1770))
theorem laws_markInt64S.l0_z  (a1768 : List Int) (a1770 : Int) (a1771 : Int) : laws_markInt64S.l0 0 a1768 a1770 a1771 = none := rfl
theorem laws_markInt64S.l0_s  (k : Nat) (a1768 : List Int) (a1770 : Int) (a1771 : Int) : laws_markInt64S.l0 (k + 1) a1768 a1770 a1771 = (bif (decide (a1771 < (a1768.length : Int))) then (chk (idxOk a1771 a1768.length) (laws_markInt64S.l0 k (a1768.set (a1771).toNat a1770) (wrap64 (a1770 + 1)) (wrap64 (a1771 + 1)))) else some (a1768, a1770)) := rfl
def laws_markInt64S.f (k : Nat) (x0 : List Int) (x1 : Int) : Option (Int × (List Int)) := ((laws_markInt64S.l0 k x0 x1 0).bind (cur2 (fun a1761 a1763 => some (a1763, a1761))))
theorem laws_markInt64S.calls {k : Nat} {x0 : List Int} {x1 : Int} {p0 : Value} {w wo : World} {X : List Nat} (hwo : Olds wo w X) (hX : Hold w [own kInt 2 p0 x0] X) (hXn : X.Nodup) (hXl : ∀ b ∈ X, b < w.heap.size)  {r : Int × (List Int)} (H : laws_markInt64S.f k x0 x1 = some r) :
    Calls Tryd.prog 96 ([p0, .int .i64 x1] : List Value).toArray w (fun e w_ => ∃ v, e = .returned v ∧ v = (.int .i64 r.1) ∧ Mem w X w_ [own kInt 2 p0 r.2]) := by
  have HM := Mem.startX hX hXn hXl
  refine calls_run (N := 19) Tryd.func96 rfl rfl rfl rfl ?_
  unfold laws_markInt64S.f at H
  refine run_seq ?_
  refine run_region rfl ?_
  refine ops_ex rfl (guard_none rfl) rfl rfl (ex_assign rfl rfl) ?_
  refine ops_nil ?_
  refine at_then ?_
  obtain ⟨o1764, ho1765, H⟩ := bind_some H
  refine run_mid (fun ρ_ w_ => ∃ a1761 : List Int, ∃ a1763 : Int, (a1761, a1763) = o1764 ∧ ρ_ = [(1, .int .i64 a1763)] ∧ Mem w X w_ [own kInt 2 p0 a1761]) ?_ ?_
  · clear H
    refine run_seq ?_
    refine run_region rfl ?_
    refine ops_ex rfl (guard_none rfl) rfl rfl (ex_assign rfl rfl) ?_
    refine ops_nil ?_
    refine at_then ?_
    refine run_block ?_
    refine run_loop (fun k_ ρ_ w_ => ∃ a1768 : List Int, ∃ a1770 : Int, ∃ a1771 : Int, laws_markInt64S.l0 k_ a1768 a1770 a1771 = some o1764 ∧ ρ_ = [(0, p0), (1, .int .i64 a1770), (5, .int .i64 a1771)] ∧ Mem w X w_ [own kInt 2 p0 a1768]) k (ρ1 := [(0, p0), (1, .int .i64 x1), (5, .int .i64 0)]) ⟨_, _, _, ho1765, rfl, HM⟩ (Sub.cons rfl (Sub.cons rfl (Sub.cons rfl Sub.nil))) ?_
    clear HM ho1765
    rintro k1774 _ w1775 ⟨a1768, a1770, a1771, ho1765, rfl, HM⟩
    obtain _ | k1774 := k1774
    · exact nomatch ((laws_markInt64S.l0_z a1768 a1770 a1771).symm.trans ho1765)
    replace ho1765 := (laws_markInt64S.l0_s k1774 a1768 a1770 a1771).symm.trans ho1765
    refine run_seq ?_
    refine run_seq ?_
    refine run_region rfl ?_
    refine ops_ex rfl (guard_none rfl) rfl rfl (ex_move rfl rfl) ?_
    refine ops_ex rfl (guard_none rfl) rfl rfl (ex_move rfl rfl) ?_
    refine ops_ex rfl (guard_none rfl) rfl rfl (ex_len (d := kInt) (xs := a1768) rfl rfl Tryd.underlying38 (HM.own_rd 0 rfl)) ?_
    refine ops_ex rfl (guard_none rfl) rfl rfl (ex_lss rfl rfl rfl) ?_
    refine ops_nil ?_
    refine at_then ?_
    refine run_cond (b := (decide (a1771 < (a1768.length : Int)))) rfl (fun hb1776 => ?_) (fun hb1776 => ?_)
    · replace ho1765 := cond_t hb1776 ho1765
      refine run_skip ?_
      refine at_then ?_
      refine run_seq ?_
      refine run_block ?_
      refine run_seq ?_
      obtain ⟨e1777, ho1765⟩ := chk_some ho1765
      refine run_region rfl ?_
      refine ops_ex rfl (guard_none rfl) rfl rfl (ex_move rfl rfl) ?_
      refine ops_ex rfl (guard_none rfl) rfl rfl (ex_move rfl rfl) ?_
      refine ops_ex rfl (guard_none rfl) rfl rfl (ex_move rfl rfl) ?_
      refine ops_ex rfl (guard_none rfl) rfl rfl (ex_indexAddr (d := kInt) rfl rfl rfl Tryd.underlying38 tsz2 (HM.own_rd 0 rfl) (idx_lo e1777) (idx_hi e1777)) ?_
      refine ops_doesS rfl (guard_none rfl) rfl (does_setElem (vs := [(.int .i64 a1770)]) (y := a1770) kInt rfl rfl rfl rfl rfl tsz2 rfl rfl (idx_nat e1777) (fun _ _ h => ⟨rfl, h⟩) (HM.emp.front 1 rfl rfl)) ?_
      rintro w1778 HM
      refine ops_nil ?_
      refine at_then ?_
      refine run_region rfl ?_
      refine ops_ex rfl (guard_none rfl) rfl rfl (ex_move rfl rfl) ?_
      refine ops_ex rfl (guard_none rfl) rfl rfl (ex_add rfl rfl rfl) ?_
      refine ops_ex rfl (guard_none rfl) rfl rfl (ex_assign rfl rfl) ?_
      refine ops_nil ?_
      refine at_block ?_
      refine at_then ?_
      refine run_region rfl ?_
      refine ops_ex rfl (guard_none rfl) rfl rfl (ex_move rfl rfl) ?_
      refine ops_ex rfl (guard_none rfl) rfl rfl (ex_add rfl rfl rfl) ?_
      refine ops_ex rfl (guard_none rfl) rfl rfl (ex_assign rfl rfl) ?_
      refine ops_nil ?_
      exact at_again k1774 (ρ1 := [(0, p0), (1, .int .i64 (wrap64 (a1770 + 1))), (5, .int .i64 (wrap64 (a1771 + 1)))]) (Nat.lt_succ_self _) ⟨_, _, _, ho1765, rfl, HM⟩ (Sub.cons rfl (Sub.cons rfl (Sub.cons rfl Sub.nil)))
    · replace ho1765 := cond_f hb1776 ho1765
      refine run_exit ?_
      refine at_then_exit ?_
      refine at_then_exit ?_
      refine at_block_exit ?_
      exact at_mid (ρ' := [(1, .int .i64 a1770)]) ⟨_, _, (Option.some.inj ho1765), rfl, HM⟩ (Sub.cons rfl Sub.nil)
  · rintro _ w1779 ⟨a1761, a1763, rfl, rfl, HM⟩
    replace H := cur2_mk H
    refine run_seq ?_
    refine run_region rfl ?_
    refine ops_ex rfl (guard_none rfl) rfl rfl (ex_move rfl rfl) ?_
    refine ops_ex rfl (guard_none rfl) rfl rfl (ex_assign rfl rfl) ?_
    refine ops_nil ?_
    refine at_then ?_
    refine run_ret ?_
    have hR := Option.some.inj H
    subst hR
    exact at_ret1 rfl rfl ⟨_, rfl, rfl, HM⟩

def laws_markBlock.f (k : Nat) (x0 : Block) (x1 : Int) : Option (Int × (List Int)) := ((laws_markInt64S.f k x0.fTxs x1).bind fun t1798 => some (t1798.1, t1798.2))
theorem laws_markBlock.calls {k : Nat} {x0 : Block} {x1 : Int} {p0_0 : Value} {w wo : World} {X : List Nat} (hwo : Olds wo w X) (hX : Hold w [own kInt 2 p0_0 x0.fTxs] X) (hXn : X.Nodup) (hXl : ∀ b ∈ X, b < w.heap.size)  {r : Int × (List Int)} (H : laws_markBlock.f k x0 x1 = some r) :
    Calls Tryd.prog 51 ([.agg #[(.int .i64 x0.fPrev), (.int .i64 x0.fHeight), (.int .i64 x0.fMiner), p0_0], .int .i64 x1] : List Value).toArray w (fun e w_ => ∃ v, e = .returned v ∧ v = (.int .i64 r.1) ∧ Mem w X w_ [own kInt 2 p0_0 r.2]) := by
  have HM := Mem.startX hX hXn hXl
  refine calls_run (N := 10) Tryd.func51 rfl rfl rfl rfl ?_
  unfold laws_markBlock.f at H
  refine run_seq ?_
  refine run_region rfl ?_
  refine ops_does rfl (guard_none rfl) rfl rfl (does_box (cs := [.int .i64 x0.fPrev, .int .i64 x0.fHeight, .int .i64 x0.fMiner, p0_0]) rfl rfl rfl HM) ?_
  rintro _ w1797 ⟨b1794, rfl, HM⟩
  refine ops_ex rfl (guard_none rfl) rfl rfl (ex_assign rfl rfl) ?_
  refine ops_nil ?_
  refine at_then ?_
  refine run_seq ?_
  obtain ⟨t1798, h1799, H⟩ := bind_some H
  refine run_region rfl ?_
  refine ops_ex rfl (guard_none rfl) rfl rfl (ex_fieldAddr (off' := 3) rfl rfl Tryd.underlying48 rfl tsz38 rfl) ?_
  refine ops_ex rfl (guard_none rfl) rfl rfl (ex_load1 rfl rfl Tryd.underlying38 rfl ((HM.box_at 0 rfl) 3 _ rfl)) ?_
  refine ops_ex rfl (guard_none rfl) rfl rfl (ex_move rfl rfl) ?_
  replace HM := HM.front 1 rfl rfl
  obtain ⟨F1800, hF1801, hFn1802, hFl1803, HMh1804, hcl1805⟩ := HM.hide (Ms := [own kInt 2 p0_0 x0.fTxs])
  refine ops_does rfl (guard_none rfl) rfl rfl (does_callk rfl callok96 rfl (laws_markInt64S.calls (x0 := x0.fTxs) (x1 := x1) (hide_olds _ _) hF1801 hFn1802 hFl1803 h1799)) ?_
  rintro _ w1806 ⟨rfl, hn⟩
  replace HM : Mem w X w1806 [own kInt 2 p0_0 t1798.2, box b1794 48 [.int .i64 x0.fPrev, .int .i64 x0.fHeight, .int .i64 x0.fMiner, p0_0]] := hcl1805 _ _ hn
  refine ops_ex rfl (guard_none rfl) rfl rfl (ex_assign rfl rfl) ?_
  refine ops_nil ?_
  refine at_then ?_
  refine run_seq ?_
  refine run_region rfl ?_
  refine ops_ex rfl (guard_none rfl) rfl rfl (ex_move rfl rfl) ?_
  refine ops_ex rfl (guard_none rfl) rfl rfl (ex_assign rfl rfl) ?_
  refine ops_nil ?_
  refine at_then ?_
  refine run_ret ?_
  replace HM := (HM.front 1 rfl rfl).drop
  have hR := Option.some.inj H
  subst hR
  exact at_ret1 rfl rfl ⟨_, rfl, rfl, HM⟩

def laws_markBlockResult.f (k : Nat) (x0 : BlockResult) (x1 : Int) : Option (Int × (List Int)) := ((laws_markBlock.f k x0.fBlock x1).bind fun t1825 => some (t1825.1, t1825.2))
theorem laws_markBlockResult.calls {k : Nat} {x0 : BlockResult} {x1 : Int} {p0_0 : Value} {w wo : World} {X : List Nat} (hwo : Olds wo w X) (hX : Hold w [own kInt 2 p0_0 x0.fBlock.fTxs] X) (hXn : X.Nodup) (hXl : ∀ b ∈ X, b < w.heap.size)  {r : Int × (List Int)} (H : laws_markBlockResult.f k x0 x1 = some r) :
    Calls Tryd.prog 21 ([.agg #[(.int .i64 x0.fCode), (.int .i64 x0.fBlock.fPrev), (.int .i64 x0.fBlock.fHeight), (.int .i64 x0.fBlock.fMiner), p0_0], .int .i64 x1] : List Value).toArray w (fun e w_ => ∃ v, e = .returned v ∧ v = (.int .i64 r.1) ∧ Mem w X w_ [own kInt 2 p0_0 r.2]) := by
  have HM := Mem.startX hX hXn hXl
  refine calls_run (N := 10) Tryd.func21 rfl rfl rfl rfl ?_
  unfold laws_markBlockResult.f at H
  refine run_seq ?_
  refine run_region rfl ?_
  refine ops_does rfl (guard_none rfl) rfl rfl (does_box (cs := [.int .i64 x0.fCode, .int .i64 x0.fBlock.fPrev, .int .i64 x0.fBlock.fHeight, .int .i64 x0.fBlock.fMiner, p0_0]) rfl rfl rfl HM) ?_
  rintro _ w1824 ⟨b1821, rfl, HM⟩
  refine ops_ex rfl (guard_none rfl) rfl rfl (ex_assign rfl rfl) ?_
  refine ops_nil ?_
  refine at_then ?_
  refine run_seq ?_
  obtain ⟨t1825, h1826, H⟩ := bind_some H
  refine run_region rfl ?_
  refine ops_ex rfl (guard_none rfl) rfl rfl (ex_fieldAddr (off' := 1) rfl rfl Tryd.underlying50 rfl tsz48 rfl) ?_
  refine ops_ex rfl (guard_none rfl) rfl rfl (ex_loadN (cs := [(.int .i64 x0.fBlock.fPrev), (.int .i64 x0.fBlock.fHeight), (.int .i64 x0.fBlock.fMiner), p0_0]) rfl rfl Tryd.underlying48 rfl tsz48 rfl ((HM.box_at 0 rfl).sub 1 4 rfl)) ?_
  refine ops_ex rfl (guard_none rfl) rfl rfl (ex_move rfl rfl) ?_
  replace HM := HM.front 1 rfl rfl
  obtain ⟨F1827, hF1828, hFn1829, hFl1830, HMh1831, hcl1832⟩ := HM.hide (Ms := [own kInt 2 p0_0 x0.fBlock.fTxs])
  refine ops_does rfl (guard_none rfl) rfl rfl (does_callk rfl callok51 rfl (laws_markBlock.calls (x0 := x0.fBlock) (x1 := x1) (hide_olds _ _) hF1828 hFn1829 hFl1830 h1826)) ?_
  rintro _ w1833 ⟨rfl, hn⟩
  replace HM : Mem w X w1833 [own kInt 2 p0_0 t1825.2, box b1821 50 [.int .i64 x0.fCode, .int .i64 x0.fBlock.fPrev, .int .i64 x0.fBlock.fHeight, .int .i64 x0.fBlock.fMiner, p0_0]] := hcl1832 _ _ hn
  refine ops_ex rfl (guard_none rfl) rfl rfl (ex_assign rfl rfl) ?_
  refine ops_nil ?_
  refine at_then ?_
  refine run_seq ?_
  refine run_region rfl ?_
  refine ops_ex rfl (guard_none rfl) rfl rfl (ex_move rfl rfl) ?_
  refine ops_ex rfl (guard_none rfl) rfl rfl (ex_assign rfl rfl) ?_
  refine ops_nil ?_
  refine at_then ?_
  refine run_ret ?_
  replace HM := (HM.front 1 rfl rfl).drop
  have hR := Option.some.inj H
  subst hR
  exact at_ret1 rfl rfl ⟨_, rfl, rfl, HM⟩

def laws_heldInt64S.l0 (x0 : List Int) : Nat → Int → Int → Option (Int ⊕ Int)
  | 0, _, _ => none
  | k + 1, a1886, a1887 => (bif (decide (a1887 < (x0.length : Int))) then (chk (idxOk a1887 x0.length) (bif ((gt x0 a1887) != a1886) then some (.inl (-1)) else laws_heldInt64S.l0 x0 k (wrap64 (a1886 + 1)) (wrap64 (a1887 + 1)))) else some (.inr a1886))
theorem laws_heldInt64S.l0_z (x0 : List Int) (a1886 : Int) (a1887 : Int) : laws_heldInt64S.l0 x0 0 a1886 a1887 = none := rfl
theorem laws_heldInt64S.l0_s (x0 : List Int) (k : Nat) (a1886 : Int) (a1887 : Int) : laws_heldInt64S.l0 x0 (k + 1) a1886 a1887 = (bif (decide (a1887 < (x0.length : Int))) then (chk (idxOk a1887 x0.length) (bif ((gt x0 a1887) != a1886) then some (.inl (-1)) else laws_heldInt64S.l0 x0 k (wrap64 (a1886 + 1)) (wrap64 (a1887 + 1)))) else some (.inr a1886)) := rfl
def laws_heldInt64S.f (k : Nat) (x0 : List Int) (x1 : Int) : Option Int := ((laws_heldInt64S.l0 x0 k x1 0).bind fun o1880 => thn o1880 (fun r => some r) (fun a1879 => some a1879))
theorem laws_heldInt64S.calls {k : Nat} {x0 : List Int} {x1 : Int} {p0 : Value} {w : World} (hp0 : RdS kInt w p0 x0) {r : Int} (H : laws_heldInt64S.f k x0 x1 = some r) :
    Calls Tryd.prog 97 ([p0, .int .i64 x1] : List Value).toArray w (fun e w_ => ∃ v, e = .returned v ∧ v = (.int .i64 r) ∧ Mem w [] w_ []) := by
  have HM := Mem.start w
  refine calls_run (N := 21) Tryd.func97 rfl rfl rfl rfl ?_
  unfold laws_heldInt64S.f at H
  refine run_seq ?_
  refine run_region rfl ?_
  refine ops_ex rfl (guard_none rfl) rfl rfl (ex_assign rfl rfl) ?_
  refine ops_nil ?_
  refine at_then ?_
  obtain ⟨o1880, ho1881, H⟩ := bind_some H
  refine run_mid (fun ρ_ w_ => ∃ a1879 : Int, Sum.inr a1879 = o1880 ∧ ρ_ = [(1, .int .i64 a1879)] ∧ Mem w [] w_ []) ?_ ?_
  · skip
    refine run_seq ?_
    refine run_region rfl ?_
    refine ops_ex rfl (guard_none rfl) rfl rfl (ex_assign rfl rfl) ?_
    refine ops_nil ?_
    refine at_then ?_
    refine run_block ?_
    refine run_loop (fun k_ ρ_ w_ => ∃ a1886 : Int, ∃ a1887 : Int, laws_heldInt64S.l0 x0 k_ a1886 a1887 = some o1880 ∧ ρ_ = [(0, p0), (1, .int .i64 a1886), (5, .int .i64 a1887)] ∧ Mem w [] w_ []) k (ρ1 := [(0, p0), (1, .int .i64 x1), (5, .int .i64 0)]) ⟨_, _, ho1881, rfl, HM⟩ (Sub.cons rfl (Sub.cons rfl (Sub.cons rfl Sub.nil))) ?_
    clear HM ho1881
    rintro k1892 _ w1893 ⟨a1886, a1887, ho1881, rfl, HM⟩
    obtain _ | k1892 := k1892
    · exact nomatch ((laws_heldInt64S.l0_z x0 a1886 a1887).symm.trans ho1881)
    replace ho1881 := (laws_heldInt64S.l0_s x0 k1892 a1886 a1887).symm.trans ho1881
    refine run_seq ?_
    refine run_seq ?_
    refine run_region rfl ?_
    refine ops_ex rfl (guard_none rfl) rfl rfl (ex_move rfl rfl) ?_
    refine ops_ex rfl (guard_none rfl) rfl rfl (ex_move rfl rfl) ?_
    refine ops_ex rfl (guard_none rfl) rfl rfl (ex_len (d := kInt) (xs := x0) rfl rfl Tryd.underlying38 hp0) ?_
    refine ops_ex rfl (guard_none rfl) rfl rfl (ex_lss rfl rfl rfl) ?_
    refine ops_nil ?_
    refine at_then ?_
    refine run_cond (b := (decide (a1887 < (x0.length : Int)))) rfl (fun hb1894 => ?_) (fun hb1894 => ?_)
    · replace ho1881 := cond_t hb1894 ho1881
      refine run_skip ?_
      refine at_then ?_
      refine run_seq ?_
      refine run_block ?_
      refine run_seq ?_
      refine run_seq ?_
      obtain ⟨e1895, ho1881⟩ := chk_some ho1881
      refine run_region rfl ?_
      refine ops_ex rfl (guard_none rfl) rfl rfl (ex_move rfl rfl) ?_
      refine ops_ex rfl (guard_none rfl) rfl rfl (ex_move rfl rfl) ?_
      have hc1896 : CellsAt _ (sb p0) (so p0 + (a1887).toNat * 1) [(.int .i64 (gt x0 a1887))] := rd_plain hp0 e1895
      refine ops_ex rfl (guard_none rfl) rfl rfl (ex_indexAddr (d := kInt) rfl rfl rfl Tryd.underlying38 tsz2 hp0 (idx_lo e1895) (idx_hi e1895)) ?_
      refine ops_ex rfl (guard_none rfl) rfl rfl (ex_load1 rfl rfl Tryd.underlying2 rfl ((HM.at_ hc1896) 0 _ rfl)) ?_
      refine ops_ex rfl (guard_none rfl) rfl rfl (ex_move rfl rfl) ?_
      refine ops_ex rfl (guard_none rfl) rfl rfl (ex_neq rfl rfl rfl) ?_
      refine ops_nil ?_
      refine at_then ?_
      refine run_cond (b := ((gt x0 a1887) != a1886)) rfl (fun hb1897 => ?_) (fun hb1897 => ?_)
      · replace ho1881 := cond_t hb1897 ho1881
        refine run_seq ?_
        refine run_region rfl ?_
        refine ops_ex rfl (guard_none rfl) rfl rfl (ex_assign rfl rfl) ?_
        refine ops_nil ?_
        refine at_then ?_
        refine run_ret ?_
        refine at_then_ret ?_
        refine at_block_ret ?_
        refine at_then_ret ?_
        refine at_then_ret ?_
        refine at_block_ret ?_
        refine at_then_ret ?_
        have hR := Option.some.inj ho1881
        subst hR
        have hT := thn_inl H
        have hR := Option.some.inj hT
        subst hR
        exact at_ret1 rfl rfl ⟨_, rfl, rfl, HM⟩
      · replace ho1881 := cond_f hb1897 ho1881
        refine run_skip ?_
        refine at_then ?_
        refine run_region rfl ?_
        refine ops_ex rfl (guard_none rfl) rfl rfl (ex_move rfl rfl) ?_
        refine ops_ex rfl (guard_none rfl) rfl rfl (ex_add rfl rfl rfl) ?_
        refine ops_ex rfl (guard_none rfl) rfl rfl (ex_assign rfl rfl) ?_
        refine ops_nil ?_
        refine at_block ?_
        refine at_then ?_
        refine run_region rfl ?_
        refine ops_ex rfl (guard_none rfl) rfl rfl (ex_move rfl rfl) ?_
        refine ops_ex rfl (guard_none rfl) rfl rfl (ex_add rfl rfl rfl) ?_
        refine ops_ex rfl (guard_none rfl) rfl rfl (ex_assign rfl rfl) ?_
        refine ops_nil ?_
        exact at_again k1892 (ρ1 := [(0, p0), (1, .int .i64 (wrap64 (a1886 + 1))), (5, .int .i64 (wrap64 (a1887 + 1)))]) (Nat.lt_succ_self _) ⟨_, _, ho1881, rfl, HM⟩ (Sub.cons rfl (Sub.cons rfl (Sub.cons rfl Sub.nil)))
    · replace ho1881 := cond_f hb1894 ho1881
      refine run_exit ?_
      refine at_then_exit ?_
      refine at_then_exit ?_
      refine at_block_exit ?_
      exact at_mid (ρ' := [(1, .int .i64 a1886)]) ⟨_, (Option.some.inj ho1881), rfl, HM⟩ (Sub.cons rfl Sub.nil)
  · rintro _ w1898 ⟨a1879, rfl, rfl, HM⟩
    replace H := (thn_inr H)
    refine run_seq ?_
    refine run_region rfl ?_
    refine ops_ex rfl (guard_none rfl) rfl rfl (ex_move rfl rfl) ?_
    refine ops_ex rfl (guard_none rfl) rfl rfl (ex_assign rfl rfl) ?_
    refine ops_nil ?_
    refine at_then ?_
    refine run_ret ?_
    have hR := Option.some.inj H
    subst hR
    exact at_ret1 rfl rfl ⟨_, rfl, rfl, HM⟩

def laws_heldBlock.f (k : Nat) (x0 : Block) (x1 : Int) : Option Int := ((laws_heldInt64S.f k x0.fTxs x1).bind fun t1906 => (bif (decide (t1906 < 0)) then some (-1) else some t1906))
theorem laws_heldBlock.calls {k : Nat} {x0 : Block} {x1 : Int} {p0_0 : Value} {w : World} (hp0_0 : RdS kInt w p0_0 x0.fTxs) {r : Int} (H : laws_heldBlock.f k x0 x1 = some r) :
    Calls Tryd.prog 52 ([.agg #[(.int .i64 x0.fPrev), (.int .i64 x0.fHeight), (.int .i64 x0.fMiner), p0_0], .int .i64 x1] : List Value).toArray w (fun e w_ => ∃ v, e = .returned v ∧ v = (.int .i64 r) ∧ Mem w [] w_ []) := by
  have HM := Mem.start w
  refine calls_run (N := 12) Tryd.func52 rfl rfl rfl rfl ?_
  unfold laws_heldBlock.f at H
  refine run_seq ?_
  refine run_region rfl ?_
  refine ops_does rfl (guard_none rfl) rfl rfl (does_box (cs := [.int .i64 x0.fPrev, .int .i64 x0.fHeight, .int .i64 x0.fMiner, p0_0]) rfl rfl rfl HM) ?_
  rintro _ w1905 ⟨b1902, rfl, HM⟩
  refine ops_ex rfl (guard_none rfl) rfl rfl (ex_assign rfl rfl) ?_
  refine ops_nil ?_
  refine at_then ?_
  refine run_seq ?_
  obtain ⟨t1906, h1907, H⟩ := bind_some H
  refine run_region rfl ?_
  refine ops_ex rfl (guard_none rfl) rfl rfl (ex_fieldAddr (off' := 3) rfl rfl Tryd.underlying48 rfl tsz38 rfl) ?_
  refine ops_ex rfl (guard_none rfl) rfl rfl (ex_load1 rfl rfl Tryd.underlying38 rfl ((HM.box_at 0 rfl) 3 _ rfl)) ?_
  refine ops_ex rfl (guard_none rfl) rfl rfl (ex_move rfl rfl) ?_
  refine ops_does rfl (guard_none rfl) rfl rfl (does_callk rfl callok97 rfl (laws_heldInt64S.calls (x0 := x0.fTxs) (x1 := x1) (HM.rd hp0_0) h1907)) ?_
  rintro _ w1908 ⟨rfl, hn⟩
  replace HM : Mem w [] w1908 [box b1902 48 [.int .i64 x0.fPrev, .int .i64 x0.fHeight, .int .i64 x0.fMiner, p0_0]] := HM.call hn
  refine ops_ex rfl (guard_none rfl) rfl rfl (ex_assign rfl rfl) ?_
  refine ops_nil ?_
  refine at_then ?_
  refine run_seq ?_
  refine run_seq ?_
  refine run_region rfl ?_
  refine ops_ex rfl (guard_none rfl) rfl rfl (ex_move rfl rfl) ?_
  refine ops_ex rfl (guard_none rfl) rfl rfl (ex_lss rfl rfl rfl) ?_
  refine ops_nil ?_
  refine at_then ?_
  refine run_cond (b := (decide (t1906 < 0))) rfl (fun hb1909 => ?_) (fun hb1909 => ?_)
  · replace H := cond_t hb1909 H
    refine run_seq ?_
    refine run_region rfl ?_
    refine ops_ex rfl (guard_none rfl) rfl rfl (ex_assign rfl rfl) ?_
    refine ops_nil ?_
    refine at_then ?_
    refine run_ret ?_
    refine at_then_ret ?_
    replace HM := (HM.front 0 rfl rfl).drop
    have hR := Option.some.inj H
    subst hR
    exact at_ret1 rfl rfl ⟨_, rfl, rfl, HM⟩
  · replace H := cond_f hb1909 H
    refine run_skip ?_
    refine at_then ?_
    refine run_seq ?_
    refine run_region rfl ?_
    refine ops_ex rfl (guard_none rfl) rfl rfl (ex_move rfl rfl) ?_
    refine ops_ex rfl (guard_none rfl) rfl rfl (ex_assign rfl rfl) ?_
    refine ops_nil ?_
    refine at_then ?_
    refine run_ret ?_
    replace HM := (HM.front 0 rfl rfl).drop
    have hR := Option.some.inj H
    subst hR
    exact at_ret1 rfl rfl ⟨_, rfl, rfl, HM⟩

def laws_heldBlockResult.f (k : Nat) (x0 : BlockResult) (x1 : Int) : Option Int := ((laws_heldBlock.f k x0.fBlock x1).bind fun t1917 => (bif (decide (t1917 < 0)) then some (-1) else some t1917))
theorem laws_heldBlockResult.calls {k : Nat} {x0 : BlockResult} {x1 : Int} {p0_0 : Value} {w : World} (hp0_0 : RdS kInt w p0_0 x0.fBlock.fTxs) {r : Int} (H : laws_heldBlockResult.f k x0 x1 = some r) :
    Calls Tryd.prog 22 ([.agg #[(.int .i64 x0.fCode), (.int .i64 x0.fBlock.fPrev), (.int .i64 x0.fBlock.fHeight), (.int .i64 x0.fBlock.fMiner), p0_0], .int .i64 x1] : List Value).toArray w (fun e w_ => ∃ v, e = .returned v ∧ v = (.int .i64 r) ∧ Mem w [] w_ []) := by
  have HM := Mem.start w
  refine calls_run (N := 12) Tryd.func22 rfl rfl rfl rfl ?_
  unfold laws_heldBlockResult.f at H
  refine run_seq ?_
  refine run_region rfl ?_
  refine ops_does rfl (guard_none rfl) rfl rfl (does_box (cs := [.int .i64 x0.fCode, .int .i64 x0.fBlock.fPrev, .int .i64 x0.fBlock.fHeight, .int .i64 x0.fBlock.fMiner, p0_0]) rfl rfl rfl HM) ?_
  rintro _ w1916 ⟨b1913, rfl, HM⟩
  refine ops_ex rfl (guard_none rfl) rfl rfl (ex_assign rfl rfl) ?_
  refine ops_nil ?_
  refine at_then ?_
  refine run_seq ?_
  obtain ⟨t1917, h1918, H⟩ := bind_some H
  refine run_region rfl ?_
  refine ops_ex rfl (guard_none rfl) rfl rfl (ex_fieldAddr (off' := 1) rfl rfl Tryd.underlying50 rfl tsz48 rfl) ?_
  refine ops_ex rfl (guard_none rfl) rfl rfl (ex_loadN (cs := [(.int .i64 x0.fBlock.fPrev), (.int .i64 x0.fBlock.fHeight), (.int .i64 x0.fBlock.fMiner), p0_0]) rfl rfl Tryd.underlying48 rfl tsz48 rfl ((HM.box_at 0 rfl).sub 1 4 rfl)) ?_
  refine ops_ex rfl (guard_none rfl) rfl rfl (ex_move rfl rfl) ?_
  refine ops_does rfl (guard_none rfl) rfl rfl (does_callk rfl callok52 rfl (laws_heldBlock.calls (x0 := x0.fBlock) (x1 := x1) (HM.rd hp0_0) h1918)) ?_
  rintro _ w1919 ⟨rfl, hn⟩
  replace HM : Mem w [] w1919 [box b1913 50 [.int .i64 x0.fCode, .int .i64 x0.fBlock.fPrev, .int .i64 x0.fBlock.fHeight, .int .i64 x0.fBlock.fMiner, p0_0]] := HM.call hn
  refine ops_ex rfl (guard_none rfl) rfl rfl (ex_assign rfl rfl) ?_
  refine ops_nil ?_
  refine at_then ?_
  refine run_seq ?_
  refine run_seq ?_
  refine run_region rfl ?_
  refine ops_ex rfl (guard_none rfl) rfl rfl (ex_move rfl rfl) ?_
  refine ops_ex rfl (guard_none rfl) rfl rfl (ex_lss rfl rfl rfl) ?_
  refine ops_nil ?_
  refine at_then ?_
  refine run_cond (b := (decide (t1917 < 0))) rfl (fun hb1920 => ?_) (fun hb1920 => ?_)
  · replace H := cond_t hb1920 H
    refine run_seq ?_
    refine run_region rfl ?_
    refine ops_ex rfl (guard_none rfl) rfl rfl (ex_assign rfl rfl) ?_
    refine ops_nil ?_
    refine at_then ?_
    refine run_ret ?_
    refine at_then_ret ?_
    replace HM := (HM.front 0 rfl rfl).drop
    have hR := Option.some.inj H
    subst hR
    exact at_ret1 rfl rfl ⟨_, rfl, rfl, HM⟩
  · replace H := cond_f hb1920 H
    refine run_skip ?_
    refine at_then ?_
    refine run_seq ?_
    refine run_region rfl ?_
    refine ops_ex rfl (guard_none rfl) rfl rfl (ex_move rfl rfl) ?_
    refine ops_ex rfl (guard_none rfl) rfl rfl (ex_assign rfl rfl) ?_
    refine ops_nil ?_
    refine at_then ?_
    refine run_ret ?_
    replace HM := (HM.front 0 rfl rfl).drop
    have hR := Option.some.inj H
    subst hR
    exact at_ret1 rfl rfl ⟨_, rfl, rfl, HM⟩

def laws_FnExactParseBlock.f (k : Nat) (x0 : ByteArray) : Option Bool := (bif (decide (1048576 < (x0.size : Int))) then some true else ((spec_ParseBlock.f k x0).bind fun t1947 => ((impl_ParseBlock.f k x0).bind fun t1957 => ((laws_eqBlockResult.f k t1957 t1947).bind fun t1970 => (bif !t1970 then some false else ((laws_markBlockResult.f k t1957 1).bind fun t1974 => ((laws_heldBlockResult.f k (⟨t1957.fCode, (⟨t1957.fBlock.fPrev, t1957.fBlock.fHeight, t1957.fBlock.fMiner, t1974.2⟩ : Block)⟩ : BlockResult) 1).bind fun t1983 => (bif (decide (t1983 < 0)) then some false else (bif (t1983 != t1974.1) then some false else ((impl_ParseBlock.f k x0).bind fun t1990 => ((laws_eqBlockResult.f k t1990 t1947).bind fun t2003 => (bif !t2003 then some false else ((laws_heldBlockResult.f k (⟨t1957.fCode, (⟨t1957.fBlock.fPrev, t1957.fBlock.fHeight, t1957.fBlock.fMiner, t1974.2⟩ : Block)⟩ : BlockResult) 1).bind fun t2007 => (bif (decide (t2007 < 0)) then some false else (bif (t2007 != t1974.1) then some false else some true)))))))))))))))
theorem laws_FnExactParseBlock.calls {k : Nat} {x0 : ByteArray}  {w : World} (htab : TabP w)  {r : Bool} (H : laws_FnExactParseBlock.f k x0 = some r) :
    Calls Tryd.prog 5 ([.string x0] : List Value).toArray w (fun e w_ => ∃ v, e = .returned v ∧ v = (.bool r) ∧ Mem w [] w_ []) := by
  have HM := Mem.start w
  refine calls_run (N := 44) Tryd.func5 rfl rfl rfl rfl ?_
  unfold laws_FnExactParseBlock.f at H
  refine run_seq ?_
  refine run_region rfl ?_
  refine ops_ex rfl (guard_none rfl) rfl rfl (ex_assign rfl rfl) ?_
  refine ops_nil ?_
  refine at_then ?_
  refine run_seq ?_
  refine run_seq ?_
  refine run_region rfl ?_
  refine ops_ex rfl (guard_none rfl) rfl rfl (ex_move rfl rfl) ?_
  refine ops_ex rfl (guard_none rfl) rfl rfl (ex_strlen rfl rfl Tryd.underlying9) ?_
  refine ops_ex rfl (guard_none rfl) rfl rfl (ex_gtr rfl rfl rfl) ?_
  refine ops_nil ?_
  refine at_then ?_
  refine run_cond (b := (decide (1048576 < (x0.size : Int)))) rfl (fun hb1946 => ?_) (fun hb1946 => ?_)
  · replace H := cond_t hb1946 H
    refine run_seq ?_
    refine run_region rfl ?_
    refine ops_ex rfl (guard_none rfl) rfl rfl (ex_assign rfl rfl) ?_
    refine ops_nil ?_
    refine at_then ?_
    refine run_ret ?_
    refine at_then_ret ?_
    have hR := Option.some.inj H
    subst hR
    exact at_ret1 rfl rfl ⟨_, rfl, rfl, HM⟩
  · replace H := cond_f hb1946 H
    refine run_skip ?_
    refine at_then ?_
    refine run_seq ?_
    obtain ⟨t1947, h1948, H⟩ := bind_some H
    refine run_region rfl ?_
    refine ops_ex rfl (guard_none rfl) rfl rfl (ex_move rfl rfl) ?_
    refine ops_does rfl (guard_none rfl) rfl rfl (does_callk rfl callok18 rfl (spec_ParseBlock.calls (x0 := x0) h1948)) ?_
    rintro _ w1954 ⟨u1949, rfl, hn⟩
    replace HM : Mem w [] w1954 [own kInt 2 u1949 t1947.fBlock.fTxs] := HM.call hn
    refine ops_does rfl (guard_none rfl) rfl rfl (does_alloc (cs := [.int .i64 0, .int .i64 0, .int .i64 0, .int .i64 0, .slice none 0 0]) rfl tz50 rfl HM) ?_
    rintro _ w1955 ⟨b1951, rfl, HM⟩
    refine ops_doesS rfl (guard_none rfl) rfl (does_store (vs := [.int .i64 t1947.fCode, .int .i64 t1947.fBlock.fPrev, .int .i64 t1947.fBlock.fHeight, .int .i64 t1947.fBlock.fMiner, u1949]) (cs' := [.int .i64 t1947.fCode, .int .i64 t1947.fBlock.fPrev, .int .i64 t1947.fBlock.fHeight, .int .i64 t1947.fBlock.fMiner, u1949]) rfl rfl rfl rfl tsz50 (Ones.int (Ones.int (Ones.int (Ones.int (Ones.rd (HM.own_rd 1 rfl) Ones.nil))))) rfl rfl HM) ?_
    rintro w1956 HM
    refine ops_nil ?_
    refine at_then ?_
    refine run_seq ?_
    obtain ⟨t1957, h1958, H⟩ := bind_some H
    refine run_region rfl ?_
    refine ops_ex rfl (guard_none rfl) rfl rfl (ex_move rfl rfl) ?_
    refine ops_does rfl (guard_none rfl) rfl rfl (does_callk rfl callok19 rfl (impl_ParseBlock.calls (x0 := x0) (HM.tabP htab) h1958)) ?_
    rintro _ w1964 ⟨u1959, rfl, hn⟩
    replace HM : Mem w [] w1964 [own kInt 2 u1959 t1957.fBlock.fTxs, box b1951 50 [.int .i64 t1947.fCode, .int .i64 t1947.fBlock.fPrev, .int .i64 t1947.fBlock.fHeight, .int .i64 t1947.fBlock.fMiner, u1949], own kInt 2 u1949 t1947.fBlock.fTxs] := HM.call hn
    refine ops_does rfl (guard_none rfl) rfl rfl (does_alloc (cs := [.int .i64 0, .int .i64 0, .int .i64 0, .int .i64 0, .slice none 0 0]) rfl tz50 rfl HM) ?_
    rintro _ w1965 ⟨b1961, rfl, HM⟩
    refine ops_doesS rfl (guard_none rfl) rfl (does_store (vs := [.int .i64 t1957.fCode, .int .i64 t1957.fBlock.fPrev, .int .i64 t1957.fBlock.fHeight, .int .i64 t1957.fBlock.fMiner, u1959]) (cs' := [.int .i64 t1957.fCode, .int .i64 t1957.fBlock.fPrev, .int .i64 t1957.fBlock.fHeight, .int .i64 t1957.fBlock.fMiner, u1959]) rfl rfl rfl rfl tsz50 (Ones.int (Ones.int (Ones.int (Ones.int (Ones.rd (HM.own_rd 1 rfl) Ones.nil))))) rfl rfl HM) ?_
    rintro w1966 HM
    refine ops_nil ?_
    refine at_then ?_
    refine run_seq ?_
    refine run_seq ?_
    obtain ⟨t1970, h1971, H⟩ := bind_some H
    refine run_region rfl ?_
    refine ops_ex rfl (guard_none rfl) rfl rfl (ex_loadN (cs := [(.int .i64 t1957.fCode), (.int .i64 t1957.fBlock.fPrev), (.int .i64 t1957.fBlock.fHeight), (.int .i64 t1957.fBlock.fMiner), u1959]) rfl rfl Tryd.underlying50 rfl tsz50 rfl ((HM.box_at 0 rfl).sub 0 5 rfl)) ?_
    refine ops_ex rfl (guard_none rfl) rfl rfl (ex_loadN (cs := [(.int .i64 t1947.fCode), (.int .i64 t1947.fBlock.fPrev), (.int .i64 t1947.fBlock.fHeight), (.int .i64 t1947.fBlock.fMiner), u1949]) rfl rfl Tryd.underlying50 rfl tsz50 rfl ((HM.box_at 2 rfl).sub 0 5 rfl)) ?_
    refine ops_does rfl (guard_none rfl) rfl rfl (does_callk rfl callok20 rfl (laws_eqBlockResult.calls (x0 := t1957) (x1 := t1947) (HM.own_rd 1 rfl) (HM.own_rd 3 rfl) h1971)) ?_
    rintro _ w1972 ⟨rfl, hn⟩
    replace HM : Mem w [] w1972 [box b1961 50 [.int .i64 t1957.fCode, .int .i64 t1957.fBlock.fPrev, .int .i64 t1957.fBlock.fHeight, .int .i64 t1957.fBlock.fMiner, u1959], own kInt 2 u1959 t1957.fBlock.fTxs, box b1951 50 [.int .i64 t1947.fCode, .int .i64 t1947.fBlock.fPrev, .int .i64 t1947.fBlock.fHeight, .int .i64 t1947.fBlock.fMiner, u1949], own kInt 2 u1949 t1947.fBlock.fTxs] := HM.call hn
    refine ops_ex rfl (guard_none rfl) rfl rfl (ex_not rfl rfl) ?_
    refine ops_nil ?_
    refine at_then ?_
    refine run_cond (b := !t1970) rfl (fun hb1973 => ?_) (fun hb1973 => ?_)
    · replace H := cond_t hb1973 H
      refine run_seq ?_
      refine run_region rfl ?_
      refine ops_ex rfl (guard_none rfl) rfl rfl (ex_assign rfl rfl) ?_
      refine ops_nil ?_
      refine at_then ?_
      refine run_ret ?_
      refine at_then_ret ?_
      replace HM := (HM.front 0 rfl rfl).drop
      replace HM := (HM.front 0 rfl rfl).drop
      replace HM := (HM.front 0 rfl rfl).drop
      replace HM := (HM.front 0 rfl rfl).drop
      have hR := Option.some.inj H
      subst hR
      exact at_ret1 rfl rfl ⟨_, rfl, rfl, HM⟩
    · replace H := cond_f hb1973 H
      refine run_skip ?_
      refine at_then ?_
      refine run_seq ?_
      refine run_region rfl ?_
      refine ops_ex rfl (guard_none rfl) rfl rfl (ex_assign rfl rfl) ?_
      refine ops_nil ?_
      refine at_then ?_
      refine run_seq ?_
      obtain ⟨t1974, h1975, H⟩ := bind_some H
      refine run_region rfl ?_
      refine ops_ex rfl (guard_none rfl) rfl rfl (ex_loadN (cs := [(.int .i64 t1957.fCode), (.int .i64 t1957.fBlock.fPrev), (.int .i64 t1957.fBlock.fHeight), (.int .i64 t1957.fBlock.fMiner), u1959]) rfl rfl Tryd.underlying50 rfl tsz50 rfl ((HM.box_at 0 rfl).sub 0 5 rfl)) ?_
      refine ops_ex rfl (guard_none rfl) rfl rfl (ex_move rfl rfl) ?_
      replace HM := HM.front 1 rfl rfl
      obtain ⟨F1976, hF1977, hFn1978, hFl1979, HMh1980, hcl1981⟩ := HM.hide (Ms := [own kInt 2 u1959 t1957.fBlock.fTxs])
      refine ops_does rfl (guard_none rfl) rfl rfl (does_callk rfl callok21 rfl (laws_markBlockResult.calls (x0 := t1957) (x1 := 1) (hide_olds _ _) hF1977 hFn1978 hFl1979 h1975)) ?_
      rintro _ w1982 ⟨rfl, hn⟩
      replace HM : Mem w [] w1982 [own kInt 2 u1959 t1974.2, box b1961 50 [.int .i64 t1957.fCode, .int .i64 t1957.fBlock.fPrev, .int .i64 t1957.fBlock.fHeight, .int .i64 t1957.fBlock.fMiner, u1959], box b1951 50 [.int .i64 t1947.fCode, .int .i64 t1947.fBlock.fPrev, .int .i64 t1947.fBlock.fHeight, .int .i64 t1947.fBlock.fMiner, u1949], own kInt 2 u1949 t1947.fBlock.fTxs] := hcl1981 _ _ hn
      refine ops_ex rfl (guard_none rfl) rfl rfl (ex_assign rfl rfl) ?_
      refine ops_nil ?_
      refine at_then ?_
      refine run_seq ?_
      refine run_region rfl ?_
      refine ops_ex rfl (guard_none rfl) rfl rfl (ex_assign rfl rfl) ?_
      refine ops_nil ?_
      refine at_then ?_
      refine run_seq ?_
      obtain ⟨t1983, h1984, H⟩ := bind_some H
      refine run_region rfl ?_
      refine ops_ex rfl (guard_none rfl) rfl rfl (ex_loadN (cs := [(.int .i64 t1957.fCode), (.int .i64 t1957.fBlock.fPrev), (.int .i64 t1957.fBlock.fHeight), (.int .i64 t1957.fBlock.fMiner), u1959]) rfl rfl Tryd.underlying50 rfl tsz50 rfl ((HM.box_at 1 rfl).sub 0 5 rfl)) ?_
      refine ops_ex rfl (guard_none rfl) rfl rfl (ex_move rfl rfl) ?_
      refine ops_does rfl (guard_none rfl) rfl rfl (does_callk rfl callok22 rfl (laws_heldBlockResult.calls (x0 := (⟨t1957.fCode, (⟨t1957.fBlock.fPrev, t1957.fBlock.fHeight, t1957.fBlock.fMiner, t1974.2⟩ : Block)⟩ : BlockResult)) (x1 := 1) (HM.own_rd 0 rfl) h1984)) ?_
      rintro _ w1985 ⟨rfl, hn⟩
      replace HM : Mem w [] w1985 [own kInt 2 u1959 t1974.2, box b1961 50 [.int .i64 t1957.fCode, .int .i64 t1957.fBlock.fPrev, .int .i64 t1957.fBlock.fHeight, .int .i64 t1957.fBlock.fMiner, u1959], box b1951 50 [.int .i64 t1947.fCode, .int .i64 t1947.fBlock.fPrev, .int .i64 t1947.fBlock.fHeight, .int .i64 t1947.fBlock.fMiner, u1949], own kInt 2 u1949 t1947.fBlock.fTxs] := HM.call hn
      refine ops_ex rfl (guard_none rfl) rfl rfl (ex_assign rfl rfl) ?_
      refine ops_nil ?_
      refine at_then ?_
      refine run_seq ?_
      refine run_seq ?_
      refine run_region rfl ?_
      refine ops_ex rfl (guard_none rfl) rfl rfl (ex_move rfl rfl) ?_
      refine ops_ex rfl (guard_none rfl) rfl rfl (ex_lss rfl rfl rfl) ?_
      refine ops_nil ?_
      refine at_then ?_
      refine run_cond (b := (decide (t1983 < 0))) rfl (fun hb1987 => ?_) (fun hb1987 => ?_)
      · replace H := cond_t hb1987 H
        refine run_seq ?_
        refine run_region rfl ?_
        refine ops_ex rfl (guard_none rfl) rfl rfl (ex_assign rfl rfl) ?_
        refine ops_nil ?_
        refine at_then ?_
        refine run_ret ?_
        refine at_then_ret ?_
        replace HM := (HM.front 0 rfl rfl).drop
        replace HM := (HM.front 0 rfl rfl).drop
        replace HM := (HM.front 0 rfl rfl).drop
        replace HM := (HM.front 0 rfl rfl).drop
        have hR := Option.some.inj H
        subst hR
        exact at_ret1 rfl rfl ⟨_, rfl, rfl, HM⟩
      · replace H := cond_f hb1987 H
        refine run_skip ?_
        refine at_then ?_
        refine run_seq ?_
        refine run_seq ?_
        refine run_region rfl ?_
        refine ops_ex rfl (guard_none rfl) rfl rfl (ex_move rfl rfl) ?_
        refine ops_ex rfl (guard_none rfl) rfl rfl (ex_move rfl rfl) ?_
        refine ops_ex rfl (guard_none rfl) rfl rfl (ex_neq rfl rfl rfl) ?_
        refine ops_nil ?_
        refine at_then ?_
        refine run_cond (b := (t1983 != t1974.1)) rfl (fun hb1989 => ?_) (fun hb1989 => ?_)
        · replace H := cond_t hb1989 H
          refine run_seq ?_
          refine run_region rfl ?_
          refine ops_ex rfl (guard_none rfl) rfl rfl (ex_assign rfl rfl) ?_
          refine ops_nil ?_
          refine at_then ?_
          refine run_ret ?_
          refine at_then_ret ?_
          replace HM := (HM.front 0 rfl rfl).drop
          replace HM := (HM.front 0 rfl rfl).drop
          replace HM := (HM.front 0 rfl rfl).drop
          replace HM := (HM.front 0 rfl rfl).drop
          have hR := Option.some.inj H
          subst hR
          exact at_ret1 rfl rfl ⟨_, rfl, rfl, HM⟩
        · replace H := cond_f hb1989 H
          refine run_skip ?_
          refine at_then ?_
          refine run_seq ?_
          obtain ⟨t1990, h1991, H⟩ := bind_some H
          refine run_region rfl ?_
          refine ops_ex rfl (guard_none rfl) rfl rfl (ex_move rfl rfl) ?_
          refine ops_does rfl (guard_none rfl) rfl rfl (does_callk rfl callok19 rfl (impl_ParseBlock.calls (x0 := x0) (HM.tabP htab) h1991)) ?_
          rintro _ w1997 ⟨u1992, rfl, hn⟩
          replace HM : Mem w [] w1997 [own kInt 2 u1992 t1990.fBlock.fTxs, own kInt 2 u1959 t1974.2, box b1961 50 [.int .i64 t1957.fCode, .int .i64 t1957.fBlock.fPrev, .int .i64 t1957.fBlock.fHeight, .int .i64 t1957.fBlock.fMiner, u1959], box b1951 50 [.int .i64 t1947.fCode, .int .i64 t1947.fBlock.fPrev, .int .i64 t1947.fBlock.fHeight, .int .i64 t1947.fBlock.fMiner, u1949], own kInt 2 u1949 t1947.fBlock.fTxs] := HM.call hn
          refine ops_does rfl (guard_none rfl) rfl rfl (does_alloc (cs := [.int .i64 0, .int .i64 0, .int .i64 0, .int .i64 0, .slice none 0 0]) rfl tz50 rfl HM) ?_
          rintro _ w1998 ⟨b1994, rfl, HM⟩
          refine ops_doesS rfl (guard_none rfl) rfl (does_store (vs := [.int .i64 t1990.fCode, .int .i64 t1990.fBlock.fPrev, .int .i64 t1990.fBlock.fHeight, .int .i64 t1990.fBlock.fMiner, u1992]) (cs' := [.int .i64 t1990.fCode, .int .i64 t1990.fBlock.fPrev, .int .i64 t1990.fBlock.fHeight, .int .i64 t1990.fBlock.fMiner, u1992]) rfl rfl rfl rfl tsz50 (Ones.int (Ones.int (Ones.int (Ones.int (Ones.rd (HM.own_rd 1 rfl) Ones.nil))))) rfl rfl HM) ?_
          rintro w1999 HM
          refine ops_nil ?_
          refine at_then ?_
          refine run_seq ?_
          refine run_seq ?_
          obtain ⟨t2003, h2004, H⟩ := bind_some H
          refine run_region rfl ?_
          refine ops_ex rfl (guard_none rfl) rfl rfl (ex_loadN (cs := [(.int .i64 t1990.fCode), (.int .i64 t1990.fBlock.fPrev), (.int .i64 t1990.fBlock.fHeight), (.int .i64 t1990.fBlock.fMiner), u1992]) rfl rfl Tryd.underlying50 rfl tsz50 rfl ((HM.box_at 0 rfl).sub 0 5 rfl)) ?_
          refine ops_ex rfl (guard_none rfl) rfl rfl (ex_loadN (cs := [(.int .i64 t1947.fCode), (.int .i64 t1947.fBlock.fPrev), (.int .i64 t1947.fBlock.fHeight), (.int .i64 t1947.fBlock.fMiner), u1949]) rfl rfl Tryd.underlying50 rfl tsz50 rfl ((HM.box_at 4 rfl).sub 0 5 rfl)) ?_
          refine ops_does rfl (guard_none rfl) rfl rfl (does_callk rfl callok20 rfl (laws_eqBlockResult.calls (x0 := t1990) (x1 := t1947) (HM.own_rd 1 rfl) (HM.own_rd 5 rfl) h2004)) ?_
          rintro _ w2005 ⟨rfl, hn⟩
          replace HM : Mem w [] w2005 [box b1994 50 [.int .i64 t1990.fCode, .int .i64 t1990.fBlock.fPrev, .int .i64 t1990.fBlock.fHeight, .int .i64 t1990.fBlock.fMiner, u1992], own kInt 2 u1992 t1990.fBlock.fTxs, own kInt 2 u1959 t1974.2, box b1961 50 [.int .i64 t1957.fCode, .int .i64 t1957.fBlock.fPrev, .int .i64 t1957.fBlock.fHeight, .int .i64 t1957.fBlock.fMiner, u1959], box b1951 50 [.int .i64 t1947.fCode, .int .i64 t1947.fBlock.fPrev, .int .i64 t1947.fBlock.fHeight, .int .i64 t1947.fBlock.fMiner, u1949], own kInt 2 u1949 t1947.fBlock.fTxs] := HM.call hn
          refine ops_ex rfl (guard_none rfl) rfl rfl (ex_not rfl rfl) ?_
          refine ops_nil ?_
          refine at_then ?_
          refine run_cond (b := !t2003) rfl (fun hb2006 => ?_) (fun hb2006 => ?_)
          · replace H := cond_t hb2006 H
            refine run_seq ?_
            refine run_region rfl ?_
            refine ops_ex rfl (guard_none rfl) rfl rfl (ex_assign rfl rfl) ?_
            refine ops_nil ?_
            refine at_then ?_
            refine run_ret ?_
            refine at_then_ret ?_
            replace HM := (HM.front 0 rfl rfl).drop
            replace HM := (HM.front 0 rfl rfl).drop
            replace HM := (HM.front 0 rfl rfl).drop
            replace HM := (HM.front 0 rfl rfl).drop
            replace HM := (HM.front 0 rfl rfl).drop
            replace HM := (HM.front 0 rfl rfl).drop
            have hR := Option.some.inj H
            subst hR
            exact at_ret1 rfl rfl ⟨_, rfl, rfl, HM⟩
          · replace H := cond_f hb2006 H
            refine run_skip ?_
            refine at_then ?_
            refine run_seq ?_
            refine run_region rfl ?_
            refine ops_ex rfl (guard_none rfl) rfl rfl (ex_assign rfl rfl) ?_
            refine ops_nil ?_
            refine at_then ?_
            refine run_seq ?_
            obtain ⟨t2007, h2008, H⟩ := bind_some H
            refine run_region rfl ?_
            refine ops_ex rfl (guard_none rfl) rfl rfl (ex_loadN (cs := [(.int .i64 t1957.fCode), (.int .i64 t1957.fBlock.fPrev), (.int .i64 t1957.fBlock.fHeight), (.int .i64 t1957.fBlock.fMiner), u1959]) rfl rfl Tryd.underlying50 rfl tsz50 rfl ((HM.box_at 3 rfl).sub 0 5 rfl)) ?_
            refine ops_ex rfl (guard_none rfl) rfl rfl (ex_move rfl rfl) ?_
            refine ops_does rfl (guard_none rfl) rfl rfl (does_callk rfl callok22 rfl (laws_heldBlockResult.calls (x0 := (⟨t1957.fCode, (⟨t1957.fBlock.fPrev, t1957.fBlock.fHeight, t1957.fBlock.fMiner, t1974.2⟩ : Block)⟩ : BlockResult)) (x1 := 1) (HM.own_rd 2 rfl) h2008)) ?_
            rintro _ w2009 ⟨rfl, hn⟩
            replace HM : Mem w [] w2009 [box b1994 50 [.int .i64 t1990.fCode, .int .i64 t1990.fBlock.fPrev, .int .i64 t1990.fBlock.fHeight, .int .i64 t1990.fBlock.fMiner, u1992], own kInt 2 u1992 t1990.fBlock.fTxs, own kInt 2 u1959 t1974.2, box b1961 50 [.int .i64 t1957.fCode, .int .i64 t1957.fBlock.fPrev, .int .i64 t1957.fBlock.fHeight, .int .i64 t1957.fBlock.fMiner, u1959], box b1951 50 [.int .i64 t1947.fCode, .int .i64 t1947.fBlock.fPrev, .int .i64 t1947.fBlock.fHeight, .int .i64 t1947.fBlock.fMiner, u1949], own kInt 2 u1949 t1947.fBlock.fTxs] := HM.call hn
            refine ops_ex rfl (guard_none rfl) rfl rfl (ex_assign rfl rfl) ?_
            refine ops_nil ?_
            refine at_then ?_
            refine run_seq ?_
            refine run_seq ?_
            refine run_region rfl ?_
            refine ops_ex rfl (guard_none rfl) rfl rfl (ex_move rfl rfl) ?_
            refine ops_ex rfl (guard_none rfl) rfl rfl (ex_lss rfl rfl rfl) ?_
            refine ops_nil ?_
            refine at_then ?_
            refine run_cond (b := (decide (t2007 < 0))) rfl (fun hb2011 => ?_) (fun hb2011 => ?_)
            · replace H := cond_t hb2011 H
              refine run_seq ?_
              refine run_region rfl ?_
              refine ops_ex rfl (guard_none rfl) rfl rfl (ex_assign rfl rfl) ?_
              refine ops_nil ?_
              refine at_then ?_
              refine run_ret ?_
              refine at_then_ret ?_
              replace HM := (HM.front 0 rfl rfl).drop
              replace HM := (HM.front 0 rfl rfl).drop
              replace HM := (HM.front 0 rfl rfl).drop
              replace HM := (HM.front 0 rfl rfl).drop
              replace HM := (HM.front 0 rfl rfl).drop
              replace HM := (HM.front 0 rfl rfl).drop
              have hR := Option.some.inj H
              subst hR
              exact at_ret1 rfl rfl ⟨_, rfl, rfl, HM⟩
            · replace H := cond_f hb2011 H
              refine run_skip ?_
              refine at_then ?_
              refine run_seq ?_
              refine run_seq ?_
              refine run_region rfl ?_
              refine ops_ex rfl (guard_none rfl) rfl rfl (ex_move rfl rfl) ?_
              refine ops_ex rfl (guard_none rfl) rfl rfl (ex_move rfl rfl) ?_
              refine ops_ex rfl (guard_none rfl) rfl rfl (ex_neq rfl rfl rfl) ?_
              refine ops_nil ?_
              refine at_then ?_
              refine run_cond (b := (t2007 != t1974.1)) rfl (fun hb2012 => ?_) (fun hb2012 => ?_)
              · replace H := cond_t hb2012 H
                refine run_seq ?_
                refine run_region rfl ?_
                refine ops_ex rfl (guard_none rfl) rfl rfl (ex_assign rfl rfl) ?_
                refine ops_nil ?_
                refine at_then ?_
                refine run_ret ?_
                refine at_then_ret ?_
                replace HM := (HM.front 0 rfl rfl).drop
                replace HM := (HM.front 0 rfl rfl).drop
                replace HM := (HM.front 0 rfl rfl).drop
                replace HM := (HM.front 0 rfl rfl).drop
                replace HM := (HM.front 0 rfl rfl).drop
                replace HM := (HM.front 0 rfl rfl).drop
                have hR := Option.some.inj H
                subst hR
                exact at_ret1 rfl rfl ⟨_, rfl, rfl, HM⟩
              · replace H := cond_f hb2012 H
                refine run_skip ?_
                refine at_then ?_
                refine run_seq ?_
                refine run_region rfl ?_
                refine ops_ex rfl (guard_none rfl) rfl rfl (ex_assign rfl rfl) ?_
                refine ops_nil ?_
                refine at_then ?_
                refine run_ret ?_
                replace HM := (HM.front 0 rfl rfl).drop
                replace HM := (HM.front 0 rfl rfl).drop
                replace HM := (HM.front 0 rfl rfl).drop
                replace HM := (HM.front 0 rfl rfl).drop
                replace HM := (HM.front 0 rfl rfl).drop
                replace HM := (HM.front 0 rfl rfl).drop
                have hR := Option.some.inj H
                subst hR
                exact at_ret1 rfl rfl ⟨_, rfl, rfl, HM⟩
end Go.Proofs.YtiiimifniobfhaaDoor.Zk
