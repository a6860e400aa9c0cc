/- What functions of the program compute, each as a plain function, and that they do. Conditions: as each theorem states them. -/
import Derived.Test.YtecgbhfgkkpmhabGreatUndoTxZkF1
namespace Go.Proofs.YtecgbhfgkkpmhabGreat.Zk
open Go Go.RowKit Go.IntWalk Go.Proofs
set_option linter.unusedVariables false
set_option linter.unusedSimpArgs false
set_option maxRecDepth 100000
set_option maxHeartbeats 4000000
def spec_l3Among.l0 (x0 : List Ref) (x1 : Ref) : Nat → Int → Option (Bool ⊕ Unit)
  | 0, _ => none
  | k + 1, a1705 => (bif (decide (a1705 < (x0.length : Int))) then (chk (idxOk a1705 x0.length) (bif ((((gt x0 a1705).fTx) == x1.fTx) && (((gt x0 a1705).fAt) == x1.fAt)) then some (.inl true) else spec_l3Among.l0 x0 x1 k (wrap64 (a1705 + 1)))) else some (.inr ()))
theorem spec_l3Among.l0_z (x0 : List Ref) (x1 : Ref) (a1705 : Int) : spec_l3Among.l0 x0 x1 0 a1705 = none := rfl
theorem spec_l3Among.l0_s (x0 : List Ref) (x1 : Ref) (k : Nat) (a1705 : Int) : spec_l3Among.l0 x0 x1 (k + 1) a1705 = (bif (decide (a1705 < (x0.length : Int))) then (chk (idxOk a1705 x0.length) (bif ((((gt x0 a1705).fTx) == x1.fTx) && (((gt x0 a1705).fAt) == x1.fAt)) then some (.inl true) else spec_l3Among.l0 x0 x1 k (wrap64 (a1705 + 1)))) else some (.inr ())) := rfl
def spec_l3Among.f (k : Nat) (x0 : List Ref) (x1 : Ref) : Option Bool := ((spec_l3Among.l0 x0 x1 k 0).bind fun o1699 => thn o1699 (fun r => some r) (fun _ => some false))
theorem spec_l3Among.calls {k : Nat} {x0 : List Ref} {x1 : Ref} {p0 : Value} {w : World} (hp0 : RdS kRef w p0 x0) {r : Bool} (H : spec_l3Among.f k x0 x1 = some r) :
    Calls Tryz.prog 46 ([p0, .agg #[(.int .i64 x1.fTx), (.int .i64 x1.fAt)]] : List Value).toArray w (fun e w_ => ∃ v, e = .returned v ∧ v = (.bool r) ∧ Mem w [] w_ []) := by
  have HM := Mem.start w
  refine calls_run (N := 18) Tryz.func46 rfl rfl rfl rfl ?_
  unfold spec_l3Among.f at H
  refine run_seq ?_
  refine run_region rfl ?_
  refine od rfl rfl rfl rfl (does_box (cs := [.int .i64 x1.fTx, .int .i64 x1.fAt]) rfl rfl rfl HM) ?_
  rintro _ w1685 ⟨b1682, rfl, HM⟩
  refine ox rfl rfl rfl rfl (ex_assign rfl rfl) ?_
  refine ops_nil (at_then ?_)
  obtain ⟨o1699, ho1700, H⟩ := bind_some H
  refine run_mid (fun ρ_ w_ => Sum.inr () = o1699 ∧ ρ_ = [] ∧ Mem w [] w_ []) ?_ ?_
  · skip
    refine run_seq ?_
    refine run_region rfl ?_
    refine ox rfl rfl rfl rfl (ex_assign rfl rfl) ?_
    refine ops_nil (at_then ?_)
    refine run_block ?_
    refine run_loop (fun k_ ρ_ w_ => ∃ a1705 : Int, spec_l3Among.l0 x0 x1 k_ a1705 = some o1699 ∧ ρ_ = [(0, p0), (3, .pointer (some ⟨b1682, 0, none⟩)), (5, .int .i64 a1705)] ∧ Mem w [] w_ [box b1682 66 [.int .i64 x1.fTx, .int .i64 x1.fAt]]) k (ρ1 := [(0, p0), (3, .pointer (some ⟨b1682, 0, none⟩)), (5, .int .i64 0)]) ⟨_, ho1700, rfl, HM⟩ (Sub.cons rfl (Sub.cons rfl (Sub.cons rfl Sub.nil))) ?_
    clear HM ho1700
    rintro k1710 _ w1711 ⟨a1705, ho1700, rfl, HM⟩
    obtain _ | k1710 := k1710
    · exact nomatch ((spec_l3Among.l0_z x0 x1 a1705).symm.trans ho1700)
    replace ho1700 := (spec_l3Among.l0_s x0 x1 k1710 a1705).symm.trans ho1700
    refine run_seq ?_
    refine run_seq ?_
    refine run_region rfl ?_
    refine ox rfl rfl rfl rfl (ex_move rfl rfl) ?_
    refine ox rfl rfl rfl rfl (ex_move rfl rfl) ?_
    refine ox rfl rfl rfl rfl (ex_len (d := kRef) (xs := x0) rfl rfl Tryz.underlying34 hp0) ?_
    refine ox rfl rfl rfl rfl (ex_lss rfl rfl rfl) ?_
    refine ops_nil (at_then ?_)
    refine run_cond (b := (decide (a1705 < (x0.length : Int)))) rfl (fun hb1712 => ?_) (fun hb1712 => ?_)
    · replace ho1700 := cond_t hb1712 ho1700
      refine run_skip ?_
      refine at_then ?_
      refine run_seq ?_
      refine run_block ?_
      refine run_seq ?_
      obtain ⟨e1713, ho1700⟩ := chk_some ho1700
      refine run_drawf (fun w_ => Mem w [] w_ [box b1682 66 [.int .i64 x1.fTx, .int .i64 x1.fAt]]) [(0, true), (1, true), (2, true), (3, true), (4, true), (5, true)] mixed rfl rfl (by kernel_rfl) ?_
      replace HM := HM.grow (fr_drew _)
      have hS := Mem.suf (M := []) HM
      refine dp rfl rfl rfl rfl (ex_move rfl rfl) hS ?_
      refine dp rfl rfl rfl rfl (ex_move rfl rfl) hS ?_
      have hc1714 : CellsAt _ (sb p0) (so p0 + (a1705).toNat * 2) [(.int .i64 ((gt x0 a1705).fTx)), (.int .i64 ((gt x0 a1705).fAt))] := rd_plain hp0 e1713
      refine dp rfl rfl rfl rfl (ex_indexAddr (d := kRef) rfl rfl rfl Tryz.underlying34 tsz66 hp0 (idx_lo e1713) (idx_hi e1713)) hS ?_
      refine drwp_take rfl (guard_none rfl) rfl rfl (fun w_ hS_ => (ex_loadN (cs := [(.int .i64 ((gt x0 a1705).fTx)), (.int .i64 ((gt x0 a1705).fAt))]) rfl rfl Tryz.underlying66 rfl tsz66 rfl ((hS_.at_ hc1714).sub 0 2 rfl))) hS ?_
      refine drwp_take rfl (guard_none rfl) rfl rfl (fun w_ hS_ => (ex_loadN (cs := [(.int .i64 x1.fTx), (.int .i64 x1.fAt)]) rfl rfl Tryz.underlying66 rfl tsz66 rfl ((hS_.box_at 0 rfl).sub 0 2 rfl))) hS ?_
      refine dp rfl rfl rfl rfl (ex_aeql rfl rfl rfl (by kernel_rfl) (eqs66 _ _ _ _ _)) hS ?_
      refine drwp_done ?_
      refine at_then ?_
      refine run_cond (b := ((((gt x0 a1705).fTx) == x1.fTx) && (((gt x0 a1705).fAt) == x1.fAt))) rfl (fun hb1715 => ?_) (fun hb1715 => ?_)
      · replace ho1700 := cond_t hb1715 ho1700
        refine run_seq ?_
        refine run_region rfl ?_
        refine ox rfl rfl rfl rfl (ex_assign rfl rfl) ?_
        refine ops_nil (at_then ?_)
        refine run_ret ?_
        refine at_block_ret ?_
        refine at_then_ret ?_
        refine at_then_ret ?_
        refine at_block_ret ?_
        refine at_then_ret ?_
        replace HM := (HM.front 0 rfl rfl).drop
        have hR := Option.some.inj ho1700
        subst hR
        have hT := thn_inl H
        have hR := Option.some.inj hT
        subst hR
        exact at_ret1 rfl rfl ⟨_, rfl, rfl, HM⟩
      · replace ho1700 := cond_f hb1715 ho1700
        refine run_skip ?_
        refine at_block ?_
        refine at_then ?_
        refine run_region rfl ?_
        refine ox rfl rfl rfl rfl (ex_move rfl rfl) ?_
        refine ox rfl rfl rfl rfl (ex_add rfl rfl rfl) ?_
        refine ox rfl rfl rfl rfl (ex_assign rfl rfl) ?_
        refine ops_nil ?_
        exact at_again k1710 (ρ1 := [(0, p0), (3, .pointer (some ⟨b1682, 0, none⟩)), (5, .int .i64 (wrap64 (a1705 + 1)))]) (Nat.lt_succ_self _) ⟨_, ho1700, rfl, HM⟩ (Sub.cons rfl (Sub.cons rfl (Sub.cons rfl Sub.nil)))
    · replace ho1700 := cond_f hb1712 ho1700
      refine run_exit ?_
      refine at_then_exit ?_
      refine at_then_exit ?_
      refine at_block_exit ?_
      replace HM := (HM.front 0 rfl rfl).drop
      exact at_mid (ρ' := []) ⟨(Option.some.inj ho1700), rfl, HM⟩ Sub.nil
  · rintro _ w1716 ⟨rfl, rfl, HM⟩
    replace H := (thn_inr H)
    refine run_seq ?_
    refine run_region rfl ?_
    refine ox rfl rfl rfl rfl (ex_assign rfl rfl) ?_
    refine ops_nil (at_then ?_)
    refine run_ret ?_
    have hR := Option.some.inj H
    subst hR
    exact at_ret1 rfl rfl ⟨_, rfl, rfl, HM⟩

def spec_l3Outs.l0 (x0 : Tx) : Nat → Int → Option (Int ⊕ Unit)
  | 0, _ => none
  | k + 1, a1928 => (bif (decide (a1928 < (x0.fOuts.length : Int))) then (chk (idxOk a1928 x0.fOuts.length) ((spec_l1In.f k ((gt x0.fOuts a1928).fValue) 1 1000000).bind fun t1965 => (bif !t1965 then some (.inl 3) else (chk (idxOk a1928 x0.fOuts.length) ((spec_l2Fault.f k ((gt x0.fOuts a1928).fRule)).bind fun t1973 => (bif (t1973 != 0) then some (.inl t1973) else spec_l3Outs.l0 x0 k (wrap64 (a1928 + 1)))))))) else some (.inr ()))
theorem spec_l3Outs.l0_z (x0 : Tx) (a1928 : Int) : spec_l3Outs.l0 x0 0 a1928 = none := rfl
theorem spec_l3Outs.l0_s (x0 : Tx) (k : Nat) (a1928 : Int) : spec_l3Outs.l0 x0 (k + 1) a1928 = (bif (decide (a1928 < (x0.fOuts.length : Int))) then (chk (idxOk a1928 x0.fOuts.length) ((spec_l1In.f k ((gt x0.fOuts a1928).fValue) 1 1000000).bind fun t1965 => (bif !t1965 then some (.inl 3) else (chk (idxOk a1928 x0.fOuts.length) ((spec_l2Fault.f k ((gt x0.fOuts a1928).fRule)).bind fun t1973 => (bif (t1973 != 0) then some (.inl t1973) else spec_l3Outs.l0 x0 k (wrap64 (a1928 + 1)))))))) else some (.inr ())) := rfl
def spec_l3Outs.f (k : Nat) (x0 : Tx) : Option Int := ((spec_l3Outs.l0 x0 k 0).bind fun o1904 => thn o1904 (fun r => some r) (fun _ => (chk (!(x0.fKind == 1) || (idxOk (0 : Int) x0.fOuts.length)) (bif ((x0.fKind == 1) && (decide (((gt x0.fOuts (0 : Int)).fValue) < 100))) then some 8 else some 0))))
theorem spec_l3Outs.calls {k : Nat} {x0 : Tx} {b0 f0 : Nat} {p0_0 : Value} {p0_1 : Value} {w : World} (hc0 : CellsAt w b0 f0 [.int .i64 x0.fKind, .int .i64 x0.fMember, p0_0, p0_1]) (hp0_0 : RdS kRef w p0_0 x0.fIns) (hp0_1 : RdS kOut w p0_1 x0.fOuts) {r : Int} (H : spec_l3Outs.f k x0 = some r) :
    Calls Tryz.prog 47 ([.pointer (some ⟨b0, f0, none⟩)] : List Value).toArray w (fun e w_ => ∃ v, e = .returned v ∧ v = (.int .i64 r) ∧ Mem w [] w_ []) := by
  have HM := Mem.start w
  refine calls_run (N := 50) Tryz.func47 rfl rfl rfl rfl ?_
  unfold spec_l3Outs.f at H
  refine run_seq ?_
  refine run_region rfl ?_
  refine ox rfl rfl rfl rfl (ex_assign rfl rfl) ?_
  refine ops_nil (at_then ?_)
  obtain ⟨o1904, ho1905, H⟩ := bind_some H
  refine run_mid (fun ρ_ w_ => Sum.inr () = o1904 ∧ ρ_ = [(0, .pointer (some ⟨b0, f0, none⟩))] ∧ Mem w [] w_ []) ?_ ?_
  · skip
    refine run_seq ?_
    refine run_region rfl ?_
    refine ox rfl rfl rfl rfl (ex_assign rfl rfl) ?_
    refine ops_nil (at_then ?_)
    refine run_block ?_
    refine run_loop (fun k_ ρ_ w_ => ∃ a1928 : Int, spec_l3Outs.l0 x0 k_ a1928 = some o1904 ∧ ρ_ = [(0, .pointer (some ⟨b0, f0, none⟩)), (3, .int .i64 a1928)] ∧ Mem w [] w_ []) k (ρ1 := [(0, .pointer (some ⟨b0, f0, none⟩)), (3, .int .i64 0)]) ⟨_, ho1905, rfl, HM⟩ (Sub.cons rfl (Sub.cons rfl Sub.nil)) ?_
    clear HM ho1905
    rintro k1951 _ w1952 ⟨a1928, ho1905, rfl, HM⟩
    obtain _ | k1951 := k1951
    · exact nomatch ((spec_l3Outs.l0_z x0 a1928).symm.trans ho1905)
    replace ho1905 := (spec_l3Outs.l0_s x0 k1951 a1928).symm.trans ho1905
    refine run_seq ?_
    refine run_seq ?_
    refine run_region rfl ?_
    refine ox rfl rfl rfl rfl (ex_move rfl rfl) ?_
    refine ox rfl rfl rfl rfl (ex_move rfl rfl) ?_
    refine ox rfl rfl rfl rfl (ex_nilCheck rfl rfl) ?_
    refine ox rfl rfl rfl rfl (ex_fieldAddr (off' := f0 + 3) rfl rfl Tryz.underlying37 rfl tsz35 rfl) ?_
    refine ox rfl rfl rfl rfl (ex_load1 rfl rfl Tryz.underlying35 rfl ((HM.at_ hc0) 3 _ rfl)) ?_
    refine ox rfl rfl rfl rfl (ex_len (d := kOut) (xs := x0.fOuts) rfl rfl Tryz.underlying35 hp0_1) ?_
    refine ox rfl rfl rfl rfl (ex_lss rfl rfl rfl) ?_
    refine ops_nil (at_then ?_)
    refine run_cond (b := (decide (a1928 < (x0.fOuts.length : Int)))) rfl (fun hb1953 => ?_) (fun hb1953 => ?_)
    · replace ho1905 := cond_t hb1953 ho1905
      refine run_skip ?_
      refine at_then ?_
      refine run_seq ?_
      refine run_block ?_
      refine run_seq ?_
      refine run_seq ?_
      obtain ⟨e1961, ho1905⟩ := chk_some ho1905
      obtain ⟨t1965, h1966, ho1905⟩ := bind_some ho1905
      refine run_region rfl ?_
      refine ox rfl rfl rfl rfl (ex_move rfl rfl) ?_
      refine ox rfl rfl rfl rfl (ex_nilCheck rfl rfl) ?_
      refine ox rfl rfl rfl rfl (ex_fieldAddr (off' := f0 + 3) rfl rfl Tryz.underlying37 rfl tsz35 rfl) ?_
      refine ox rfl rfl rfl rfl (ex_load1 rfl rfl Tryz.underlying35 rfl ((HM.at_ hc0) 3 _ rfl)) ?_
      refine ox rfl rfl rfl rfl (ex_move rfl rfl) ?_
      obtain ⟨kv1963, hc1962, hk1964⟩ : ∃ u, CellsAt _ (sb p0_1) (so p0_1 + (a1928).toNat * 4) [(.int .i64 ((gt x0.fOuts a1928).fValue)), u, (.int .i64 ((gt x0.fOuts a1928).fRule.fNeed)), (.int .i64 ((gt x0.fOuts a1928).fRule.fAfter))] ∧ RdS kInt _ u ((gt x0.fOuts a1928).fRule.fKeys) := rd_with1 hp0_1 e1961
      refine ox rfl rfl rfl rfl (ex_indexAddr (d := kOut) rfl rfl rfl Tryz.underlying35 tsz70 hp0_1 (idx_lo e1961) (idx_hi e1961)) ?_
      refine ox rfl rfl rfl rfl (ex_fieldAddr (off' := so p0_1 + (a1928).toNat * 4) rfl rfl Tryz.underlying70 rfl tsz2 rfl) ?_
      refine ox rfl rfl rfl rfl (ex_load1 rfl rfl Tryz.underlying2 rfl ((HM.at_ hc1962) 0 _ rfl)) ?_
      refine od rfl rfl rfl rfl (does_callk rfl callok22 rfl (spec_l1In.calls (x0 := (gt x0.fOuts a1928).fValue) (x1 := 1) (x2 := 1000000) h1966)) ?_
      rintro _ w1967 ⟨rfl, hn⟩
      replace HM : Mem w [] w1967 [] := HM.call hn
      refine ox rfl rfl rfl rfl (ex_not rfl rfl) ?_
      refine ops_nil (at_then ?_)
      refine run_cond (b := !t1965) rfl (fun hb1968 => ?_) (fun hb1968 => ?_)
      · replace ho1905 := cond_t hb1968 ho1905
        refine run_seq ?_
        refine run_region rfl ?_
        refine ox rfl rfl rfl rfl (ex_assign rfl rfl) ?_
        refine ops_nil (at_then ?_)
        refine run_ret ?_
        refine at_then_ret ?_
        refine at_block_ret ?_
        refine at_then_ret ?_
        refine at_then_ret ?_
        refine at_block_ret ?_
        refine at_then_ret ?_
        have hR := Option.some.inj ho1905
        subst hR
        have hT := thn_inl H
        have hR := Option.some.inj hT
        subst hR
        exact at_ret1 rfl rfl ⟨_, rfl, rfl, HM⟩
      · replace ho1905 := cond_f hb1968 ho1905
        refine run_skip ?_
        refine at_then ?_
        refine run_seq ?_
        obtain ⟨e1969, ho1905⟩ := chk_some ho1905
        obtain ⟨t1973, h1974, ho1905⟩ := bind_some ho1905
        refine run_region rfl ?_
        refine ox rfl rfl rfl rfl (ex_move rfl rfl) ?_
        refine ox rfl rfl rfl rfl (ex_nilCheck rfl rfl) ?_
        refine ox rfl rfl rfl rfl (ex_fieldAddr (off' := f0 + 3) rfl rfl Tryz.underlying37 rfl tsz35 rfl) ?_
        refine ox rfl rfl rfl rfl (ex_load1 rfl rfl Tryz.underlying35 rfl ((HM.at_ hc0) 3 _ rfl)) ?_
        refine ox rfl rfl rfl rfl (ex_move rfl rfl) ?_
        obtain ⟨kv1971, hc1970, hk1972⟩ : ∃ u, CellsAt _ (sb p0_1) (so p0_1 + (a1928).toNat * 4) [(.int .i64 ((gt x0.fOuts a1928).fValue)), u, (.int .i64 ((gt x0.fOuts a1928).fRule.fNeed)), (.int .i64 ((gt x0.fOuts a1928).fRule.fAfter))] ∧ RdS kInt _ u ((gt x0.fOuts a1928).fRule.fKeys) := rd_with1 hp0_1 e1969
        refine ox rfl rfl rfl rfl (ex_indexAddr (d := kOut) rfl rfl rfl Tryz.underlying35 tsz70 hp0_1 (idx_lo e1969) (idx_hi e1969)) ?_
        refine ox rfl rfl rfl rfl (ex_fieldAddr (off' := so p0_1 + (a1928).toNat * 4 + 1) rfl rfl Tryz.underlying70 rfl tsz68 rfl) ?_
        refine od rfl rfl rfl rfl (does_callk rfl callok76 rfl (spec_l2Fault.calls (x0 := (gt x0.fOuts a1928).fRule) (CellsAt.sub (HM.at_ hc1970) 1 3 rfl) (HM.rd hk1972) h1974)) ?_
        rintro _ w1975 ⟨rfl, hn⟩
        replace HM : Mem w [] w1975 [] := HM.call hn
        refine ox rfl rfl rfl rfl (ex_assign rfl rfl) ?_
        refine ops_nil (at_then (run_seq ?_))
        refine run_region rfl ?_
        refine ox rfl rfl rfl rfl (ex_move rfl rfl) ?_
        refine ox rfl rfl rfl rfl (ex_neq rfl rfl rfl) ?_
        refine ops_nil (at_then ?_)
        refine run_cond (b := (t1973 != 0)) rfl (fun hb1976 => ?_) (fun hb1976 => ?_)
        · replace ho1905 := cond_t hb1976 ho1905
          refine run_seq ?_
          refine run_region rfl ?_
          refine ox rfl rfl rfl rfl (ex_move rfl rfl) ?_
          refine ox rfl rfl rfl rfl (ex_assign rfl rfl) ?_
          refine ops_nil (at_then ?_)
          refine run_ret ?_
          refine at_block_ret ?_
          refine at_then_ret ?_
          refine at_then_ret ?_
          refine at_block_ret ?_
          refine at_then_ret ?_
          have hR := Option.some.inj ho1905
          subst hR
          have hT := thn_inl H
          have hR := Option.some.inj hT
          subst hR
          exact at_ret1 rfl rfl ⟨_, rfl, rfl, HM⟩
        · replace ho1905 := cond_f hb1976 ho1905
          refine run_skip ?_
          refine at_block ?_
          refine at_then ?_
          refine run_region rfl ?_
          refine ox rfl rfl rfl rfl (ex_move rfl rfl) ?_
          refine ox rfl rfl rfl rfl (ex_add rfl rfl rfl) ?_
          refine ox rfl rfl rfl rfl (ex_assign rfl rfl) ?_
          refine ops_nil ?_
          exact at_again k1951 (ρ1 := [(0, .pointer (some ⟨b0, f0, none⟩)), (3, .int .i64 (wrap64 (a1928 + 1)))]) (Nat.lt_succ_self _) ⟨_, ho1905, rfl, HM⟩ (Sub.cons rfl (Sub.cons rfl Sub.nil))
    · replace ho1905 := cond_f hb1953 ho1905
      refine run_exit ?_
      refine at_then_exit ?_
      refine at_then_exit ?_
      refine at_block_exit ?_
      exact at_mid (ρ' := [(0, .pointer (some ⟨b0, f0, none⟩))]) ⟨(Option.some.inj ho1905), rfl, HM⟩ (Sub.cons rfl Sub.nil)
  · rintro _ w1977 ⟨rfl, rfl, HM⟩
    replace H := (thn_inr H)
    refine run_seq ?_
    refine run_seq ?_
    obtain ⟨e1978, H⟩ := chk_some H
    refine run_meet (fun ρ_ w_ => ρ_ = [(49, .bool ((x0.fKind == 1) && (decide (((gt x0.fOuts (0 : Int)).fValue) < 100))))] ∧ Mem w [] w_ []) ?_ ?_
    · skip
      refine run_region rfl ?_
      refine ox rfl rfl rfl rfl (ex_move rfl rfl) ?_
      refine ox rfl rfl rfl rfl (ex_nilCheck rfl rfl) ?_
      refine ox rfl rfl rfl rfl (ex_fieldAddr (off' := f0) rfl rfl Tryz.underlying37 rfl tsz2 rfl) ?_
      refine ox rfl rfl rfl rfl (ex_load1 rfl rfl Tryz.underlying2 rfl ((HM.at_ hc0) 0 _ rfl)) ?_
      refine ox rfl rfl rfl rfl (ex_eql rfl rfl rfl) ?_
      refine ox rfl rfl rfl rfl (ex_move rfl rfl) ?_
      refine bool_cases (x0.fKind == 1) (fun hg1982 => ?_) (fun hg1982 => ?_)
      · skip
        refine ops_ex rfl (guard_on rfl rfl rfl hg1982) rfl rfl (ex_move rfl rfl) ?_
        refine ops_ex rfl (guard_on rfl rfl rfl hg1982) rfl rfl (ex_nilCheck rfl rfl) ?_
        refine ops_ex rfl (guard_on rfl rfl rfl hg1982) rfl rfl (ex_fieldAddr (off' := f0 + 3) rfl rfl Tryz.underlying37 rfl tsz35 rfl) ?_
        refine ops_ex rfl (guard_on rfl rfl rfl hg1982) rfl rfl (ex_load1 rfl rfl Tryz.underlying35 rfl ((HM.at_ hc0) 3 _ rfl)) ?_
        obtain ⟨kv1980, hc1979, hk1981⟩ : ∃ u, CellsAt _ (sb p0_1) (so p0_1 + ((0 : Int)).toNat * 4) [(.int .i64 ((gt x0.fOuts (0 : Int)).fValue)), u, (.int .i64 ((gt x0.fOuts (0 : Int)).fRule.fNeed)), (.int .i64 ((gt x0.fOuts (0 : Int)).fRule.fAfter))] ∧ RdS kInt _ u ((gt x0.fOuts (0 : Int)).fRule.fKeys) := rd_with1 hp0_1 (or_t e1978 hg1982)
        refine ops_ex rfl (guard_on rfl rfl rfl hg1982) rfl rfl (ex_indexAddr (d := kOut) rfl rfl rfl Tryz.underlying35 tsz70 hp0_1 (idx_lo (or_t e1978 hg1982)) (idx_hi (or_t e1978 hg1982))) ?_
        refine ops_ex rfl (guard_on rfl rfl rfl hg1982) rfl rfl (ex_fieldAddr (off' := so p0_1 + ((0 : Int)).toNat * 4) rfl rfl Tryz.underlying70 rfl tsz2 rfl) ?_
        refine ops_ex rfl (guard_on rfl rfl rfl hg1982) rfl rfl (ex_load1 rfl rfl Tryz.underlying2 rfl ((HM.at_ hc1979) 0 _ rfl)) ?_
        refine ops_ex rfl (guard_on rfl rfl rfl hg1982) rfl rfl (ex_lss rfl rfl rfl) ?_
        refine ops_ex (v := .bool ((x0.fKind == 1) && (decide (((gt x0.fOuts (0 : Int)).fValue) < 100)))) rfl (guard_none rfl) rfl rfl (ex_pand_t rfl rfl hg1982 rfl) ?_
        refine ops_nil ?_
        exact at_meet [(49, .bool ((x0.fKind == 1) && (decide (((gt x0.fOuts (0 : Int)).fValue) < 100))))] ⟨rfl, HM⟩ (Sub.cons rfl Sub.nil)
      · skip
        refine ops_off rfl (guard_off rfl rfl rfl hg1982) rfl rfl ?_
        refine ops_off rfl (guard_off rfl rfl rfl hg1982) rfl rfl ?_
        refine ops_off rfl (guard_off rfl rfl rfl hg1982) rfl rfl ?_
        refine ops_off rfl (guard_off rfl rfl rfl hg1982) rfl rfl ?_
        refine ops_off rfl (guard_off rfl rfl rfl hg1982) rfl rfl ?_
        refine ops_off rfl (guard_off rfl rfl rfl hg1982) rfl rfl ?_
        refine ops_off rfl (guard_off rfl rfl rfl hg1982) rfl rfl ?_
        refine ops_off rfl (guard_off rfl rfl rfl hg1982) rfl rfl ?_
        have hg1983 : ((x0.fKind == 1) && (decide (((gt x0.fOuts (0 : Int)).fValue) < 100))) = false := by simp only [hg1982, Bool.and_true, Bool.true_and, Bool.and_false, Bool.false_and, Bool.or_true, Bool.true_or, Bool.or_false, Bool.false_or, Bool.not_true, Bool.not_false, Bool.not_not]
        refine ops_ex (v := .bool ((x0.fKind == 1) && (decide (((gt x0.fOuts (0 : Int)).fValue) < 100)))) rfl (guard_none rfl) rfl rfl (ex_pand_f rfl rfl hg1982) ?_
        refine ops_nil ?_
        exact at_meet [(49, .bool ((x0.fKind == 1) && (decide (((gt x0.fOuts (0 : Int)).fValue) < 100))))] ⟨rfl, HM⟩ (Sub.cons rfl Sub.nil)
    · rintro _ w1984 ⟨rfl, HM⟩
      refine at_then ?_
      refine run_cond (b := ((x0.fKind == 1) && (decide (((gt x0.fOuts (0 : Int)).fValue) < 100)))) rfl (fun hb1985 => ?_) (fun hb1985 => ?_)
      · replace H := cond_t hb1985 H
        refine run_seq ?_
        refine run_region rfl ?_
        refine ox rfl rfl rfl rfl (ex_assign rfl rfl) ?_
        refine ops_nil (at_then ?_)
        refine run_ret ?_
        refine at_then_ret ?_
        have hR := Option.some.inj H
        subst hR
        exact at_ret1 rfl rfl ⟨_, rfl, rfl, HM⟩
      · replace H := cond_f hb1985 H
        refine run_skip ?_
        refine at_then ?_
        refine run_seq ?_
        refine run_region rfl ?_
        refine ox rfl rfl rfl rfl (ex_assign rfl rfl) ?_
        refine ops_nil (at_then ?_)
        refine run_ret ?_
        have hR := Option.some.inj H
        subst hR
        exact at_ret1 rfl rfl ⟨_, rfl, rfl, HM⟩

def spec_l3Fault.l0 (x0 : Tx) : Nat → Int → Option (Int ⊕ Unit)
  | 0, _ => none
  | k + 1, a2106 => (bif (decide (a2106 < (x0.fIns.length : Int))) then (chk (idxOk a2106 x0.fIns.length) ((spec_l3Ref.f k (gt x0.fIns a2106)).bind fun t2137 => (bif !t2137 then some (.inl 3) else (chk (cutOk a2106 x0.fIns.length) (chk (idxOk a2106 x0.fIns.length) ((spec_l3Among.f k (x0.fIns.take (a2106).toNat) (gt x0.fIns a2106)).bind fun t2147 => (bif t2147 then some (.inl 7) else spec_l3Fault.l0 x0 k (wrap64 (a2106 + 1))))))))) else some (.inr ()))
theorem spec_l3Fault.l0_z (x0 : Tx) (a2106 : Int) : spec_l3Fault.l0 x0 0 a2106 = none := rfl
theorem spec_l3Fault.l0_s (x0 : Tx) (k : Nat) (a2106 : Int) : spec_l3Fault.l0 x0 (k + 1) a2106 = (bif (decide (a2106 < (x0.fIns.length : Int))) then (chk (idxOk a2106 x0.fIns.length) ((spec_l3Ref.f k (gt x0.fIns a2106)).bind fun t2137 => (bif !t2137 then some (.inl 3) else (chk (cutOk a2106 x0.fIns.length) (chk (idxOk a2106 x0.fIns.length) ((spec_l3Among.f k (x0.fIns.take (a2106).toNat) (gt x0.fIns a2106)).bind fun t2147 => (bif t2147 then some (.inl 7) else spec_l3Fault.l0 x0 k (wrap64 (a2106 + 1))))))))) else some (.inr ())) := rfl
def spec_l3Fault.f (k : Nat) (x0 : Tx) : Option Int := ((spec_l1In.f k x0.fKind 0 2).bind fun t1991 => (bif ((!t1991) || ((x0.fKind == 0) != (x0.fMember == 0))) then some 1 else ((bif (x0.fKind != 0) then spec_l1Key.f k x0.fMember else some default).bind fun t2001 => (bif ((x0.fKind != 0) && (!t2001)) then some 3 else ((spec_l1In.f k (x0.fIns.length : Int) 1 4).bind fun t2013 => ((bif (!(!t2013)) then spec_l1In.f k (x0.fOuts.length : Int) 1 4 else some default).bind fun t2015 => (bif ((!t2013) || (!t2015)) then some 2 else ((spec_l3Fault.l0 x0 k 0).bind fun o2084 => thn o2084 (fun r => some r) (fun _ => ((spec_l3Outs.f k x0).bind fun t2152 => some t2152))))))))))
theorem spec_l3Fault.calls {k : Nat} {x0 : Tx} {b0 f0 : Nat} {p0_0 : Value} {p0_1 : Value} {w : World} (hc0 : CellsAt w b0 f0 [.int .i64 x0.fKind, .int .i64 x0.fMember, p0_0, p0_1]) (hp0_0 : RdS kRef w p0_0 x0.fIns) (hp0_1 : RdS kOut w p0_1 x0.fOuts) {r : Int} (H : spec_l3Fault.f k x0 = some r) :
    Calls Tryz.prog 21 ([.pointer (some ⟨b0, f0, none⟩)] : List Value).toArray w (fun e w_ => ∃ v, e = .returned v ∧ v = (.int .i64 r) ∧ Mem w [] w_ []) := by
  have HM := Mem.start w
  refine calls_run (N := 86) Tryz.func21 rfl rfl rfl rfl ?_
  unfold spec_l3Fault.f at H
  refine run_seq ?_
  refine run_region rfl ?_
  refine ox rfl rfl rfl rfl (ex_assign rfl rfl) ?_
  refine ops_nil (at_then (run_seq ?_))
  refine run_seq ?_
  obtain ⟨t1991, h1992, H⟩ := bind_some H
  refine run_meet (fun ρ_ w_ => ρ_ = [(0, .pointer (some ⟨b0, f0, none⟩)), (22, .bool ((!t1991) || ((x0.fKind == 0) != (x0.fMember == 0))))] ∧ Mem w [] w_ []) ?_ ?_
  · skip
    refine run_drawf (fun w_ => Mem w [] w_ []) [(0, true), (1, true), (2, true), (3, true), (4, false), (5, true), (6, true), (7, true), (8, true), (9, true), (10, true), (11, true), (12, true), (13, true), (14, true), (15, true), (16, true), (17, true), (18, true)] mixed rfl rfl (by kernel_rfl) ?_
    replace HM := HM.grow (fr_drew _)
    have hS := Mem.suf (M := []) HM
    refine dp rfl rfl rfl rfl (ex_move rfl rfl) hS ?_
    refine dp rfl rfl rfl rfl (ex_nilCheck rfl rfl) hS ?_
    refine dp rfl rfl rfl rfl (ex_fieldAddr (off' := f0) rfl rfl Tryz.underlying37 rfl tsz2 rfl) hS ?_
    refine drwp_take rfl (guard_none rfl) rfl rfl (fun w_ hS_ => (ex_load1 rfl rfl Tryz.underlying2 rfl ((hS_.at_ hc0) 0 _ rfl))) hS ?_
    refine drwp_one rfl (guard_none rfl) rfl rfl (does_callk rfl callok22 rfl (spec_l1In.calls (x0 := x0.fKind) (x1 := 0) (x2 := 2) h1992)) ?_
    rintro _ w1993 ⟨rfl, hn⟩
    replace HM : Mem w [] w1993 [] := HM.call hn
    have hS := Mem.suf (M := []) HM
    refine ⟨hS, ?_⟩
    refine dp rfl rfl rfl rfl (ex_not rfl rfl) hS ?_
    refine dp rfl rfl rfl rfl (ex_move rfl rfl) hS ?_
    refine bool_cases (!t1991) (fun hg1994 => ?_) (fun hg1994 => ?_)
    · skip
      refine drwp_off rfl (guard_off rfl rfl rfl hg1994) rfl rfl hS ?_
      refine drwp_off rfl (guard_off rfl rfl rfl hg1994) rfl rfl hS ?_
      refine drwp_off rfl (guard_off rfl rfl rfl hg1994) rfl rfl hS ?_
      refine drwp_off rfl (guard_off rfl rfl rfl hg1994) rfl rfl hS ?_
      refine drwp_off rfl (guard_off rfl rfl rfl hg1994) rfl rfl hS ?_
      refine drwp_off rfl (guard_off rfl rfl rfl hg1994) rfl rfl hS ?_
      refine drwp_off rfl (guard_off rfl rfl rfl hg1994) rfl rfl hS ?_
      refine drwp_off rfl (guard_off rfl rfl rfl hg1994) rfl rfl hS ?_
      refine drwp_off rfl (guard_off rfl rfl rfl hg1994) rfl rfl hS ?_
      refine drwp_off rfl (guard_off rfl rfl rfl hg1994) rfl rfl hS ?_
      refine drwp_off rfl (guard_off rfl rfl rfl hg1994) rfl rfl hS ?_
      have hg1995 : ((!t1991) || ((x0.fKind == 0) != (x0.fMember == 0))) = true := by simp only [hg1994, Bool.and_true, Bool.true_and, Bool.and_false, Bool.false_and, Bool.or_true, Bool.true_or, Bool.or_false, Bool.false_or, Bool.not_true, Bool.not_false, Bool.not_not]
      refine drwp_take (v := .bool ((!t1991) || ((x0.fKind == 0) != (x0.fMember == 0)))) rfl (guard_none rfl) rfl rfl (fun w_ hS_ => (ex_por_t rfl rfl hg1994)) hS ?_
      refine drwp_done ?_
      exact at_meet [(0, .pointer (some ⟨b0, f0, none⟩)), (22, .bool ((!t1991) || ((x0.fKind == 0) != (x0.fMember == 0))))] ⟨rfl, HM⟩ (Sub.cons rfl (Sub.cons rfl Sub.nil))
    · skip
      refine drwp_take rfl (guard_on rfl rfl rfl hg1994) rfl rfl (fun w_ hS_ => (ex_move rfl rfl)) hS ?_
      refine drwp_take rfl (guard_on rfl rfl rfl hg1994) rfl rfl (fun w_ hS_ => (ex_nilCheck rfl rfl)) hS ?_
      refine drwp_take rfl (guard_on rfl rfl rfl hg1994) rfl rfl (fun w_ hS_ => (ex_fieldAddr (off' := f0) rfl rfl Tryz.underlying37 rfl tsz2 rfl)) hS ?_
      refine drwp_take rfl (guard_on rfl rfl rfl hg1994) rfl rfl (fun w_ hS_ => (ex_load1 rfl rfl Tryz.underlying2 rfl ((hS_.at_ hc0) 0 _ rfl))) hS ?_
      refine drwp_take rfl (guard_on rfl rfl rfl hg1994) rfl rfl (fun w_ hS_ => (ex_eql rfl rfl rfl)) hS ?_
      refine drwp_take rfl (guard_on rfl rfl rfl hg1994) rfl rfl (fun w_ hS_ => (ex_move rfl rfl)) hS ?_
      refine drwp_take rfl (guard_on rfl rfl rfl hg1994) rfl rfl (fun w_ hS_ => (ex_nilCheck rfl rfl)) hS ?_
      refine drwp_take rfl (guard_on rfl rfl rfl hg1994) rfl rfl (fun w_ hS_ => (ex_fieldAddr (off' := f0 + 1) rfl rfl Tryz.underlying37 rfl tsz2 rfl)) hS ?_
      refine drwp_take rfl (guard_on rfl rfl rfl hg1994) rfl rfl (fun w_ hS_ => (ex_load1 rfl rfl Tryz.underlying2 rfl ((hS_.at_ hc0) 1 _ rfl))) hS ?_
      refine drwp_take rfl (guard_on rfl rfl rfl hg1994) rfl rfl (fun w_ hS_ => (ex_eql rfl rfl rfl)) hS ?_
      refine drwp_take rfl (guard_on rfl rfl rfl hg1994) rfl rfl (fun w_ hS_ => (ex_bneq rfl rfl rfl Tryz.underlying4)) hS ?_
      refine drwp_take (v := .bool ((!t1991) || ((x0.fKind == 0) != (x0.fMember == 0)))) rfl (guard_none rfl) rfl rfl (fun w_ hS_ => (ex_por_f rfl rfl hg1994 rfl)) hS ?_
      refine drwp_done ?_
      exact at_meet [(0, .pointer (some ⟨b0, f0, none⟩)), (22, .bool ((!t1991) || ((x0.fKind == 0) != (x0.fMember == 0))))] ⟨rfl, HM⟩ (Sub.cons rfl (Sub.cons rfl Sub.nil))
  · rintro _ w1996 ⟨rfl, HM⟩
    refine at_then ?_
    refine run_cond (b := ((!t1991) || ((x0.fKind == 0) != (x0.fMember == 0)))) rfl (fun hb1997 => ?_) (fun hb1997 => ?_)
    · replace H := cond_t hb1997 H
      refine run_seq ?_
      refine run_region rfl ?_
      refine ox rfl rfl rfl rfl (ex_assign rfl rfl) ?_
      refine ops_nil (at_then ?_)
      refine run_ret ?_
      refine at_then_ret ?_
      have hR := Option.some.inj H
      subst hR
      exact at_ret1 rfl rfl ⟨_, rfl, rfl, HM⟩
    · replace H := cond_f hb1997 H
      refine run_skip ?_
      refine at_then ?_
      refine run_seq ?_
      refine run_seq ?_
      obtain ⟨t2001, h2002, H⟩ := bind_some H
      refine run_meet (fun ρ_ w_ => ρ_ = [(0, .pointer (some ⟨b0, f0, none⟩)), (35, .bool ((x0.fKind != 0) && (!t2001)))] ∧ Mem w [] w_ []) ?_ ?_
      · skip
        refine run_region rfl ?_
        refine ox rfl rfl rfl rfl (ex_move rfl rfl) ?_
        refine ox rfl rfl rfl rfl (ex_nilCheck rfl rfl) ?_
        refine ox rfl rfl rfl rfl (ex_fieldAddr (off' := f0) rfl rfl Tryz.underlying37 rfl tsz2 rfl) ?_
        refine ox rfl rfl rfl rfl (ex_load1 rfl rfl Tryz.underlying2 rfl ((HM.at_ hc0) 0 _ rfl)) ?_
        refine ox rfl rfl rfl rfl (ex_neq rfl rfl rfl) ?_
        refine ox rfl rfl rfl rfl (ex_move rfl rfl) ?_
        refine bool_cases (x0.fKind != 0) (fun hg2003 => ?_) (fun hg2003 => ?_)
        · skip
          refine ops_ex rfl (guard_on rfl rfl rfl hg2003) rfl rfl (ex_move rfl rfl) ?_
          refine ops_ex rfl (guard_on rfl rfl rfl hg2003) rfl rfl (ex_nilCheck rfl rfl) ?_
          refine ops_ex rfl (guard_on rfl rfl rfl hg2003) rfl rfl (ex_fieldAddr (off' := f0 + 1) rfl rfl Tryz.underlying37 rfl tsz2 rfl) ?_
          refine ops_ex rfl (guard_on rfl rfl rfl hg2003) rfl rfl (ex_load1 rfl rfl Tryz.underlying2 rfl ((HM.at_ hc0) 1 _ rfl)) ?_
          refine ops_does rfl (guard_on rfl rfl rfl hg2003) rfl rfl (does_callk rfl callok45 rfl (spec_l1Key.calls (x0 := x0.fMember) (cond_t hg2003 h2002))) ?_
          rintro _ w2004 ⟨rfl, hn⟩
          replace HM : Mem w [] w2004 [] := HM.call hn
          refine ops_ex rfl (guard_on rfl rfl rfl hg2003) rfl rfl (ex_not rfl rfl) ?_
          refine ops_ex (v := .bool ((x0.fKind != 0) && (!t2001))) rfl (guard_none rfl) rfl rfl (ex_pand_t rfl rfl hg2003 rfl) ?_
          refine ops_nil ?_
          exact at_meet [(0, .pointer (some ⟨b0, f0, none⟩)), (35, .bool ((x0.fKind != 0) && (!t2001)))] ⟨rfl, HM⟩ (Sub.cons rfl (Sub.cons rfl Sub.nil))
        · skip
          refine ops_off rfl (guard_off rfl rfl rfl hg2003) rfl rfl ?_
          refine ops_off rfl (guard_off rfl rfl rfl hg2003) rfl rfl ?_
          refine ops_off rfl (guard_off rfl rfl rfl hg2003) rfl rfl ?_
          refine ops_off rfl (guard_off rfl rfl rfl hg2003) rfl rfl ?_
          refine ops_off rfl (guard_off rfl rfl rfl hg2003) rfl rfl ?_
          refine ops_off rfl (guard_off rfl rfl rfl hg2003) rfl rfl ?_
          have hg2005 : ((x0.fKind != 0) && (!t2001)) = false := by simp only [hg2003, Bool.and_true, Bool.true_and, Bool.and_false, Bool.false_and, Bool.or_true, Bool.true_or, Bool.or_false, Bool.false_or, Bool.not_true, Bool.not_false, Bool.not_not]
          refine ops_ex (v := .bool ((x0.fKind != 0) && (!t2001))) rfl (guard_none rfl) rfl rfl (ex_pand_f rfl rfl hg2003) ?_
          refine ops_nil ?_
          exact at_meet [(0, .pointer (some ⟨b0, f0, none⟩)), (35, .bool ((x0.fKind != 0) && (!t2001)))] ⟨rfl, HM⟩ (Sub.cons rfl (Sub.cons rfl Sub.nil))
      · rintro _ w2006 ⟨rfl, HM⟩
        refine at_then ?_
        refine run_cond (b := ((x0.fKind != 0) && (!t2001))) rfl (fun hb2007 => ?_) (fun hb2007 => ?_)
        · replace H := cond_t hb2007 H
          refine run_seq ?_
          refine run_region rfl ?_
          refine ox rfl rfl rfl rfl (ex_assign rfl rfl) ?_
          refine ops_nil (at_then ?_)
          refine run_ret ?_
          refine at_then_ret ?_
          have hR := Option.some.inj H
          subst hR
          exact at_ret1 rfl rfl ⟨_, rfl, rfl, HM⟩
        · replace H := cond_f hb2007 H
          refine run_skip ?_
          refine at_then ?_
          refine run_seq ?_
          refine run_seq ?_
          obtain ⟨t2013, h2014, H⟩ := bind_some H
          obtain ⟨t2015, h2016, H⟩ := bind_some H
          refine run_meet (fun ρ_ w_ => ρ_ = [(0, .pointer (some ⟨b0, f0, none⟩)), (51, .bool ((!t2013) || (!t2015)))] ∧ Mem w [] w_ []) ?_ ?_
          · skip
            refine run_region rfl ?_
            refine ox rfl rfl rfl rfl (ex_move rfl rfl) ?_
            refine ox rfl rfl rfl rfl (ex_nilCheck rfl rfl) ?_
            refine ox rfl rfl rfl rfl (ex_fieldAddr (off' := f0 + 2) rfl rfl Tryz.underlying37 rfl tsz34 rfl) ?_
            refine ox rfl rfl rfl rfl (ex_load1 rfl rfl Tryz.underlying34 rfl ((HM.at_ hc0) 2 _ rfl)) ?_
            refine ox rfl rfl rfl rfl (ex_len (d := kRef) (xs := x0.fIns) rfl rfl Tryz.underlying34 hp0_0) ?_
            refine od rfl rfl rfl rfl (does_callk rfl callok22 rfl (spec_l1In.calls (x0 := (x0.fIns.length : Int)) (x1 := 1) (x2 := 4) h2014)) ?_
            rintro _ w2017 ⟨rfl, hn⟩
            replace HM : Mem w [] w2017 [] := HM.call hn
            refine ox rfl rfl rfl rfl (ex_not rfl rfl) ?_
            refine ox rfl rfl rfl rfl (ex_move rfl rfl) ?_
            refine bool_cases (!t2013) (fun hg2018 => ?_) (fun hg2018 => ?_)
            · skip
              refine ops_off rfl (guard_off rfl rfl rfl hg2018) rfl rfl ?_
              refine ops_off rfl (guard_off rfl rfl rfl hg2018) rfl rfl ?_
              refine ops_off rfl (guard_off rfl rfl rfl hg2018) rfl rfl ?_
              refine ops_off rfl (guard_off rfl rfl rfl hg2018) rfl rfl ?_
              refine ops_off rfl (guard_off rfl rfl rfl hg2018) rfl rfl ?_
              refine ops_off rfl (guard_off rfl rfl rfl hg2018) rfl rfl ?_
              refine ops_off rfl (guard_off rfl rfl rfl hg2018) rfl rfl ?_
              have hg2019 : ((!t2013) || (!t2015)) = true := by simp only [hg2018, Bool.and_true, Bool.true_and, Bool.and_false, Bool.false_and, Bool.or_true, Bool.true_or, Bool.or_false, Bool.false_or, Bool.not_true, Bool.not_false, Bool.not_not]
              refine ops_ex (v := .bool ((!t2013) || (!t2015))) rfl (guard_none rfl) rfl rfl (ex_por_t rfl rfl hg2018) ?_
              refine ops_nil ?_
              exact at_meet [(0, .pointer (some ⟨b0, f0, none⟩)), (51, .bool ((!t2013) || (!t2015)))] ⟨rfl, HM⟩ (Sub.cons rfl (Sub.cons rfl Sub.nil))
            · skip
              refine ops_ex rfl (guard_on rfl rfl rfl hg2018) rfl rfl (ex_move rfl rfl) ?_
              refine ops_ex rfl (guard_on rfl rfl rfl hg2018) rfl rfl (ex_nilCheck rfl rfl) ?_
              refine ops_ex rfl (guard_on rfl rfl rfl hg2018) rfl rfl (ex_fieldAddr (off' := f0 + 3) rfl rfl Tryz.underlying37 rfl tsz35 rfl) ?_
              refine ops_ex rfl (guard_on rfl rfl rfl hg2018) rfl rfl (ex_load1 rfl rfl Tryz.underlying35 rfl ((HM.at_ hc0) 3 _ rfl)) ?_
              refine ops_ex rfl (guard_on rfl rfl rfl hg2018) rfl rfl (ex_len (d := kOut) (xs := x0.fOuts) rfl rfl Tryz.underlying35 hp0_1) ?_
              refine ops_does rfl (guard_on rfl rfl rfl hg2018) rfl rfl (does_callk rfl callok22 rfl (spec_l1In.calls (x0 := (x0.fOuts.length : Int)) (x1 := 1) (x2 := 4) (cond_t (not_mk hg2018) h2016))) ?_
              rintro _ w2020 ⟨rfl, hn⟩
              replace HM : Mem w [] w2020 [] := HM.call hn
              refine ops_ex rfl (guard_on rfl rfl rfl hg2018) rfl rfl (ex_not rfl rfl) ?_
              refine ops_ex (v := .bool ((!t2013) || (!t2015))) rfl (guard_none rfl) rfl rfl (ex_por_f rfl rfl hg2018 rfl) ?_
              refine ops_nil ?_
              exact at_meet [(0, .pointer (some ⟨b0, f0, none⟩)), (51, .bool ((!t2013) || (!t2015)))] ⟨rfl, HM⟩ (Sub.cons rfl (Sub.cons rfl Sub.nil))
          · rintro _ w2021 ⟨rfl, HM⟩
            refine at_then ?_
            refine run_cond (b := ((!t2013) || (!t2015))) rfl (fun hb2022 => ?_) (fun hb2022 => ?_)
            · replace H := cond_t hb2022 H
              refine run_seq ?_
              refine run_region rfl ?_
              refine ox rfl rfl rfl rfl (ex_assign rfl rfl) ?_
              refine ops_nil (at_then ?_)
              refine run_ret ?_
              refine at_then_ret ?_
              have hR := Option.some.inj H
              subst hR
              exact at_ret1 rfl rfl ⟨_, rfl, rfl, HM⟩
            · replace H := cond_f hb2022 H
              refine run_skip ?_
              refine at_then ?_
              obtain ⟨o2084, ho2085, H⟩ := bind_some H
              refine run_mid (fun ρ_ w_ => Sum.inr () = o2084 ∧ ρ_ = [(0, .pointer (some ⟨b0, f0, none⟩))] ∧ Mem w [] w_ []) ?_ ?_
              · skip
                refine run_seq ?_
                refine run_region rfl ?_
                refine ox rfl rfl rfl rfl (ex_assign rfl rfl) ?_
                refine ops_nil (at_then ?_)
                refine run_block ?_
                refine run_loop (fun k_ ρ_ w_ => ∃ a2106 : Int, spec_l3Fault.l0 x0 k_ a2106 = some o2084 ∧ ρ_ = [(0, .pointer (some ⟨b0, f0, none⟩)), (3, .int .i64 a2106)] ∧ Mem w [] w_ []) k (ρ1 := [(0, .pointer (some ⟨b0, f0, none⟩)), (3, .int .i64 0)]) ⟨_, ho2085, rfl, HM⟩ (Sub.cons rfl (Sub.cons rfl Sub.nil)) ?_
                clear HM ho2085
                rintro k2127 _ w2128 ⟨a2106, ho2085, rfl, HM⟩
                obtain _ | k2127 := k2127
                · exact nomatch ((spec_l3Fault.l0_z x0 a2106).symm.trans ho2085)
                replace ho2085 := (spec_l3Fault.l0_s x0 k2127 a2106).symm.trans ho2085
                refine run_seq ?_
                refine run_seq ?_
                refine run_region rfl ?_
                refine ox rfl rfl rfl rfl (ex_move rfl rfl) ?_
                refine ox rfl rfl rfl rfl (ex_move rfl rfl) ?_
                refine ox rfl rfl rfl rfl (ex_nilCheck rfl rfl) ?_
                refine ox rfl rfl rfl rfl (ex_fieldAddr (off' := f0 + 2) rfl rfl Tryz.underlying37 rfl tsz34 rfl) ?_
                refine ox rfl rfl rfl rfl (ex_load1 rfl rfl Tryz.underlying34 rfl ((HM.at_ hc0) 2 _ rfl)) ?_
                refine ox rfl rfl rfl rfl (ex_len (d := kRef) (xs := x0.fIns) rfl rfl Tryz.underlying34 hp0_0) ?_
                refine ox rfl rfl rfl rfl (ex_lss rfl rfl rfl) ?_
                refine ops_nil (at_then ?_)
                refine run_cond (b := (decide (a2106 < (x0.fIns.length : Int)))) rfl (fun hb2129 => ?_) (fun hb2129 => ?_)
                · replace ho2085 := cond_t hb2129 ho2085
                  refine run_skip ?_
                  refine at_then ?_
                  refine run_seq ?_
                  refine run_block ?_
                  refine run_seq ?_
                  refine run_seq ?_
                  obtain ⟨e2135, ho2085⟩ := chk_some ho2085
                  obtain ⟨t2137, h2138, ho2085⟩ := bind_some ho2085
                  refine run_region rfl ?_
                  refine ox rfl rfl rfl rfl (ex_move rfl rfl) ?_
                  refine ox rfl rfl rfl rfl (ex_nilCheck rfl rfl) ?_
                  refine ox rfl rfl rfl rfl (ex_fieldAddr (off' := f0 + 2) rfl rfl Tryz.underlying37 rfl tsz34 rfl) ?_
                  refine ox rfl rfl rfl rfl (ex_load1 rfl rfl Tryz.underlying34 rfl ((HM.at_ hc0) 2 _ rfl)) ?_
                  refine ox rfl rfl rfl rfl (ex_move rfl rfl) ?_
                  have hc2136 : CellsAt _ (sb p0_0) (so p0_0 + (a2106).toNat * 2) [(.int .i64 ((gt x0.fIns a2106).fTx)), (.int .i64 ((gt x0.fIns a2106).fAt))] := rd_plain hp0_0 e2135
                  refine ox rfl rfl rfl rfl (ex_indexAddr (d := kRef) rfl rfl rfl Tryz.underlying34 tsz66 hp0_0 (idx_lo e2135) (idx_hi e2135)) ?_
                  refine ox rfl rfl rfl rfl (ex_loadN (cs := [(.int .i64 ((gt x0.fIns a2106).fTx)), (.int .i64 ((gt x0.fIns a2106).fAt))]) rfl rfl Tryz.underlying66 rfl tsz66 rfl ((HM.at_ hc2136).sub 0 2 rfl)) ?_
                  refine od rfl rfl rfl rfl (does_callk rfl callok41 rfl (spec_l3Ref.calls (x0 := (gt x0.fIns a2106)) h2138)) ?_
                  rintro _ w2139 ⟨rfl, hn⟩
                  replace HM : Mem w [] w2139 [] := HM.call hn
                  refine ox rfl rfl rfl rfl (ex_not rfl rfl) ?_
                  refine ops_nil (at_then ?_)
                  refine run_cond (b := !t2137) rfl (fun hb2140 => ?_) (fun hb2140 => ?_)
                  · replace ho2085 := cond_t hb2140 ho2085
                    refine run_seq ?_
                    refine run_region rfl ?_
                    refine ox rfl rfl rfl rfl (ex_assign rfl rfl) ?_
                    refine ops_nil (at_then ?_)
                    refine run_ret ?_
                    refine at_then_ret ?_
                    refine at_block_ret ?_
                    refine at_then_ret ?_
                    refine at_then_ret ?_
                    refine at_block_ret ?_
                    refine at_then_ret ?_
                    have hR := Option.some.inj ho2085
                    subst hR
                    have hT := thn_inl H
                    have hR := Option.some.inj hT
                    subst hR
                    exact at_ret1 rfl rfl ⟨_, rfl, rfl, HM⟩
                  · replace ho2085 := cond_f hb2140 ho2085
                    refine run_skip ?_
                    refine at_then ?_
                    refine run_seq ?_
                    obtain ⟨e2141, ho2085⟩ := chk_some ho2085
                    obtain ⟨e2145, ho2085⟩ := chk_some ho2085
                    obtain ⟨t2147, h2148, ho2085⟩ := bind_some ho2085
                    refine run_drawf (fun w_ => Mem w [] w_ []) [(0, true), (1, true), (2, true), (3, true), (4, true), (5, true), (6, true), (7, true), (8, true), (9, true), (10, true), (11, true), (12, true), (13, false)] mixed rfl rfl (by kernel_rfl) ?_
                    replace HM := HM.grow (fr_drew _)
                    have hS := Mem.suf (M := []) HM
                    refine dp rfl rfl rfl rfl (ex_move rfl rfl) hS ?_
                    refine dp rfl rfl rfl rfl (ex_nilCheck rfl rfl) hS ?_
                    refine dp rfl rfl rfl rfl (ex_fieldAddr (off' := f0 + 2) rfl rfl Tryz.underlying37 rfl tsz34 rfl) hS ?_
                    refine drwp_take rfl (guard_none rfl) rfl rfl (fun w_ hS_ => (ex_load1 rfl rfl Tryz.underlying34 rfl ((hS_.at_ hc0) 2 _ rfl))) hS ?_
                    refine dp rfl rfl rfl rfl (ex_move rfl rfl) hS ?_
                    refine drwp_takeE rfl (guard_none rfl) rfl rfl (ex_cutH kRef rfl rfl rfl Tryz.underlying34 tsz66 hp0_0 e2141) hS ?_
                    rintro u2142 hr2144
                    refine dp rfl rfl rfl rfl (ex_move rfl rfl) hS ?_
                    refine dp rfl rfl rfl rfl (ex_nilCheck rfl rfl) hS ?_
                    refine dp rfl rfl rfl rfl (ex_fieldAddr (off' := f0 + 2) rfl rfl Tryz.underlying37 rfl tsz34 rfl) hS ?_
                    refine drwp_take rfl (guard_none rfl) rfl rfl (fun w_ hS_ => (ex_load1 rfl rfl Tryz.underlying34 rfl ((hS_.at_ hc0) 2 _ rfl))) hS ?_
                    refine dp rfl rfl rfl rfl (ex_move rfl rfl) hS ?_
                    have hc2146 : CellsAt _ (sb p0_0) (so p0_0 + (a2106).toNat * 2) [(.int .i64 ((gt x0.fIns a2106).fTx)), (.int .i64 ((gt x0.fIns a2106).fAt))] := rd_plain hp0_0 e2145
                    refine dp rfl rfl rfl rfl (ex_indexAddr (d := kRef) rfl rfl rfl Tryz.underlying34 tsz66 hp0_0 (idx_lo e2145) (idx_hi e2145)) hS ?_
                    refine drwp_take rfl (guard_none rfl) rfl rfl (fun w_ hS_ => (ex_loadN (cs := [(.int .i64 ((gt x0.fIns a2106).fTx)), (.int .i64 ((gt x0.fIns a2106).fAt))]) rfl rfl Tryz.underlying66 rfl tsz66 rfl ((hS_.at_ hc2146).sub 0 2 rfl))) hS ?_
                    refine drwp_one rfl (guard_none rfl) rfl rfl (does_callk rfl callok46 rfl (spec_l3Among.calls (x0 := x0.fIns.take (a2106).toNat) (x1 := (gt x0.fIns a2106)) (HM.rd hr2144) h2148)) ?_
                    rintro _ w2149 ⟨rfl, hn⟩
                    replace HM : Mem w [] w2149 [] := HM.call hn
                    have hS := Mem.suf (M := []) HM
                    refine ⟨hS, ?_⟩
                    refine drwp_done ?_
                    refine at_then ?_
                    refine run_cond (b := t2147) rfl (fun hb2150 => ?_) (fun hb2150 => ?_)
                    · replace ho2085 := cond_t hb2150 ho2085
                      refine run_seq ?_
                      refine run_region rfl ?_
                      refine ox rfl rfl rfl rfl (ex_assign rfl rfl) ?_
                      refine ops_nil (at_then ?_)
                      refine run_ret ?_
                      refine at_block_ret ?_
                      refine at_then_ret ?_
                      refine at_then_ret ?_
                      refine at_block_ret ?_
                      refine at_then_ret ?_
                      have hR := Option.some.inj ho2085
                      subst hR
                      have hT := thn_inl H
                      have hR := Option.some.inj hT
                      subst hR
                      exact at_ret1 rfl rfl ⟨_, rfl, rfl, HM⟩
                    · replace ho2085 := cond_f hb2150 ho2085
                      refine run_skip ?_
                      refine at_block ?_
                      refine at_then ?_
                      refine run_region rfl ?_
                      refine ox rfl rfl rfl rfl (ex_move rfl rfl) ?_
                      refine ox rfl rfl rfl rfl (ex_add rfl rfl rfl) ?_
                      refine ox rfl rfl rfl rfl (ex_assign rfl rfl) ?_
                      refine ops_nil ?_
                      exact at_again k2127 (ρ1 := [(0, .pointer (some ⟨b0, f0, none⟩)), (3, .int .i64 (wrap64 (a2106 + 1)))]) (Nat.lt_succ_self _) ⟨_, ho2085, rfl, HM⟩ (Sub.cons rfl (Sub.cons rfl Sub.nil))
                · replace ho2085 := cond_f hb2129 ho2085
                  refine run_exit ?_
                  refine at_then_exit ?_
                  refine at_then_exit ?_
                  refine at_block_exit ?_
                  exact at_mid (ρ' := [(0, .pointer (some ⟨b0, f0, none⟩))]) ⟨(Option.some.inj ho2085), rfl, HM⟩ (Sub.cons rfl Sub.nil)
              · rintro _ w2151 ⟨rfl, rfl, HM⟩
                replace H := (thn_inr H)
                refine run_seq ?_
                obtain ⟨t2152, h2153, H⟩ := bind_some H
                refine run_region rfl ?_
                refine ox rfl rfl rfl rfl (ex_move rfl rfl) ?_
                refine od rfl rfl rfl rfl (does_callk rfl callok47 rfl (spec_l3Outs.calls (x0 := x0) (HM.at_ hc0) (HM.rd hp0_0) (HM.rd hp0_1) h2153)) ?_
                rintro _ w2154 ⟨rfl, hn⟩
                replace HM : Mem w [] w2154 [] := HM.call hn
                refine ox rfl rfl rfl rfl (ex_assign rfl rfl) ?_
                refine ops_nil (at_then ?_)
                refine run_ret ?_
                have hR := Option.some.inj H
                subst hR
                exact at_ret1 rfl rfl ⟨_, rfl, rfl, HM⟩

def spec_l2Copy.f (k : Nat) (x0 : Rule) : Option Rule := (chk (leB ((([] : List Int).length + x0.fKeys.length) * 8) 140737488355328) (some (⟨([] : List Int) ++ x0.fKeys, x0.fNeed, x0.fAfter⟩ : Rule)))
theorem spec_l2Copy.calls {k : Nat} {x0 : Rule} {p0_0 : Value} {w : World} (hp0_0 : RdS kInt w p0_0 x0.fKeys) {r : Rule} (H : spec_l2Copy.f k x0 = some r) :
    Calls Tryz.prog 77 ([.agg #[p0_0, (.int .i64 x0.fNeed), (.int .i64 x0.fAfter)]] : List Value).toArray w (fun e w_ => ∃ v, e = .returned v ∧ ∃ u0 : Value, v = (.agg #[u0, .int .i64 r.fNeed, .int .i64 r.fAfter]) ∧ Mem w [] w_ [own kInt 2 u0 r.fKeys]) := by
  have HM := Mem.start w
  refine calls_run (N := 9) Tryz.func77 rfl rfl rfl rfl ?_
  unfold spec_l2Copy.f at H
  refine run_seq ?_
  refine run_region rfl ?_
  refine od rfl rfl rfl rfl (does_box (cs := [p0_0, .int .i64 x0.fNeed, .int .i64 x0.fAfter]) rfl rfl rfl HM) ?_
  rintro _ w2262 ⟨b2256, rfl, HM⟩
  refine od rfl rfl rfl rfl (does_alloc (cs := [.slice none 0 0, .int .i64 0, .int .i64 0]) rfl tz68 rfl HM) ?_
  rintro _ w2263 ⟨b2259, rfl, HM⟩
  refine ops_nil (at_then (run_seq ?_))
  obtain ⟨e2267, H⟩ := chk_some H
  refine run_region rfl ?_
  refine od rfl rfl rfl rfl (does_lit (e := 2) (cs := []) (xs := ([] : List Int)) kInt rfl rfl (fun _ => by kernel_rfl) rfl rfl (fun _ _ h => by have h' : _ = [] := h; subst h'; exact .nil) HM.emp) ?_
  rintro v2264 w2270 HM
  refine ox rfl rfl rfl rfl (ex_fieldAddr (off' := 0) rfl rfl Tryz.underlying68 rfl tsz49 rfl) ?_
  refine ox rfl rfl rfl rfl (ex_load1 rfl rfl Tryz.underlying49 rfl ((HM.box_at 2 rfl) 0 _ rfl)) ?_
  refine od rfl rfl rfl rfl (does_appendR kInt flat_plain rfl rfl rfl Tryz.underlying49 tsz2 rfl tby2 tz2 rfl rfl (leB_le e2267) (HM.rd hp0_0) HM) ?_
  rintro v2268 w2271 HM
  refine ox rfl rfl rfl rfl (ex_fieldAddr (off' := 0) rfl rfl Tryz.underlying68 rfl tsz49 rfl) ?_
  replace HM := HM.front 2 rfl rfl
  refine odS rfl rfl rfl (does_store (vs := [v2268]) (cs' := [v2268, .int .i64 x0.fNeed, .int .i64 x0.fAfter]) rfl rfl rfl (rd_cells (HM.own_rd 1 rfl)) tsz49 (Ones.rd (HM.own_rd 1 rfl) Ones.nil) rfl rfl HM) ?_
  rintro w2272 HM
  refine ops_nil (at_then (run_seq ?_))
  refine run_region rfl ?_
  refine ox rfl rfl rfl rfl (ex_loadN (cs := [v2268, (.int .i64 x0.fNeed), (.int .i64 x0.fAfter)]) rfl rfl Tryz.underlying68 rfl tsz68 rfl ((HM.box_at 0 rfl).sub 0 3 rfl)) ?_
  replace HM := HM.front 2 rfl rfl
  refine odS rfl rfl rfl (does_store (vs := [v2268, .int .i64 x0.fNeed, .int .i64 x0.fAfter]) (cs' := [v2268, .int .i64 x0.fNeed, .int .i64 x0.fAfter]) rfl rfl rfl rfl tsz68 (Ones.rd (HM.own_rd 2 rfl) (Ones.int (Ones.int Ones.nil))) rfl rfl HM) ?_
  rintro w2273 HM
  refine ops_nil (at_then ?_)
  refine run_ret ?_
  replace HM := (HM.front 1 rfl rfl).drop
  have hcb0 := HM.box_at 0 rfl
  replace HM := (HM.front 0 rfl rfl).drop
  have hR := Option.some.inj H
  subst hR
  exact at_retN rfl rfl Tryz.underlying68 rfl tsz68 rfl hcb0 ⟨_, rfl, _, rfl, HM⟩

def spec_l4Copy.l0 (x0 : List Coin) : Nat → (List Coin) → Int → Option ((List Coin))
  | 0, _, _ => none
  | k + 1, a2415, a2417 => (bif (decide (a2417 < (x0.length : Int))) then (chk (idxOk a2417 x0.length) ((spec_l2Copy.f k ((gt x0 a2417).fOut.fRule)).bind fun t2448 => (chk (leB ((a2415.length + ([(⟨(gt x0 a2417).fRef, (⟨(gt x0 a2417).fOut.fValue, t2448⟩ : Out), (gt x0 a2417).fHeight, (gt x0 a2417).fMined⟩ : Coin)] : List Coin).length) * 80) 140737488355328) (spec_l4Copy.l0 x0 k (a2415 ++ ([(⟨(gt x0 a2417).fRef, (⟨(gt x0 a2417).fOut.fValue, t2448⟩ : Out), (gt x0 a2417).fHeight, (gt x0 a2417).fMined⟩ : Coin)] : List Coin)) (wrap64 (a2417 + 1)))))) else some a2415)
theorem spec_l4Copy.l0_z (x0 : List Coin) (a2415 : List Coin) (a2417 : Int) : spec_l4Copy.l0 x0 0 a2415 a2417 = none := rfl
theorem spec_l4Copy.l0_s (x0 : List Coin) (k : Nat) (a2415 : List Coin) (a2417 : Int) : spec_l4Copy.l0 x0 (k + 1) a2415 a2417 = (bif (decide (a2417 < (x0.length : Int))) then (chk (idxOk a2417 x0.length) ((spec_l2Copy.f k ((gt x0 a2417).fOut.fRule)).bind fun t2448 => (chk (leB ((a2415.length + ([(⟨(gt x0 a2417).fRef, (⟨(gt x0 a2417).fOut.fValue, t2448⟩ : Out), (gt x0 a2417).fHeight, (gt x0 a2417).fMined⟩ : Coin)] : List Coin).length) * 80) 140737488355328) (spec_l4Copy.l0 x0 k (a2415 ++ ([(⟨(gt x0 a2417).fRef, (⟨(gt x0 a2417).fOut.fValue, t2448⟩ : Out), (gt x0 a2417).fHeight, (gt x0 a2417).fMined⟩ : Coin)] : List Coin)) (wrap64 (a2417 + 1)))))) else some a2415) := rfl
def spec_l4Copy.f (k : Nat) (x0 : List Coin) : Option ((List Coin)) := ((spec_l4Copy.l0 x0 k ([] : List Coin) 0).bind (fun a2392 => some a2392))
theorem spec_l4Copy.calls {k : Nat} {x0 : List Coin} {p0 : Value} {w : World} (hp0 : RdS kCoin w p0 x0) {r : (List Coin)} (H : spec_l4Copy.f k x0 = some r) :
    Calls Tryz.prog 48 ([p0] : List Value).toArray w (fun e w_ => ∃ v, e = .returned v ∧ ∃ u0 : Value, v = u0 ∧ Mem w [] w_ [own kCoin 72 u0 r]) := by
  have HM := Mem.start w
  refine calls_run (N := 28) Tryz.func48 rfl rfl rfl rfl ?_
  unfold spec_l4Copy.f at H
  refine run_seq ?_
  refine run_region rfl ?_
  refine ox rfl rfl rfl rfl (ex_assign rfl rfl) ?_
  refine ops_nil (at_then (run_seq ?_))
  refine run_region rfl ?_
  refine od rfl rfl rfl rfl (does_lit (e := 72) (cs := []) (xs := ([] : List Coin)) kCoin rfl rfl (fun _ => by kernel_rfl) rfl rfl (fun _ _ h => by have h' : _ = [] := h; subst h'; exact .nil) HM.emp) ?_
  rintro v2329 w2332 HM
  refine ox rfl rfl rfl rfl (ex_assign rfl rfl) ?_
  refine ops_nil (at_then ?_)
  obtain ⟨o2394, ho2395, H⟩ := bind_some H
  refine run_mid (fun ρ_ w_ => ∃ v2391 : Value, ∃ a2392 : List Coin, a2392 = o2394 ∧ ρ_ = [(3, v2391)] ∧ Mem w [] w_ [own kCoin 72 v2391 a2392]) ?_ ?_
  · clear H
    refine run_seq ?_
    refine run_region rfl ?_
    refine ox rfl rfl rfl rfl (ex_assign rfl rfl) ?_
    refine ops_nil (at_then ?_)
    refine run_block ?_
    refine run_loop (fun k_ ρ_ w_ => ∃ v2414 : Value, ∃ a2415 : List Coin, ∃ a2417 : Int, spec_l4Copy.l0 x0 k_ a2415 a2417 = some o2394 ∧ ρ_ = [(0, p0), (3, v2414), (4, .int .i64 a2417)] ∧ Mem w [] w_ [own kCoin 72 v2414 a2415]) k (ρ1 := [(0, p0), (3, v2329), (4, .int .i64 0)]) ⟨_, _, _, ho2395, rfl, HM⟩ (Sub.cons rfl (Sub.cons rfl (Sub.cons rfl Sub.nil))) ?_
    clear HM ho2395
    rintro k2436 _ w2437 ⟨v2414, a2415, a2417, ho2395, rfl, HM⟩
    obtain _ | k2436 := k2436
    · exact nomatch ((spec_l4Copy.l0_z x0 a2415 a2417).symm.trans ho2395)
    replace ho2395 := (spec_l4Copy.l0_s x0 k2436 a2415 a2417).symm.trans ho2395
    refine run_seq ?_
    refine run_seq ?_
    refine run_region rfl ?_
    refine ox rfl rfl rfl rfl (ex_move rfl rfl) ?_
    refine ox rfl rfl rfl rfl (ex_move rfl rfl) ?_
    refine ox rfl rfl rfl rfl (ex_len (d := kCoin) (xs := x0) rfl rfl Tryz.underlying29 hp0) ?_
    refine ox rfl rfl rfl rfl (ex_lss rfl rfl rfl) ?_
    refine ops_nil (at_then ?_)
    refine run_cond (b := (decide (a2417 < (x0.length : Int)))) rfl (fun hb2438 => ?_) (fun hb2438 => ?_)
    · replace ho2395 := cond_t hb2438 ho2395
      refine run_skip ?_
      refine at_then ?_
      refine run_seq ?_
      refine run_block ?_
      refine run_seq ?_
      obtain ⟨e2439, ho2395⟩ := chk_some ho2395
      refine run_region rfl ?_
      refine ox rfl rfl rfl rfl (ex_move rfl rfl) ?_
      refine ox rfl rfl rfl rfl (ex_move rfl rfl) ?_
      obtain ⟨kv2441, hc2440, hk2442⟩ : ∃ u, CellsAt _ (sb p0) (so p0 + (a2417).toNat * 8) [(.int .i64 ((gt x0 a2417).fRef.fTx)), (.int .i64 ((gt x0 a2417).fRef.fAt)), (.int .i64 ((gt x0 a2417).fOut.fValue)), u, (.int .i64 ((gt x0 a2417).fOut.fRule.fNeed)), (.int .i64 ((gt x0 a2417).fOut.fRule.fAfter)), (.int .i64 ((gt x0 a2417).fHeight)), (.bool ((gt x0 a2417).fMined))] ∧ RdS kInt _ u ((gt x0 a2417).fOut.fRule.fKeys) := rd_with1 hp0 e2439
      refine ox rfl rfl rfl rfl (ex_indexAddr (d := kCoin) rfl rfl rfl Tryz.underlying29 tsz72 hp0 (idx_lo e2439) (idx_hi e2439)) ?_
      refine ox rfl rfl rfl rfl (ex_loadN (cs := [(.int .i64 ((gt x0 a2417).fRef.fTx)), (.int .i64 ((gt x0 a2417).fRef.fAt)), (.int .i64 ((gt x0 a2417).fOut.fValue)), kv2441, (.int .i64 ((gt x0 a2417).fOut.fRule.fNeed)), (.int .i64 ((gt x0 a2417).fOut.fRule.fAfter)), (.int .i64 ((gt x0 a2417).fHeight)), (.bool ((gt x0 a2417).fMined))]) rfl rfl Tryz.underlying72 rfl tsz72 rfl ((HM.at_ hc2440).sub 0 8 rfl)) ?_
      refine od rfl rfl rfl rfl (does_alloc (cs := [.int .i64 0, .int .i64 0, .int .i64 0, .slice none 0 0, .int .i64 0, .int .i64 0, .int .i64 0, .bool false]) rfl tz72 rfl HM) ?_
      rintro _ w2446 ⟨b2443, rfl, HM⟩
      refine odS rfl rfl rfl (does_store (vs := [.int .i64 ((gt x0 a2417).fRef.fTx), .int .i64 ((gt x0 a2417).fRef.fAt), .int .i64 ((gt x0 a2417).fOut.fValue), kv2441, .int .i64 ((gt x0 a2417).fOut.fRule.fNeed), .int .i64 ((gt x0 a2417).fOut.fRule.fAfter), .int .i64 ((gt x0 a2417).fHeight), .bool ((gt x0 a2417).fMined)]) (cs' := [.int .i64 ((gt x0 a2417).fRef.fTx), .int .i64 ((gt x0 a2417).fRef.fAt), .int .i64 ((gt x0 a2417).fOut.fValue), kv2441, .int .i64 ((gt x0 a2417).fOut.fRule.fNeed), .int .i64 ((gt x0 a2417).fOut.fRule.fAfter), .int .i64 ((gt x0 a2417).fHeight), .bool ((gt x0 a2417).fMined)]) rfl rfl rfl rfl tsz72 (Ones.int (Ones.int (Ones.int (Ones.rd hk2442 (Ones.int (Ones.int (Ones.int (Ones.bool Ones.nil)))))))) rfl rfl HM) ?_
      rintro w2447 HM
      refine ops_nil (at_then (run_seq ?_))
      obtain ⟨t2448, h2449, ho2395⟩ := bind_some ho2395
      refine run_region rfl ?_
      refine ox rfl rfl rfl rfl (ex_fieldAddr (off' := 2) rfl rfl Tryz.underlying72 rfl tsz70 rfl) ?_
      refine ox rfl rfl rfl rfl (ex_fieldAddr (off' := 3) rfl rfl Tryz.underlying70 rfl tsz68 rfl) ?_
      refine ox rfl rfl rfl rfl (ex_loadN (cs := [kv2441, (.int .i64 ((gt x0 a2417).fOut.fRule.fNeed)), (.int .i64 ((gt x0 a2417).fOut.fRule.fAfter))]) rfl rfl Tryz.underlying68 rfl tsz68 rfl ((HM.box_at 0 rfl).sub 3 3 rfl)) ?_
      refine od rfl rfl rfl rfl (does_callk rfl callok77 rfl (spec_l2Copy.calls (x0 := (gt x0 a2417).fOut.fRule) (HM.rd hk2442) h2449)) ?_
      rintro _ w2452 ⟨u2450, rfl, hn⟩
      replace HM : Mem w [] w2452 [own kInt 2 u2450 t2448.fKeys, box b2443 72 [.int .i64 ((gt x0 a2417).fRef.fTx), .int .i64 ((gt x0 a2417).fRef.fAt), .int .i64 ((gt x0 a2417).fOut.fValue), kv2441, .int .i64 ((gt x0 a2417).fOut.fRule.fNeed), .int .i64 ((gt x0 a2417).fOut.fRule.fAfter), .int .i64 ((gt x0 a2417).fHeight), .bool ((gt x0 a2417).fMined)], own kCoin 72 v2414 a2415] := HM.call hn
      refine ox rfl rfl rfl rfl (ex_fieldAddr (off' := 2) rfl rfl Tryz.underlying72 rfl tsz70 rfl) ?_
      refine ox rfl rfl rfl rfl (ex_fieldAddr (off' := 3) rfl rfl Tryz.underlying70 rfl tsz68 rfl) ?_
      replace HM := HM.front 1 rfl rfl
      refine odS rfl rfl rfl (does_store (vs := [u2450, .int .i64 t2448.fNeed, .int .i64 t2448.fAfter]) (cs' := [.int .i64 ((gt x0 a2417).fRef.fTx), .int .i64 ((gt x0 a2417).fRef.fAt), .int .i64 ((gt x0 a2417).fOut.fValue), u2450, .int .i64 t2448.fNeed, .int .i64 t2448.fAfter, .int .i64 ((gt x0 a2417).fHeight), .bool ((gt x0 a2417).fMined)]) rfl rfl rfl rfl tsz68 (Ones.rd (HM.own_rd 1 rfl) (Ones.int (Ones.int Ones.nil))) rfl rfl HM) ?_
      rintro w2453 HM
      refine ops_nil (at_then ?_)
      obtain ⟨e2457, ho2395⟩ := chk_some ho2395
      refine run_region rfl ?_
      refine ox rfl rfl rfl rfl (ex_move rfl rfl) ?_
      refine ox rfl rfl rfl rfl (ex_loadN (cs := [(.int .i64 ((gt x0 a2417).fRef.fTx)), (.int .i64 ((gt x0 a2417).fRef.fAt)), (.int .i64 ((gt x0 a2417).fOut.fValue)), u2450, (.int .i64 t2448.fNeed), (.int .i64 t2448.fAfter), (.int .i64 ((gt x0 a2417).fHeight)), (.bool ((gt x0 a2417).fMined))]) rfl rfl Tryz.underlying72 rfl tsz72 rfl ((HM.box_at 0 rfl).sub 0 8 rfl)) ?_
      replace HM := HM.front 1 rfl rfl
      refine od rfl rfl rfl rfl (does_lit (e := 72) (cs := [(.int .i64 ((gt x0 a2417).fRef.fTx)), (.int .i64 ((gt x0 a2417).fRef.fAt)), (.int .i64 ((gt x0 a2417).fOut.fValue)), u2450, (.int .i64 t2448.fNeed), (.int .i64 t2448.fAfter), (.int .i64 ((gt x0 a2417).fHeight)), (.bool ((gt x0 a2417).fMined))]) (xs := ([(⟨(gt x0 a2417).fRef, (⟨(gt x0 a2417).fOut.fValue, t2448⟩ : Out), (gt x0 a2417).fHeight, (gt x0 a2417).fMined⟩ : Coin)] : List Coin)) kCoin rfl rfl (fun _ => by kernel_rfl) rfl rfl (fun _ _ h => by have := Elems.cons (d := kCoin) (x := (⟨(gt x0 a2417).fRef, (⟨(gt x0 a2417).fOut.fValue, t2448⟩ : Out), (gt x0 a2417).fHeight, (gt x0 a2417).fMined⟩ : Coin)) ⟨_, rfl, h⟩ .nil; rw [List.append_nil, List.append_nil] at this; exact this) HM) ?_
      rintro v2454 w2460 HM
      replace HM := HM.front 2 rfl rfl
      refine od rfl rfl rfl rfl (does_append kCoin rfl rfl rfl Tryz.underlying29 tsz72 rfl tby72 tz72 rfl rfl (leB_le e2457) HM) ?_
      rintro v2458 w2461 HM
      refine ox rfl rfl rfl rfl (ex_assign rfl rfl) ?_
      refine ops_nil ?_
      refine at_block ?_
      refine at_then ?_
      refine run_region rfl ?_
      refine ox rfl rfl rfl rfl (ex_move rfl rfl) ?_
      refine ox rfl rfl rfl rfl (ex_add rfl rfl rfl) ?_
      refine ox rfl rfl rfl rfl (ex_assign rfl rfl) ?_
      refine ops_nil ?_
      replace HM := (HM.front 1 rfl rfl).drop
      exact at_again k2436 (ρ1 := [(0, p0), (3, v2458), (4, .int .i64 (wrap64 (a2417 + 1)))]) (Nat.lt_succ_self _) ⟨_, _, _, ho2395, rfl, HM⟩ (Sub.cons rfl (Sub.cons rfl (Sub.cons rfl Sub.nil)))
    · replace ho2395 := cond_f hb2438 ho2395
      refine run_exit ?_
      refine at_then_exit ?_
      refine at_then_exit ?_
      refine at_block_exit ?_
      exact at_mid (ρ' := [(3, v2414)]) ⟨_, _, (Option.some.inj ho2395), rfl, HM⟩ (Sub.cons rfl Sub.nil)
  · rintro _ w2462 ⟨v2391, a2392, rfl, rfl, HM⟩
    refine run_seq ?_
    refine run_region rfl ?_
    refine ox rfl rfl rfl rfl (ex_move rfl rfl) ?_
    refine ox rfl rfl rfl rfl (ex_assign rfl rfl) ?_
    refine ops_nil (at_then ?_)
    refine run_ret ?_
    have hR := Option.some.inj H
    subst hR
    exact at_ret1 rfl rfl ⟨_, rfl, _, rfl, HM⟩
end Go.Proofs.YtecgbhfgkkpmhabGreat.Zk
