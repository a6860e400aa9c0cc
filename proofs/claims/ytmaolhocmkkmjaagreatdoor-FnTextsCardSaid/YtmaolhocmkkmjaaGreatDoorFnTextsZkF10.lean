/- What functions of the program compute, each as a plain function, and that they do. Conditions: as each theorem states them. -/
import Derived.Test.YtmaolhocmkkmjaaGreatDoorFnTextsZkF9
namespace Go.Proofs.YtmaolhocmkkmjaaGreatDoor.Zk
open Go Go.RowKit Go.IntWalk Go.Proofs
set_option linter.unusedVariables false
set_option linter.unusedSimpArgs false
set_option maxRecDepth 100000
set_option maxHeartbeats 4000000
def spec_DrawTxText.f (k : Nat) (x0 : List Int) : Option Tx := ((spec_l1Source.f k x0).bind fun t6980 => ((spec_l3Bent.f k (⟨x0, t6980⟩ : l1Src)).bind fun t6984 => some (⟨t6984.1.fKind, t6984.1.fMember, t6984.1.fIns, t6984.1.fOuts⟩ : Tx)))
theorem spec_DrawTxText.calls {k : Nat} {x0 : List Int} {p0 : Value} {w : World} (hp0 : RdS kU8 w p0 x0) {r : Tx} (H : spec_DrawTxText.f k x0 = some r) :
    Calls Tryz.prog 9 ([p0] : List Value).toArray w (fun e w_ => ∃ v, e = .returned v ∧ ∃ u0 : Value, ∃ u1 : Value, v = (.agg #[.int .i64 r.fKind, .int .i64 r.fMember, u0, u1]) ∧ Mem w [] w_ [own kRef 62 u0 r.fIns, own kOut 44 u1 r.fOuts]) := by
  have HM := Mem.start w
  refine calls_run (N := 6) Tryz.func9 rfl rfl rfl rfl ?_
  unfold spec_DrawTxText.f at H
  refine run_seq ?_
  refine run_region rfl ?_
  refine od rfl rfl rfl rfl (does_alloc (cs := [.int .i64 0, .int .i64 0, .slice none 0 0, .slice none 0 0]) rfl tz28 rfl HM) ?_
  rintro _ w6979 ⟨b6976, rfl, HM⟩
  refine ops_nil (at_then (run_seq ?_))
  obtain ⟨t6980, h6981, H⟩ := bind_some H
  obtain ⟨t6984, h6985, H⟩ := bind_some H
  refine run_region rfl ?_
  refine ox rfl rfl rfl rfl (ex_move rfl rfl) ?_
  refine od rfl rfl rfl rfl (does_callk rfl callok16 rfl (spec_l1Source.calls (x0 := x0) (HM.rd hp0) h6981)) ?_
  rintro _ w6996 ⟨b6982, rfl, hn⟩
  replace HM : Mem w [] w6996 [box b6982 70 [p0, .int .i64 t6980], box b6976 28 [.int .i64 0, .int .i64 0, .slice none 0 0, .slice none 0 0]] := HM.call hn
  obtain ⟨F6990, hF6991, hFn6992, hFl6993, HMh6994, hcl6995⟩ := HM.hide (Ms := [box b6982 70 [p0, .int .i64 t6980]])
  refine od rfl rfl rfl rfl (does_callk rfl callok24 rfl (spec_l3Bent.calls (x0 := (⟨x0, t6980⟩ : l1Src)) (hide_olds _ _) hF6991 hFn6992 hFl6993 (HMh6994.rd hp0) h6985)) ?_
  rintro _ w6997 ⟨u6986, u6988, rfl, hn⟩
  replace HM : Mem w [] w6997 [own kRef 62 u6986 t6984.1.fIns, own kOut 44 u6988 t6984.1.fOuts, box b6982 70 [p0, .int .i64 t6984.2], box b6976 28 [.int .i64 0, .int .i64 0, .slice none 0 0, .slice none 0 0]] := hcl6995 _ _ hn
  replace HM := HM.front 3 rfl rfl
  refine odS rfl rfl rfl (does_store (vs := [.int .i64 t6984.1.fKind, .int .i64 t6984.1.fMember, u6986, u6988]) (cs' := [.int .i64 t6984.1.fKind, .int .i64 t6984.1.fMember, u6986, u6988]) rfl rfl rfl rfl tsz28 (Ones.int (Ones.int (Ones.rd (HM.own_rd 1 rfl) (Ones.rd (HM.own_rd 2 rfl) Ones.nil)))) rfl rfl HM) ?_
  rintro w6998 HM
  refine ops_nil (at_then ?_)
  refine run_ret ?_
  replace HM := (HM.front 3 rfl rfl).drop
  have hcb0 := HM.box_at 0 rfl
  replace HM := (HM.front 0 rfl rfl).drop
  have hR := Option.some.inj H
  subst hR
  exact at_retN rfl rfl Tryz.underlying28 rfl tsz28 rfl hcb0 ⟨_, rfl, _, _, rfl, HM⟩

def spec_TxText.f (k : Nat) (x0 : Tx) : Option TextResult := ((spec_l3Fault.f k x0).bind fun t7040 => (bif (t7040 != 0) then some (⟨t7040, (⟨#[]⟩ : ByteArray)⟩ : TextResult) else ((spec_l3Text.f k x0).bind fun t7045 => (bif (decide (300 < (t7045.size : Int))) then some (⟨2, (⟨#[]⟩ : ByteArray)⟩ : TextResult) else some (⟨0, t7045⟩ : TextResult)))))
theorem spec_TxText.calls {k : Nat} {x0 : Tx} {p0_0 : Value} {p0_1 : Value} {w : World} (hp0_0 : RdS kRef w p0_0 x0.fIns) (hp0_1 : RdS kOut w p0_1 x0.fOuts) {r : TextResult} (H : spec_TxText.f k x0 = some r) :
    Calls Tryz.prog 10 ([.agg #[(.int .i64 x0.fKind), (.int .i64 x0.fMember), p0_0, p0_1]] : List Value).toArray w (fun e w_ => ∃ v, e = .returned v ∧ v = (.agg #[.int .i64 r.fCode, .string r.fText]) ∧ Mem w [] w_ []) := by
  have HM := Mem.start w
  refine calls_run (N := 17) Tryz.func10 rfl rfl rfl rfl ?_
  unfold spec_TxText.f at H
  refine run_seq ?_
  refine run_region rfl ?_
  refine od rfl rfl rfl rfl (does_box (cs := [.int .i64 x0.fKind, .int .i64 x0.fMember, p0_0, p0_1]) rfl rfl rfl HM) ?_
  rintro _ w7035 ⟨b7029, rfl, HM⟩
  refine od rfl rfl rfl rfl (does_alloc (cs := [.int .i64 0, .string (⟨#[]⟩ : ByteArray)]) rfl tz33 rfl HM) ?_
  rintro _ w7036 ⟨b7032, rfl, HM⟩
  refine ops_nil (at_then (run_seq ?_))
  refine run_seq ?_
  obtain ⟨t7040, h7041, H⟩ := bind_some H
  refine run_region rfl ?_
  refine od rfl rfl rfl rfl (does_callk rfl callok25 rfl (spec_l3Fault.calls (x0 := x0) (HM.box_at 1 rfl) (HM.rd hp0_0) (HM.rd hp0_1) h7041)) ?_
  rintro _ w7042 ⟨rfl, hn⟩
  replace HM : Mem w [] w7042 [box b7032 33 [.int .i64 0, .string (⟨#[]⟩ : ByteArray)], box b7029 28 [.int .i64 x0.fKind, .int .i64 x0.fMember, p0_0, p0_1]] := HM.call hn
  refine ox rfl rfl rfl rfl (ex_assign rfl rfl) ?_
  refine ops_nil (at_then (run_seq ?_))
  refine run_region rfl ?_
  refine ox rfl rfl rfl rfl (ex_move rfl rfl) ?_
  refine ox rfl rfl rfl rfl (ex_neq rfl rfl rfl) ?_
  refine ops_nil (at_then ?_)
  refine run_cond (b := (t7040 != 0)) rfl (fun hb7043 => ?_) (fun hb7043 => ?_)
  · replace H := cond_t hb7043 H
    refine run_seq ?_
    refine run_region rfl ?_
    refine ox rfl rfl rfl rfl (ex_move rfl rfl) ?_
    refine ox rfl rfl rfl rfl (ex_build (cells := #[(.int .i64 t7040), (.string (⟨#[]⟩ : ByteArray))]) rfl rfl (by kernel_rfl)) ?_
    refine odS rfl rfl rfl (does_store (vs := [.int .i64 t7040, .string (⟨#[]⟩ : ByteArray)]) (cs' := [.int .i64 t7040, .string (⟨#[]⟩ : ByteArray)]) rfl rfl rfl rfl tsz33 (Ones.int (Ones.str Ones.nil)) rfl rfl HM) ?_
    rintro w7044 HM
    refine ops_nil (at_then ?_)
    refine run_ret ?_
    refine at_then_ret ?_
    replace HM := (HM.front 1 rfl rfl).drop
    have hcb0 := HM.box_at 0 rfl
    replace HM := (HM.front 0 rfl rfl).drop
    have hR := Option.some.inj H
    subst hR
    exact at_retN rfl rfl Tryz.underlying33 rfl tsz33 rfl hcb0 ⟨_, rfl, rfl, HM⟩
  · replace H := cond_f hb7043 H
    refine run_skip ?_
    refine at_then ?_
    refine run_seq ?_
    obtain ⟨t7045, h7046, H⟩ := bind_some H
    refine run_region rfl ?_
    refine od rfl rfl rfl rfl (does_callk rfl callok18 rfl (spec_l3Text.calls (x0 := x0) (HM.box_at 1 rfl) (HM.rd hp0_0) (HM.rd hp0_1) h7046)) ?_
    rintro _ w7047 ⟨rfl, hn⟩
    replace HM : Mem w [] w7047 [box b7032 33 [.int .i64 0, .string (⟨#[]⟩ : ByteArray)], box b7029 28 [.int .i64 x0.fKind, .int .i64 x0.fMember, p0_0, p0_1]] := HM.call hn
    refine ox rfl rfl rfl rfl (ex_assign rfl rfl) ?_
    refine ops_nil (at_then (run_seq ?_))
    refine run_seq ?_
    refine run_region rfl ?_
    refine ox rfl rfl rfl rfl (ex_move rfl rfl) ?_
    refine ox rfl rfl rfl rfl (ex_strlen rfl rfl Tryz.underlying9) ?_
    refine ox rfl rfl rfl rfl (ex_gtr rfl rfl rfl) ?_
    refine ops_nil (at_then ?_)
    refine run_cond (b := (decide (300 < (t7045.size : Int)))) rfl (fun hb7048 => ?_) (fun hb7048 => ?_)
    · replace H := cond_t hb7048 H
      refine run_seq ?_
      refine run_region rfl ?_
      refine ox rfl rfl rfl rfl (ex_build (cells := #[(.int .i64 2), (.string (⟨#[]⟩ : ByteArray))]) rfl rfl (by kernel_rfl)) ?_
      refine odS rfl rfl rfl (does_store (vs := [.int .i64 2, .string (⟨#[]⟩ : ByteArray)]) (cs' := [.int .i64 2, .string (⟨#[]⟩ : ByteArray)]) rfl rfl rfl rfl tsz33 (Ones.int (Ones.str Ones.nil)) rfl rfl HM) ?_
      rintro w7049 HM
      refine ops_nil (at_then ?_)
      refine run_ret ?_
      refine at_then_ret ?_
      replace HM := (HM.front 1 rfl rfl).drop
      have hcb0 := HM.box_at 0 rfl
      replace HM := (HM.front 0 rfl rfl).drop
      have hR := Option.some.inj H
      subst hR
      exact at_retN rfl rfl Tryz.underlying33 rfl tsz33 rfl hcb0 ⟨_, rfl, rfl, HM⟩
    · replace H := cond_f hb7048 H
      refine run_skip ?_
      refine at_then ?_
      refine run_seq ?_
      refine run_region rfl ?_
      refine ox rfl rfl rfl rfl (ex_move rfl rfl) ?_
      refine ox rfl rfl rfl rfl (ex_build (cells := #[(.int .i64 0), (.string t7045)]) rfl rfl (by kernel_rfl)) ?_
      refine odS rfl rfl rfl (does_store (vs := [.int .i64 0, .string t7045]) (cs' := [.int .i64 0, .string t7045]) rfl rfl rfl rfl tsz33 (Ones.int (Ones.str Ones.nil)) rfl rfl HM) ?_
      rintro w7050 HM
      refine ops_nil (at_then ?_)
      refine run_ret ?_
      replace HM := (HM.front 1 rfl rfl).drop
      have hcb0 := HM.box_at 0 rfl
      replace HM := (HM.front 0 rfl rfl).drop
      have hR := Option.some.inj H
      subst hR
      exact at_retN rfl rfl Tryz.underlying33 rfl tsz33 rfl hcb0 ⟨_, rfl, rfl, HM⟩

def spec_TxFault.f (k : Nat) (x0 : Tx) : Option Int := ((spec_l3Fault.f k x0).bind fun t7064 => some t7064)
theorem spec_TxFault.calls {k : Nat} {x0 : Tx} {p0_0 : Value} {p0_1 : Value} {w : World} (hp0_0 : RdS kRef w p0_0 x0.fIns) (hp0_1 : RdS kOut w p0_1 x0.fOuts) {r : Int} (H : spec_TxFault.f k x0 = some r) :
    Calls Tryz.prog 12 ([.agg #[(.int .i64 x0.fKind), (.int .i64 x0.fMember), p0_0, p0_1]] : List Value).toArray w (fun e w_ => ∃ v, e = .returned v ∧ v = (.int .i64 r) ∧ Mem w [] w_ []) := by
  have HM := Mem.start w
  refine calls_run (N := 4) Tryz.func12 rfl rfl rfl rfl ?_
  unfold spec_TxFault.f at H
  refine run_seq ?_
  refine run_region rfl ?_
  refine od rfl rfl rfl rfl (does_box (cs := [.int .i64 x0.fKind, .int .i64 x0.fMember, p0_0, p0_1]) rfl rfl rfl HM) ?_
  rintro _ w7063 ⟨b7060, rfl, HM⟩
  refine ox rfl rfl rfl rfl (ex_assign rfl rfl) ?_
  refine ops_nil (at_then (run_seq ?_))
  obtain ⟨t7064, h7065, H⟩ := bind_some H
  refine run_region rfl ?_
  refine od rfl rfl rfl rfl (does_callk rfl callok25 rfl (spec_l3Fault.calls (x0 := x0) (HM.box_at 0 rfl) (HM.rd hp0_0) (HM.rd hp0_1) h7065)) ?_
  rintro _ w7066 ⟨rfl, hn⟩
  replace HM : Mem w [] w7066 [box b7060 28 [.int .i64 x0.fKind, .int .i64 x0.fMember, p0_0, p0_1]] := HM.call hn
  refine ox rfl rfl rfl rfl (ex_assign rfl rfl) ?_
  refine ops_nil (at_then ?_)
  refine run_ret ?_
  replace HM := (HM.front 0 rfl rfl).drop
  have hR := Option.some.inj H
  subst hR
  exact at_ret1 rfl rfl ⟨_, rfl, rfl, HM⟩

def impl_outSum.l0 (x0 : Tx) : Nat → Int → Int → Option Int
  | 0, _, _ => none
  | k + 1, a7158, a7159 => (bif (decide (a7159 < (x0.fOuts.length : Int))) then (chk (idxOk a7159 x0.fOuts.length) (impl_outSum.l0 x0 k (wrap64 (a7158 + ((gt x0.fOuts a7159).fValue))) (wrap64 (a7159 + 1)))) else some a7158)
theorem impl_outSum.l0_z (x0 : Tx) (a7158 : Int) (a7159 : Int) : impl_outSum.l0 x0 0 a7158 a7159 = none := rfl
theorem impl_outSum.l0_s (x0 : Tx) (k : Nat) (a7158 : Int) (a7159 : Int) : impl_outSum.l0 x0 (k + 1) a7158 a7159 = (bif (decide (a7159 < (x0.fOuts.length : Int))) then (chk (idxOk a7159 x0.fOuts.length) (impl_outSum.l0 x0 k (wrap64 (a7158 + ((gt x0.fOuts a7159).fValue))) (wrap64 (a7159 + 1)))) else some a7158) := rfl
def impl_outSum.f (k : Nat) (x0 : Tx) : Option Int := ((impl_outSum.l0 x0 k 0 0).bind (fun a7147 => some a7147))
theorem impl_outSum.calls {k : Nat} {x0 : Tx} {p0_0 : Value} {p0_1 : Value} {w : World} (hp0_0 : RdS kRef w p0_0 x0.fIns) (hp0_1 : RdS kOut w p0_1 x0.fOuts) {r : Int} (H : impl_outSum.f k x0 = some r) :
    Calls Tryz.prog 32 ([.agg #[(.int .i64 x0.fKind), (.int .i64 x0.fMember), p0_0, p0_1]] : List Value).toArray w (fun e w_ => ∃ v, e = .returned v ∧ v = (.int .i64 r) ∧ Mem w [] w_ []) := by
  have HM := Mem.start w
  refine calls_run (N := 19) Tryz.func32 rfl rfl rfl rfl ?_
  unfold impl_outSum.f at H
  refine run_seq ?_
  refine run_region rfl ?_
  refine od rfl rfl rfl rfl (does_box (cs := [.int .i64 x0.fKind, .int .i64 x0.fMember, p0_0, p0_1]) rfl rfl rfl HM) ?_
  rintro _ w7120 ⟨b7117, rfl, HM⟩
  refine ox rfl rfl rfl rfl (ex_assign rfl rfl) ?_
  refine ops_nil (at_then (run_seq ?_))
  refine run_region rfl ?_
  refine ox rfl rfl rfl rfl (ex_assign rfl rfl) ?_
  refine ops_nil (at_then ?_)
  obtain ⟨o7148, ho7149, H⟩ := bind_some H
  refine run_mid (fun ρ_ w_ => ∃ a7147 : Int, a7147 = o7148 ∧ ρ_ = [(3, .int .i64 a7147)] ∧ Mem w [] w_ []) ?_ ?_
  · clear H
    refine run_seq ?_
    refine run_region rfl ?_
    refine ox rfl rfl rfl rfl (ex_fieldAddr (off' := 3) rfl rfl Tryz.underlying28 rfl tsz26 rfl) ?_
    refine ox rfl rfl rfl rfl (ex_load1 rfl rfl Tryz.underlying26 rfl ((HM.box_at 0 rfl) 3 _ rfl)) ?_
    refine ox rfl rfl rfl rfl (ex_len (d := kOut) (xs := x0.fOuts) rfl rfl Tryz.underlying26 hp0_1) ?_
    refine ox rfl rfl rfl rfl (ex_move rfl rfl) ?_
    refine ops_nil (at_then ?_)
    refine run_block ?_
    replace HM := (HM.front 0 rfl rfl).drop
    refine run_loop (fun k_ ρ_ w_ => ∃ a7158 : Int, ∃ a7159 : Int, impl_outSum.l0 x0 k_ a7158 a7159 = some o7148 ∧ ρ_ = [(3, .int .i64 a7158), (7, p0_1), (8, .int .i64 (x0.fOuts.length : Int)), (9, .int .i64 a7159)] ∧ Mem w [] w_ []) k (ρ1 := [(3, .int .i64 0), (7, p0_1), (8, .int .i64 (x0.fOuts.length : Int)), (9, .int .i64 0)]) ⟨_, _, ho7149, rfl, HM⟩ (Sub.cons rfl (Sub.cons rfl (Sub.cons rfl (Sub.cons rfl Sub.nil)))) ?_
    clear HM ho7149
    rintro k7168 _ w7169 ⟨a7158, a7159, ho7149, rfl, HM⟩
    obtain _ | k7168 := k7168
    · exact nomatch ((impl_outSum.l0_z x0 a7158 a7159).symm.trans ho7149)
    replace ho7149 := (impl_outSum.l0_s x0 k7168 a7158 a7159).symm.trans ho7149
    refine run_seq ?_
    refine run_region rfl ?_
    refine ox rfl rfl rfl rfl (ex_lss rfl rfl rfl) ?_
    refine ops_nil (at_then (run_seq ?_))
    refine run_cond (b := (decide (a7159 < (x0.fOuts.length : Int)))) rfl (fun hb7170 => ?_) (fun hb7170 => ?_)
    · replace ho7149 := cond_t hb7170 ho7149
      refine run_skip ?_
      refine at_then ?_
      refine run_seq ?_
      refine run_block ?_
      refine run_seq ?_
      obtain ⟨e7171, ho7149⟩ := chk_some ho7149
      refine run_region rfl ?_
      obtain ⟨kv7173, hc7172, hk7174⟩ : ∃ u, CellsAt _ (sb p0_1) (so p0_1 + (a7159).toNat * 4) [(.int .i64 ((gt x0.fOuts a7159).fValue)), u, (.int .i64 ((gt x0.fOuts a7159).fRule.fNeed)), (.int .i64 ((gt x0.fOuts a7159).fRule.fAfter))] ∧ RdS kInt _ u ((gt x0.fOuts a7159).fRule.fKeys) := rd_with1 hp0_1 e7171
      refine ox rfl rfl rfl rfl (ex_indexAddr (d := kOut) rfl rfl rfl Tryz.underlying26 tsz44 hp0_1 (idx_lo e7171) (idx_hi e7171)) ?_
      refine ox rfl rfl rfl rfl (ex_loadN (cs := [(.int .i64 ((gt x0.fOuts a7159).fValue)), kv7173, (.int .i64 ((gt x0.fOuts a7159).fRule.fNeed)), (.int .i64 ((gt x0.fOuts a7159).fRule.fAfter))]) rfl rfl Tryz.underlying44 rfl tsz44 rfl ((HM.at_ hc7172).sub 0 4 rfl)) ?_
      refine od rfl rfl rfl rfl (does_alloc (cs := [.int .i64 0, .slice none 0 0, .int .i64 0, .int .i64 0]) rfl tz44 rfl HM) ?_
      rintro _ w7178 ⟨b7175, rfl, HM⟩
      refine odS rfl rfl rfl (does_store (vs := [.int .i64 ((gt x0.fOuts a7159).fValue), kv7173, .int .i64 ((gt x0.fOuts a7159).fRule.fNeed), .int .i64 ((gt x0.fOuts a7159).fRule.fAfter)]) (cs' := [.int .i64 ((gt x0.fOuts a7159).fValue), kv7173, .int .i64 ((gt x0.fOuts a7159).fRule.fNeed), .int .i64 ((gt x0.fOuts a7159).fRule.fAfter)]) rfl rfl rfl rfl tsz44 (Ones.int (Ones.rd hk7174 (Ones.int (Ones.int Ones.nil)))) rfl rfl HM) ?_
      rintro w7179 HM
      refine ops_nil (at_then ?_)
      refine run_region rfl ?_
      refine ox rfl rfl rfl rfl (ex_move rfl rfl) ?_
      refine ox rfl rfl rfl rfl (ex_fieldAddr (off' := 0) rfl rfl Tryz.underlying44 rfl tsz2 rfl) ?_
      refine ox rfl rfl rfl rfl (ex_load1 rfl rfl Tryz.underlying2 rfl ((HM.box_at 0 rfl) 0 _ rfl)) ?_
      refine ox rfl rfl rfl rfl (ex_add rfl rfl rfl) ?_
      refine ox rfl rfl rfl rfl (ex_assign rfl rfl) ?_
      refine ops_nil ?_
      refine at_block ?_
      refine at_then ?_
      refine run_region rfl ?_
      refine ox rfl rfl rfl rfl (ex_add rfl rfl rfl) ?_
      refine ox rfl rfl rfl rfl (ex_move rfl rfl) ?_
      refine ops_nil ?_
      replace HM := (HM.front 0 rfl rfl).drop
      exact at_again k7168 (ρ1 := [(3, .int .i64 (wrap64 (a7158 + ((gt x0.fOuts a7159).fValue)))), (7, p0_1), (8, .int .i64 (x0.fOuts.length : Int)), (9, .int .i64 (wrap64 (a7159 + 1)))]) (Nat.lt_succ_self _) ⟨_, _, ho7149, rfl, HM⟩ (Sub.cons rfl (Sub.cons rfl (Sub.cons rfl (Sub.cons rfl Sub.nil))))
    · replace ho7149 := cond_f hb7170 ho7149
      refine run_exit ?_
      refine at_then_exit ?_
      refine at_then_exit ?_
      refine at_block_exit ?_
      exact at_mid (ρ' := [(3, .int .i64 a7158)]) ⟨_, (Option.some.inj ho7149), rfl, HM⟩ (Sub.cons rfl Sub.nil)
  · rintro _ w7180 ⟨a7147, rfl, rfl, HM⟩
    refine run_seq ?_
    refine run_region rfl ?_
    refine ox rfl rfl rfl rfl (ex_move rfl rfl) ?_
    refine ox rfl rfl rfl rfl (ex_assign rfl rfl) ?_
    refine ops_nil (at_then ?_)
    refine run_ret ?_
    have hR := Option.some.inj H
    subst hR
    exact at_ret1 rfl rfl ⟨_, rfl, rfl, HM⟩

def impl_OutSum.f (k : Nat) (x0 : Tx) : Option IntResult := ((impl_TxFault.f k x0).bind fun t7191 => (bif (t7191 != 0) then some (⟨t7191, 0⟩ : IntResult) else ((impl_outSum.f k x0).bind fun t7196 => some (⟨0, t7196⟩ : IntResult))))
theorem impl_OutSum.calls {k : Nat} {x0 : Tx} {p0_0 : Value} {p0_1 : Value} {w : World} (hp0_0 : RdS kRef w p0_0 x0.fIns) (hp0_1 : RdS kOut w p0_1 x0.fOuts) {r : IntResult} (H : impl_OutSum.f k x0 = some r) :
    Calls Tryz.prog 13 ([.agg #[(.int .i64 x0.fKind), (.int .i64 x0.fMember), p0_0, p0_1]] : List Value).toArray w (fun e w_ => ∃ v, e = .returned v ∧ v = (.agg #[.int .i64 r.fCode, .int .i64 r.fValue]) ∧ Mem w [] w_ []) := by
  have HM := Mem.start w
  refine calls_run (N := 13) Tryz.func13 rfl rfl rfl rfl ?_
  unfold impl_OutSum.f at H
  refine run_seq ?_
  refine run_region rfl ?_
  refine od rfl rfl rfl rfl (does_box (cs := [.int .i64 x0.fKind, .int .i64 x0.fMember, p0_0, p0_1]) rfl rfl rfl HM) ?_
  rintro _ w7189 ⟨b7183, rfl, HM⟩
  refine od rfl rfl rfl rfl (does_alloc (cs := [.int .i64 0, .int .i64 0]) rfl tz38 rfl HM) ?_
  rintro _ w7190 ⟨b7186, rfl, HM⟩
  refine ops_nil (at_then (run_seq ?_))
  refine run_seq ?_
  obtain ⟨t7191, h7192, H⟩ := bind_some H
  refine run_region rfl ?_
  refine ox rfl rfl rfl rfl (ex_loadN (cs := [(.int .i64 x0.fKind), (.int .i64 x0.fMember), p0_0, p0_1]) rfl rfl Tryz.underlying28 rfl tsz28 rfl ((HM.box_at 1 rfl).sub 0 4 rfl)) ?_
  refine od rfl rfl rfl rfl (does_callk rfl callok11 rfl (impl_TxFault.calls (x0 := x0) (HM.rd hp0_0) (HM.rd hp0_1) h7192)) ?_
  rintro _ w7193 ⟨rfl, hn⟩
  replace HM : Mem w [] w7193 [box b7186 38 [.int .i64 0, .int .i64 0], box b7183 28 [.int .i64 x0.fKind, .int .i64 x0.fMember, p0_0, p0_1]] := HM.call hn
  refine ox rfl rfl rfl rfl (ex_assign rfl rfl) ?_
  refine ops_nil (at_then (run_seq ?_))
  refine run_region rfl ?_
  refine ox rfl rfl rfl rfl (ex_move rfl rfl) ?_
  refine ox rfl rfl rfl rfl (ex_neq rfl rfl rfl) ?_
  refine ops_nil (at_then ?_)
  refine run_cond (b := (t7191 != 0)) rfl (fun hb7194 => ?_) (fun hb7194 => ?_)
  · replace H := cond_t hb7194 H
    refine run_seq ?_
    refine run_region rfl ?_
    refine ox rfl rfl rfl rfl (ex_move rfl rfl) ?_
    refine ox rfl rfl rfl rfl (ex_build (cells := #[(.int .i64 t7191), (.int .i64 0)]) rfl rfl (by kernel_rfl)) ?_
    refine odS rfl rfl rfl (does_store (vs := [.int .i64 t7191, .int .i64 0]) (cs' := [.int .i64 t7191, .int .i64 0]) rfl rfl rfl rfl tsz38 (Ones.int (Ones.int Ones.nil)) rfl rfl HM) ?_
    rintro w7195 HM
    refine ops_nil (at_then ?_)
    refine run_ret ?_
    refine at_then_ret ?_
    replace HM := (HM.front 1 rfl rfl).drop
    have hcb0 := HM.box_at 0 rfl
    replace HM := (HM.front 0 rfl rfl).drop
    have hR := Option.some.inj H
    subst hR
    exact at_retN rfl rfl Tryz.underlying38 rfl tsz38 rfl hcb0 ⟨_, rfl, rfl, HM⟩
  · replace H := cond_f hb7194 H
    refine run_skip ?_
    refine at_then ?_
    refine run_seq ?_
    obtain ⟨t7196, h7197, H⟩ := bind_some H
    refine run_region rfl ?_
    refine ox rfl rfl rfl rfl (ex_loadN (cs := [(.int .i64 x0.fKind), (.int .i64 x0.fMember), p0_0, p0_1]) rfl rfl Tryz.underlying28 rfl tsz28 rfl ((HM.box_at 1 rfl).sub 0 4 rfl)) ?_
    refine od rfl rfl rfl rfl (does_callk rfl callok32 rfl (impl_outSum.calls (x0 := x0) (HM.rd hp0_0) (HM.rd hp0_1) h7197)) ?_
    rintro _ w7198 ⟨rfl, hn⟩
    replace HM : Mem w [] w7198 [box b7186 38 [.int .i64 0, .int .i64 0], box b7183 28 [.int .i64 x0.fKind, .int .i64 x0.fMember, p0_0, p0_1]] := HM.call hn
    refine ox rfl rfl rfl rfl (ex_build (cells := #[(.int .i64 0), (.int .i64 t7196)]) rfl rfl (by kernel_rfl)) ?_
    refine odS rfl rfl rfl (does_store (vs := [.int .i64 0, .int .i64 t7196]) (cs' := [.int .i64 0, .int .i64 t7196]) rfl rfl rfl rfl tsz38 (Ones.int (Ones.int Ones.nil)) rfl rfl HM) ?_
    rintro w7199 HM
    refine ops_nil (at_then ?_)
    refine run_ret ?_
    replace HM := (HM.front 1 rfl rfl).drop
    have hcb0 := HM.box_at 0 rfl
    replace HM := (HM.front 0 rfl rfl).drop
    have hR := Option.some.inj H
    subst hR
    exact at_retN rfl rfl Tryz.underlying38 rfl tsz38 rfl hcb0 ⟨_, rfl, rfl, HM⟩

def slices_Equal_impl_Ref.l0 (x0 : List Ref) (x1 : List Ref) : Nat → Int → Option (Bool ⊕ Unit)
  | 0, _ => none
  | k + 1, a7280 => (bif (decide (a7280 < (x0.length : Int))) then (chk (idxOk a7280 x0.length) (chk (idxOk a7280 x1.length) (bif (!((((gt x0 a7280).fTx) == ((gt x1 a7280).fTx)) && (((gt x0 a7280).fAt) == ((gt x1 a7280).fAt)))) then some (.inl false) else slices_Equal_impl_Ref.l0 x0 x1 k (wrap64 (a7280 + 1))))) else some (.inr ()))
theorem slices_Equal_impl_Ref.l0_z (x0 : List Ref) (x1 : List Ref) (a7280 : Int) : slices_Equal_impl_Ref.l0 x0 x1 0 a7280 = none := rfl
theorem slices_Equal_impl_Ref.l0_s (x0 : List Ref) (x1 : List Ref) (k : Nat) (a7280 : Int) : slices_Equal_impl_Ref.l0 x0 x1 (k + 1) a7280 = (bif (decide (a7280 < (x0.length : Int))) then (chk (idxOk a7280 x0.length) (chk (idxOk a7280 x1.length) (bif (!((((gt x0 a7280).fTx) == ((gt x1 a7280).fTx)) && (((gt x0 a7280).fAt) == ((gt x1 a7280).fAt)))) then some (.inl false) else slices_Equal_impl_Ref.l0 x0 x1 k (wrap64 (a7280 + 1))))) else some (.inr ())) := rfl
def slices_Equal_impl_Ref.f (k : Nat) (x0 : List Ref) (x1 : List Ref) : Option Bool := (bif ((x0.length : Int) != (x1.length : Int)) then some false else ((slices_Equal_impl_Ref.l0 x0 x1 k 0).bind fun o7272 => thn o7272 (fun r => some r) (fun _ => some true)))
theorem slices_Equal_impl_Ref.calls {k : Nat} {x0 : List Ref} {x1 : List Ref} {p0 : Value} {p1 : Value} {w : World} (hp0 : RdS kRef w p0 x0) (hp1 : RdS kRef w p1 x1) {r : Bool} (H : slices_Equal_impl_Ref.f k x0 x1 = some r) :
    Calls Tryz.prog 33 ([p0, p1] : List Value).toArray w (fun e w_ => ∃ v, e = .returned v ∧ v = (.bool r) ∧ Mem w [] w_ []) := by
  have HM := Mem.start w
  refine calls_run (N := 26) Tryz.func33 rfl rfl rfl rfl ?_
  unfold slices_Equal_impl_Ref.f at H
  refine run_seq ?_
  refine run_region rfl ?_
  refine ox rfl rfl rfl rfl (ex_assign rfl rfl) ?_
  refine ops_nil (at_then (run_seq ?_))
  refine run_seq ?_
  refine run_region rfl ?_
  refine ox rfl rfl rfl rfl (ex_move rfl rfl) ?_
  refine ox rfl rfl rfl rfl (ex_len (d := kRef) (xs := x0) rfl rfl Tryz.underlying25 hp0) ?_
  refine ox rfl rfl rfl rfl (ex_move rfl rfl) ?_
  refine ox rfl rfl rfl rfl (ex_len (d := kRef) (xs := x1) rfl rfl Tryz.underlying25 hp1) ?_
  refine ox rfl rfl rfl rfl (ex_neq rfl rfl rfl) ?_
  refine ops_nil (at_then ?_)
  refine run_cond (b := ((x0.length : Int) != (x1.length : Int))) rfl (fun hb7252 => ?_) (fun hb7252 => ?_)
  · replace H := cond_t hb7252 H
    refine run_seq ?_
    refine run_region rfl ?_
    refine ox rfl rfl rfl rfl (ex_assign rfl rfl) ?_
    refine ops_nil (at_then ?_)
    refine run_ret ?_
    refine at_then_ret ?_
    have hR := Option.some.inj H
    subst hR
    exact at_ret1 rfl rfl ⟨_, rfl, rfl, HM⟩
  · replace H := cond_f hb7252 H
    refine run_skip ?_
    refine at_then ?_
    obtain ⟨o7272, ho7273, H⟩ := bind_some H
    refine run_mid (fun ρ_ w_ => Sum.inr () = o7272 ∧ ρ_ = [] ∧ Mem w [] w_ []) ?_ ?_
    · skip
      refine run_seq ?_
      refine run_region rfl ?_
      refine ox rfl rfl rfl rfl (ex_move rfl rfl) ?_
      refine ox rfl rfl rfl rfl (ex_len (d := kRef) (xs := x0) rfl rfl Tryz.underlying25 hp0) ?_
      refine ox rfl rfl rfl rfl (ex_move rfl rfl) ?_
      refine ops_nil (at_then ?_)
      refine run_block ?_
      refine run_loop (fun k_ ρ_ w_ => ∃ a7280 : Int, slices_Equal_impl_Ref.l0 x0 x1 k_ a7280 = some o7272 ∧ ρ_ = [(0, p0), (1, p1), (12, .int .i64 (x0.length : Int)), (13, .int .i64 a7280)] ∧ Mem w [] w_ []) k (ρ1 := [(0, p0), (1, p1), (12, .int .i64 (x0.length : Int)), (13, .int .i64 0)]) ⟨_, ho7273, rfl, HM⟩ (Sub.cons rfl (Sub.cons rfl (Sub.cons rfl (Sub.cons rfl Sub.nil)))) ?_
      clear HM ho7273
      rintro k7287 _ w7288 ⟨a7280, ho7273, rfl, HM⟩
      obtain _ | k7287 := k7287
      · exact nomatch ((slices_Equal_impl_Ref.l0_z x0 x1 a7280).symm.trans ho7273)
      replace ho7273 := (slices_Equal_impl_Ref.l0_s x0 x1 k7287 a7280).symm.trans ho7273
      refine run_seq ?_
      refine run_region rfl ?_
      refine ox rfl rfl rfl rfl (ex_lss rfl rfl rfl) ?_
      refine ops_nil (at_then (run_seq ?_))
      refine run_cond (b := (decide (a7280 < (x0.length : Int)))) rfl (fun hb7289 => ?_) (fun hb7289 => ?_)
      · replace ho7273 := cond_t hb7289 ho7273
        refine run_skip ?_
        refine at_then ?_
        refine run_seq ?_
        refine run_block ?_
        refine run_seq ?_
        refine run_region rfl ?_
        refine ox rfl rfl rfl rfl (ex_move rfl rfl) ?_
        refine ox rfl rfl rfl rfl (ex_assign rfl rfl) ?_
        refine ops_nil (at_then (run_seq ?_))
        obtain ⟨e7290, ho7273⟩ := chk_some ho7273
        obtain ⟨e7292, ho7273⟩ := chk_some ho7273
        refine run_drawf (fun w_ => Mem w [] w_ []) [(0, true), (1, true), (2, true), (3, true), (4, true), (5, true), (6, true), (7, true), (8, true)] mixed rfl rfl (by kernel_rfl) ?_
        replace HM := HM.grow (fr_drew _)
        have hS := Mem.suf (M := []) HM
        refine dp rfl rfl rfl rfl (ex_move rfl rfl) hS ?_
        refine dp rfl rfl rfl rfl (ex_move rfl rfl) hS ?_
        have hc7291 : CellsAt _ (sb p0) (so p0 + (a7280).toNat * 2) [(.int .i64 ((gt x0 a7280).fTx)), (.int .i64 ((gt x0 a7280).fAt))] := rd_plain hp0 e7290
        refine dp rfl rfl rfl rfl (ex_indexAddr (d := kRef) rfl rfl rfl Tryz.underlying25 tsz62 hp0 (idx_lo e7290) (idx_hi e7290)) hS ?_
        refine drwp_take rfl (guard_none rfl) rfl rfl (fun w_ hS_ => (ex_loadN (cs := [(.int .i64 ((gt x0 a7280).fTx)), (.int .i64 ((gt x0 a7280).fAt))]) rfl rfl Tryz.underlying62 rfl tsz62 rfl ((hS_.at_ hc7291).sub 0 2 rfl))) hS ?_
        refine dp rfl rfl rfl rfl (ex_move rfl rfl) hS ?_
        refine dp rfl rfl rfl rfl (ex_move rfl rfl) hS ?_
        have hc7293 : CellsAt _ (sb p1) (so p1 + (a7280).toNat * 2) [(.int .i64 ((gt x1 a7280).fTx)), (.int .i64 ((gt x1 a7280).fAt))] := rd_plain hp1 e7292
        refine dp rfl rfl rfl rfl (ex_indexAddr (d := kRef) rfl rfl rfl Tryz.underlying25 tsz62 hp1 (idx_lo e7292) (idx_hi e7292)) hS ?_
        refine drwp_take rfl (guard_none rfl) rfl rfl (fun w_ hS_ => (ex_loadN (cs := [(.int .i64 ((gt x1 a7280).fTx)), (.int .i64 ((gt x1 a7280).fAt))]) rfl rfl Tryz.underlying62 rfl tsz62 rfl ((hS_.at_ hc7293).sub 0 2 rfl))) hS ?_
        refine dp rfl rfl rfl rfl (ex_aneq rfl rfl rfl (by kernel_rfl) (eqs62 _ _ _ _ _)) hS ?_
        refine drwp_done ?_
        refine at_then ?_
        refine run_cond (b := (!((((gt x0 a7280).fTx) == ((gt x1 a7280).fTx)) && (((gt x0 a7280).fAt) == ((gt x1 a7280).fAt))))) rfl (fun hb7294 => ?_) (fun hb7294 => ?_)
        · replace ho7273 := cond_t hb7294 ho7273
          refine run_seq ?_
          refine run_region rfl ?_
          refine ox rfl rfl rfl rfl (ex_assign rfl rfl) ?_
          refine ops_nil (at_then ?_)
          refine run_ret ?_
          refine at_block_ret ?_
          refine at_then_ret ?_
          refine at_then_ret ?_
          refine at_block_ret ?_
          refine at_then_ret ?_
          have hR := Option.some.inj ho7273
          subst hR
          have hT := thn_inl H
          have hR := Option.some.inj hT
          subst hR
          exact at_ret1 rfl rfl ⟨_, rfl, rfl, HM⟩
        · replace ho7273 := cond_f hb7294 ho7273
          refine run_skip ?_
          refine at_block ?_
          refine at_then ?_
          refine run_region rfl ?_
          refine ox rfl rfl rfl rfl (ex_add rfl rfl rfl) ?_
          refine ox rfl rfl rfl rfl (ex_move rfl rfl) ?_
          refine ops_nil ?_
          exact at_again k7287 (ρ1 := [(0, p0), (1, p1), (12, .int .i64 (x0.length : Int)), (13, .int .i64 (wrap64 (a7280 + 1)))]) (Nat.lt_succ_self _) ⟨_, ho7273, rfl, HM⟩ (Sub.cons rfl (Sub.cons rfl (Sub.cons rfl (Sub.cons rfl Sub.nil))))
      · replace ho7273 := cond_f hb7289 ho7273
        refine run_exit ?_
        refine at_then_exit ?_
        refine at_then_exit ?_
        refine at_block_exit ?_
        exact at_mid (ρ' := []) ⟨(Option.some.inj ho7273), rfl, HM⟩ Sub.nil
    · rintro _ w7295 ⟨rfl, rfl, HM⟩
      replace H := (thn_inr H)
      refine run_seq ?_
      refine run_region rfl ?_
      refine ox rfl rfl rfl rfl (ex_assign rfl rfl) ?_
      refine ops_nil (at_then ?_)
      refine run_ret ?_
      have hR := Option.some.inj H
      subst hR
      exact at_ret1 rfl rfl ⟨_, rfl, rfl, HM⟩

def slices_Equal_int64.l0 (x0 : List Int) (x1 : List Int) : Nat → Int → Option (Bool ⊕ Unit)
  | 0, _ => none
  | k + 1, a7379 => (bif (decide (a7379 < (x0.length : Int))) then (chk (idxOk a7379 x0.length) (chk (idxOk a7379 x1.length) (bif ((gt x0 a7379) != (gt x1 a7379)) then some (.inl false) else slices_Equal_int64.l0 x0 x1 k (wrap64 (a7379 + 1))))) else some (.inr ()))
theorem slices_Equal_int64.l0_z (x0 : List Int) (x1 : List Int) (a7379 : Int) : slices_Equal_int64.l0 x0 x1 0 a7379 = none := rfl
theorem slices_Equal_int64.l0_s (x0 : List Int) (x1 : List Int) (k : Nat) (a7379 : Int) : slices_Equal_int64.l0 x0 x1 (k + 1) a7379 = (bif (decide (a7379 < (x0.length : Int))) then (chk (idxOk a7379 x0.length) (chk (idxOk a7379 x1.length) (bif ((gt x0 a7379) != (gt x1 a7379)) then some (.inl false) else slices_Equal_int64.l0 x0 x1 k (wrap64 (a7379 + 1))))) else some (.inr ())) := rfl
def slices_Equal_int64.f (k : Nat) (x0 : List Int) (x1 : List Int) : Option Bool := (bif ((x0.length : Int) != (x1.length : Int)) then some false else ((slices_Equal_int64.l0 x0 x1 k 0).bind fun o7371 => thn o7371 (fun r => some r) (fun _ => some true)))
theorem slices_Equal_int64.calls {k : Nat} {x0 : List Int} {x1 : List Int} {p0 : Value} {p1 : Value} {w : World} (hp0 : RdS kInt w p0 x0) (hp1 : RdS kInt w p1 x1) {r : Bool} (H : slices_Equal_int64.f k x0 x1 = some r) :
    Calls Tryz.prog 79 ([p0, p1] : List Value).toArray w (fun e w_ => ∃ v, e = .returned v ∧ v = (.bool r) ∧ Mem w [] w_ []) := by
  have HM := Mem.start w
  refine calls_run (N := 26) Tryz.func79 rfl rfl rfl rfl ?_
  unfold slices_Equal_int64.f at H
  refine run_seq ?_
  refine run_region rfl ?_
  refine ox rfl rfl rfl rfl (ex_assign rfl rfl) ?_
  refine ops_nil (at_then (run_seq ?_))
  refine run_seq ?_
  refine run_region rfl ?_
  refine ox rfl rfl rfl rfl (ex_move rfl rfl) ?_
  refine ox rfl rfl rfl rfl (ex_len (d := kInt) (xs := x0) rfl rfl Tryz.underlying40 hp0) ?_
  refine ox rfl rfl rfl rfl (ex_move rfl rfl) ?_
  refine ox rfl rfl rfl rfl (ex_len (d := kInt) (xs := x1) rfl rfl Tryz.underlying40 hp1) ?_
  refine ox rfl rfl rfl rfl (ex_neq rfl rfl rfl) ?_
  refine ops_nil (at_then ?_)
  refine run_cond (b := ((x0.length : Int) != (x1.length : Int))) rfl (fun hb7351 => ?_) (fun hb7351 => ?_)
  · replace H := cond_t hb7351 H
    refine run_seq ?_
    refine run_region rfl ?_
    refine ox rfl rfl rfl rfl (ex_assign rfl rfl) ?_
    refine ops_nil (at_then ?_)
    refine run_ret ?_
    refine at_then_ret ?_
    have hR := Option.some.inj H
    subst hR
    exact at_ret1 rfl rfl ⟨_, rfl, rfl, HM⟩
  · replace H := cond_f hb7351 H
    refine run_skip ?_
    refine at_then ?_
    obtain ⟨o7371, ho7372, H⟩ := bind_some H
    refine run_mid (fun ρ_ w_ => Sum.inr () = o7371 ∧ ρ_ = [] ∧ Mem w [] w_ []) ?_ ?_
    · skip
      refine run_seq ?_
      refine run_region rfl ?_
      refine ox rfl rfl rfl rfl (ex_move rfl rfl) ?_
      refine ox rfl rfl rfl rfl (ex_len (d := kInt) (xs := x0) rfl rfl Tryz.underlying40 hp0) ?_
      refine ox rfl rfl rfl rfl (ex_move rfl rfl) ?_
      refine ops_nil (at_then ?_)
      refine run_block ?_
      refine run_loop (fun k_ ρ_ w_ => ∃ a7379 : Int, slices_Equal_int64.l0 x0 x1 k_ a7379 = some o7371 ∧ ρ_ = [(0, p0), (1, p1), (12, .int .i64 (x0.length : Int)), (13, .int .i64 a7379)] ∧ Mem w [] w_ []) k (ρ1 := [(0, p0), (1, p1), (12, .int .i64 (x0.length : Int)), (13, .int .i64 0)]) ⟨_, ho7372, rfl, HM⟩ (Sub.cons rfl (Sub.cons rfl (Sub.cons rfl (Sub.cons rfl Sub.nil)))) ?_
      clear HM ho7372
      rintro k7386 _ w7387 ⟨a7379, ho7372, rfl, HM⟩
      obtain _ | k7386 := k7386
      · exact nomatch ((slices_Equal_int64.l0_z x0 x1 a7379).symm.trans ho7372)
      replace ho7372 := (slices_Equal_int64.l0_s x0 x1 k7386 a7379).symm.trans ho7372
      refine run_seq ?_
      refine run_region rfl ?_
      refine ox rfl rfl rfl rfl (ex_lss rfl rfl rfl) ?_
      refine ops_nil (at_then (run_seq ?_))
      refine run_cond (b := (decide (a7379 < (x0.length : Int)))) rfl (fun hb7388 => ?_) (fun hb7388 => ?_)
      · replace ho7372 := cond_t hb7388 ho7372
        refine run_skip ?_
        refine at_then ?_
        refine run_seq ?_
        refine run_block ?_
        refine run_seq ?_
        refine run_region rfl ?_
        refine ox rfl rfl rfl rfl (ex_move rfl rfl) ?_
        refine ox rfl rfl rfl rfl (ex_assign rfl rfl) ?_
        refine ops_nil (at_then (run_seq ?_))
        obtain ⟨e7389, ho7372⟩ := chk_some ho7372
        obtain ⟨e7391, ho7372⟩ := chk_some ho7372
        refine run_drawf (fun w_ => Mem w [] w_ []) [(0, true), (1, true), (2, true), (3, true), (4, true), (5, true), (6, true), (7, true), (8, true)] mixed rfl rfl (by kernel_rfl) ?_
        replace HM := HM.grow (fr_drew _)
        have hS := Mem.suf (M := []) HM
        refine dp rfl rfl rfl rfl (ex_move rfl rfl) hS ?_
        refine dp rfl rfl rfl rfl (ex_move rfl rfl) hS ?_
        have hc7390 : CellsAt _ (sb p0) (so p0 + (a7379).toNat * 1) [(.int .i64 (gt x0 a7379))] := rd_plain hp0 e7389
        refine dp rfl rfl rfl rfl (ex_indexAddr (d := kInt) rfl rfl rfl Tryz.underlying40 tsz2 hp0 (idx_lo e7389) (idx_hi e7389)) hS ?_
        refine drwp_take rfl (guard_none rfl) rfl rfl (fun w_ hS_ => (ex_load1 rfl rfl Tryz.underlying2 rfl ((hS_.at_ hc7390) 0 _ rfl))) hS ?_
        refine dp rfl rfl rfl rfl (ex_move rfl rfl) hS ?_
        refine dp rfl rfl rfl rfl (ex_move rfl rfl) hS ?_
        have hc7392 : CellsAt _ (sb p1) (so p1 + (a7379).toNat * 1) [(.int .i64 (gt x1 a7379))] := rd_plain hp1 e7391
        refine dp rfl rfl rfl rfl (ex_indexAddr (d := kInt) rfl rfl rfl Tryz.underlying40 tsz2 hp1 (idx_lo e7391) (idx_hi e7391)) hS ?_
        refine drwp_take rfl (guard_none rfl) rfl rfl (fun w_ hS_ => (ex_load1 rfl rfl Tryz.underlying2 rfl ((hS_.at_ hc7392) 0 _ rfl))) hS ?_
        refine dp rfl rfl rfl rfl (ex_neq rfl rfl rfl) hS ?_
        refine drwp_done ?_
        refine at_then ?_
        refine run_cond (b := ((gt x0 a7379) != (gt x1 a7379))) rfl (fun hb7393 => ?_) (fun hb7393 => ?_)
        · replace ho7372 := cond_t hb7393 ho7372
          refine run_seq ?_
          refine run_region rfl ?_
          refine ox rfl rfl rfl rfl (ex_assign rfl rfl) ?_
          refine ops_nil (at_then ?_)
          refine run_ret ?_
          refine at_block_ret ?_
          refine at_then_ret ?_
          refine at_then_ret ?_
          refine at_block_ret ?_
          refine at_then_ret ?_
          have hR := Option.some.inj ho7372
          subst hR
          have hT := thn_inl H
          have hR := Option.some.inj hT
          subst hR
          exact at_ret1 rfl rfl ⟨_, rfl, rfl, HM⟩
        · replace ho7372 := cond_f hb7393 ho7372
          refine run_skip ?_
          refine at_block ?_
          refine at_then ?_
          refine run_region rfl ?_
          refine ox rfl rfl rfl rfl (ex_add rfl rfl rfl) ?_
          refine ox rfl rfl rfl rfl (ex_move rfl rfl) ?_
          refine ops_nil ?_
          exact at_again k7386 (ρ1 := [(0, p0), (1, p1), (12, .int .i64 (x0.length : Int)), (13, .int .i64 (wrap64 (a7379 + 1)))]) (Nat.lt_succ_self _) ⟨_, ho7372, rfl, HM⟩ (Sub.cons rfl (Sub.cons rfl (Sub.cons rfl (Sub.cons rfl Sub.nil))))
      · replace ho7372 := cond_f hb7388 ho7372
        refine run_exit ?_
        refine at_then_exit ?_
        refine at_then_exit ?_
        refine at_block_exit ?_
        exact at_mid (ρ' := []) ⟨(Option.some.inj ho7372), rfl, HM⟩ Sub.nil
    · rintro _ w7394 ⟨rfl, rfl, HM⟩
      replace H := (thn_inr H)
      refine run_seq ?_
      refine run_region rfl ?_
      refine ox rfl rfl rfl rfl (ex_assign rfl rfl) ?_
      refine ops_nil (at_then ?_)
      refine run_ret ?_
      have hR := Option.some.inj H
      subst hR
      exact at_ret1 rfl rfl ⟨_, rfl, rfl, HM⟩

def impl_SameRules.f (k : Nat) (x0 : Rule) (x1 : Rule) : Option Bool := ((slices_Equal_int64.f k x0.fKeys x1.fKeys).bind fun t7405 => some ((t7405 && (x0.fNeed == x1.fNeed)) && (x0.fAfter == x1.fAfter)))
theorem impl_SameRules.calls {k : Nat} {x0 : Rule} {x1 : Rule} {p0_0 : Value} {p1_0 : Value} {w : World} (hp0_0 : RdS kInt w p0_0 x0.fKeys) (hp1_0 : RdS kInt w p1_0 x1.fKeys) {r : Bool} (H : impl_SameRules.f k x0 x1 = some r) :
    Calls Tryz.prog 63 ([.agg #[p0_0, (.int .i64 x0.fNeed), (.int .i64 x0.fAfter)], .agg #[p1_0, (.int .i64 x1.fNeed), (.int .i64 x1.fAfter)]] : List Value).toArray w (fun e w_ => ∃ v, e = .returned v ∧ v = (.bool r) ∧ Mem w [] w_ []) := by
  have HM := Mem.start w
  refine calls_run (N := 24) Tryz.func63 rfl rfl rfl rfl ?_
  unfold impl_SameRules.f at H
  refine run_seq ?_
  refine run_region rfl ?_
  refine od rfl rfl rfl rfl (does_box (cs := [p0_0, .int .i64 x0.fNeed, .int .i64 x0.fAfter]) rfl rfl rfl HM) ?_
  rintro _ w7403 ⟨b7397, rfl, HM⟩
  refine od rfl rfl rfl rfl (does_box (cs := [p1_0, .int .i64 x1.fNeed, .int .i64 x1.fAfter]) rfl rfl rfl HM) ?_
  rintro _ w7404 ⟨b7400, rfl, HM⟩
  refine ox rfl rfl rfl rfl (ex_assign rfl rfl) ?_
  refine ops_nil (at_then (run_seq ?_))
  obtain ⟨t7405, h7406, H⟩ := bind_some H
  refine run_meet (fun ρ_ w_ => ρ_ = [(4, .bool ((t7405 && (x0.fNeed == x1.fNeed)) && (x0.fAfter == x1.fAfter)))] ∧ Mem w [] w_ []) ?_ ?_
  · skip
    refine run_region rfl ?_
    refine ox rfl rfl rfl rfl (ex_fieldAddr (off' := 0) rfl rfl Tryz.underlying42 rfl tsz40 rfl) ?_
    refine ox rfl rfl rfl rfl (ex_load1 rfl rfl Tryz.underlying40 rfl ((HM.box_at 1 rfl) 0 _ rfl)) ?_
    refine ox rfl rfl rfl rfl (ex_fieldAddr (off' := 0) rfl rfl Tryz.underlying42 rfl tsz40 rfl) ?_
    refine ox rfl rfl rfl rfl (ex_load1 rfl rfl Tryz.underlying40 rfl ((HM.box_at 0 rfl) 0 _ rfl)) ?_
    refine od rfl rfl rfl rfl (does_callk rfl callok79 rfl (slices_Equal_int64.calls (x0 := x0.fKeys) (x1 := x1.fKeys) (HM.rd hp0_0) (HM.rd hp1_0) h7406)) ?_
    rintro _ w7407 ⟨rfl, hn⟩
    replace HM : Mem w [] w7407 [box b7400 42 [p1_0, .int .i64 x1.fNeed, .int .i64 x1.fAfter], box b7397 42 [p0_0, .int .i64 x0.fNeed, .int .i64 x0.fAfter]] := HM.call hn
    refine ox rfl rfl rfl rfl (ex_move rfl rfl) ?_
    refine bool_cases t7405 (fun hg7408 => ?_) (fun hg7408 => ?_)
    · skip
      refine ops_ex rfl (guard_on rfl rfl rfl hg7408) rfl rfl (ex_fieldAddr (off' := 1) rfl rfl Tryz.underlying42 rfl tsz2 rfl) ?_
      refine ops_ex rfl (guard_on rfl rfl rfl hg7408) rfl rfl (ex_load1 rfl rfl Tryz.underlying2 rfl ((HM.box_at 1 rfl) 1 _ rfl)) ?_
      refine ops_ex rfl (guard_on rfl rfl rfl hg7408) rfl rfl (ex_fieldAddr (off' := 1) rfl rfl Tryz.underlying42 rfl tsz2 rfl) ?_
      refine ops_ex rfl (guard_on rfl rfl rfl hg7408) rfl rfl (ex_load1 rfl rfl Tryz.underlying2 rfl ((HM.box_at 0 rfl) 1 _ rfl)) ?_
      refine ops_ex rfl (guard_on rfl rfl rfl hg7408) rfl rfl (ex_eql rfl rfl rfl) ?_
      refine ops_ex (v := .bool (t7405 && (x0.fNeed == x1.fNeed))) rfl (guard_none rfl) rfl rfl (ex_pand_t rfl rfl hg7408 rfl) ?_
      refine ox rfl rfl rfl rfl (ex_move rfl rfl) ?_
      refine bool_cases (t7405 && (x0.fNeed == x1.fNeed)) (fun hg7409 => ?_) (fun hg7409 => ?_)
      · skip
        refine ops_ex rfl (guard_on rfl rfl rfl hg7409) rfl rfl (ex_fieldAddr (off' := 2) rfl rfl Tryz.underlying42 rfl tsz2 rfl) ?_
        refine ops_ex rfl (guard_on rfl rfl rfl hg7409) rfl rfl (ex_load1 rfl rfl Tryz.underlying2 rfl ((HM.box_at 1 rfl) 2 _ rfl)) ?_
        refine ops_ex rfl (guard_on rfl rfl rfl hg7409) rfl rfl (ex_fieldAddr (off' := 2) rfl rfl Tryz.underlying42 rfl tsz2 rfl) ?_
        refine ops_ex rfl (guard_on rfl rfl rfl hg7409) rfl rfl (ex_load1 rfl rfl Tryz.underlying2 rfl ((HM.box_at 0 rfl) 2 _ rfl)) ?_
        refine ops_ex rfl (guard_on rfl rfl rfl hg7409) rfl rfl (ex_eql rfl rfl rfl) ?_
        refine ops_ex (v := .bool ((t7405 && (x0.fNeed == x1.fNeed)) && (x0.fAfter == x1.fAfter))) rfl (guard_none rfl) rfl rfl (ex_pand_t rfl rfl hg7409 rfl) ?_
        refine ox rfl rfl rfl rfl (ex_assign rfl rfl) ?_
        refine ops_nil ?_
        replace HM := (HM.front 0 rfl rfl).drop
        replace HM := (HM.front 0 rfl rfl).drop
        exact at_meet [(4, .bool ((t7405 && (x0.fNeed == x1.fNeed)) && (x0.fAfter == x1.fAfter)))] ⟨rfl, HM⟩ (Sub.cons rfl Sub.nil)
      · skip
        refine ops_off rfl (guard_off rfl rfl rfl hg7409) rfl rfl ?_
        refine ops_off rfl (guard_off rfl rfl rfl hg7409) rfl rfl ?_
        refine ops_off rfl (guard_off rfl rfl rfl hg7409) rfl rfl ?_
        refine ops_off rfl (guard_off rfl rfl rfl hg7409) rfl rfl ?_
        refine ops_off rfl (guard_off rfl rfl rfl hg7409) rfl rfl ?_
        have hg7410 : ((t7405 && (x0.fNeed == x1.fNeed)) && (x0.fAfter == x1.fAfter)) = false := by simp only [hg7409, Bool.and_true, Bool.true_and, Bool.and_false, Bool.false_and, Bool.or_true, Bool.true_or, Bool.or_false, Bool.false_or, Bool.not_true, Bool.not_false, Bool.not_not]
        refine ops_ex (v := .bool ((t7405 && (x0.fNeed == x1.fNeed)) && (x0.fAfter == x1.fAfter))) rfl (guard_none rfl) rfl rfl (ex_pand_f rfl rfl hg7409) ?_
        refine ox rfl rfl rfl rfl (ex_assign rfl rfl) ?_
        refine ops_nil ?_
        replace HM := (HM.front 0 rfl rfl).drop
        replace HM := (HM.front 0 rfl rfl).drop
        exact at_meet [(4, .bool ((t7405 && (x0.fNeed == x1.fNeed)) && (x0.fAfter == x1.fAfter)))] ⟨rfl, HM⟩ (Sub.cons rfl Sub.nil)
    · skip
      refine ops_off rfl (guard_off rfl rfl rfl hg7408) rfl rfl ?_
      refine ops_off rfl (guard_off rfl rfl rfl hg7408) rfl rfl ?_
      refine ops_off rfl (guard_off rfl rfl rfl hg7408) rfl rfl ?_
      refine ops_off rfl (guard_off rfl rfl rfl hg7408) rfl rfl ?_
      refine ops_off rfl (guard_off rfl rfl rfl hg7408) rfl rfl ?_
      have hg7411 : (t7405 && (x0.fNeed == x1.fNeed)) = false := by simp only [hg7408, Bool.and_true, Bool.true_and, Bool.and_false, Bool.false_and, Bool.or_true, Bool.true_or, Bool.or_false, Bool.false_or, Bool.not_true, Bool.not_false, Bool.not_not]
      refine ops_ex (v := .bool (t7405 && (x0.fNeed == x1.fNeed))) rfl (guard_none rfl) rfl rfl (ex_pand_f rfl rfl hg7408) ?_
      refine ox rfl rfl rfl rfl (ex_move rfl rfl) ?_
      refine ops_off rfl (guard_off rfl rfl rfl hg7411) rfl rfl ?_
      refine ops_off rfl (guard_off rfl rfl rfl hg7411) rfl rfl ?_
      refine ops_off rfl (guard_off rfl rfl rfl hg7411) rfl rfl ?_
      refine ops_off rfl (guard_off rfl rfl rfl hg7411) rfl rfl ?_
      refine ops_off rfl (guard_off rfl rfl rfl hg7411) rfl rfl ?_
      have hg7412 : ((t7405 && (x0.fNeed == x1.fNeed)) && (x0.fAfter == x1.fAfter)) = false := by simp only [hg7411, Bool.and_true, Bool.true_and, Bool.and_false, Bool.false_and, Bool.or_true, Bool.true_or, Bool.or_false, Bool.false_or, Bool.not_true, Bool.not_false, Bool.not_not]
      refine ops_ex (v := .bool ((t7405 && (x0.fNeed == x1.fNeed)) && (x0.fAfter == x1.fAfter))) rfl (guard_none rfl) rfl rfl (ex_pand_f rfl rfl hg7411) ?_
      refine ox rfl rfl rfl rfl (ex_assign rfl rfl) ?_
      refine ops_nil ?_
      replace HM := (HM.front 0 rfl rfl).drop
      replace HM := (HM.front 0 rfl rfl).drop
      exact at_meet [(4, .bool ((t7405 && (x0.fNeed == x1.fNeed)) && (x0.fAfter == x1.fAfter)))] ⟨rfl, HM⟩ (Sub.cons rfl Sub.nil)
  · rintro _ w7413 ⟨rfl, HM⟩
    refine at_then ?_
    refine run_ret ?_
    have hR := Option.some.inj H
    subst hR
    exact at_ret1 rfl rfl ⟨_, rfl, rfl, HM⟩

def impl_sameOuts.f (k : Nat) (x0 : Out) (x1 : Out) : Option Bool := ((bif (x0.fValue == x1.fValue) then impl_SameRules.f k x0.fRule x1.fRule else some default).bind fun t7424 => some ((x0.fValue == x1.fValue) && t7424))
theorem impl_sameOuts.calls {k : Nat} {x0 : Out} {x1 : Out} {p0_0 : Value} {p1_0 : Value} {w : World} (hp0_0 : RdS kInt w p0_0 x0.fRule.fKeys) (hp1_0 : RdS kInt w p1_0 x1.fRule.fKeys) {r : Bool} (H : impl_sameOuts.f k x0 x1 = some r) :
    Calls Tryz.prog 35 ([.agg #[(.int .i64 x0.fValue), p0_0, (.int .i64 x0.fRule.fNeed), (.int .i64 x0.fRule.fAfter)], .agg #[(.int .i64 x1.fValue), p1_0, (.int .i64 x1.fRule.fNeed), (.int .i64 x1.fRule.fAfter)]] : List Value).toArray w (fun e w_ => ∃ v, e = .returned v ∧ v = (.bool r) ∧ Mem w [] w_ []) := by
  have HM := Mem.start w
  refine calls_run (N := 17) Tryz.func35 rfl rfl rfl rfl ?_
  unfold impl_sameOuts.f at H
  refine run_seq ?_
  refine run_region rfl ?_
  refine od rfl rfl rfl rfl (does_box (cs := [.int .i64 x0.fValue, p0_0, .int .i64 x0.fRule.fNeed, .int .i64 x0.fRule.fAfter]) rfl rfl rfl HM) ?_
  rintro _ w7422 ⟨b7416, rfl, HM⟩
  refine od rfl rfl rfl rfl (does_box (cs := [.int .i64 x1.fValue, p1_0, .int .i64 x1.fRule.fNeed, .int .i64 x1.fRule.fAfter]) rfl rfl rfl HM) ?_
  rintro _ w7423 ⟨b7419, rfl, HM⟩
  refine ox rfl rfl rfl rfl (ex_assign rfl rfl) ?_
  refine ops_nil (at_then (run_seq ?_))
  obtain ⟨t7424, h7425, H⟩ := bind_some H
  refine run_meet (fun ρ_ w_ => ρ_ = [(4, .bool ((x0.fValue == x1.fValue) && t7424))] ∧ Mem w [] w_ []) ?_ ?_
  · skip
    refine run_region rfl ?_
    refine ox rfl rfl rfl rfl (ex_fieldAddr (off' := 0) rfl rfl Tryz.underlying44 rfl tsz2 rfl) ?_
    refine ox rfl rfl rfl rfl (ex_load1 rfl rfl Tryz.underlying2 rfl ((HM.box_at 1 rfl) 0 _ rfl)) ?_
    refine ox rfl rfl rfl rfl (ex_fieldAddr (off' := 0) rfl rfl Tryz.underlying44 rfl tsz2 rfl) ?_
    refine ox rfl rfl rfl rfl (ex_load1 rfl rfl Tryz.underlying2 rfl ((HM.box_at 0 rfl) 0 _ rfl)) ?_
    refine ox rfl rfl rfl rfl (ex_eql rfl rfl rfl) ?_
    refine ox rfl rfl rfl rfl (ex_move rfl rfl) ?_
    refine bool_cases (x0.fValue == x1.fValue) (fun hg7426 => ?_) (fun hg7426 => ?_)
    · skip
      refine ops_ex rfl (guard_on rfl rfl rfl hg7426) rfl rfl (ex_fieldAddr (off' := 1) rfl rfl Tryz.underlying44 rfl tsz42 rfl) ?_
      refine ops_ex rfl (guard_on rfl rfl rfl hg7426) rfl rfl (ex_loadN (cs := [p0_0, (.int .i64 x0.fRule.fNeed), (.int .i64 x0.fRule.fAfter)]) rfl rfl Tryz.underlying42 rfl tsz42 rfl ((HM.box_at 1 rfl).sub 1 3 rfl)) ?_
      refine ops_ex rfl (guard_on rfl rfl rfl hg7426) rfl rfl (ex_fieldAddr (off' := 1) rfl rfl Tryz.underlying44 rfl tsz42 rfl) ?_
      refine ops_ex rfl (guard_on rfl rfl rfl hg7426) rfl rfl (ex_loadN (cs := [p1_0, (.int .i64 x1.fRule.fNeed), (.int .i64 x1.fRule.fAfter)]) rfl rfl Tryz.underlying42 rfl tsz42 rfl ((HM.box_at 0 rfl).sub 1 3 rfl)) ?_
      refine ops_does rfl (guard_on rfl rfl rfl hg7426) rfl rfl (does_callk rfl callok63 rfl (impl_SameRules.calls (x0 := x0.fRule) (x1 := x1.fRule) (HM.rd hp0_0) (HM.rd hp1_0) (cond_t hg7426 h7425))) ?_
      rintro _ w7427 ⟨rfl, hn⟩
      replace HM : Mem w [] w7427 [box b7419 44 [.int .i64 x1.fValue, p1_0, .int .i64 x1.fRule.fNeed, .int .i64 x1.fRule.fAfter], box b7416 44 [.int .i64 x0.fValue, p0_0, .int .i64 x0.fRule.fNeed, .int .i64 x0.fRule.fAfter]] := HM.call hn
      refine ops_ex (v := .bool ((x0.fValue == x1.fValue) && t7424)) rfl (guard_none rfl) rfl rfl (ex_pand_t rfl rfl hg7426 rfl) ?_
      refine ox rfl rfl rfl rfl (ex_assign rfl rfl) ?_
      refine ops_nil ?_
      replace HM := (HM.front 0 rfl rfl).drop
      replace HM := (HM.front 0 rfl rfl).drop
      exact at_meet [(4, .bool ((x0.fValue == x1.fValue) && t7424))] ⟨rfl, HM⟩ (Sub.cons rfl Sub.nil)
    · skip
      refine ops_off rfl (guard_off rfl rfl rfl hg7426) rfl rfl ?_
      refine ops_off rfl (guard_off rfl rfl rfl hg7426) rfl rfl ?_
      refine ops_off rfl (guard_off rfl rfl rfl hg7426) rfl rfl ?_
      refine ops_off rfl (guard_off rfl rfl rfl hg7426) rfl rfl ?_
      refine ops_off rfl (guard_off rfl rfl rfl hg7426) rfl rfl ?_
      have hg7428 : ((x0.fValue == x1.fValue) && t7424) = false := by simp only [hg7426, Bool.and_true, Bool.true_and, Bool.and_false, Bool.false_and, Bool.or_true, Bool.true_or, Bool.or_false, Bool.false_or, Bool.not_true, Bool.not_false, Bool.not_not]
      refine ops_ex (v := .bool ((x0.fValue == x1.fValue) && t7424)) rfl (guard_none rfl) rfl rfl (ex_pand_f rfl rfl hg7426) ?_
      refine ox rfl rfl rfl rfl (ex_assign rfl rfl) ?_
      refine ops_nil ?_
      replace HM := (HM.front 0 rfl rfl).drop
      replace HM := (HM.front 0 rfl rfl).drop
      exact at_meet [(4, .bool ((x0.fValue == x1.fValue) && t7424))] ⟨rfl, HM⟩ (Sub.cons rfl Sub.nil)
  · rintro _ w7429 ⟨rfl, HM⟩
    refine at_then ?_
    refine run_ret ?_
    have hR := Option.some.inj H
    subst hR
    exact at_ret1 rfl rfl ⟨_, rfl, rfl, HM⟩

def slices_EqualFunc_impl_Out.l0 (x0 : List Out) (x1 : List Out) : Nat → Int → Option (Bool ⊕ Unit)
  | 0, _ => none
  | k + 1, a7549 => (bif (decide (a7549 < (x0.length : Int))) then (chk (idxOk a7549 x0.length) (chk (idxOk a7549 x1.length) ((impl_sameOuts.f k (gt x0 a7549) (gt x1 a7549)).bind fun t7589 => (bif !t7589 then some (.inl false) else slices_EqualFunc_impl_Out.l0 x0 x1 k (wrap64 (a7549 + 1)))))) else some (.inr ()))
theorem slices_EqualFunc_impl_Out.l0_z (x0 : List Out) (x1 : List Out) (a7549 : Int) : slices_EqualFunc_impl_Out.l0 x0 x1 0 a7549 = none := rfl
theorem slices_EqualFunc_impl_Out.l0_s (x0 : List Out) (x1 : List Out) (k : Nat) (a7549 : Int) : slices_EqualFunc_impl_Out.l0 x0 x1 (k + 1) a7549 = (bif (decide (a7549 < (x0.length : Int))) then (chk (idxOk a7549 x0.length) (chk (idxOk a7549 x1.length) ((impl_sameOuts.f k (gt x0 a7549) (gt x1 a7549)).bind fun t7589 => (bif !t7589 then some (.inl false) else slices_EqualFunc_impl_Out.l0 x0 x1 k (wrap64 (a7549 + 1)))))) else some (.inr ())) := rfl
def slices_EqualFunc_impl_Out.f (k : Nat) (x0 : List Out) (x1 : List Out) : Option Bool := (bif ((x0.length : Int) != (x1.length : Int)) then some false else ((slices_EqualFunc_impl_Out.l0 x0 x1 k 0).bind fun o7529 => thn o7529 (fun r => some r) (fun _ => some true)))
theorem slices_EqualFunc_impl_Out.calls {k : Nat} {x0 : List Out} {x1 : List Out} {p0 : Value} {p1 : Value} {w : World} (hp0 : RdS kOut w p0 x0) (hp1 : RdS kOut w p1 x1) {r : Bool} (H : slices_EqualFunc_impl_Out.f k x0 x1 = some r) :
    Calls Tryz.prog 34 ([p0, p1, .func (.func 35) #[] #[]] : List Value).toArray w (fun e w_ => ∃ v, e = .returned v ∧ v = (.bool r) ∧ Mem w [] w_ []) := by
  have HM := Mem.start w
  refine calls_run (N := 32) Tryz.func34 rfl rfl rfl rfl ?_
  unfold slices_EqualFunc_impl_Out.f at H
  refine run_seq ?_
  refine run_region rfl ?_
  refine ox rfl rfl rfl rfl (ex_assign rfl rfl) ?_
  refine ops_nil (at_then (run_seq ?_))
  refine run_seq ?_
  refine run_region rfl ?_
  refine ox rfl rfl rfl rfl (ex_move rfl rfl) ?_
  refine ox rfl rfl rfl rfl (ex_len (d := kOut) (xs := x0) rfl rfl Tryz.underlying26 hp0) ?_
  refine ox rfl rfl rfl rfl (ex_move rfl rfl) ?_
  refine ox rfl rfl rfl rfl (ex_len (d := kOut) (xs := x1) rfl rfl Tryz.underlying26 hp1) ?_
  refine ox rfl rfl rfl rfl (ex_neq rfl rfl rfl) ?_
  refine ops_nil (at_then ?_)
  refine run_cond (b := ((x0.length : Int) != (x1.length : Int))) rfl (fun hb7473 => ?_) (fun hb7473 => ?_)
  · replace H := cond_t hb7473 H
    refine run_seq ?_
    refine run_region rfl ?_
    refine ox rfl rfl rfl rfl (ex_assign rfl rfl) ?_
    refine ops_nil (at_then ?_)
    refine run_ret ?_
    refine at_then_ret ?_
    have hR := Option.some.inj H
    subst hR
    exact at_ret1 rfl rfl ⟨_, rfl, rfl, HM⟩
  · replace H := cond_f hb7473 H
    refine run_skip ?_
    refine at_then ?_
    obtain ⟨o7529, ho7530, H⟩ := bind_some H
    refine run_mid (fun ρ_ w_ => Sum.inr () = o7529 ∧ ρ_ = [] ∧ Mem w [] w_ []) ?_ ?_
    · skip
      refine run_seq ?_
      refine run_region rfl ?_
      refine ox rfl rfl rfl rfl (ex_move rfl rfl) ?_
      refine ox rfl rfl rfl rfl (ex_len (d := kOut) (xs := x0) rfl rfl Tryz.underlying26 hp0) ?_
      refine ox rfl rfl rfl rfl (ex_move rfl rfl) ?_
      refine ops_nil (at_then ?_)
      refine run_block ?_
      refine run_loop (fun k_ ρ_ w_ => ∃ a7549 : Int, slices_EqualFunc_impl_Out.l0 x0 x1 k_ a7549 = some o7529 ∧ ρ_ = [(1, p1), (2, .func (.func 35) #[] #[]), (15, p0), (16, .int .i64 (x0.length : Int)), (17, .int .i64 a7549)] ∧ Mem w [] w_ []) k (ρ1 := [(1, p1), (2, .func (.func 35) #[] #[]), (15, p0), (16, .int .i64 (x0.length : Int)), (17, .int .i64 0)]) ⟨_, ho7530, rfl, HM⟩ (Sub.cons rfl (Sub.cons rfl (Sub.cons rfl (Sub.cons rfl (Sub.cons rfl Sub.nil))))) ?_
      clear HM ho7530
      rintro k7568 _ w7569 ⟨a7549, ho7530, rfl, HM⟩
      obtain _ | k7568 := k7568
      · exact nomatch ((slices_EqualFunc_impl_Out.l0_z x0 x1 a7549).symm.trans ho7530)
      replace ho7530 := (slices_EqualFunc_impl_Out.l0_s x0 x1 k7568 a7549).symm.trans ho7530
      refine run_seq ?_
      refine run_region rfl ?_
      refine ox rfl rfl rfl rfl (ex_lss rfl rfl rfl) ?_
      refine ops_nil (at_then (run_seq ?_))
      refine run_cond (b := (decide (a7549 < (x0.length : Int)))) rfl (fun hb7570 => ?_) (fun hb7570 => ?_)
      · replace ho7530 := cond_t hb7570 ho7530
        refine run_skip ?_
        refine at_then ?_
        refine run_seq ?_
        refine run_block ?_
        refine run_seq ?_
        obtain ⟨e7571, ho7530⟩ := chk_some ho7530
        refine run_region rfl ?_
        refine ox rfl rfl rfl rfl (ex_move rfl rfl) ?_
        obtain ⟨kv7573, hc7572, hk7574⟩ : ∃ u, CellsAt _ (sb p0) (so p0 + (a7549).toNat * 4) [(.int .i64 ((gt x0 a7549).fValue)), u, (.int .i64 ((gt x0 a7549).fRule.fNeed)), (.int .i64 ((gt x0 a7549).fRule.fAfter))] ∧ RdS kInt _ u ((gt x0 a7549).fRule.fKeys) := rd_with1 hp0 e7571
        refine ox rfl rfl rfl rfl (ex_indexAddr (d := kOut) rfl rfl rfl Tryz.underlying26 tsz44 hp0 (idx_lo e7571) (idx_hi e7571)) ?_
        refine ox rfl rfl rfl rfl (ex_loadN (cs := [(.int .i64 ((gt x0 a7549).fValue)), kv7573, (.int .i64 ((gt x0 a7549).fRule.fNeed)), (.int .i64 ((gt x0 a7549).fRule.fAfter))]) rfl rfl Tryz.underlying44 rfl tsz44 rfl ((HM.at_ hc7572).sub 0 4 rfl)) ?_
        refine od rfl rfl rfl rfl (does_alloc (cs := [.int .i64 0, .slice none 0 0, .int .i64 0, .int .i64 0]) rfl tz44 rfl HM) ?_
        rintro _ w7578 ⟨b7575, rfl, HM⟩
        refine ox rfl rfl rfl rfl (ex_assign rfl rfl) ?_
        refine odS rfl rfl rfl (does_store (vs := [.int .i64 ((gt x0 a7549).fValue), kv7573, .int .i64 ((gt x0 a7549).fRule.fNeed), .int .i64 ((gt x0 a7549).fRule.fAfter)]) (cs' := [.int .i64 ((gt x0 a7549).fValue), kv7573, .int .i64 ((gt x0 a7549).fRule.fNeed), .int .i64 ((gt x0 a7549).fRule.fAfter)]) rfl rfl rfl rfl tsz44 (Ones.int (Ones.rd hk7574 (Ones.int (Ones.int Ones.nil)))) rfl rfl HM) ?_
        rintro w7579 HM
        refine ops_nil (at_then (run_seq ?_))
        obtain ⟨e7580, ho7530⟩ := chk_some ho7530
        refine run_region rfl ?_
        refine ox rfl rfl rfl rfl (ex_move rfl rfl) ?_
        refine ox rfl rfl rfl rfl (ex_move rfl rfl) ?_
        obtain ⟨kv7582, hc7581, hk7583⟩ : ∃ u, CellsAt _ (sb p1) (so p1 + (a7549).toNat * 4) [(.int .i64 ((gt x1 a7549).fValue)), u, (.int .i64 ((gt x1 a7549).fRule.fNeed)), (.int .i64 ((gt x1 a7549).fRule.fAfter))] ∧ RdS kInt _ u ((gt x1 a7549).fRule.fKeys) := rd_with1 hp1 e7580
        refine ox rfl rfl rfl rfl (ex_indexAddr (d := kOut) rfl rfl rfl Tryz.underlying26 tsz44 hp1 (idx_lo e7580) (idx_hi e7580)) ?_
        refine ox rfl rfl rfl rfl (ex_loadN (cs := [(.int .i64 ((gt x1 a7549).fValue)), kv7582, (.int .i64 ((gt x1 a7549).fRule.fNeed)), (.int .i64 ((gt x1 a7549).fRule.fAfter))]) rfl rfl Tryz.underlying44 rfl tsz44 rfl ((HM.at_ hc7581).sub 0 4 rfl)) ?_
        refine od rfl rfl rfl rfl (does_alloc (cs := [.int .i64 0, .slice none 0 0, .int .i64 0, .int .i64 0]) rfl tz44 rfl HM) ?_
        rintro _ w7587 ⟨b7584, rfl, HM⟩
        refine odS rfl rfl rfl (does_store (vs := [.int .i64 ((gt x1 a7549).fValue), kv7582, .int .i64 ((gt x1 a7549).fRule.fNeed), .int .i64 ((gt x1 a7549).fRule.fAfter)]) (cs' := [.int .i64 ((gt x1 a7549).fValue), kv7582, .int .i64 ((gt x1 a7549).fRule.fNeed), .int .i64 ((gt x1 a7549).fRule.fAfter)]) rfl rfl rfl rfl tsz44 (Ones.int (Ones.rd hk7583 (Ones.int (Ones.int Ones.nil)))) rfl rfl HM) ?_
        rintro w7588 HM
        refine ops_nil (at_then (run_seq ?_))
        obtain ⟨t7589, h7590, ho7530⟩ := bind_some ho7530
        refine run_region rfl ?_
        refine ox rfl rfl rfl rfl (ex_move rfl rfl) ?_
        refine ox rfl rfl rfl rfl (ex_loadN (cs := [(.int .i64 ((gt x0 a7549).fValue)), kv7573, (.int .i64 ((gt x0 a7549).fRule.fNeed)), (.int .i64 ((gt x0 a7549).fRule.fAfter))]) rfl rfl Tryz.underlying44 rfl tsz44 rfl ((HM.box_at 1 rfl).sub 0 4 rfl)) ?_
        refine ox rfl rfl rfl rfl (ex_loadN (cs := [(.int .i64 ((gt x1 a7549).fValue)), kv7582, (.int .i64 ((gt x1 a7549).fRule.fNeed)), (.int .i64 ((gt x1 a7549).fRule.fAfter))]) rfl rfl Tryz.underlying44 rfl tsz44 rfl ((HM.box_at 0 rfl).sub 0 4 rfl)) ?_
        refine od rfl rfl rfl rfl (does_callvk rfl callok35 rfl rfl rfl (impl_sameOuts.calls (x0 := (gt x0 a7549)) (x1 := (gt x1 a7549)) (HM.rd hk7574) (HM.rd hk7583) h7590)) ?_
        rintro _ w7591 ⟨rfl, hn⟩
        replace HM : Mem w [] w7591 [box b7584 44 [.int .i64 ((gt x1 a7549).fValue), kv7582, .int .i64 ((gt x1 a7549).fRule.fNeed), .int .i64 ((gt x1 a7549).fRule.fAfter)], box b7575 44 [.int .i64 ((gt x0 a7549).fValue), kv7573, .int .i64 ((gt x0 a7549).fRule.fNeed), .int .i64 ((gt x0 a7549).fRule.fAfter)]] := HM.call hn
        refine ox rfl rfl rfl rfl (ex_not rfl rfl) ?_
        refine ops_nil (at_then ?_)
        refine run_cond (b := !t7589) rfl (fun hb7592 => ?_) (fun hb7592 => ?_)
        · replace ho7530 := cond_t hb7592 ho7530
          refine run_seq ?_
          refine run_region rfl ?_
          refine ox rfl rfl rfl rfl (ex_assign rfl rfl) ?_
          refine ops_nil (at_then ?_)
          refine run_ret ?_
          refine at_block_ret ?_
          refine at_then_ret ?_
          refine at_then_ret ?_
          refine at_block_ret ?_
          refine at_then_ret ?_
          replace HM := (HM.front 0 rfl rfl).drop
          replace HM := (HM.front 0 rfl rfl).drop
          have hR := Option.some.inj ho7530
          subst hR
          have hT := thn_inl H
          have hR := Option.some.inj hT
          subst hR
          exact at_ret1 rfl rfl ⟨_, rfl, rfl, HM⟩
        · replace ho7530 := cond_f hb7592 ho7530
          refine run_skip ?_
          refine at_block ?_
          refine at_then ?_
          refine run_region rfl ?_
          refine ox rfl rfl rfl rfl (ex_add rfl rfl rfl) ?_
          refine ox rfl rfl rfl rfl (ex_move rfl rfl) ?_
          refine ops_nil ?_
          replace HM := (HM.front 0 rfl rfl).drop
          replace HM := (HM.front 0 rfl rfl).drop
          exact at_again k7568 (ρ1 := [(1, p1), (2, .func (.func 35) #[] #[]), (15, p0), (16, .int .i64 (x0.length : Int)), (17, .int .i64 (wrap64 (a7549 + 1)))]) (Nat.lt_succ_self _) ⟨_, ho7530, rfl, HM⟩ (Sub.cons rfl (Sub.cons rfl (Sub.cons rfl (Sub.cons rfl (Sub.cons rfl Sub.nil)))))
      · replace ho7530 := cond_f hb7570 ho7530
        refine run_exit ?_
        refine at_then_exit ?_
        refine at_then_exit ?_
        refine at_block_exit ?_
        exact at_mid (ρ' := []) ⟨(Option.some.inj ho7530), rfl, HM⟩ Sub.nil
    · rintro _ w7593 ⟨rfl, rfl, HM⟩
      replace H := (thn_inr H)
      refine run_seq ?_
      refine run_region rfl ?_
      refine ox rfl rfl rfl rfl (ex_assign rfl rfl) ?_
      refine ops_nil (at_then ?_)
      refine run_ret ?_
      have hR := Option.some.inj H
      subst hR
      exact at_ret1 rfl rfl ⟨_, rfl, rfl, HM⟩
end Go.Proofs.YtmaolhocmkkmjaaGreatDoor.Zk
