/- What functions of the program compute, each as a plain function, and that they do. Conditions: as each theorem states them. -/
import Derived.Test.YtoiacoiccpiciaaSameTxsZkF1
namespace Go.Proofs.Ytoiacoiccpiciaa.Zk
open Go Go.RowKit Go.IntWalk Go.Proofs
set_option linter.unusedVariables false
set_option linter.unusedSimpArgs false
set_option maxRecDepth 100000
set_option maxHeartbeats 4000000
def spec_SameTxs.f (k : Nat) (x0 : Tx) (x1 : Tx) : Option Bool := ((spec_l3Same.f k x0 x1).bind fun t969 => some t969)
theorem spec_SameTxs.calls {k : Nat} {x0 : Tx} {x1 : Tx} {p0_0 : Value} {p0_1 : Value} {p1_0 : Value} {p1_1 : Value} {w : World} (hp0_0 : RdS kRef w p0_0 x0.fIns) (hp0_1 : RdS kOut w p0_1 x0.fOuts) (hp1_0 : RdS kRef w p1_0 x1.fIns) (hp1_1 : RdS kOut w p1_1 x1.fOuts) {r : Bool} (H : spec_SameTxs.f k x0 x1 = some r) :
    Calls Try.prog 21 ([.agg #[(.int .i64 x0.fKind), (.int .i64 x0.fMember), p0_0, p0_1], .agg #[(.int .i64 x1.fKind), (.int .i64 x1.fMember), p1_0, p1_1]] : List Value).toArray w (fun e w_ => ∃ v, e = .returned v ∧ v = (.bool r) ∧ Mem w [] w_ []) := by
  have HM := Mem.start w
  refine calls_run (N := 6) Try.func21 rfl rfl rfl rfl ?_
  unfold spec_SameTxs.f at H
  refine run_seq ?_
  refine run_region rfl ?_
  refine ops_does rfl (guard_none rfl) rfl rfl (does_box (cs := [.int .i64 x0.fKind, .int .i64 x0.fMember, p0_0, p0_1]) rfl rfl rfl HM) ?_
  rintro _ w967 ⟨b961, rfl, HM⟩
  refine ops_does rfl (guard_none rfl) rfl rfl (does_box (cs := [.int .i64 x1.fKind, .int .i64 x1.fMember, p1_0, p1_1]) rfl rfl rfl HM) ?_
  rintro _ w968 ⟨b964, rfl, HM⟩
  refine ops_ex rfl (guard_none rfl) rfl rfl (ex_assign rfl rfl) ?_
  refine ops_nil ?_
  refine at_then ?_
  refine run_seq ?_
  obtain ⟨t969, h970, H⟩ := bind_some H
  refine run_region rfl ?_
  refine ops_does rfl (guard_none rfl) rfl rfl (does_callk rfl callok70 rfl (spec_l3Same.calls (x0 := x0) (x1 := x1) (HM.box_at 1 rfl) (HM.rd hp0_0) (HM.rd hp0_1) (HM.box_at 0 rfl) (HM.rd hp1_0) (HM.rd hp1_1) h970)) ?_
  rintro _ w971 ⟨rfl, hn⟩
  replace HM : Mem w [] w971 [box b964 37 [.int .i64 x1.fKind, .int .i64 x1.fMember, p1_0, p1_1], box b961 37 [.int .i64 x0.fKind, .int .i64 x0.fMember, p0_0, p0_1]] := HM.call hn
  refine ops_ex rfl (guard_none rfl) rfl rfl (ex_assign rfl rfl) ?_
  refine ops_nil ?_
  refine at_then ?_
  refine run_ret ?_
  replace HM := (HM.front 0 rfl rfl).drop
  replace HM := (HM.front 0 rfl rfl).drop
  have hR := Option.some.inj H
  subst hR
  exact at_ret1 rfl rfl ⟨_, rfl, rfl, HM⟩

def slices_Equal_impl_Ref.l0 (x0 : List Ref) (x1 : List Ref) : Nat → Int → Option (Bool ⊕ Unit)
  | 0, _ => none
  | k + 1, a1050 => (bif (decide (a1050 < (x0.length : Int))) then (chk (idxOk a1050 x0.length) (chk (idxOk a1050 x1.length) (bif (!((((gt x0 a1050).fTx) == ((gt x1 a1050).fTx)) && (((gt x0 a1050).fAt) == ((gt x1 a1050).fAt)))) then some (.inl false) else slices_Equal_impl_Ref.l0 x0 x1 k (wrap64 (a1050 + 1))))) else some (.inr ()))
theorem slices_Equal_impl_Ref.l0_z (x0 : List Ref) (x1 : List Ref) (a1050 : Int) : slices_Equal_impl_Ref.l0 x0 x1 0 a1050 = none := rfl
theorem slices_Equal_impl_Ref.l0_s (x0 : List Ref) (x1 : List Ref) (k : Nat) (a1050 : Int) : slices_Equal_impl_Ref.l0 x0 x1 (k + 1) a1050 = (bif (decide (a1050 < (x0.length : Int))) then (chk (idxOk a1050 x0.length) (chk (idxOk a1050 x1.length) (bif (!((((gt x0 a1050).fTx) == ((gt x1 a1050).fTx)) && (((gt x0 a1050).fAt) == ((gt x1 a1050).fAt)))) then some (.inl false) else slices_Equal_impl_Ref.l0 x0 x1 k (wrap64 (a1050 + 1))))) else some (.inr ())) := rfl
def slices_Equal_impl_Ref.f (k : Nat) (x0 : List Ref) (x1 : List Ref) : Option Bool := (bif ((x0.length : Int) != (x1.length : Int)) then some false else ((slices_Equal_impl_Ref.l0 x0 x1 k 0).bind fun o1042 => thn o1042 (fun r => some r) (fun _ => some true)))
theorem slices_Equal_impl_Ref.calls {k : Nat} {x0 : List Ref} {x1 : List Ref} {p0 : Value} {p1 : Value} {w : World} (hp0 : RdS kRef w p0 x0) (hp1 : RdS kRef w p1 x1) {r : Bool} (H : slices_Equal_impl_Ref.f k x0 x1 = some r) :
    Calls Try.prog 73 ([p0, p1] : List Value).toArray w (fun e w_ => ∃ v, e = .returned v ∧ v = (.bool r) ∧ Mem w [] w_ []) := by
  have HM := Mem.start w
  refine calls_run (N := 26) Try.func73 rfl rfl rfl rfl ?_
  unfold slices_Equal_impl_Ref.f at H
  refine run_seq ?_
  refine run_region rfl ?_
  refine ops_ex rfl (guard_none rfl) rfl rfl (ex_assign rfl rfl) ?_
  refine ops_nil ?_
  refine at_then ?_
  refine run_seq ?_
  refine run_seq ?_
  refine run_region rfl ?_
  refine ops_ex rfl (guard_none rfl) rfl rfl (ex_move rfl rfl) ?_
  refine ops_ex rfl (guard_none rfl) rfl rfl (ex_len (d := kRef) (xs := x0) rfl rfl Try.underlying34 hp0) ?_
  refine ops_ex rfl (guard_none rfl) rfl rfl (ex_move rfl rfl) ?_
  refine ops_ex rfl (guard_none rfl) rfl rfl (ex_len (d := kRef) (xs := x1) rfl rfl Try.underlying34 hp1) ?_
  refine ops_ex rfl (guard_none rfl) rfl rfl (ex_neq rfl rfl rfl) ?_
  refine ops_nil ?_
  refine at_then ?_
  refine run_cond (b := ((x0.length : Int) != (x1.length : Int))) rfl (fun hb1022 => ?_) (fun hb1022 => ?_)
  · replace H := cond_t hb1022 H
    refine run_seq ?_
    refine run_region rfl ?_
    refine ops_ex rfl (guard_none rfl) rfl rfl (ex_assign rfl rfl) ?_
    refine ops_nil ?_
    refine at_then ?_
    refine run_ret ?_
    refine at_then_ret ?_
    have hR := Option.some.inj H
    subst hR
    exact at_ret1 rfl rfl ⟨_, rfl, rfl, HM⟩
  · replace H := cond_f hb1022 H
    refine run_skip ?_
    refine at_then ?_
    obtain ⟨o1042, ho1043, H⟩ := bind_some H
    refine run_mid (fun ρ_ w_ => Sum.inr () = o1042 ∧ ρ_ = [] ∧ Mem w [] w_ []) ?_ ?_
    · skip
      refine run_seq ?_
      refine run_region rfl ?_
      refine ops_ex rfl (guard_none rfl) rfl rfl (ex_move rfl rfl) ?_
      refine ops_ex rfl (guard_none rfl) rfl rfl (ex_len (d := kRef) (xs := x0) rfl rfl Try.underlying34 hp0) ?_
      refine ops_ex rfl (guard_none rfl) rfl rfl (ex_move rfl rfl) ?_
      refine ops_nil ?_
      refine at_then ?_
      refine run_block ?_
      refine run_loop (fun k_ ρ_ w_ => ∃ a1050 : Int, slices_Equal_impl_Ref.l0 x0 x1 k_ a1050 = some o1042 ∧ ρ_ = [(0, p0), (1, p1), (12, .int .i64 (x0.length : Int)), (13, .int .i64 a1050)] ∧ Mem w [] w_ []) k (ρ1 := [(0, p0), (1, p1), (12, .int .i64 (x0.length : Int)), (13, .int .i64 0)]) ⟨_, ho1043, rfl, HM⟩ (Sub.cons rfl (Sub.cons rfl (Sub.cons rfl (Sub.cons rfl Sub.nil)))) ?_
      clear HM ho1043
      rintro k1057 _ w1058 ⟨a1050, ho1043, rfl, HM⟩
      obtain _ | k1057 := k1057
      · exact nomatch ((slices_Equal_impl_Ref.l0_z x0 x1 a1050).symm.trans ho1043)
      replace ho1043 := (slices_Equal_impl_Ref.l0_s x0 x1 k1057 a1050).symm.trans ho1043
      refine run_seq ?_
      refine run_region rfl ?_
      refine ops_ex rfl (guard_none rfl) rfl rfl (ex_lss rfl rfl rfl) ?_
      refine ops_nil ?_
      refine at_then ?_
      refine run_seq ?_
      refine run_cond (b := (decide (a1050 < (x0.length : Int)))) rfl (fun hb1059 => ?_) (fun hb1059 => ?_)
      · replace ho1043 := cond_t hb1059 ho1043
        refine run_skip ?_
        refine at_then ?_
        refine run_seq ?_
        refine run_block ?_
        refine run_seq ?_
        refine run_region rfl ?_
        refine ops_ex rfl (guard_none rfl) rfl rfl (ex_move rfl rfl) ?_
        refine ops_ex rfl (guard_none rfl) rfl rfl (ex_assign rfl rfl) ?_
        refine ops_nil ?_
        refine at_then ?_
        refine run_seq ?_
        obtain ⟨e1060, ho1043⟩ := chk_some ho1043
        obtain ⟨e1062, ho1043⟩ := chk_some ho1043
        refine run_drawf (fun w_ => Mem w [] w_ []) [(0, true), (1, true), (2, true), (3, true), (4, true), (5, true), (6, true), (7, true), (8, true)] mixed rfl rfl (by kernel_rfl) ?_
        replace HM := HM.grow (fr_drew _)
        have hS := Mem.suf (M := []) HM
        refine drwp_take rfl (guard_none rfl) rfl rfl (fun w_ hS_ => (ex_move rfl rfl)) hS ?_
        refine drwp_take rfl (guard_none rfl) rfl rfl (fun w_ hS_ => (ex_move rfl rfl)) hS ?_
        have hc1061 : CellsAt _ (sb p0) (so p0 + (a1050).toNat * 2) [(.int .i64 ((gt x0 a1050).fTx)), (.int .i64 ((gt x0 a1050).fAt))] := rd_plain hp0 e1060
        refine drwp_take rfl (guard_none rfl) rfl rfl (fun w_ hS_ => (ex_indexAddr (d := kRef) rfl rfl rfl Try.underlying34 tsz99 hp0 (idx_lo e1060) (idx_hi e1060))) hS ?_
        refine drwp_take rfl (guard_none rfl) rfl rfl (fun w_ hS_ => (ex_loadN (cs := [(.int .i64 ((gt x0 a1050).fTx)), (.int .i64 ((gt x0 a1050).fAt))]) rfl rfl Try.underlying99 rfl tsz99 rfl ((hS_.at_ hc1061).sub 0 2 rfl))) hS ?_
        refine drwp_take rfl (guard_none rfl) rfl rfl (fun w_ hS_ => (ex_move rfl rfl)) hS ?_
        refine drwp_take rfl (guard_none rfl) rfl rfl (fun w_ hS_ => (ex_move rfl rfl)) hS ?_
        have hc1063 : CellsAt _ (sb p1) (so p1 + (a1050).toNat * 2) [(.int .i64 ((gt x1 a1050).fTx)), (.int .i64 ((gt x1 a1050).fAt))] := rd_plain hp1 e1062
        refine drwp_take rfl (guard_none rfl) rfl rfl (fun w_ hS_ => (ex_indexAddr (d := kRef) rfl rfl rfl Try.underlying34 tsz99 hp1 (idx_lo e1062) (idx_hi e1062))) hS ?_
        refine drwp_take rfl (guard_none rfl) rfl rfl (fun w_ hS_ => (ex_loadN (cs := [(.int .i64 ((gt x1 a1050).fTx)), (.int .i64 ((gt x1 a1050).fAt))]) rfl rfl Try.underlying99 rfl tsz99 rfl ((hS_.at_ hc1063).sub 0 2 rfl))) hS ?_
        refine drwp_take rfl (guard_none rfl) rfl rfl (fun w_ hS_ => (ex_aneq rfl rfl rfl (by kernel_rfl) (eqs99 _ _ _ _ _))) hS ?_
        refine drwp_done ?_
        refine at_then ?_
        refine run_cond (b := (!((((gt x0 a1050).fTx) == ((gt x1 a1050).fTx)) && (((gt x0 a1050).fAt) == ((gt x1 a1050).fAt))))) rfl (fun hb1064 => ?_) (fun hb1064 => ?_)
        · replace ho1043 := cond_t hb1064 ho1043
          refine run_seq ?_
          refine run_region rfl ?_
          refine ops_ex rfl (guard_none rfl) rfl rfl (ex_assign rfl rfl) ?_
          refine ops_nil ?_
          refine at_then ?_
          refine run_ret ?_
          refine at_block_ret ?_
          refine at_then_ret ?_
          refine at_then_ret ?_
          refine at_block_ret ?_
          refine at_then_ret ?_
          have hR := Option.some.inj ho1043
          subst hR
          have hT := thn_inl H
          have hR := Option.some.inj hT
          subst hR
          exact at_ret1 rfl rfl ⟨_, rfl, rfl, HM⟩
        · replace ho1043 := cond_f hb1064 ho1043
          refine run_skip ?_
          refine at_block ?_
          refine at_then ?_
          refine run_region rfl ?_
          refine ops_ex rfl (guard_none rfl) rfl rfl (ex_add rfl rfl rfl) ?_
          refine ops_ex rfl (guard_none rfl) rfl rfl (ex_move rfl rfl) ?_
          refine ops_nil ?_
          exact at_again k1057 (ρ1 := [(0, p0), (1, p1), (12, .int .i64 (x0.length : Int)), (13, .int .i64 (wrap64 (a1050 + 1)))]) (Nat.lt_succ_self _) ⟨_, ho1043, rfl, HM⟩ (Sub.cons rfl (Sub.cons rfl (Sub.cons rfl (Sub.cons rfl Sub.nil))))
      · replace ho1043 := cond_f hb1059 ho1043
        refine run_exit ?_
        refine at_then_exit ?_
        refine at_then_exit ?_
        refine at_block_exit ?_
        exact at_mid (ρ' := []) ⟨(Option.some.inj ho1043), rfl, HM⟩ Sub.nil
    · rintro _ w1065 ⟨rfl, rfl, HM⟩
      replace H := (thn_inr H)
      refine run_seq ?_
      refine run_region rfl ?_
      refine ops_ex rfl (guard_none rfl) rfl rfl (ex_assign rfl rfl) ?_
      refine ops_nil ?_
      refine at_then ?_
      refine run_ret ?_
      have hR := Option.some.inj H
      subst hR
      exact at_ret1 rfl rfl ⟨_, rfl, rfl, HM⟩

def slices_Equal_int64.l0 (x0 : List Int) (x1 : List Int) : Nat → Int → Option (Bool ⊕ Unit)
  | 0, _ => none
  | k + 1, a1149 => (bif (decide (a1149 < (x0.length : Int))) then (chk (idxOk a1149 x0.length) (chk (idxOk a1149 x1.length) (bif ((gt x0 a1149) != (gt x1 a1149)) then some (.inl false) else slices_Equal_int64.l0 x0 x1 k (wrap64 (a1149 + 1))))) else some (.inr ()))
theorem slices_Equal_int64.l0_z (x0 : List Int) (x1 : List Int) (a1149 : Int) : slices_Equal_int64.l0 x0 x1 0 a1149 = none := rfl
theorem slices_Equal_int64.l0_s (x0 : List Int) (x1 : List Int) (k : Nat) (a1149 : Int) : slices_Equal_int64.l0 x0 x1 (k + 1) a1149 = (bif (decide (a1149 < (x0.length : Int))) then (chk (idxOk a1149 x0.length) (chk (idxOk a1149 x1.length) (bif ((gt x0 a1149) != (gt x1 a1149)) then some (.inl false) else slices_Equal_int64.l0 x0 x1 k (wrap64 (a1149 + 1))))) else some (.inr ())) := rfl
def slices_Equal_int64.f (k : Nat) (x0 : List Int) (x1 : List Int) : Option Bool := (bif ((x0.length : Int) != (x1.length : Int)) then some false else ((slices_Equal_int64.l0 x0 x1 k 0).bind fun o1141 => thn o1141 (fun r => some r) (fun _ => some true)))
theorem slices_Equal_int64.calls {k : Nat} {x0 : List Int} {x1 : List Int} {p0 : Value} {p1 : Value} {w : World} (hp0 : RdS kInt w p0 x0) (hp1 : RdS kInt w p1 x1) {r : Bool} (H : slices_Equal_int64.f k x0 x1 = some r) :
    Calls Try.prog 160 ([p0, p1] : List Value).toArray w (fun e w_ => ∃ v, e = .returned v ∧ v = (.bool r) ∧ Mem w [] w_ []) := by
  have HM := Mem.start w
  refine calls_run (N := 26) Try.func160 rfl rfl rfl rfl ?_
  unfold slices_Equal_int64.f at H
  refine run_seq ?_
  refine run_region rfl ?_
  refine ops_ex rfl (guard_none rfl) rfl rfl (ex_assign rfl rfl) ?_
  refine ops_nil ?_
  refine at_then ?_
  refine run_seq ?_
  refine run_seq ?_
  refine run_region rfl ?_
  refine ops_ex rfl (guard_none rfl) rfl rfl (ex_move rfl rfl) ?_
  refine ops_ex rfl (guard_none rfl) rfl rfl (ex_len (d := kInt) (xs := x0) rfl rfl Try.underlying74 hp0) ?_
  refine ops_ex rfl (guard_none rfl) rfl rfl (ex_move rfl rfl) ?_
  refine ops_ex rfl (guard_none rfl) rfl rfl (ex_len (d := kInt) (xs := x1) rfl rfl Try.underlying74 hp1) ?_
  refine ops_ex rfl (guard_none rfl) rfl rfl (ex_neq rfl rfl rfl) ?_
  refine ops_nil ?_
  refine at_then ?_
  refine run_cond (b := ((x0.length : Int) != (x1.length : Int))) rfl (fun hb1121 => ?_) (fun hb1121 => ?_)
  · replace H := cond_t hb1121 H
    refine run_seq ?_
    refine run_region rfl ?_
    refine ops_ex rfl (guard_none rfl) rfl rfl (ex_assign rfl rfl) ?_
    refine ops_nil ?_
    refine at_then ?_
    refine run_ret ?_
    refine at_then_ret ?_
    have hR := Option.some.inj H
    subst hR
    exact at_ret1 rfl rfl ⟨_, rfl, rfl, HM⟩
  · replace H := cond_f hb1121 H
    refine run_skip ?_
    refine at_then ?_
    obtain ⟨o1141, ho1142, H⟩ := bind_some H
    refine run_mid (fun ρ_ w_ => Sum.inr () = o1141 ∧ ρ_ = [] ∧ Mem w [] w_ []) ?_ ?_
    · skip
      refine run_seq ?_
      refine run_region rfl ?_
      refine ops_ex rfl (guard_none rfl) rfl rfl (ex_move rfl rfl) ?_
      refine ops_ex rfl (guard_none rfl) rfl rfl (ex_len (d := kInt) (xs := x0) rfl rfl Try.underlying74 hp0) ?_
      refine ops_ex rfl (guard_none rfl) rfl rfl (ex_move rfl rfl) ?_
      refine ops_nil ?_
      refine at_then ?_
      refine run_block ?_
      refine run_loop (fun k_ ρ_ w_ => ∃ a1149 : Int, slices_Equal_int64.l0 x0 x1 k_ a1149 = some o1141 ∧ ρ_ = [(0, p0), (1, p1), (12, .int .i64 (x0.length : Int)), (13, .int .i64 a1149)] ∧ Mem w [] w_ []) k (ρ1 := [(0, p0), (1, p1), (12, .int .i64 (x0.length : Int)), (13, .int .i64 0)]) ⟨_, ho1142, rfl, HM⟩ (Sub.cons rfl (Sub.cons rfl (Sub.cons rfl (Sub.cons rfl Sub.nil)))) ?_
      clear HM ho1142
      rintro k1156 _ w1157 ⟨a1149, ho1142, rfl, HM⟩
      obtain _ | k1156 := k1156
      · exact nomatch ((slices_Equal_int64.l0_z x0 x1 a1149).symm.trans ho1142)
      replace ho1142 := (slices_Equal_int64.l0_s x0 x1 k1156 a1149).symm.trans ho1142
      refine run_seq ?_
      refine run_region rfl ?_
      refine ops_ex rfl (guard_none rfl) rfl rfl (ex_lss rfl rfl rfl) ?_
      refine ops_nil ?_
      refine at_then ?_
      refine run_seq ?_
      refine run_cond (b := (decide (a1149 < (x0.length : Int)))) rfl (fun hb1158 => ?_) (fun hb1158 => ?_)
      · replace ho1142 := cond_t hb1158 ho1142
        refine run_skip ?_
        refine at_then ?_
        refine run_seq ?_
        refine run_block ?_
        refine run_seq ?_
        refine run_region rfl ?_
        refine ops_ex rfl (guard_none rfl) rfl rfl (ex_move rfl rfl) ?_
        refine ops_ex rfl (guard_none rfl) rfl rfl (ex_assign rfl rfl) ?_
        refine ops_nil ?_
        refine at_then ?_
        refine run_seq ?_
        obtain ⟨e1159, ho1142⟩ := chk_some ho1142
        obtain ⟨e1161, ho1142⟩ := chk_some ho1142
        refine run_drawf (fun w_ => Mem w [] w_ []) [(0, true), (1, true), (2, true), (3, true), (4, true), (5, true), (6, true), (7, true), (8, true)] mixed rfl rfl (by kernel_rfl) ?_
        replace HM := HM.grow (fr_drew _)
        have hS := Mem.suf (M := []) HM
        refine drwp_take rfl (guard_none rfl) rfl rfl (fun w_ hS_ => (ex_move rfl rfl)) hS ?_
        refine drwp_take rfl (guard_none rfl) rfl rfl (fun w_ hS_ => (ex_move rfl rfl)) hS ?_
        have hc1160 : CellsAt _ (sb p0) (so p0 + (a1149).toNat * 1) [(.int .i64 (gt x0 a1149))] := rd_plain hp0 e1159
        refine drwp_take rfl (guard_none rfl) rfl rfl (fun w_ hS_ => (ex_indexAddr (d := kInt) rfl rfl rfl Try.underlying74 tsz2 hp0 (idx_lo e1159) (idx_hi e1159))) hS ?_
        refine drwp_take rfl (guard_none rfl) rfl rfl (fun w_ hS_ => (ex_load1 rfl rfl Try.underlying2 rfl ((hS_.at_ hc1160) 0 _ rfl))) hS ?_
        refine drwp_take rfl (guard_none rfl) rfl rfl (fun w_ hS_ => (ex_move rfl rfl)) hS ?_
        refine drwp_take rfl (guard_none rfl) rfl rfl (fun w_ hS_ => (ex_move rfl rfl)) hS ?_
        have hc1162 : CellsAt _ (sb p1) (so p1 + (a1149).toNat * 1) [(.int .i64 (gt x1 a1149))] := rd_plain hp1 e1161
        refine drwp_take rfl (guard_none rfl) rfl rfl (fun w_ hS_ => (ex_indexAddr (d := kInt) rfl rfl rfl Try.underlying74 tsz2 hp1 (idx_lo e1161) (idx_hi e1161))) hS ?_
        refine drwp_take rfl (guard_none rfl) rfl rfl (fun w_ hS_ => (ex_load1 rfl rfl Try.underlying2 rfl ((hS_.at_ hc1162) 0 _ rfl))) hS ?_
        refine drwp_take rfl (guard_none rfl) rfl rfl (fun w_ hS_ => (ex_neq rfl rfl rfl)) hS ?_
        refine drwp_done ?_
        refine at_then ?_
        refine run_cond (b := ((gt x0 a1149) != (gt x1 a1149))) rfl (fun hb1163 => ?_) (fun hb1163 => ?_)
        · replace ho1142 := cond_t hb1163 ho1142
          refine run_seq ?_
          refine run_region rfl ?_
          refine ops_ex rfl (guard_none rfl) rfl rfl (ex_assign rfl rfl) ?_
          refine ops_nil ?_
          refine at_then ?_
          refine run_ret ?_
          refine at_block_ret ?_
          refine at_then_ret ?_
          refine at_then_ret ?_
          refine at_block_ret ?_
          refine at_then_ret ?_
          have hR := Option.some.inj ho1142
          subst hR
          have hT := thn_inl H
          have hR := Option.some.inj hT
          subst hR
          exact at_ret1 rfl rfl ⟨_, rfl, rfl, HM⟩
        · replace ho1142 := cond_f hb1163 ho1142
          refine run_skip ?_
          refine at_block ?_
          refine at_then ?_
          refine run_region rfl ?_
          refine ops_ex rfl (guard_none rfl) rfl rfl (ex_add rfl rfl rfl) ?_
          refine ops_ex rfl (guard_none rfl) rfl rfl (ex_move rfl rfl) ?_
          refine ops_nil ?_
          exact at_again k1156 (ρ1 := [(0, p0), (1, p1), (12, .int .i64 (x0.length : Int)), (13, .int .i64 (wrap64 (a1149 + 1)))]) (Nat.lt_succ_self _) ⟨_, ho1142, rfl, HM⟩ (Sub.cons rfl (Sub.cons rfl (Sub.cons rfl (Sub.cons rfl Sub.nil))))
      · replace ho1142 := cond_f hb1158 ho1142
        refine run_exit ?_
        refine at_then_exit ?_
        refine at_then_exit ?_
        refine at_block_exit ?_
        exact at_mid (ρ' := []) ⟨(Option.some.inj ho1142), rfl, HM⟩ Sub.nil
    · rintro _ w1164 ⟨rfl, rfl, HM⟩
      replace H := (thn_inr H)
      refine run_seq ?_
      refine run_region rfl ?_
      refine ops_ex rfl (guard_none rfl) rfl rfl (ex_assign rfl rfl) ?_
      refine ops_nil ?_
      refine at_then ?_
      refine run_ret ?_
      have hR := Option.some.inj H
      subst hR
      exact at_ret1 rfl rfl ⟨_, rfl, rfl, HM⟩

def impl_SameRules.f (k : Nat) (x0 : Rule) (x1 : Rule) : Option Bool := ((slices_Equal_int64.f k x0.fKeys x1.fKeys).bind fun t1175 => some ((t1175 && (x0.fNeed == x1.fNeed)) && (x0.fAfter == x1.fAfter)))
theorem impl_SameRules.calls {k : Nat} {x0 : Rule} {x1 : Rule} {p0_0 : Value} {p1_0 : Value} {w : World} (hp0_0 : RdS kInt w p0_0 x0.fKeys) (hp1_0 : RdS kInt w p1_0 x1.fKeys) {r : Bool} (H : impl_SameRules.f k x0 x1 = some r) :
    Calls Try.prog 126 ([.agg #[p0_0, (.int .i64 x0.fNeed), (.int .i64 x0.fAfter)], .agg #[p1_0, (.int .i64 x1.fNeed), (.int .i64 x1.fAfter)]] : List Value).toArray w (fun e w_ => ∃ v, e = .returned v ∧ v = (.bool r) ∧ Mem w [] w_ []) := by
  have HM := Mem.start w
  refine calls_run (N := 24) Try.func126 rfl rfl rfl rfl ?_
  unfold impl_SameRules.f at H
  refine run_seq ?_
  refine run_region rfl ?_
  refine ops_does rfl (guard_none rfl) rfl rfl (does_box (cs := [p0_0, .int .i64 x0.fNeed, .int .i64 x0.fAfter]) rfl rfl rfl HM) ?_
  rintro _ w1173 ⟨b1167, rfl, HM⟩
  refine ops_does rfl (guard_none rfl) rfl rfl (does_box (cs := [p1_0, .int .i64 x1.fNeed, .int .i64 x1.fAfter]) rfl rfl rfl HM) ?_
  rintro _ w1174 ⟨b1170, rfl, HM⟩
  refine ops_ex rfl (guard_none rfl) rfl rfl (ex_assign rfl rfl) ?_
  refine ops_nil ?_
  refine at_then ?_
  refine run_seq ?_
  obtain ⟨t1175, h1176, H⟩ := bind_some H
  refine run_meet (fun ρ_ w_ => ρ_ = [(4, .bool ((t1175 && (x0.fNeed == x1.fNeed)) && (x0.fAfter == x1.fAfter)))] ∧ Mem w [] w_ []) ?_ ?_
  · skip
    refine run_region rfl ?_
    refine ops_ex rfl (guard_none rfl) rfl rfl (ex_fieldAddr (off' := 0) rfl rfl Try.underlying100 rfl tsz74 rfl) ?_
    refine ops_ex rfl (guard_none rfl) rfl rfl (ex_load1 rfl rfl Try.underlying74 rfl ((HM.box_at 1 rfl) 0 _ rfl)) ?_
    refine ops_ex rfl (guard_none rfl) rfl rfl (ex_fieldAddr (off' := 0) rfl rfl Try.underlying100 rfl tsz74 rfl) ?_
    refine ops_ex rfl (guard_none rfl) rfl rfl (ex_load1 rfl rfl Try.underlying74 rfl ((HM.box_at 0 rfl) 0 _ rfl)) ?_
    refine ops_does rfl (guard_none rfl) rfl rfl (does_callk rfl callok160 rfl (slices_Equal_int64.calls (x0 := x0.fKeys) (x1 := x1.fKeys) (HM.rd hp0_0) (HM.rd hp1_0) h1176)) ?_
    rintro _ w1177 ⟨rfl, hn⟩
    replace HM : Mem w [] w1177 [box b1170 100 [p1_0, .int .i64 x1.fNeed, .int .i64 x1.fAfter], box b1167 100 [p0_0, .int .i64 x0.fNeed, .int .i64 x0.fAfter]] := HM.call hn
    refine ops_ex rfl (guard_none rfl) rfl rfl (ex_move rfl rfl) ?_
    refine bool_cases t1175 (fun hg1178 => ?_) (fun hg1178 => ?_)
    · skip
      refine ops_ex rfl (guard_on rfl rfl rfl hg1178) rfl rfl (ex_fieldAddr (off' := 1) rfl rfl Try.underlying100 rfl tsz2 rfl) ?_
      refine ops_ex rfl (guard_on rfl rfl rfl hg1178) rfl rfl (ex_load1 rfl rfl Try.underlying2 rfl ((HM.box_at 1 rfl) 1 _ rfl)) ?_
      refine ops_ex rfl (guard_on rfl rfl rfl hg1178) rfl rfl (ex_fieldAddr (off' := 1) rfl rfl Try.underlying100 rfl tsz2 rfl) ?_
      refine ops_ex rfl (guard_on rfl rfl rfl hg1178) rfl rfl (ex_load1 rfl rfl Try.underlying2 rfl ((HM.box_at 0 rfl) 1 _ rfl)) ?_
      refine ops_ex rfl (guard_on rfl rfl rfl hg1178) rfl rfl (ex_eql rfl rfl rfl) ?_
      refine ops_ex (v := .bool (t1175 && (x0.fNeed == x1.fNeed))) rfl (guard_none rfl) rfl rfl (ex_pand_t rfl rfl hg1178 rfl) ?_
      refine ops_ex rfl (guard_none rfl) rfl rfl (ex_move rfl rfl) ?_
      refine bool_cases (t1175 && (x0.fNeed == x1.fNeed)) (fun hg1179 => ?_) (fun hg1179 => ?_)
      · skip
        refine ops_ex rfl (guard_on rfl rfl rfl hg1179) rfl rfl (ex_fieldAddr (off' := 2) rfl rfl Try.underlying100 rfl tsz2 rfl) ?_
        refine ops_ex rfl (guard_on rfl rfl rfl hg1179) rfl rfl (ex_load1 rfl rfl Try.underlying2 rfl ((HM.box_at 1 rfl) 2 _ rfl)) ?_
        refine ops_ex rfl (guard_on rfl rfl rfl hg1179) rfl rfl (ex_fieldAddr (off' := 2) rfl rfl Try.underlying100 rfl tsz2 rfl) ?_
        refine ops_ex rfl (guard_on rfl rfl rfl hg1179) rfl rfl (ex_load1 rfl rfl Try.underlying2 rfl ((HM.box_at 0 rfl) 2 _ rfl)) ?_
        refine ops_ex rfl (guard_on rfl rfl rfl hg1179) rfl rfl (ex_eql rfl rfl rfl) ?_
        refine ops_ex (v := .bool ((t1175 && (x0.fNeed == x1.fNeed)) && (x0.fAfter == x1.fAfter))) rfl (guard_none rfl) rfl rfl (ex_pand_t rfl rfl hg1179 rfl) ?_
        refine ops_ex rfl (guard_none rfl) rfl rfl (ex_assign rfl rfl) ?_
        refine ops_nil ?_
        replace HM := (HM.front 0 rfl rfl).drop
        replace HM := (HM.front 0 rfl rfl).drop
        exact at_meet [(4, .bool ((t1175 && (x0.fNeed == x1.fNeed)) && (x0.fAfter == x1.fAfter)))] ⟨rfl, HM⟩ (Sub.cons rfl Sub.nil)
      · skip
        refine ops_off rfl (guard_off rfl rfl rfl hg1179) rfl rfl ?_
        refine ops_off rfl (guard_off rfl rfl rfl hg1179) rfl rfl ?_
        refine ops_off rfl (guard_off rfl rfl rfl hg1179) rfl rfl ?_
        refine ops_off rfl (guard_off rfl rfl rfl hg1179) rfl rfl ?_
        refine ops_off rfl (guard_off rfl rfl rfl hg1179) rfl rfl ?_
        have hg1180 : ((t1175 && (x0.fNeed == x1.fNeed)) && (x0.fAfter == x1.fAfter)) = false := by simp only [hg1179, Bool.and_true, Bool.true_and, Bool.and_false, Bool.false_and, Bool.or_true, Bool.true_or, Bool.or_false, Bool.false_or, Bool.not_true, Bool.not_false, Bool.not_not]
        refine ops_ex (v := .bool ((t1175 && (x0.fNeed == x1.fNeed)) && (x0.fAfter == x1.fAfter))) rfl (guard_none rfl) rfl rfl (ex_pand_f rfl rfl hg1179) ?_
        refine ops_ex rfl (guard_none rfl) rfl rfl (ex_assign rfl rfl) ?_
        refine ops_nil ?_
        replace HM := (HM.front 0 rfl rfl).drop
        replace HM := (HM.front 0 rfl rfl).drop
        exact at_meet [(4, .bool ((t1175 && (x0.fNeed == x1.fNeed)) && (x0.fAfter == x1.fAfter)))] ⟨rfl, HM⟩ (Sub.cons rfl Sub.nil)
    · skip
      refine ops_off rfl (guard_off rfl rfl rfl hg1178) rfl rfl ?_
      refine ops_off rfl (guard_off rfl rfl rfl hg1178) rfl rfl ?_
      refine ops_off rfl (guard_off rfl rfl rfl hg1178) rfl rfl ?_
      refine ops_off rfl (guard_off rfl rfl rfl hg1178) rfl rfl ?_
      refine ops_off rfl (guard_off rfl rfl rfl hg1178) rfl rfl ?_
      have hg1181 : (t1175 && (x0.fNeed == x1.fNeed)) = false := by simp only [hg1178, Bool.and_true, Bool.true_and, Bool.and_false, Bool.false_and, Bool.or_true, Bool.true_or, Bool.or_false, Bool.false_or, Bool.not_true, Bool.not_false, Bool.not_not]
      refine ops_ex (v := .bool (t1175 && (x0.fNeed == x1.fNeed))) rfl (guard_none rfl) rfl rfl (ex_pand_f rfl rfl hg1178) ?_
      refine ops_ex rfl (guard_none rfl) rfl rfl (ex_move rfl rfl) ?_
      refine ops_off rfl (guard_off rfl rfl rfl hg1181) rfl rfl ?_
      refine ops_off rfl (guard_off rfl rfl rfl hg1181) rfl rfl ?_
      refine ops_off rfl (guard_off rfl rfl rfl hg1181) rfl rfl ?_
      refine ops_off rfl (guard_off rfl rfl rfl hg1181) rfl rfl ?_
      refine ops_off rfl (guard_off rfl rfl rfl hg1181) rfl rfl ?_
      have hg1182 : ((t1175 && (x0.fNeed == x1.fNeed)) && (x0.fAfter == x1.fAfter)) = false := by simp only [hg1181, Bool.and_true, Bool.true_and, Bool.and_false, Bool.false_and, Bool.or_true, Bool.true_or, Bool.or_false, Bool.false_or, Bool.not_true, Bool.not_false, Bool.not_not]
      refine ops_ex (v := .bool ((t1175 && (x0.fNeed == x1.fNeed)) && (x0.fAfter == x1.fAfter))) rfl (guard_none rfl) rfl rfl (ex_pand_f rfl rfl hg1181) ?_
      refine ops_ex rfl (guard_none rfl) rfl rfl (ex_assign rfl rfl) ?_
      refine ops_nil ?_
      replace HM := (HM.front 0 rfl rfl).drop
      replace HM := (HM.front 0 rfl rfl).drop
      exact at_meet [(4, .bool ((t1175 && (x0.fNeed == x1.fNeed)) && (x0.fAfter == x1.fAfter)))] ⟨rfl, HM⟩ (Sub.cons rfl Sub.nil)
  · rintro _ w1183 ⟨rfl, HM⟩
    refine at_then ?_
    refine run_ret ?_
    have hR := Option.some.inj H
    subst hR
    exact at_ret1 rfl rfl ⟨_, rfl, rfl, HM⟩

def impl_sameOuts.f (k : Nat) (x0 : Out) (x1 : Out) : Option Bool := ((bif (x0.fValue == x1.fValue) then impl_SameRules.f k x0.fRule x1.fRule else some default).bind fun t1194 => some ((x0.fValue == x1.fValue) && t1194))
theorem impl_sameOuts.calls {k : Nat} {x0 : Out} {x1 : Out} {p0_0 : Value} {p1_0 : Value} {w : World} (hp0_0 : RdS kInt w p0_0 x0.fRule.fKeys) (hp1_0 : RdS kInt w p1_0 x1.fRule.fKeys) {r : Bool} (H : impl_sameOuts.f k x0 x1 = some r) :
    Calls Try.prog 75 ([.agg #[(.int .i64 x0.fValue), p0_0, (.int .i64 x0.fRule.fNeed), (.int .i64 x0.fRule.fAfter)], .agg #[(.int .i64 x1.fValue), p1_0, (.int .i64 x1.fRule.fNeed), (.int .i64 x1.fRule.fAfter)]] : List Value).toArray w (fun e w_ => ∃ v, e = .returned v ∧ v = (.bool r) ∧ Mem w [] w_ []) := by
  have HM := Mem.start w
  refine calls_run (N := 17) Try.func75 rfl rfl rfl rfl ?_
  unfold impl_sameOuts.f at H
  refine run_seq ?_
  refine run_region rfl ?_
  refine ops_does rfl (guard_none rfl) rfl rfl (does_box (cs := [.int .i64 x0.fValue, p0_0, .int .i64 x0.fRule.fNeed, .int .i64 x0.fRule.fAfter]) rfl rfl rfl HM) ?_
  rintro _ w1192 ⟨b1186, rfl, HM⟩
  refine ops_does rfl (guard_none rfl) rfl rfl (does_box (cs := [.int .i64 x1.fValue, p1_0, .int .i64 x1.fRule.fNeed, .int .i64 x1.fRule.fAfter]) rfl rfl rfl HM) ?_
  rintro _ w1193 ⟨b1189, rfl, HM⟩
  refine ops_ex rfl (guard_none rfl) rfl rfl (ex_assign rfl rfl) ?_
  refine ops_nil ?_
  refine at_then ?_
  refine run_seq ?_
  obtain ⟨t1194, h1195, H⟩ := bind_some H
  refine run_meet (fun ρ_ w_ => ρ_ = [(4, .bool ((x0.fValue == x1.fValue) && t1194))] ∧ Mem w [] w_ []) ?_ ?_
  · skip
    refine run_region rfl ?_
    refine ops_ex rfl (guard_none rfl) rfl rfl (ex_fieldAddr (off' := 0) rfl rfl Try.underlying102 rfl tsz2 rfl) ?_
    refine ops_ex rfl (guard_none rfl) rfl rfl (ex_load1 rfl rfl Try.underlying2 rfl ((HM.box_at 1 rfl) 0 _ rfl)) ?_
    refine ops_ex rfl (guard_none rfl) rfl rfl (ex_fieldAddr (off' := 0) rfl rfl Try.underlying102 rfl tsz2 rfl) ?_
    refine ops_ex rfl (guard_none rfl) rfl rfl (ex_load1 rfl rfl Try.underlying2 rfl ((HM.box_at 0 rfl) 0 _ rfl)) ?_
    refine ops_ex rfl (guard_none rfl) rfl rfl (ex_eql rfl rfl rfl) ?_
    refine ops_ex rfl (guard_none rfl) rfl rfl (ex_move rfl rfl) ?_
    refine bool_cases (x0.fValue == x1.fValue) (fun hg1196 => ?_) (fun hg1196 => ?_)
    · skip
      refine ops_ex rfl (guard_on rfl rfl rfl hg1196) rfl rfl (ex_fieldAddr (off' := 1) rfl rfl Try.underlying102 rfl tsz100 rfl) ?_
      refine ops_ex rfl (guard_on rfl rfl rfl hg1196) rfl rfl (ex_loadN (cs := [p0_0, (.int .i64 x0.fRule.fNeed), (.int .i64 x0.fRule.fAfter)]) rfl rfl Try.underlying100 rfl tsz100 rfl ((HM.box_at 1 rfl).sub 1 3 rfl)) ?_
      refine ops_ex rfl (guard_on rfl rfl rfl hg1196) rfl rfl (ex_fieldAddr (off' := 1) rfl rfl Try.underlying102 rfl tsz100 rfl) ?_
      refine ops_ex rfl (guard_on rfl rfl rfl hg1196) rfl rfl (ex_loadN (cs := [p1_0, (.int .i64 x1.fRule.fNeed), (.int .i64 x1.fRule.fAfter)]) rfl rfl Try.underlying100 rfl tsz100 rfl ((HM.box_at 0 rfl).sub 1 3 rfl)) ?_
      refine ops_does rfl (guard_on rfl rfl rfl hg1196) rfl rfl (does_callk rfl callok126 rfl (impl_SameRules.calls (x0 := x0.fRule) (x1 := x1.fRule) (HM.rd hp0_0) (HM.rd hp1_0) (cond_t hg1196 h1195))) ?_
      rintro _ w1197 ⟨rfl, hn⟩
      replace HM : Mem w [] w1197 [box b1189 102 [.int .i64 x1.fValue, p1_0, .int .i64 x1.fRule.fNeed, .int .i64 x1.fRule.fAfter], box b1186 102 [.int .i64 x0.fValue, p0_0, .int .i64 x0.fRule.fNeed, .int .i64 x0.fRule.fAfter]] := HM.call hn
      refine ops_ex (v := .bool ((x0.fValue == x1.fValue) && t1194)) rfl (guard_none rfl) rfl rfl (ex_pand_t rfl rfl hg1196 rfl) ?_
      refine ops_ex rfl (guard_none rfl) rfl rfl (ex_assign rfl rfl) ?_
      refine ops_nil ?_
      replace HM := (HM.front 0 rfl rfl).drop
      replace HM := (HM.front 0 rfl rfl).drop
      exact at_meet [(4, .bool ((x0.fValue == x1.fValue) && t1194))] ⟨rfl, HM⟩ (Sub.cons rfl Sub.nil)
    · skip
      refine ops_off rfl (guard_off rfl rfl rfl hg1196) rfl rfl ?_
      refine ops_off rfl (guard_off rfl rfl rfl hg1196) rfl rfl ?_
      refine ops_off rfl (guard_off rfl rfl rfl hg1196) rfl rfl ?_
      refine ops_off rfl (guard_off rfl rfl rfl hg1196) rfl rfl ?_
      refine ops_off rfl (guard_off rfl rfl rfl hg1196) rfl rfl ?_
      have hg1198 : ((x0.fValue == x1.fValue) && t1194) = false := by simp only [hg1196, Bool.and_true, Bool.true_and, Bool.and_false, Bool.false_and, Bool.or_true, Bool.true_or, Bool.or_false, Bool.false_or, Bool.not_true, Bool.not_false, Bool.not_not]
      refine ops_ex (v := .bool ((x0.fValue == x1.fValue) && t1194)) rfl (guard_none rfl) rfl rfl (ex_pand_f rfl rfl hg1196) ?_
      refine ops_ex rfl (guard_none rfl) rfl rfl (ex_assign rfl rfl) ?_
      refine ops_nil ?_
      replace HM := (HM.front 0 rfl rfl).drop
      replace HM := (HM.front 0 rfl rfl).drop
      exact at_meet [(4, .bool ((x0.fValue == x1.fValue) && t1194))] ⟨rfl, HM⟩ (Sub.cons rfl Sub.nil)
  · rintro _ w1199 ⟨rfl, HM⟩
    refine at_then ?_
    refine run_ret ?_
    have hR := Option.some.inj H
    subst hR
    exact at_ret1 rfl rfl ⟨_, rfl, rfl, HM⟩

def slices_EqualFunc_impl_Out.l0 (x0 : List Out) (x1 : List Out) : Nat → Int → Option (Bool ⊕ Unit)
  | 0, _ => none
  | k + 1, a1319 => (bif (decide (a1319 < (x0.length : Int))) then (chk (idxOk a1319 x0.length) (chk (idxOk a1319 x1.length) ((impl_sameOuts.f k (gt x0 a1319) (gt x1 a1319)).bind fun t1359 => (bif !t1359 then some (.inl false) else slices_EqualFunc_impl_Out.l0 x0 x1 k (wrap64 (a1319 + 1)))))) else some (.inr ()))
theorem slices_EqualFunc_impl_Out.l0_z (x0 : List Out) (x1 : List Out) (a1319 : Int) : slices_EqualFunc_impl_Out.l0 x0 x1 0 a1319 = none := rfl
theorem slices_EqualFunc_impl_Out.l0_s (x0 : List Out) (x1 : List Out) (k : Nat) (a1319 : Int) : slices_EqualFunc_impl_Out.l0 x0 x1 (k + 1) a1319 = (bif (decide (a1319 < (x0.length : Int))) then (chk (idxOk a1319 x0.length) (chk (idxOk a1319 x1.length) ((impl_sameOuts.f k (gt x0 a1319) (gt x1 a1319)).bind fun t1359 => (bif !t1359 then some (.inl false) else slices_EqualFunc_impl_Out.l0 x0 x1 k (wrap64 (a1319 + 1)))))) else some (.inr ())) := rfl
def slices_EqualFunc_impl_Out.f (k : Nat) (x0 : List Out) (x1 : List Out) : Option Bool := (bif ((x0.length : Int) != (x1.length : Int)) then some false else ((slices_EqualFunc_impl_Out.l0 x0 x1 k 0).bind fun o1299 => thn o1299 (fun r => some r) (fun _ => some true)))
theorem slices_EqualFunc_impl_Out.calls {k : Nat} {x0 : List Out} {x1 : List Out} {p0 : Value} {p1 : Value} {w : World} (hp0 : RdS kOut w p0 x0) (hp1 : RdS kOut w p1 x1) {r : Bool} (H : slices_EqualFunc_impl_Out.f k x0 x1 = some r) :
    Calls Try.prog 74 ([p0, p1, .func (.func 75) #[] #[]] : List Value).toArray w (fun e w_ => ∃ v, e = .returned v ∧ v = (.bool r) ∧ Mem w [] w_ []) := by
  have HM := Mem.start w
  refine calls_run (N := 32) Try.func74 rfl rfl rfl rfl ?_
  unfold slices_EqualFunc_impl_Out.f at H
  refine run_seq ?_
  refine run_region rfl ?_
  refine ops_ex rfl (guard_none rfl) rfl rfl (ex_assign rfl rfl) ?_
  refine ops_nil ?_
  refine at_then ?_
  refine run_seq ?_
  refine run_seq ?_
  refine run_region rfl ?_
  refine ops_ex rfl (guard_none rfl) rfl rfl (ex_move rfl rfl) ?_
  refine ops_ex rfl (guard_none rfl) rfl rfl (ex_len (d := kOut) (xs := x0) rfl rfl Try.underlying35 hp0) ?_
  refine ops_ex rfl (guard_none rfl) rfl rfl (ex_move rfl rfl) ?_
  refine ops_ex rfl (guard_none rfl) rfl rfl (ex_len (d := kOut) (xs := x1) rfl rfl Try.underlying35 hp1) ?_
  refine ops_ex rfl (guard_none rfl) rfl rfl (ex_neq rfl rfl rfl) ?_
  refine ops_nil ?_
  refine at_then ?_
  refine run_cond (b := ((x0.length : Int) != (x1.length : Int))) rfl (fun hb1243 => ?_) (fun hb1243 => ?_)
  · replace H := cond_t hb1243 H
    refine run_seq ?_
    refine run_region rfl ?_
    refine ops_ex rfl (guard_none rfl) rfl rfl (ex_assign rfl rfl) ?_
    refine ops_nil ?_
    refine at_then ?_
    refine run_ret ?_
    refine at_then_ret ?_
    have hR := Option.some.inj H
    subst hR
    exact at_ret1 rfl rfl ⟨_, rfl, rfl, HM⟩
  · replace H := cond_f hb1243 H
    refine run_skip ?_
    refine at_then ?_
    obtain ⟨o1299, ho1300, H⟩ := bind_some H
    refine run_mid (fun ρ_ w_ => Sum.inr () = o1299 ∧ ρ_ = [] ∧ Mem w [] w_ []) ?_ ?_
    · skip
      refine run_seq ?_
      refine run_region rfl ?_
      refine ops_ex rfl (guard_none rfl) rfl rfl (ex_move rfl rfl) ?_
      refine ops_ex rfl (guard_none rfl) rfl rfl (ex_len (d := kOut) (xs := x0) rfl rfl Try.underlying35 hp0) ?_
      refine ops_ex rfl (guard_none rfl) rfl rfl (ex_move rfl rfl) ?_
      refine ops_nil ?_
      refine at_then ?_
      refine run_block ?_
      refine run_loop (fun k_ ρ_ w_ => ∃ a1319 : Int, slices_EqualFunc_impl_Out.l0 x0 x1 k_ a1319 = some o1299 ∧ ρ_ = [(1, p1), (2, .func (.func 75) #[] #[]), (15, p0), (16, .int .i64 (x0.length : Int)), (17, .int .i64 a1319)] ∧ Mem w [] w_ []) k (ρ1 := [(1, p1), (2, .func (.func 75) #[] #[]), (15, p0), (16, .int .i64 (x0.length : Int)), (17, .int .i64 0)]) ⟨_, ho1300, rfl, HM⟩ (Sub.cons rfl (Sub.cons rfl (Sub.cons rfl (Sub.cons rfl (Sub.cons rfl Sub.nil))))) ?_
      clear HM ho1300
      rintro k1338 _ w1339 ⟨a1319, ho1300, rfl, HM⟩
      obtain _ | k1338 := k1338
      · exact nomatch ((slices_EqualFunc_impl_Out.l0_z x0 x1 a1319).symm.trans ho1300)
      replace ho1300 := (slices_EqualFunc_impl_Out.l0_s x0 x1 k1338 a1319).symm.trans ho1300
      refine run_seq ?_
      refine run_region rfl ?_
      refine ops_ex rfl (guard_none rfl) rfl rfl (ex_lss rfl rfl rfl) ?_
      refine ops_nil ?_
      refine at_then ?_
      refine run_seq ?_
      refine run_cond (b := (decide (a1319 < (x0.length : Int)))) rfl (fun hb1340 => ?_) (fun hb1340 => ?_)
      · replace ho1300 := cond_t hb1340 ho1300
        refine run_skip ?_
        refine at_then ?_
        refine run_seq ?_
        refine run_block ?_
        refine run_seq ?_
        obtain ⟨e1341, ho1300⟩ := chk_some ho1300
        refine run_region rfl ?_
        refine ops_ex rfl (guard_none rfl) rfl rfl (ex_move rfl rfl) ?_
        obtain ⟨kv1343, hc1342, hk1344⟩ : ∃ u, CellsAt _ (sb p0) (so p0 + (a1319).toNat * 4) [(.int .i64 ((gt x0 a1319).fValue)), u, (.int .i64 ((gt x0 a1319).fRule.fNeed)), (.int .i64 ((gt x0 a1319).fRule.fAfter))] ∧ RdS kInt _ u ((gt x0 a1319).fRule.fKeys) := rd_with1 hp0 e1341
        refine ops_ex rfl (guard_none rfl) rfl rfl (ex_indexAddr (d := kOut) rfl rfl rfl Try.underlying35 tsz102 hp0 (idx_lo e1341) (idx_hi e1341)) ?_
        refine ops_ex rfl (guard_none rfl) rfl rfl (ex_loadN (cs := [(.int .i64 ((gt x0 a1319).fValue)), kv1343, (.int .i64 ((gt x0 a1319).fRule.fNeed)), (.int .i64 ((gt x0 a1319).fRule.fAfter))]) rfl rfl Try.underlying102 rfl tsz102 rfl ((HM.at_ hc1342).sub 0 4 rfl)) ?_
        refine ops_does rfl (guard_none rfl) rfl rfl (does_alloc (cs := [.int .i64 0, .slice none 0 0, .int .i64 0, .int .i64 0]) rfl tz102 rfl HM) ?_
        rintro _ w1348 ⟨b1345, rfl, HM⟩
        refine ops_ex rfl (guard_none rfl) rfl rfl (ex_assign rfl rfl) ?_
        refine ops_doesS rfl (guard_none rfl) rfl (does_store (vs := [.int .i64 ((gt x0 a1319).fValue), kv1343, .int .i64 ((gt x0 a1319).fRule.fNeed), .int .i64 ((gt x0 a1319).fRule.fAfter)]) (cs' := [.int .i64 ((gt x0 a1319).fValue), kv1343, .int .i64 ((gt x0 a1319).fRule.fNeed), .int .i64 ((gt x0 a1319).fRule.fAfter)]) rfl rfl rfl rfl tsz102 (Ones.int (Ones.rd hk1344 (Ones.int (Ones.int Ones.nil)))) rfl rfl HM) ?_
        rintro w1349 HM
        refine ops_nil ?_
        refine at_then ?_
        refine run_seq ?_
        obtain ⟨e1350, ho1300⟩ := chk_some ho1300
        refine run_region rfl ?_
        refine ops_ex rfl (guard_none rfl) rfl rfl (ex_move rfl rfl) ?_
        refine ops_ex rfl (guard_none rfl) rfl rfl (ex_move rfl rfl) ?_
        obtain ⟨kv1352, hc1351, hk1353⟩ : ∃ u, CellsAt _ (sb p1) (so p1 + (a1319).toNat * 4) [(.int .i64 ((gt x1 a1319).fValue)), u, (.int .i64 ((gt x1 a1319).fRule.fNeed)), (.int .i64 ((gt x1 a1319).fRule.fAfter))] ∧ RdS kInt _ u ((gt x1 a1319).fRule.fKeys) := rd_with1 hp1 e1350
        refine ops_ex rfl (guard_none rfl) rfl rfl (ex_indexAddr (d := kOut) rfl rfl rfl Try.underlying35 tsz102 hp1 (idx_lo e1350) (idx_hi e1350)) ?_
        refine ops_ex rfl (guard_none rfl) rfl rfl (ex_loadN (cs := [(.int .i64 ((gt x1 a1319).fValue)), kv1352, (.int .i64 ((gt x1 a1319).fRule.fNeed)), (.int .i64 ((gt x1 a1319).fRule.fAfter))]) rfl rfl Try.underlying102 rfl tsz102 rfl ((HM.at_ hc1351).sub 0 4 rfl)) ?_
        refine ops_does rfl (guard_none rfl) rfl rfl (does_alloc (cs := [.int .i64 0, .slice none 0 0, .int .i64 0, .int .i64 0]) rfl tz102 rfl HM) ?_
        rintro _ w1357 ⟨b1354, rfl, HM⟩
        refine ops_doesS rfl (guard_none rfl) rfl (does_store (vs := [.int .i64 ((gt x1 a1319).fValue), kv1352, .int .i64 ((gt x1 a1319).fRule.fNeed), .int .i64 ((gt x1 a1319).fRule.fAfter)]) (cs' := [.int .i64 ((gt x1 a1319).fValue), kv1352, .int .i64 ((gt x1 a1319).fRule.fNeed), .int .i64 ((gt x1 a1319).fRule.fAfter)]) rfl rfl rfl rfl tsz102 (Ones.int (Ones.rd hk1353 (Ones.int (Ones.int Ones.nil)))) rfl rfl HM) ?_
        rintro w1358 HM
        refine ops_nil ?_
        refine at_then ?_
        refine run_seq ?_
        obtain ⟨t1359, h1360, ho1300⟩ := bind_some ho1300
        refine run_region rfl ?_
        refine ops_ex rfl (guard_none rfl) rfl rfl (ex_move rfl rfl) ?_
        refine ops_ex rfl (guard_none rfl) rfl rfl (ex_loadN (cs := [(.int .i64 ((gt x0 a1319).fValue)), kv1343, (.int .i64 ((gt x0 a1319).fRule.fNeed)), (.int .i64 ((gt x0 a1319).fRule.fAfter))]) rfl rfl Try.underlying102 rfl tsz102 rfl ((HM.box_at 1 rfl).sub 0 4 rfl)) ?_
        refine ops_ex rfl (guard_none rfl) rfl rfl (ex_loadN (cs := [(.int .i64 ((gt x1 a1319).fValue)), kv1352, (.int .i64 ((gt x1 a1319).fRule.fNeed)), (.int .i64 ((gt x1 a1319).fRule.fAfter))]) rfl rfl Try.underlying102 rfl tsz102 rfl ((HM.box_at 0 rfl).sub 0 4 rfl)) ?_
        refine ops_does rfl (guard_none rfl) rfl rfl (does_callvk rfl callok75 rfl rfl rfl (impl_sameOuts.calls (x0 := (gt x0 a1319)) (x1 := (gt x1 a1319)) (HM.rd hk1344) (HM.rd hk1353) h1360)) ?_
        rintro _ w1361 ⟨rfl, hn⟩
        replace HM : Mem w [] w1361 [box b1354 102 [.int .i64 ((gt x1 a1319).fValue), kv1352, .int .i64 ((gt x1 a1319).fRule.fNeed), .int .i64 ((gt x1 a1319).fRule.fAfter)], box b1345 102 [.int .i64 ((gt x0 a1319).fValue), kv1343, .int .i64 ((gt x0 a1319).fRule.fNeed), .int .i64 ((gt x0 a1319).fRule.fAfter)]] := HM.call hn
        refine ops_ex rfl (guard_none rfl) rfl rfl (ex_not rfl rfl) ?_
        refine ops_nil ?_
        refine at_then ?_
        refine run_cond (b := !t1359) rfl (fun hb1362 => ?_) (fun hb1362 => ?_)
        · replace ho1300 := cond_t hb1362 ho1300
          refine run_seq ?_
          refine run_region rfl ?_
          refine ops_ex rfl (guard_none rfl) rfl rfl (ex_assign rfl rfl) ?_
          refine ops_nil ?_
          refine at_then ?_
          refine run_ret ?_
          refine at_block_ret ?_
          refine at_then_ret ?_
          refine at_then_ret ?_
          refine at_block_ret ?_
          refine at_then_ret ?_
          replace HM := (HM.front 0 rfl rfl).drop
          replace HM := (HM.front 0 rfl rfl).drop
          have hR := Option.some.inj ho1300
          subst hR
          have hT := thn_inl H
          have hR := Option.some.inj hT
          subst hR
          exact at_ret1 rfl rfl ⟨_, rfl, rfl, HM⟩
        · replace ho1300 := cond_f hb1362 ho1300
          refine run_skip ?_
          refine at_block ?_
          refine at_then ?_
          refine run_region rfl ?_
          refine ops_ex rfl (guard_none rfl) rfl rfl (ex_add rfl rfl rfl) ?_
          refine ops_ex rfl (guard_none rfl) rfl rfl (ex_move rfl rfl) ?_
          refine ops_nil ?_
          replace HM := (HM.front 0 rfl rfl).drop
          replace HM := (HM.front 0 rfl rfl).drop
          exact at_again k1338 (ρ1 := [(1, p1), (2, .func (.func 75) #[] #[]), (15, p0), (16, .int .i64 (x0.length : Int)), (17, .int .i64 (wrap64 (a1319 + 1)))]) (Nat.lt_succ_self _) ⟨_, ho1300, rfl, HM⟩ (Sub.cons rfl (Sub.cons rfl (Sub.cons rfl (Sub.cons rfl (Sub.cons rfl Sub.nil)))))
      · replace ho1300 := cond_f hb1340 ho1300
        refine run_exit ?_
        refine at_then_exit ?_
        refine at_then_exit ?_
        refine at_block_exit ?_
        exact at_mid (ρ' := []) ⟨(Option.some.inj ho1300), rfl, HM⟩ Sub.nil
    · rintro _ w1363 ⟨rfl, rfl, HM⟩
      replace H := (thn_inr H)
      refine run_seq ?_
      refine run_region rfl ?_
      refine ops_ex rfl (guard_none rfl) rfl rfl (ex_assign rfl rfl) ?_
      refine ops_nil ?_
      refine at_then ?_
      refine run_ret ?_
      have hR := Option.some.inj H
      subst hR
      exact at_ret1 rfl rfl ⟨_, rfl, rfl, HM⟩

def impl_SameTxs.f (k : Nat) (x0 : Tx) (x1 : Tx) : Option Bool := ((bif ((x0.fKind == x1.fKind) && (x0.fMember == x1.fMember)) then slices_Equal_impl_Ref.f k x0.fIns x1.fIns else some default).bind fun t1374 => ((bif (((x0.fKind == x1.fKind) && (x0.fMember == x1.fMember)) && t1374) then slices_EqualFunc_impl_Out.f k x0.fOuts x1.fOuts else some default).bind fun t1376 => some ((((x0.fKind == x1.fKind) && (x0.fMember == x1.fMember)) && t1374) && t1376)))
theorem impl_SameTxs.calls {k : Nat} {x0 : Tx} {x1 : Tx} {p0_0 : Value} {p0_1 : Value} {p1_0 : Value} {p1_1 : Value} {w : World} (hp0_0 : RdS kRef w p0_0 x0.fIns) (hp0_1 : RdS kOut w p0_1 x0.fOuts) (hp1_0 : RdS kRef w p1_0 x1.fIns) (hp1_1 : RdS kOut w p1_1 x1.fOuts) {r : Bool} (H : impl_SameTxs.f k x0 x1 = some r) :
    Calls Try.prog 23 ([.agg #[(.int .i64 x0.fKind), (.int .i64 x0.fMember), p0_0, p0_1], .agg #[(.int .i64 x1.fKind), (.int .i64 x1.fMember), p1_0, p1_1]] : List Value).toArray w (fun e w_ => ∃ v, e = .returned v ∧ v = (.bool r) ∧ Mem w [] w_ []) := by
  have HM := Mem.start w
  refine calls_run (N := 31) Try.func23 rfl rfl rfl rfl ?_
  unfold impl_SameTxs.f at H
  refine run_seq ?_
  refine run_region rfl ?_
  refine ops_does rfl (guard_none rfl) rfl rfl (does_box (cs := [.int .i64 x0.fKind, .int .i64 x0.fMember, p0_0, p0_1]) rfl rfl rfl HM) ?_
  rintro _ w1372 ⟨b1366, rfl, HM⟩
  refine ops_does rfl (guard_none rfl) rfl rfl (does_box (cs := [.int .i64 x1.fKind, .int .i64 x1.fMember, p1_0, p1_1]) rfl rfl rfl HM) ?_
  rintro _ w1373 ⟨b1369, rfl, HM⟩
  refine ops_ex rfl (guard_none rfl) rfl rfl (ex_assign rfl rfl) ?_
  refine ops_nil ?_
  refine at_then ?_
  refine run_seq ?_
  obtain ⟨t1374, h1375, H⟩ := bind_some H
  obtain ⟨t1376, h1377, H⟩ := bind_some H
  refine run_meet (fun ρ_ w_ => ρ_ = [(4, .bool ((((x0.fKind == x1.fKind) && (x0.fMember == x1.fMember)) && t1374) && t1376))] ∧ Mem w [] w_ []) ?_ ?_
  · skip
    refine run_region rfl ?_
    refine ops_ex rfl (guard_none rfl) rfl rfl (ex_fieldAddr (off' := 0) rfl rfl Try.underlying37 rfl tsz2 rfl) ?_
    refine ops_ex rfl (guard_none rfl) rfl rfl (ex_load1 rfl rfl Try.underlying2 rfl ((HM.box_at 1 rfl) 0 _ rfl)) ?_
    refine ops_ex rfl (guard_none rfl) rfl rfl (ex_fieldAddr (off' := 0) rfl rfl Try.underlying37 rfl tsz2 rfl) ?_
    refine ops_ex rfl (guard_none rfl) rfl rfl (ex_load1 rfl rfl Try.underlying2 rfl ((HM.box_at 0 rfl) 0 _ rfl)) ?_
    refine ops_ex rfl (guard_none rfl) rfl rfl (ex_eql rfl rfl rfl) ?_
    refine ops_ex rfl (guard_none rfl) rfl rfl (ex_move rfl rfl) ?_
    refine bool_cases (x0.fKind == x1.fKind) (fun hg1378 => ?_) (fun hg1378 => ?_)
    · skip
      refine ops_ex rfl (guard_on rfl rfl rfl hg1378) rfl rfl (ex_fieldAddr (off' := 1) rfl rfl Try.underlying37 rfl tsz2 rfl) ?_
      refine ops_ex rfl (guard_on rfl rfl rfl hg1378) rfl rfl (ex_load1 rfl rfl Try.underlying2 rfl ((HM.box_at 1 rfl) 1 _ rfl)) ?_
      refine ops_ex rfl (guard_on rfl rfl rfl hg1378) rfl rfl (ex_fieldAddr (off' := 1) rfl rfl Try.underlying37 rfl tsz2 rfl) ?_
      refine ops_ex rfl (guard_on rfl rfl rfl hg1378) rfl rfl (ex_load1 rfl rfl Try.underlying2 rfl ((HM.box_at 0 rfl) 1 _ rfl)) ?_
      refine ops_ex rfl (guard_on rfl rfl rfl hg1378) rfl rfl (ex_eql rfl rfl rfl) ?_
      refine ops_ex (v := .bool ((x0.fKind == x1.fKind) && (x0.fMember == x1.fMember))) rfl (guard_none rfl) rfl rfl (ex_pand_t rfl rfl hg1378 rfl) ?_
      refine ops_ex rfl (guard_none rfl) rfl rfl (ex_move rfl rfl) ?_
      refine bool_cases ((x0.fKind == x1.fKind) && (x0.fMember == x1.fMember)) (fun hg1379 => ?_) (fun hg1379 => ?_)
      · skip
        refine ops_ex rfl (guard_on rfl rfl rfl hg1379) rfl rfl (ex_fieldAddr (off' := 2) rfl rfl Try.underlying37 rfl tsz34 rfl) ?_
        refine ops_ex rfl (guard_on rfl rfl rfl hg1379) rfl rfl (ex_load1 rfl rfl Try.underlying34 rfl ((HM.box_at 1 rfl) 2 _ rfl)) ?_
        refine ops_ex rfl (guard_on rfl rfl rfl hg1379) rfl rfl (ex_fieldAddr (off' := 2) rfl rfl Try.underlying37 rfl tsz34 rfl) ?_
        refine ops_ex rfl (guard_on rfl rfl rfl hg1379) rfl rfl (ex_load1 rfl rfl Try.underlying34 rfl ((HM.box_at 0 rfl) 2 _ rfl)) ?_
        refine ops_does rfl (guard_on rfl rfl rfl hg1379) rfl rfl (does_callk rfl callok73 rfl (slices_Equal_impl_Ref.calls (x0 := x0.fIns) (x1 := x1.fIns) (HM.rd hp0_0) (HM.rd hp1_0) (cond_t hg1379 h1375))) ?_
        rintro _ w1380 ⟨rfl, hn⟩
        replace HM : Mem w [] w1380 [box b1369 37 [.int .i64 x1.fKind, .int .i64 x1.fMember, p1_0, p1_1], box b1366 37 [.int .i64 x0.fKind, .int .i64 x0.fMember, p0_0, p0_1]] := HM.call hn
        refine ops_ex (v := .bool (((x0.fKind == x1.fKind) && (x0.fMember == x1.fMember)) && t1374)) rfl (guard_none rfl) rfl rfl (ex_pand_t rfl rfl hg1379 rfl) ?_
        refine ops_ex rfl (guard_none rfl) rfl rfl (ex_move rfl rfl) ?_
        refine bool_cases (((x0.fKind == x1.fKind) && (x0.fMember == x1.fMember)) && t1374) (fun hg1381 => ?_) (fun hg1381 => ?_)
        · skip
          refine ops_ex rfl (guard_on rfl rfl rfl hg1381) rfl rfl (ex_fieldAddr (off' := 3) rfl rfl Try.underlying37 rfl tsz35 rfl) ?_
          refine ops_ex rfl (guard_on rfl rfl rfl hg1381) rfl rfl (ex_load1 rfl rfl Try.underlying35 rfl ((HM.box_at 1 rfl) 3 _ rfl)) ?_
          refine ops_ex rfl (guard_on rfl rfl rfl hg1381) rfl rfl (ex_fieldAddr (off' := 3) rfl rfl Try.underlying37 rfl tsz35 rfl) ?_
          refine ops_ex rfl (guard_on rfl rfl rfl hg1381) rfl rfl (ex_load1 rfl rfl Try.underlying35 rfl ((HM.box_at 0 rfl) 3 _ rfl)) ?_
          refine ops_does rfl (guard_on rfl rfl rfl hg1381) rfl rfl (does_callk rfl callok74 rfl (slices_EqualFunc_impl_Out.calls (x0 := x0.fOuts) (x1 := x1.fOuts) (HM.rd hp0_1) (HM.rd hp1_1) (cond_t hg1381 h1377))) ?_
          rintro _ w1382 ⟨rfl, hn⟩
          replace HM : Mem w [] w1382 [box b1369 37 [.int .i64 x1.fKind, .int .i64 x1.fMember, p1_0, p1_1], box b1366 37 [.int .i64 x0.fKind, .int .i64 x0.fMember, p0_0, p0_1]] := HM.call hn
          refine ops_ex (v := .bool ((((x0.fKind == x1.fKind) && (x0.fMember == x1.fMember)) && t1374) && t1376)) rfl (guard_none rfl) rfl rfl (ex_pand_t rfl rfl hg1381 rfl) ?_
          refine ops_ex rfl (guard_none rfl) rfl rfl (ex_assign rfl rfl) ?_
          refine ops_nil ?_
          replace HM := (HM.front 0 rfl rfl).drop
          replace HM := (HM.front 0 rfl rfl).drop
          exact at_meet [(4, .bool ((((x0.fKind == x1.fKind) && (x0.fMember == x1.fMember)) && t1374) && t1376))] ⟨rfl, HM⟩ (Sub.cons rfl Sub.nil)
        · skip
          refine ops_off rfl (guard_off rfl rfl rfl hg1381) rfl rfl ?_
          refine ops_off rfl (guard_off rfl rfl rfl hg1381) rfl rfl ?_
          refine ops_off rfl (guard_off rfl rfl rfl hg1381) rfl rfl ?_
          refine ops_off rfl (guard_off rfl rfl rfl hg1381) rfl rfl ?_
          refine ops_off rfl (guard_off rfl rfl rfl hg1381) rfl rfl ?_
          have hg1383 : ((((x0.fKind == x1.fKind) && (x0.fMember == x1.fMember)) && t1374) && t1376) = false := by simp only [hg1381, Bool.and_true, Bool.true_and, Bool.and_false, Bool.false_and, Bool.or_true, Bool.true_or, Bool.or_false, Bool.false_or, Bool.not_true, Bool.not_false, Bool.not_not]
          refine ops_ex (v := .bool ((((x0.fKind == x1.fKind) && (x0.fMember == x1.fMember)) && t1374) && t1376)) rfl (guard_none rfl) rfl rfl (ex_pand_f rfl rfl hg1381) ?_
          refine ops_ex rfl (guard_none rfl) rfl rfl (ex_assign rfl rfl) ?_
          refine ops_nil ?_
          replace HM := (HM.front 0 rfl rfl).drop
          replace HM := (HM.front 0 rfl rfl).drop
          exact at_meet [(4, .bool ((((x0.fKind == x1.fKind) && (x0.fMember == x1.fMember)) && t1374) && t1376))] ⟨rfl, HM⟩ (Sub.cons rfl Sub.nil)
      · skip
        refine ops_off rfl (guard_off rfl rfl rfl hg1379) rfl rfl ?_
        refine ops_off rfl (guard_off rfl rfl rfl hg1379) rfl rfl ?_
        refine ops_off rfl (guard_off rfl rfl rfl hg1379) rfl rfl ?_
        refine ops_off rfl (guard_off rfl rfl rfl hg1379) rfl rfl ?_
        refine ops_off rfl (guard_off rfl rfl rfl hg1379) rfl rfl ?_
        have hg1384 : (((x0.fKind == x1.fKind) && (x0.fMember == x1.fMember)) && t1374) = false := by simp only [hg1379, Bool.and_true, Bool.true_and, Bool.and_false, Bool.false_and, Bool.or_true, Bool.true_or, Bool.or_false, Bool.false_or, Bool.not_true, Bool.not_false, Bool.not_not]
        refine ops_ex (v := .bool (((x0.fKind == x1.fKind) && (x0.fMember == x1.fMember)) && t1374)) rfl (guard_none rfl) rfl rfl (ex_pand_f rfl rfl hg1379) ?_
        refine ops_ex rfl (guard_none rfl) rfl rfl (ex_move rfl rfl) ?_
        refine ops_off rfl (guard_off rfl rfl rfl hg1384) rfl rfl ?_
        refine ops_off rfl (guard_off rfl rfl rfl hg1384) rfl rfl ?_
        refine ops_off rfl (guard_off rfl rfl rfl hg1384) rfl rfl ?_
        refine ops_off rfl (guard_off rfl rfl rfl hg1384) rfl rfl ?_
        refine ops_off rfl (guard_off rfl rfl rfl hg1384) rfl rfl ?_
        have hg1385 : ((((x0.fKind == x1.fKind) && (x0.fMember == x1.fMember)) && t1374) && t1376) = false := by simp only [hg1384, Bool.and_true, Bool.true_and, Bool.and_false, Bool.false_and, Bool.or_true, Bool.true_or, Bool.or_false, Bool.false_or, Bool.not_true, Bool.not_false, Bool.not_not]
        refine ops_ex (v := .bool ((((x0.fKind == x1.fKind) && (x0.fMember == x1.fMember)) && t1374) && t1376)) rfl (guard_none rfl) rfl rfl (ex_pand_f rfl rfl hg1384) ?_
        refine ops_ex rfl (guard_none rfl) rfl rfl (ex_assign rfl rfl) ?_
        refine ops_nil ?_
        replace HM := (HM.front 0 rfl rfl).drop
        replace HM := (HM.front 0 rfl rfl).drop
        exact at_meet [(4, .bool ((((x0.fKind == x1.fKind) && (x0.fMember == x1.fMember)) && t1374) && t1376))] ⟨rfl, HM⟩ (Sub.cons rfl Sub.nil)
    · skip
      refine ops_off rfl (guard_off rfl rfl rfl hg1378) rfl rfl ?_
      refine ops_off rfl (guard_off rfl rfl rfl hg1378) rfl rfl ?_
      refine ops_off rfl (guard_off rfl rfl rfl hg1378) rfl rfl ?_
      refine ops_off rfl (guard_off rfl rfl rfl hg1378) rfl rfl ?_
      refine ops_off rfl (guard_off rfl rfl rfl hg1378) rfl rfl ?_
      have hg1386 : ((x0.fKind == x1.fKind) && (x0.fMember == x1.fMember)) = false := by simp only [hg1378, Bool.and_true, Bool.true_and, Bool.and_false, Bool.false_and, Bool.or_true, Bool.true_or, Bool.or_false, Bool.false_or, Bool.not_true, Bool.not_false, Bool.not_not]
      refine ops_ex (v := .bool ((x0.fKind == x1.fKind) && (x0.fMember == x1.fMember))) rfl (guard_none rfl) rfl rfl (ex_pand_f rfl rfl hg1378) ?_
      refine ops_ex rfl (guard_none rfl) rfl rfl (ex_move rfl rfl) ?_
      refine ops_off rfl (guard_off rfl rfl rfl hg1386) rfl rfl ?_
      refine ops_off rfl (guard_off rfl rfl rfl hg1386) rfl rfl ?_
      refine ops_off rfl (guard_off rfl rfl rfl hg1386) rfl rfl ?_
      refine ops_off rfl (guard_off rfl rfl rfl hg1386) rfl rfl ?_
      refine ops_off rfl (guard_off rfl rfl rfl hg1386) rfl rfl ?_
      have hg1387 : (((x0.fKind == x1.fKind) && (x0.fMember == x1.fMember)) && t1374) = false := by simp only [hg1386, Bool.and_true, Bool.true_and, Bool.and_false, Bool.false_and, Bool.or_true, Bool.true_or, Bool.or_false, Bool.false_or, Bool.not_true, Bool.not_false, Bool.not_not]
      refine ops_ex (v := .bool (((x0.fKind == x1.fKind) && (x0.fMember == x1.fMember)) && t1374)) rfl (guard_none rfl) rfl rfl (ex_pand_f rfl rfl hg1386) ?_
      refine ops_ex rfl (guard_none rfl) rfl rfl (ex_move rfl rfl) ?_
      refine ops_off rfl (guard_off rfl rfl rfl hg1387) rfl rfl ?_
      refine ops_off rfl (guard_off rfl rfl rfl hg1387) rfl rfl ?_
      refine ops_off rfl (guard_off rfl rfl rfl hg1387) rfl rfl ?_
      refine ops_off rfl (guard_off rfl rfl rfl hg1387) rfl rfl ?_
      refine ops_off rfl (guard_off rfl rfl rfl hg1387) rfl rfl ?_
      have hg1388 : ((((x0.fKind == x1.fKind) && (x0.fMember == x1.fMember)) && t1374) && t1376) = false := by simp only [hg1387, Bool.and_true, Bool.true_and, Bool.and_false, Bool.false_and, Bool.or_true, Bool.true_or, Bool.or_false, Bool.false_or, Bool.not_true, Bool.not_false, Bool.not_not]
      refine ops_ex (v := .bool ((((x0.fKind == x1.fKind) && (x0.fMember == x1.fMember)) && t1374) && t1376)) rfl (guard_none rfl) rfl rfl (ex_pand_f rfl rfl hg1387) ?_
      refine ops_ex rfl (guard_none rfl) rfl rfl (ex_assign rfl rfl) ?_
      refine ops_nil ?_
      replace HM := (HM.front 0 rfl rfl).drop
      replace HM := (HM.front 0 rfl rfl).drop
      exact at_meet [(4, .bool ((((x0.fKind == x1.fKind) && (x0.fMember == x1.fMember)) && t1374) && t1376))] ⟨rfl, HM⟩ (Sub.cons rfl Sub.nil)
  · rintro _ w1389 ⟨rfl, HM⟩
    refine at_then ?_
    refine run_ret ?_
    have hR := Option.some.inj H
    subst hR
    exact at_ret1 rfl rfl ⟨_, rfl, rfl, HM⟩

def laws_eqRef.f (k : Nat) (x0 : Ref) (x1 : Ref) : Option Bool := (bif (x0.fTx != x1.fTx) then some false else (bif (x0.fAt != x1.fAt) then some false else some true))
theorem laws_eqRef.calls {k : Nat} {x0 : Ref} {x1 : Ref}  {w : World}  {r : Bool} (H : laws_eqRef.f k x0 x1 = some r) :
    Calls Try.prog 124 ([.agg #[(.int .i64 x0.fTx), (.int .i64 x0.fAt)], .agg #[(.int .i64 x1.fTx), (.int .i64 x1.fAt)]] : List Value).toArray w (fun e w_ => ∃ v, e = .returned v ∧ v = (.bool r) ∧ Mem w [] w_ []) := by
  have HM := Mem.start w
  refine calls_run (N := 15) Try.func124 rfl rfl rfl rfl ?_
  unfold laws_eqRef.f at H
  refine run_seq ?_
  refine run_region rfl ?_
  refine ops_does rfl (guard_none rfl) rfl rfl (does_box (cs := [.int .i64 x0.fTx, .int .i64 x0.fAt]) rfl rfl rfl HM) ?_
  rintro _ w1432 ⟨b1426, rfl, HM⟩
  refine ops_does rfl (guard_none rfl) rfl rfl (does_box (cs := [.int .i64 x1.fTx, .int .i64 x1.fAt]) rfl rfl rfl HM) ?_
  rintro _ w1433 ⟨b1429, rfl, HM⟩
  refine ops_ex rfl (guard_none rfl) rfl rfl (ex_assign rfl rfl) ?_
  refine ops_nil ?_
  refine at_then ?_
  refine run_seq ?_
  refine run_seq ?_
  refine run_region rfl ?_
  refine ops_ex rfl (guard_none rfl) rfl rfl (ex_fieldAddr (off' := 0) rfl rfl Try.underlying99 rfl tsz2 rfl) ?_
  refine ops_ex rfl (guard_none rfl) rfl rfl (ex_load1 rfl rfl Try.underlying2 rfl ((HM.box_at 1 rfl) 0 _ rfl)) ?_
  refine ops_ex rfl (guard_none rfl) rfl rfl (ex_fieldAddr (off' := 0) rfl rfl Try.underlying99 rfl tsz2 rfl) ?_
  refine ops_ex rfl (guard_none rfl) rfl rfl (ex_load1 rfl rfl Try.underlying2 rfl ((HM.box_at 0 rfl) 0 _ rfl)) ?_
  refine ops_ex rfl (guard_none rfl) rfl rfl (ex_neq rfl rfl rfl) ?_
  refine ops_nil ?_
  refine at_then ?_
  refine run_cond (b := (x0.fTx != x1.fTx)) rfl (fun hb1435 => ?_) (fun hb1435 => ?_)
  · replace H := cond_t hb1435 H
    refine run_seq ?_
    refine run_region rfl ?_
    refine ops_ex rfl (guard_none rfl) rfl rfl (ex_assign rfl rfl) ?_
    refine ops_nil ?_
    refine at_then ?_
    refine run_ret ?_
    refine at_then_ret ?_
    replace HM := (HM.front 0 rfl rfl).drop
    replace HM := (HM.front 0 rfl rfl).drop
    have hR := Option.some.inj H
    subst hR
    exact at_ret1 rfl rfl ⟨_, rfl, rfl, HM⟩
  · replace H := cond_f hb1435 H
    refine run_skip ?_
    refine at_then ?_
    refine run_seq ?_
    refine run_seq ?_
    refine run_region rfl ?_
    refine ops_ex rfl (guard_none rfl) rfl rfl (ex_fieldAddr (off' := 1) rfl rfl Try.underlying99 rfl tsz2 rfl) ?_
    refine ops_ex rfl (guard_none rfl) rfl rfl (ex_load1 rfl rfl Try.underlying2 rfl ((HM.box_at 1 rfl) 1 _ rfl)) ?_
    refine ops_ex rfl (guard_none rfl) rfl rfl (ex_fieldAddr (off' := 1) rfl rfl Try.underlying99 rfl tsz2 rfl) ?_
    refine ops_ex rfl (guard_none rfl) rfl rfl (ex_load1 rfl rfl Try.underlying2 rfl ((HM.box_at 0 rfl) 1 _ rfl)) ?_
    refine ops_ex rfl (guard_none rfl) rfl rfl (ex_neq rfl rfl rfl) ?_
    refine ops_nil ?_
    refine at_then ?_
    refine run_cond (b := (x0.fAt != x1.fAt)) rfl (fun hb1436 => ?_) (fun hb1436 => ?_)
    · replace H := cond_t hb1436 H
      refine run_seq ?_
      refine run_region rfl ?_
      refine ops_ex rfl (guard_none rfl) rfl rfl (ex_assign rfl rfl) ?_
      refine ops_nil ?_
      refine at_then ?_
      refine run_ret ?_
      refine at_then_ret ?_
      replace HM := (HM.front 0 rfl rfl).drop
      replace HM := (HM.front 0 rfl rfl).drop
      have hR := Option.some.inj H
      subst hR
      exact at_ret1 rfl rfl ⟨_, rfl, rfl, HM⟩
    · replace H := cond_f hb1436 H
      refine run_skip ?_
      refine at_then ?_
      refine run_seq ?_
      refine run_region rfl ?_
      refine ops_ex rfl (guard_none rfl) rfl rfl (ex_assign rfl rfl) ?_
      refine ops_nil ?_
      refine at_then ?_
      refine run_ret ?_
      replace HM := (HM.front 0 rfl rfl).drop
      replace HM := (HM.front 0 rfl rfl).drop
      have hR := Option.some.inj H
      subst hR
      exact at_ret1 rfl rfl ⟨_, rfl, rfl, HM⟩
end Go.Proofs.Ytoiacoiccpiciaa.Zk
