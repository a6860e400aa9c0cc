/- What functions of the program compute, each as a plain function, and that they do. Conditions: as each theorem states them. -/
import Derived.Test.YtecgbhfgkkpmhabGreatUndoTxZkF10
namespace Go.Proofs.YtecgbhfgkkpmhabGreat.Zk
open Go Go.RowKit Go.IntWalk Go.Proofs
set_option linter.unusedVariables false
set_option linter.unusedSimpArgs false
set_option maxRecDepth 100000
set_option maxHeartbeats 4000000
def laws_eqOutS.l0 (x0 : List Out) (x1 : List Out) : Nat → Int → Option (Bool ⊕ Unit)
  | 0, _ => none
  | k + 1, a6831 => (bif (decide (a6831 < (x0.length : Int))) then (chk (idxOk a6831 x0.length) (chk (idxOk a6831 x1.length) ((laws_eqOut.f k (gt x0 a6831) (gt x1 a6831)).bind fun t6855 => (bif !t6855 then some (.inl false) else laws_eqOutS.l0 x0 x1 k (wrap64 (a6831 + 1)))))) else some (.inr ()))
theorem laws_eqOutS.l0_z (x0 : List Out) (x1 : List Out) (a6831 : Int) : laws_eqOutS.l0 x0 x1 0 a6831 = none := rfl
theorem laws_eqOutS.l0_s (x0 : List Out) (x1 : List Out) (k : Nat) (a6831 : Int) : laws_eqOutS.l0 x0 x1 (k + 1) a6831 = (bif (decide (a6831 < (x0.length : Int))) then (chk (idxOk a6831 x0.length) (chk (idxOk a6831 x1.length) ((laws_eqOut.f k (gt x0 a6831) (gt x1 a6831)).bind fun t6855 => (bif !t6855 then some (.inl false) else laws_eqOutS.l0 x0 x1 k (wrap64 (a6831 + 1)))))) else some (.inr ())) := rfl
def laws_eqOutS.f (k : Nat) (x0 : List Out) (x1 : List Out) : Option Bool := (bif ((x0.length : Int) != (x1.length : Int)) then some false else ((laws_eqOutS.l0 x0 x1 k 0).bind fun o6817 => thn o6817 (fun r => some r) (fun _ => some true)))
theorem laws_eqOutS.calls {k : Nat} {x0 : List Out} {x1 : List Out} {p0 : Value} {p1 : Value} {w : World} (hp0 : RdS kOut w p0 x0) (hp1 : RdS kOut w p1 x1) {r : Bool} (H : laws_eqOutS.f k x0 x1 = some r) :
    Calls Tryz.prog 35 ([p0, p1] : List Value).toArray w (fun e w_ => ∃ v, e = .returned v ∧ v = (.bool r) ∧ Mem w [] w_ []) := by
  have HM := Mem.start w
  refine calls_run (N := 27) Tryz.func35 rfl rfl rfl rfl ?_
  unfold laws_eqOutS.f at H
  refine run_seq ?_
  refine run_region rfl ?_
  refine ox rfl rfl rfl rfl (ex_assign rfl rfl) ?_
  refine ops_nil (at_then (run_seq ?_))
  refine run_seq ?_
  refine run_region rfl ?_
  refine ox rfl rfl rfl rfl (ex_move rfl rfl) ?_
  refine ox rfl rfl rfl rfl (ex_len (d := kOut) (xs := x0) rfl rfl Tryz.underlying35 hp0) ?_
  refine ox rfl rfl rfl rfl (ex_move rfl rfl) ?_
  refine ox rfl rfl rfl rfl (ex_len (d := kOut) (xs := x1) rfl rfl Tryz.underlying35 hp1) ?_
  refine ox rfl rfl rfl rfl (ex_neq rfl rfl rfl) ?_
  refine ops_nil (at_then ?_)
  refine run_cond (b := ((x0.length : Int) != (x1.length : Int))) rfl (fun hb6779 => ?_) (fun hb6779 => ?_)
  · replace H := cond_t hb6779 H
    refine run_seq ?_
    refine run_region rfl ?_
    refine ox rfl rfl rfl rfl (ex_assign rfl rfl) ?_
    refine ops_nil (at_then ?_)
    refine run_ret ?_
    refine at_then_ret ?_
    have hR := Option.some.inj H
    subst hR
    exact at_ret1 rfl rfl ⟨_, rfl, rfl, HM⟩
  · replace H := cond_f hb6779 H
    refine run_skip ?_
    refine at_then ?_
    obtain ⟨o6817, ho6818, H⟩ := bind_some H
    refine run_mid (fun ρ_ w_ => Sum.inr () = o6817 ∧ ρ_ = [] ∧ Mem w [] w_ []) ?_ ?_
    · skip
      refine run_seq ?_
      refine run_region rfl ?_
      refine ox rfl rfl rfl rfl (ex_assign rfl rfl) ?_
      refine ops_nil (at_then ?_)
      refine run_block ?_
      refine run_loop (fun k_ ρ_ w_ => ∃ a6831 : Int, laws_eqOutS.l0 x0 x1 k_ a6831 = some o6817 ∧ ρ_ = [(0, p0), (1, p1), (5, .int .i64 a6831)] ∧ Mem w [] w_ []) k (ρ1 := [(0, p0), (1, p1), (5, .int .i64 0)]) ⟨_, ho6818, rfl, HM⟩ (Sub.cons rfl (Sub.cons rfl (Sub.cons rfl Sub.nil))) ?_
      clear HM ho6818
      rintro k6844 _ w6845 ⟨a6831, ho6818, rfl, HM⟩
      obtain _ | k6844 := k6844
      · exact nomatch ((laws_eqOutS.l0_z x0 x1 a6831).symm.trans ho6818)
      replace ho6818 := (laws_eqOutS.l0_s x0 x1 k6844 a6831).symm.trans ho6818
      refine run_seq ?_
      refine run_seq ?_
      refine run_region rfl ?_
      refine ox rfl rfl rfl rfl (ex_move rfl rfl) ?_
      refine ox rfl rfl rfl rfl (ex_move rfl rfl) ?_
      refine ox rfl rfl rfl rfl (ex_len (d := kOut) (xs := x0) rfl rfl Tryz.underlying35 hp0) ?_
      refine ox rfl rfl rfl rfl (ex_lss rfl rfl rfl) ?_
      refine ops_nil (at_then ?_)
      refine run_cond (b := (decide (a6831 < (x0.length : Int)))) rfl (fun hb6846 => ?_) (fun hb6846 => ?_)
      · replace ho6818 := cond_t hb6846 ho6818
        refine run_skip ?_
        refine at_then ?_
        refine run_seq ?_
        refine run_block ?_
        refine run_seq ?_
        obtain ⟨e6847, ho6818⟩ := chk_some ho6818
        obtain ⟨e6851, ho6818⟩ := chk_some ho6818
        obtain ⟨t6855, h6856, ho6818⟩ := bind_some ho6818
        refine run_drawf (fun w_ => Mem w [] w_ []) [(0, true), (1, true), (2, true), (3, true), (4, true), (5, true), (6, true), (7, true), (8, false), (9, true)] mixed rfl rfl (by kernel_rfl) ?_
        replace HM := HM.grow (fr_drew _)
        have hS := Mem.suf (M := []) HM
        refine dp rfl rfl rfl rfl (ex_move rfl rfl) hS ?_
        refine dp rfl rfl rfl rfl (ex_move rfl rfl) hS ?_
        obtain ⟨kv6849, hc6848, hk6850⟩ : ∃ u, CellsAt _ (sb p0) (so p0 + (a6831).toNat * 4) [(.int .i64 ((gt x0 a6831).fValue)), u, (.int .i64 ((gt x0 a6831).fRule.fNeed)), (.int .i64 ((gt x0 a6831).fRule.fAfter))] ∧ RdS kInt _ u ((gt x0 a6831).fRule.fKeys) := rd_with1 hp0 e6847
        refine dp rfl rfl rfl rfl (ex_indexAddr (d := kOut) rfl rfl rfl Tryz.underlying35 tsz70 hp0 (idx_lo e6847) (idx_hi e6847)) hS ?_
        refine drwp_take rfl (guard_none rfl) rfl rfl (fun w_ hS_ => (ex_loadN (cs := [(.int .i64 ((gt x0 a6831).fValue)), kv6849, (.int .i64 ((gt x0 a6831).fRule.fNeed)), (.int .i64 ((gt x0 a6831).fRule.fAfter))]) rfl rfl Tryz.underlying70 rfl tsz70 rfl ((hS_.at_ hc6848).sub 0 4 rfl))) hS ?_
        refine dp rfl rfl rfl rfl (ex_move rfl rfl) hS ?_
        refine dp rfl rfl rfl rfl (ex_move rfl rfl) hS ?_
        obtain ⟨kv6853, hc6852, hk6854⟩ : ∃ u, CellsAt _ (sb p1) (so p1 + (a6831).toNat * 4) [(.int .i64 ((gt x1 a6831).fValue)), u, (.int .i64 ((gt x1 a6831).fRule.fNeed)), (.int .i64 ((gt x1 a6831).fRule.fAfter))] ∧ RdS kInt _ u ((gt x1 a6831).fRule.fKeys) := rd_with1 hp1 e6851
        refine dp rfl rfl rfl rfl (ex_indexAddr (d := kOut) rfl rfl rfl Tryz.underlying35 tsz70 hp1 (idx_lo e6851) (idx_hi e6851)) hS ?_
        refine drwp_take rfl (guard_none rfl) rfl rfl (fun w_ hS_ => (ex_loadN (cs := [(.int .i64 ((gt x1 a6831).fValue)), kv6853, (.int .i64 ((gt x1 a6831).fRule.fNeed)), (.int .i64 ((gt x1 a6831).fRule.fAfter))]) rfl rfl Tryz.underlying70 rfl tsz70 rfl ((hS_.at_ hc6852).sub 0 4 rfl))) hS ?_
        refine drwp_one rfl (guard_none rfl) rfl rfl (does_callk rfl callok73 rfl (laws_eqOut.calls (x0 := (gt x0 a6831)) (x1 := (gt x1 a6831)) (HM.rd hk6850) (HM.rd hk6854) h6856)) ?_
        rintro _ w6857 ⟨rfl, hn⟩
        replace HM : Mem w [] w6857 [] := HM.call hn
        have hS := Mem.suf (M := []) HM
        refine ⟨hS, ?_⟩
        refine dp rfl rfl rfl rfl (ex_not rfl rfl) hS ?_
        refine drwp_done ?_
        refine at_then ?_
        refine run_cond (b := !t6855) rfl (fun hb6858 => ?_) (fun hb6858 => ?_)
        · replace ho6818 := cond_t hb6858 ho6818
          refine run_seq ?_
          refine run_region rfl ?_
          refine ox rfl rfl rfl rfl (ex_assign rfl rfl) ?_
          refine ops_nil (at_then ?_)
          refine run_ret ?_
          refine at_block_ret ?_
          refine at_then_ret ?_
          refine at_then_ret ?_
          refine at_block_ret ?_
          refine at_then_ret ?_
          have hR := Option.some.inj ho6818
          subst hR
          have hT := thn_inl H
          have hR := Option.some.inj hT
          subst hR
          exact at_ret1 rfl rfl ⟨_, rfl, rfl, HM⟩
        · replace ho6818 := cond_f hb6858 ho6818
          refine run_skip ?_
          refine at_block ?_
          refine at_then ?_
          refine run_region rfl ?_
          refine ox rfl rfl rfl rfl (ex_move rfl rfl) ?_
          refine ox rfl rfl rfl rfl (ex_add rfl rfl rfl) ?_
          refine ox rfl rfl rfl rfl (ex_assign rfl rfl) ?_
          refine ops_nil ?_
          exact at_again k6844 (ρ1 := [(0, p0), (1, p1), (5, .int .i64 (wrap64 (a6831 + 1)))]) (Nat.lt_succ_self _) ⟨_, ho6818, rfl, HM⟩ (Sub.cons rfl (Sub.cons rfl (Sub.cons rfl Sub.nil)))
      · replace ho6818 := cond_f hb6846 ho6818
        refine run_exit ?_
        refine at_then_exit ?_
        refine at_then_exit ?_
        refine at_block_exit ?_
        exact at_mid (ρ' := []) ⟨(Option.some.inj ho6818), rfl, HM⟩ Sub.nil
    · rintro _ w6859 ⟨rfl, rfl, HM⟩
      replace H := (thn_inr H)
      refine run_seq ?_
      refine run_region rfl ?_
      refine ox rfl rfl rfl rfl (ex_assign rfl rfl) ?_
      refine ops_nil (at_then ?_)
      refine run_ret ?_
      have hR := Option.some.inj H
      subst hR
      exact at_ret1 rfl rfl ⟨_, rfl, rfl, HM⟩

def laws_eqTx.f (k : Nat) (x0 : Tx) (x1 : Tx) : Option Bool := (bif (x0.fKind != x1.fKind) then some false else (bif (x0.fMember != x1.fMember) then some false else ((laws_eqRefS.f k x0.fIns x1.fIns).bind fun t6878 => (bif !t6878 then some false else ((laws_eqOutS.f k x0.fOuts x1.fOuts).bind fun t6882 => (bif !t6882 then some false else some true))))))
theorem laws_eqTx.calls {k : Nat} {x0 : Tx} {x1 : Tx} {p0_0 : Value} {p0_1 : Value} {p1_0 : Value} {p1_1 : Value} {w : World} (hp0_0 : RdS kRef w p0_0 x0.fIns) (hp0_1 : RdS kOut w p0_1 x0.fOuts) (hp1_0 : RdS kRef w p1_0 x1.fIns) (hp1_1 : RdS kOut w p1_1 x1.fOuts) {r : Bool} (H : laws_eqTx.f k x0 x1 = some r) :
    Calls Tryz.prog 12 ([.agg #[(.int .i64 x0.fKind), (.int .i64 x0.fMember), p0_0, p0_1], .agg #[(.int .i64 x1.fKind), (.int .i64 x1.fMember), p1_0, p1_1]] : List Value).toArray w (fun e w_ => ∃ v, e = .returned v ∧ v = (.bool r) ∧ Mem w [] w_ []) := by
  have HM := Mem.start w
  refine calls_run (N := 27) Tryz.func12 rfl rfl rfl rfl ?_
  unfold laws_eqTx.f at H
  refine run_seq ?_
  refine run_region rfl ?_
  refine od rfl rfl rfl rfl (does_box (cs := [.int .i64 x0.fKind, .int .i64 x0.fMember, p0_0, p0_1]) rfl rfl rfl HM) ?_
  rintro _ w6869 ⟨b6863, rfl, HM⟩
  refine od rfl rfl rfl rfl (does_box (cs := [.int .i64 x1.fKind, .int .i64 x1.fMember, p1_0, p1_1]) rfl rfl rfl HM) ?_
  rintro _ w6870 ⟨b6866, rfl, HM⟩
  refine ox rfl rfl rfl rfl (ex_assign rfl rfl) ?_
  refine ops_nil (at_then (run_seq ?_))
  refine run_seq ?_
  refine run_region rfl ?_
  refine ox rfl rfl rfl rfl (ex_fieldAddr (off' := 0) rfl rfl Tryz.underlying37 rfl tsz2 rfl) ?_
  refine ox rfl rfl rfl rfl (ex_load1 rfl rfl Tryz.underlying2 rfl ((HM.box_at 1 rfl) 0 _ rfl)) ?_
  refine ox rfl rfl rfl rfl (ex_fieldAddr (off' := 0) rfl rfl Tryz.underlying37 rfl tsz2 rfl) ?_
  refine ox rfl rfl rfl rfl (ex_load1 rfl rfl Tryz.underlying2 rfl ((HM.box_at 0 rfl) 0 _ rfl)) ?_
  refine ox rfl rfl rfl rfl (ex_neq rfl rfl rfl) ?_
  refine ops_nil (at_then ?_)
  refine run_cond (b := (x0.fKind != x1.fKind)) rfl (fun hb6872 => ?_) (fun hb6872 => ?_)
  · replace H := cond_t hb6872 H
    refine run_seq ?_
    refine run_region rfl ?_
    refine ox rfl rfl rfl rfl (ex_assign rfl rfl) ?_
    refine ops_nil (at_then ?_)
    refine run_ret ?_
    refine at_then_ret ?_
    replace HM := (HM.front 0 rfl rfl).drop
    replace HM := (HM.front 0 rfl rfl).drop
    have hR := Option.some.inj H
    subst hR
    exact at_ret1 rfl rfl ⟨_, rfl, rfl, HM⟩
  · replace H := cond_f hb6872 H
    refine run_skip ?_
    refine at_then ?_
    refine run_seq ?_
    refine run_seq ?_
    refine run_region rfl ?_
    refine ox rfl rfl rfl rfl (ex_fieldAddr (off' := 1) rfl rfl Tryz.underlying37 rfl tsz2 rfl) ?_
    refine ox rfl rfl rfl rfl (ex_load1 rfl rfl Tryz.underlying2 rfl ((HM.box_at 1 rfl) 1 _ rfl)) ?_
    refine ox rfl rfl rfl rfl (ex_fieldAddr (off' := 1) rfl rfl Tryz.underlying37 rfl tsz2 rfl) ?_
    refine ox rfl rfl rfl rfl (ex_load1 rfl rfl Tryz.underlying2 rfl ((HM.box_at 0 rfl) 1 _ rfl)) ?_
    refine ox rfl rfl rfl rfl (ex_neq rfl rfl rfl) ?_
    refine ops_nil (at_then ?_)
    refine run_cond (b := (x0.fMember != x1.fMember)) rfl (fun hb6874 => ?_) (fun hb6874 => ?_)
    · replace H := cond_t hb6874 H
      refine run_seq ?_
      refine run_region rfl ?_
      refine ox rfl rfl rfl rfl (ex_assign rfl rfl) ?_
      refine ops_nil (at_then ?_)
      refine run_ret ?_
      refine at_then_ret ?_
      replace HM := (HM.front 0 rfl rfl).drop
      replace HM := (HM.front 0 rfl rfl).drop
      have hR := Option.some.inj H
      subst hR
      exact at_ret1 rfl rfl ⟨_, rfl, rfl, HM⟩
    · replace H := cond_f hb6874 H
      refine run_skip ?_
      refine at_then ?_
      refine run_seq ?_
      refine run_seq ?_
      obtain ⟨t6878, h6879, H⟩ := bind_some H
      refine run_region rfl ?_
      refine ox rfl rfl rfl rfl (ex_fieldAddr (off' := 2) rfl rfl Tryz.underlying37 rfl tsz34 rfl) ?_
      refine ox rfl rfl rfl rfl (ex_load1 rfl rfl Tryz.underlying34 rfl ((HM.box_at 1 rfl) 2 _ rfl)) ?_
      refine ox rfl rfl rfl rfl (ex_fieldAddr (off' := 2) rfl rfl Tryz.underlying37 rfl tsz34 rfl) ?_
      refine ox rfl rfl rfl rfl (ex_load1 rfl rfl Tryz.underlying34 rfl ((HM.box_at 0 rfl) 2 _ rfl)) ?_
      refine od rfl rfl rfl rfl (does_callk rfl callok34 rfl (laws_eqRefS.calls (x0 := x0.fIns) (x1 := x1.fIns) (HM.rd hp0_0) (HM.rd hp1_0) h6879)) ?_
      rintro _ w6880 ⟨rfl, hn⟩
      replace HM : Mem w [] w6880 [box b6866 37 [.int .i64 x1.fKind, .int .i64 x1.fMember, p1_0, p1_1], box b6863 37 [.int .i64 x0.fKind, .int .i64 x0.fMember, p0_0, p0_1]] := HM.call hn
      refine ox rfl rfl rfl rfl (ex_not rfl rfl) ?_
      refine ops_nil (at_then ?_)
      refine run_cond (b := !t6878) rfl (fun hb6881 => ?_) (fun hb6881 => ?_)
      · replace H := cond_t hb6881 H
        refine run_seq ?_
        refine run_region rfl ?_
        refine ox rfl rfl rfl rfl (ex_assign rfl rfl) ?_
        refine ops_nil (at_then ?_)
        refine run_ret ?_
        refine at_then_ret ?_
        replace HM := (HM.front 0 rfl rfl).drop
        replace HM := (HM.front 0 rfl rfl).drop
        have hR := Option.some.inj H
        subst hR
        exact at_ret1 rfl rfl ⟨_, rfl, rfl, HM⟩
      · replace H := cond_f hb6881 H
        refine run_skip ?_
        refine at_then ?_
        refine run_seq ?_
        refine run_seq ?_
        obtain ⟨t6882, h6883, H⟩ := bind_some H
        refine run_region rfl ?_
        refine ox rfl rfl rfl rfl (ex_fieldAddr (off' := 3) rfl rfl Tryz.underlying37 rfl tsz35 rfl) ?_
        refine ox rfl rfl rfl rfl (ex_load1 rfl rfl Tryz.underlying35 rfl ((HM.box_at 1 rfl) 3 _ rfl)) ?_
        refine ox rfl rfl rfl rfl (ex_fieldAddr (off' := 3) rfl rfl Tryz.underlying37 rfl tsz35 rfl) ?_
        refine ox rfl rfl rfl rfl (ex_load1 rfl rfl Tryz.underlying35 rfl ((HM.box_at 0 rfl) 3 _ rfl)) ?_
        refine od rfl rfl rfl rfl (does_callk rfl callok35 rfl (laws_eqOutS.calls (x0 := x0.fOuts) (x1 := x1.fOuts) (HM.rd hp0_1) (HM.rd hp1_1) h6883)) ?_
        rintro _ w6884 ⟨rfl, hn⟩
        replace HM : Mem w [] w6884 [box b6866 37 [.int .i64 x1.fKind, .int .i64 x1.fMember, p1_0, p1_1], box b6863 37 [.int .i64 x0.fKind, .int .i64 x0.fMember, p0_0, p0_1]] := HM.call hn
        refine ox rfl rfl rfl rfl (ex_not rfl rfl) ?_
        refine ops_nil (at_then ?_)
        refine run_cond (b := !t6882) rfl (fun hb6885 => ?_) (fun hb6885 => ?_)
        · replace H := cond_t hb6885 H
          refine run_seq ?_
          refine run_region rfl ?_
          refine ox rfl rfl rfl rfl (ex_assign rfl rfl) ?_
          refine ops_nil (at_then ?_)
          refine run_ret ?_
          refine at_then_ret ?_
          replace HM := (HM.front 0 rfl rfl).drop
          replace HM := (HM.front 0 rfl rfl).drop
          have hR := Option.some.inj H
          subst hR
          exact at_ret1 rfl rfl ⟨_, rfl, rfl, HM⟩
        · replace H := cond_f hb6885 H
          refine run_skip ?_
          refine at_then ?_
          refine run_seq ?_
          refine run_region rfl ?_
          refine ox rfl rfl rfl rfl (ex_assign rfl rfl) ?_
          refine ops_nil (at_then ?_)
          refine run_ret ?_
          replace HM := (HM.front 0 rfl rfl).drop
          replace HM := (HM.front 0 rfl rfl).drop
          have hR := Option.some.inj H
          subst hR
          exact at_ret1 rfl rfl ⟨_, rfl, rfl, HM⟩

def laws_markInt64S.l0  : Nat → (List Int) → Int → Int → Option ((List Int) × Int)
  | 0, _, _, _ => none
  | k + 1, a6963, a6965, a6966 => (bif (decide (a6966 < (a6963.length : Int))) then (chk (idxOk a6966 a6963.length) (laws_markInt64S.l0 k (a6963.set (a6966).toNat a6965) (wrap64 (a6965 + 1)) (wrap64 (a6966 + 1)))) else some (a6963, a6965))
theorem laws_markInt64S.l0_z  (a6963 : List Int) (a6965 : Int) (a6966 : Int) : laws_markInt64S.l0 0 a6963 a6965 a6966 = none := rfl
theorem laws_markInt64S.l0_s  (k : Nat) (a6963 : List Int) (a6965 : Int) (a6966 : Int) : laws_markInt64S.l0 (k + 1) a6963 a6965 a6966 = (bif (decide (a6966 < (a6963.length : Int))) then (chk (idxOk a6966 a6963.length) (laws_markInt64S.l0 k (a6963.set (a6966).toNat a6965) (wrap64 (a6965 + 1)) (wrap64 (a6966 + 1)))) else some (a6963, a6965)) := rfl
def laws_markInt64S.f (k : Nat) (x0 : List Int) (x1 : Int) : Option (Int × (List Int)) := ((laws_markInt64S.l0 k x0 x1 0).bind (cur2 (fun a6956 a6958 => some (a6958, a6956))))
theorem laws_markInt64S.calls {k : Nat} {x0 : List Int} {x1 : Int} {p0 : Value} {w wo : World} {X : List Nat} (hwo : Olds wo w X) (hX : Hold w [own kInt 2 p0 x0] X) (hXn : X.Nodup) (hXl : ∀ b ∈ X, b < w.heap.size)  {r : Int × (List Int)} (H : laws_markInt64S.f k x0 x1 = some r) :
    Calls Tryz.prog 36 ([p0, .int .i64 x1] : List Value).toArray w (fun e w_ => ∃ v, e = .returned v ∧ v = (.int .i64 r.1) ∧ Mem w X w_ [own kInt 2 p0 r.2]) := by
  have HM := Mem.startX hX hXn hXl
  refine calls_run (N := 19) Tryz.func36 rfl rfl rfl rfl ?_
  unfold laws_markInt64S.f at H
  refine run_seq ?_
  refine run_region rfl ?_
  refine ox rfl rfl rfl rfl (ex_assign rfl rfl) ?_
  refine ops_nil (at_then ?_)
  obtain ⟨o6959, ho6960, H⟩ := bind_some H
  refine run_mid (fun ρ_ w_ => ∃ a6956 : List Int, ∃ a6958 : Int, (a6956, a6958) = o6959 ∧ ρ_ = [(1, .int .i64 a6958)] ∧ Mem w X w_ [own kInt 2 p0 a6956]) ?_ ?_
  · clear H
    refine run_seq ?_
    refine run_region rfl ?_
    refine ox rfl rfl rfl rfl (ex_assign rfl rfl) ?_
    refine ops_nil (at_then ?_)
    refine run_block ?_
    refine run_loop (fun k_ ρ_ w_ => ∃ a6963 : List Int, ∃ a6965 : Int, ∃ a6966 : Int, laws_markInt64S.l0 k_ a6963 a6965 a6966 = some o6959 ∧ ρ_ = [(0, p0), (1, .int .i64 a6965), (5, .int .i64 a6966)] ∧ Mem w X w_ [own kInt 2 p0 a6963]) k (ρ1 := [(0, p0), (1, .int .i64 x1), (5, .int .i64 0)]) ⟨_, _, _, ho6960, rfl, HM⟩ (Sub.cons rfl (Sub.cons rfl (Sub.cons rfl Sub.nil))) ?_
    clear HM ho6960
    rintro k6969 _ w6970 ⟨a6963, a6965, a6966, ho6960, rfl, HM⟩
    obtain _ | k6969 := k6969
    · exact nomatch ((laws_markInt64S.l0_z a6963 a6965 a6966).symm.trans ho6960)
    replace ho6960 := (laws_markInt64S.l0_s k6969 a6963 a6965 a6966).symm.trans ho6960
    refine run_seq ?_
    refine run_seq ?_
    refine run_region rfl ?_
    refine ox rfl rfl rfl rfl (ex_move rfl rfl) ?_
    refine ox rfl rfl rfl rfl (ex_move rfl rfl) ?_
    refine ox rfl rfl rfl rfl (ex_len (d := kInt) (xs := a6963) rfl rfl Tryz.underlying49 (HM.own_rd 0 rfl)) ?_
    refine ox rfl rfl rfl rfl (ex_lss rfl rfl rfl) ?_
    refine ops_nil (at_then ?_)
    refine run_cond (b := (decide (a6966 < (a6963.length : Int)))) rfl (fun hb6971 => ?_) (fun hb6971 => ?_)
    · replace ho6960 := cond_t hb6971 ho6960
      refine run_skip ?_
      refine at_then ?_
      refine run_seq ?_
      refine run_block ?_
      refine run_seq ?_
      obtain ⟨e6972, ho6960⟩ := chk_some ho6960
      refine run_region rfl ?_
      refine ox rfl rfl rfl rfl (ex_move rfl rfl) ?_
      refine ox rfl rfl rfl rfl (ex_move rfl rfl) ?_
      refine ox rfl rfl rfl rfl (ex_move rfl rfl) ?_
      refine ox rfl rfl rfl rfl (ex_indexAddr (d := kInt) rfl rfl rfl Tryz.underlying49 tsz2 (HM.own_rd 0 rfl) (idx_lo e6972) (idx_hi e6972)) ?_
      refine odS rfl rfl rfl (does_setElem (vs := [(.int .i64 a6965)]) (y := a6965) kInt rfl rfl rfl rfl rfl tsz2 rfl rfl (idx_nat e6972) (fun _ _ h => ⟨rfl, h⟩) (HM.emp.front 1 rfl rfl)) ?_
      rintro w6973 HM
      refine ops_nil (at_then ?_)
      refine run_region rfl ?_
      refine ox rfl rfl rfl rfl (ex_move rfl rfl) ?_
      refine ox rfl rfl rfl rfl (ex_add rfl rfl rfl) ?_
      refine ox rfl rfl rfl rfl (ex_assign rfl rfl) ?_
      refine ops_nil ?_
      refine at_block ?_
      refine at_then ?_
      refine run_region rfl ?_
      refine ox rfl rfl rfl rfl (ex_move rfl rfl) ?_
      refine ox rfl rfl rfl rfl (ex_add rfl rfl rfl) ?_
      refine ox rfl rfl rfl rfl (ex_assign rfl rfl) ?_
      refine ops_nil ?_
      exact at_again k6969 (ρ1 := [(0, p0), (1, .int .i64 (wrap64 (a6965 + 1))), (5, .int .i64 (wrap64 (a6966 + 1)))]) (Nat.lt_succ_self _) ⟨_, _, _, ho6960, rfl, HM⟩ (Sub.cons rfl (Sub.cons rfl (Sub.cons rfl Sub.nil)))
    · replace ho6960 := cond_f hb6971 ho6960
      refine run_exit ?_
      refine at_then_exit ?_
      refine at_then_exit ?_
      refine at_block_exit ?_
      exact at_mid (ρ' := [(1, .int .i64 a6965)]) ⟨_, _, (Option.some.inj ho6960), rfl, HM⟩ (Sub.cons rfl Sub.nil)
  · rintro _ w6974 ⟨a6956, a6958, rfl, rfl, HM⟩
    replace H := cur2_mk H
    refine run_seq ?_
    refine run_region rfl ?_
    refine ox rfl rfl rfl rfl (ex_move rfl rfl) ?_
    refine ox rfl rfl rfl rfl (ex_assign rfl rfl) ?_
    refine ops_nil (at_then ?_)
    refine run_ret ?_
    have hR := Option.some.inj H
    subst hR
    exact at_ret1 rfl rfl ⟨_, rfl, rfl, HM⟩

def laws_markCoinS.l0  : Nat → (List Coin) → Int → Int → Option ((List Coin) × Int)
  | 0, _, _, _ => none
  | k + 1, a7138, a7140, a7141 => (bif (decide (a7141 < (a7138.length : Int))) then (chk (idxOk a7141 a7138.length) ((laws_markInt64S.f k ((gt a7138 a7141).fOut.fRule.fKeys) (wrap64 ((wrap64 ((wrap64 (a7140 + 1)) + 1)) + 1))).bind fun t7178 => (chk ((3 : Int) != 0) (laws_markCoinS.l0 k (a7138.set (a7141).toNat (⟨(⟨a7140, wrap64 (a7140 + 1)⟩ : Ref), (⟨wrap64 ((wrap64 (a7140 + 1)) + 1), (⟨t7178.2, t7178.1, wrap64 (t7178.1 + 1)⟩ : Rule)⟩ : Out), wrap64 ((wrap64 (t7178.1 + 1)) + 1), ((Int.tmod (wrap64 ((wrap64 ((wrap64 (t7178.1 + 1)) + 1)) + 1)) (3 : Int)) == 0)⟩ : Coin)) (wrap64 ((wrap64 ((wrap64 ((wrap64 (t7178.1 + 1)) + 1)) + 1)) + 1)) (wrap64 (a7141 + 1)))))) else some (a7138, a7140))
theorem laws_markCoinS.l0_z  (a7138 : List Coin) (a7140 : Int) (a7141 : Int) : laws_markCoinS.l0 0 a7138 a7140 a7141 = none := rfl
theorem laws_markCoinS.l0_s  (k : Nat) (a7138 : List Coin) (a7140 : Int) (a7141 : Int) : laws_markCoinS.l0 (k + 1) a7138 a7140 a7141 = (bif (decide (a7141 < (a7138.length : Int))) then (chk (idxOk a7141 a7138.length) ((laws_markInt64S.f k ((gt a7138 a7141).fOut.fRule.fKeys) (wrap64 ((wrap64 ((wrap64 (a7140 + 1)) + 1)) + 1))).bind fun t7178 => (chk ((3 : Int) != 0) (laws_markCoinS.l0 k (a7138.set (a7141).toNat (⟨(⟨a7140, wrap64 (a7140 + 1)⟩ : Ref), (⟨wrap64 ((wrap64 (a7140 + 1)) + 1), (⟨t7178.2, t7178.1, wrap64 (t7178.1 + 1)⟩ : Rule)⟩ : Out), wrap64 ((wrap64 (t7178.1 + 1)) + 1), ((Int.tmod (wrap64 ((wrap64 ((wrap64 (t7178.1 + 1)) + 1)) + 1)) (3 : Int)) == 0)⟩ : Coin)) (wrap64 ((wrap64 ((wrap64 ((wrap64 (t7178.1 + 1)) + 1)) + 1)) + 1)) (wrap64 (a7141 + 1)))))) else some (a7138, a7140)) := rfl
def laws_markCoinS.f (k : Nat) (x0 : List Coin) (x1 : Int) : Option (Int × (List Coin)) := ((laws_markCoinS.l0 k x0 x1 0).bind (cur2 (fun a7111 a7113 => some (a7113, a7111))))
theorem laws_markCoinS.calls {k : Nat} {x0 : List Coin} {x1 : Int} {p0 : Value} {w wo : World} {X : List Nat} (hwo : Olds wo w X) (hX : Hold w [own kCoin 72 p0 x0] X) (hXn : X.Nodup) (hXl : ∀ b ∈ X, b < w.heap.size)  {r : Int × (List Coin)} (H : laws_markCoinS.f k x0 x1 = some r) :
    Calls Tryz.prog 13 ([p0, .int .i64 x1] : List Value).toArray w (fun e w_ => ∃ v, e = .returned v ∧ v = (.int .i64 r.1) ∧ Mem w X w_ [own kCoin 72 p0 r.2]) := by
  have HM := Mem.startX hX hXn hXl
  refine calls_run (N := 80) Tryz.func13 rfl rfl rfl rfl ?_
  unfold laws_markCoinS.f at H
  refine run_seq ?_
  refine run_region rfl ?_
  refine ox rfl rfl rfl rfl (ex_assign rfl rfl) ?_
  refine ops_nil (at_then ?_)
  obtain ⟨o7114, ho7115, H⟩ := bind_some H
  refine run_mid (fun ρ_ w_ => ∃ a7111 : List Coin, ∃ a7113 : Int, (a7111, a7113) = o7114 ∧ ρ_ = [(1, .int .i64 a7113)] ∧ Mem w X w_ [own kCoin 72 p0 a7111]) ?_ ?_
  · clear H
    refine run_seq ?_
    refine run_region rfl ?_
    refine ox rfl rfl rfl rfl (ex_assign rfl rfl) ?_
    refine ops_nil (at_then ?_)
    refine run_block ?_
    refine run_loop (fun k_ ρ_ w_ => ∃ a7138 : List Coin, ∃ a7140 : Int, ∃ a7141 : Int, laws_markCoinS.l0 k_ a7138 a7140 a7141 = some o7114 ∧ ρ_ = [(0, p0), (1, .int .i64 a7140), (5, .int .i64 a7141)] ∧ Mem w X w_ [own kCoin 72 p0 a7138]) k (ρ1 := [(0, p0), (1, .int .i64 x1), (5, .int .i64 0)]) ⟨_, _, _, ho7115, rfl, HM⟩ (Sub.cons rfl (Sub.cons rfl (Sub.cons rfl Sub.nil))) ?_
    clear HM ho7115
    rintro k7164 _ w7165 ⟨a7138, a7140, a7141, ho7115, rfl, HM⟩
    obtain _ | k7164 := k7164
    · exact nomatch ((laws_markCoinS.l0_z a7138 a7140 a7141).symm.trans ho7115)
    replace ho7115 := (laws_markCoinS.l0_s k7164 a7138 a7140 a7141).symm.trans ho7115
    refine run_seq ?_
    refine run_seq ?_
    refine run_region rfl ?_
    refine ox rfl rfl rfl rfl (ex_move rfl rfl) ?_
    refine ox rfl rfl rfl rfl (ex_move rfl rfl) ?_
    refine ox rfl rfl rfl rfl (ex_len (d := kCoin) (xs := a7138) rfl rfl Tryz.underlying29 (HM.own_rd 0 rfl)) ?_
    refine ox rfl rfl rfl rfl (ex_lss rfl rfl rfl) ?_
    refine ops_nil (at_then ?_)
    refine run_cond (b := (decide (a7141 < (a7138.length : Int)))) rfl (fun hb7166 => ?_) (fun hb7166 => ?_)
    · replace ho7115 := cond_t hb7166 ho7115
      refine run_skip ?_
      refine at_then ?_
      refine run_seq ?_
      refine run_block ?_
      refine run_seq ?_
      obtain ⟨e7167, ho7115⟩ := chk_some ho7115
      refine run_region rfl ?_
      refine ox rfl rfl rfl rfl (ex_move rfl rfl) ?_
      refine ox rfl rfl rfl rfl (ex_move rfl rfl) ?_
      refine ox rfl rfl rfl rfl (ex_move rfl rfl) ?_
      refine ox rfl rfl rfl rfl (ex_indexAddr (d := kCoin) rfl rfl rfl Tryz.underlying29 tsz72 (HM.own_rd 0 rfl) (idx_lo e7167) (idx_hi e7167)) ?_
      refine ox rfl rfl rfl rfl (ex_fieldAddr (off' := so p0 + (a7141).toNat * 8) rfl rfl Tryz.underlying72 rfl tsz66 rfl) ?_
      refine ox rfl rfl rfl rfl (ex_fieldAddr (off' := so p0 + (a7141).toNat * 8) rfl rfl Tryz.underlying66 rfl tsz2 rfl) ?_
      refine odS rfl rfl rfl (does_setField (fo := 0) (vs := [(.int .i64 a7140)]) (y := (⟨(⟨a7140, (gt a7138 a7141).fRef.fAt⟩ : Ref), (gt a7138 a7141).fOut, (gt a7138 a7141).fHeight, (gt a7138 a7141).fMined⟩ : Coin)) kCoin rfl rfl rfl rfl rfl tsz2 (Ones.int Ones.nil) rfl rfl (idx_nat e7167) (fun _ _ _ h => by rw [← gt_eq (idx_nat e7167)] at h; obtain ⟨_, rfl, h2⟩ := h; exact ⟨_, rfl, h2⟩) HM) ?_
      rintro w7168 HM
      refine ops_nil (at_then (run_seq ?_))
      refine run_region rfl ?_
      refine ox rfl rfl rfl rfl (ex_move rfl rfl) ?_
      refine ox rfl rfl rfl rfl (ex_add rfl rfl rfl) ?_
      refine ox rfl rfl rfl rfl (ex_assign rfl rfl) ?_
      refine ops_nil (at_then (run_seq ?_))
      refine run_region rfl ?_
      refine ox rfl rfl rfl rfl (ex_move rfl rfl) ?_
      refine ox rfl rfl rfl rfl (ex_move rfl rfl) ?_
      refine ox rfl rfl rfl rfl (ex_move rfl rfl) ?_
      have e7169 : idxOk a7141 (a7138.set (a7141).toNat (⟨(⟨a7140, (gt a7138 a7141).fRef.fAt⟩ : Ref), (gt a7138 a7141).fOut, (gt a7138 a7141).fHeight, (gt a7138 a7141).fMined⟩ : Coin)).length = true := len_set e7167
      refine ox rfl rfl rfl rfl (ex_indexAddr (d := kCoin) rfl rfl rfl Tryz.underlying29 tsz72 (HM.own_rd 0 rfl) (idx_lo e7169) (idx_hi e7169)) ?_
      refine ox rfl rfl rfl rfl (ex_fieldAddr (off' := so p0 + (a7141).toNat * 8) rfl rfl Tryz.underlying72 rfl tsz66 rfl) ?_
      refine ox rfl rfl rfl rfl (ex_fieldAddr (off' := so p0 + (a7141).toNat * 8 + 1) rfl rfl Tryz.underlying66 rfl tsz2 rfl) ?_
      refine odS rfl rfl rfl (does_setField (fo := 1) (vs := [(.int .i64 (wrap64 (a7140 + 1)))]) (y := (⟨(⟨a7140, wrap64 (a7140 + 1)⟩ : Ref), (gt a7138 a7141).fOut, (gt a7138 a7141).fHeight, (gt a7138 a7141).fMined⟩ : Coin)) kCoin rfl rfl rfl rfl rfl tsz2 (Ones.int Ones.nil) rfl rfl (idx_nat e7169) (fun _ _ _ h => by rw [List.getElem_set_self] at h; obtain ⟨_, rfl, h2⟩ := h; exact ⟨_, rfl, h2⟩) HM) ?_
      rintro w7170 HM
      replace HM := HM.set2
      refine ops_nil (at_then (run_seq ?_))
      refine run_region rfl ?_
      refine ox rfl rfl rfl rfl (ex_move rfl rfl) ?_
      refine ox rfl rfl rfl rfl (ex_add rfl rfl rfl) ?_
      refine ox rfl rfl rfl rfl (ex_assign rfl rfl) ?_
      refine ops_nil (at_then (run_seq ?_))
      refine run_region rfl ?_
      refine ox rfl rfl rfl rfl (ex_move rfl rfl) ?_
      refine ox rfl rfl rfl rfl (ex_move rfl rfl) ?_
      refine ox rfl rfl rfl rfl (ex_move rfl rfl) ?_
      have e7171 : idxOk a7141 (a7138.set (a7141).toNat (⟨(⟨a7140, wrap64 (a7140 + 1)⟩ : Ref), (gt a7138 a7141).fOut, (gt a7138 a7141).fHeight, (gt a7138 a7141).fMined⟩ : Coin)).length = true := len_set e7167
      refine ox rfl rfl rfl rfl (ex_indexAddr (d := kCoin) rfl rfl rfl Tryz.underlying29 tsz72 (HM.own_rd 0 rfl) (idx_lo e7171) (idx_hi e7171)) ?_
      refine ox rfl rfl rfl rfl (ex_fieldAddr (off' := so p0 + (a7141).toNat * 8 + 2) rfl rfl Tryz.underlying72 rfl tsz70 rfl) ?_
      refine ox rfl rfl rfl rfl (ex_fieldAddr (off' := so p0 + (a7141).toNat * 8 + 2) rfl rfl Tryz.underlying70 rfl tsz2 rfl) ?_
      refine odS rfl rfl rfl (does_setField (fo := 2) (vs := [(.int .i64 (wrap64 ((wrap64 (a7140 + 1)) + 1)))]) (y := (⟨(⟨a7140, wrap64 (a7140 + 1)⟩ : Ref), (⟨wrap64 ((wrap64 (a7140 + 1)) + 1), (gt a7138 a7141).fOut.fRule⟩ : Out), (gt a7138 a7141).fHeight, (gt a7138 a7141).fMined⟩ : Coin)) kCoin rfl rfl rfl rfl rfl tsz2 (Ones.int Ones.nil) rfl rfl (idx_nat e7171) (fun _ _ _ h => by rw [List.getElem_set_self] at h; obtain ⟨_, rfl, h2⟩ := h; exact ⟨_, rfl, h2⟩) HM) ?_
      rintro w7172 HM
      replace HM := HM.set2
      refine ops_nil (at_then (run_seq ?_))
      refine run_region rfl ?_
      refine ox rfl rfl rfl rfl (ex_move rfl rfl) ?_
      refine ox rfl rfl rfl rfl (ex_add rfl rfl rfl) ?_
      refine ox rfl rfl rfl rfl (ex_assign rfl rfl) ?_
      refine ops_nil (at_then (run_seq ?_))
      obtain ⟨t7178, h7179, ho7115⟩ := bind_some ho7115
      refine run_region rfl ?_
      refine ox rfl rfl rfl rfl (ex_move rfl rfl) ?_
      refine ox rfl rfl rfl rfl (ex_move rfl rfl) ?_
      have e7173 : idxOk a7141 (a7138.set (a7141).toNat (⟨(⟨a7140, wrap64 (a7140 + 1)⟩ : Ref), (⟨wrap64 ((wrap64 (a7140 + 1)) + 1), (gt a7138 a7141).fOut.fRule⟩ : Out), (gt a7138 a7141).fHeight, (gt a7138 a7141).fMined⟩ : Coin)).length = true := len_set e7167
      refine ox rfl rfl rfl rfl (ex_indexAddr (d := kCoin) rfl rfl rfl Tryz.underlying29 tsz72 (HM.own_rd 0 rfl) (idx_lo e7173) (idx_hi e7173)) ?_
      refine ox rfl rfl rfl rfl (ex_fieldAddr (off' := so p0 + (a7141).toNat * 8 + 2) rfl rfl Tryz.underlying72 rfl tsz70 rfl) ?_
      refine ox rfl rfl rfl rfl (ex_fieldAddr (off' := so p0 + (a7141).toNat * 8 + 3) rfl rfl Tryz.underlying70 rfl tsz68 rfl) ?_
      refine ox rfl rfl rfl rfl (ex_fieldAddr (off' := so p0 + (a7141).toNat * 8 + 3) rfl rfl Tryz.underlying68 rfl tsz49 rfl) ?_
      obtain ⟨u7174, hc7175, HM⟩ := HM.open1 e7173 (gt_set2 e7167)
      refine ox rfl rfl rfl rfl (ex_load1 rfl rfl Tryz.underlying49 rfl (hc7175 3 _ rfl)) ?_
      refine ox rfl rfl rfl rfl (ex_move rfl rfl) ?_
      obtain ⟨F7180, hF7181, hFn7182, hFl7183, HMh7184, hcl7185⟩ := HM.hide (Ms := [own kInt 2 u7174 ((gt a7138 a7141).fOut.fRule.fKeys)])
      refine od rfl rfl rfl rfl (does_callk rfl callok36 rfl (laws_markInt64S.calls (x0 := (gt a7138 a7141).fOut.fRule.fKeys) (x1 := wrap64 ((wrap64 ((wrap64 (a7140 + 1)) + 1)) + 1)) (hide_olds _ _) hF7181 hFn7182 hFl7183 h7179)) ?_
      rintro _ w7186 ⟨rfl, hn⟩
      replace HM : Mem w X w7186 [own kInt 2 u7174 t7178.2, hole kCoin (fun u_ => [(.int .i64 a7140), (.int .i64 (wrap64 (a7140 + 1))), (.int .i64 (wrap64 ((wrap64 (a7140 + 1)) + 1))), u_, (.int .i64 ((gt a7138 a7141).fOut.fRule.fNeed)), (.int .i64 ((gt a7138 a7141).fOut.fRule.fAfter)), (.int .i64 ((gt a7138 a7141).fHeight)), (.bool ((gt a7138 a7141).fMined))]) 72 p0 (a7138.set (a7141).toNat (⟨(⟨a7140, wrap64 (a7140 + 1)⟩ : Ref), (⟨wrap64 ((wrap64 (a7140 + 1)) + 1), (gt a7138 a7141).fOut.fRule⟩ : Out), (gt a7138 a7141).fHeight, (gt a7138 a7141).fMined⟩ : Coin)) (a7141).toNat u7174] := hcl7185 _ _ hn
      replace HM := HM.front 1 rfl rfl
      replace HM := HM.front 1 rfl rfl
      replace HM := Mem.close1 (⟨(⟨a7140, wrap64 (a7140 + 1)⟩ : Ref), (⟨wrap64 ((wrap64 (a7140 + 1)) + 1), (⟨t7178.2, (gt a7138 a7141).fOut.fRule.fNeed, (gt a7138 a7141).fOut.fRule.fAfter⟩ : Rule)⟩ : Out), (gt a7138 a7141).fHeight, (gt a7138 a7141).fMined⟩ : Coin) HM rfl rfl
      replace HM := HM.set2
      refine ox rfl rfl rfl rfl (ex_assign rfl rfl) ?_
      refine ops_nil (at_then (run_seq ?_))
      refine run_region rfl ?_
      refine ox rfl rfl rfl rfl (ex_move rfl rfl) ?_
      refine ox rfl rfl rfl rfl (ex_move rfl rfl) ?_
      refine ox rfl rfl rfl rfl (ex_move rfl rfl) ?_
      have e7187 : idxOk a7141 (a7138.set (a7141).toNat (⟨(⟨a7140, wrap64 (a7140 + 1)⟩ : Ref), (⟨wrap64 ((wrap64 (a7140 + 1)) + 1), (⟨t7178.2, (gt a7138 a7141).fOut.fRule.fNeed, (gt a7138 a7141).fOut.fRule.fAfter⟩ : Rule)⟩ : Out), (gt a7138 a7141).fHeight, (gt a7138 a7141).fMined⟩ : Coin)).length = true := len_set e7167
      refine ox rfl rfl rfl rfl (ex_indexAddr (d := kCoin) rfl rfl rfl Tryz.underlying29 tsz72 (HM.own_rd 0 rfl) (idx_lo e7187) (idx_hi e7187)) ?_
      refine ox rfl rfl rfl rfl (ex_fieldAddr (off' := so p0 + (a7141).toNat * 8 + 2) rfl rfl Tryz.underlying72 rfl tsz70 rfl) ?_
      refine ox rfl rfl rfl rfl (ex_fieldAddr (off' := so p0 + (a7141).toNat * 8 + 3) rfl rfl Tryz.underlying70 rfl tsz68 rfl) ?_
      refine ox rfl rfl rfl rfl (ex_fieldAddr (off' := so p0 + (a7141).toNat * 8 + 4) rfl rfl Tryz.underlying68 rfl tsz2 rfl) ?_
      refine odS rfl rfl rfl (does_setField (fo := 4) (vs := [(.int .i64 t7178.1)]) (y := (⟨(⟨a7140, wrap64 (a7140 + 1)⟩ : Ref), (⟨wrap64 ((wrap64 (a7140 + 1)) + 1), (⟨t7178.2, t7178.1, (gt a7138 a7141).fOut.fRule.fAfter⟩ : Rule)⟩ : Out), (gt a7138 a7141).fHeight, (gt a7138 a7141).fMined⟩ : Coin)) kCoin rfl rfl rfl rfl rfl tsz2 (Ones.int Ones.nil) rfl rfl (idx_nat e7187) (fun _ _ _ h => by rw [List.getElem_set_self] at h; obtain ⟨_, rfl, h2⟩ := h; exact ⟨_, rfl, h2⟩) HM) ?_
      rintro w7188 HM
      replace HM := HM.set2
      refine ops_nil (at_then (run_seq ?_))
      refine run_region rfl ?_
      refine ox rfl rfl rfl rfl (ex_move rfl rfl) ?_
      refine ox rfl rfl rfl rfl (ex_add rfl rfl rfl) ?_
      refine ox rfl rfl rfl rfl (ex_assign rfl rfl) ?_
      refine ops_nil (at_then (run_seq ?_))
      refine run_region rfl ?_
      refine ox rfl rfl rfl rfl (ex_move rfl rfl) ?_
      refine ox rfl rfl rfl rfl (ex_move rfl rfl) ?_
      refine ox rfl rfl rfl rfl (ex_move rfl rfl) ?_
      have e7189 : idxOk a7141 (a7138.set (a7141).toNat (⟨(⟨a7140, wrap64 (a7140 + 1)⟩ : Ref), (⟨wrap64 ((wrap64 (a7140 + 1)) + 1), (⟨t7178.2, t7178.1, (gt a7138 a7141).fOut.fRule.fAfter⟩ : Rule)⟩ : Out), (gt a7138 a7141).fHeight, (gt a7138 a7141).fMined⟩ : Coin)).length = true := len_set e7167
      refine ox rfl rfl rfl rfl (ex_indexAddr (d := kCoin) rfl rfl rfl Tryz.underlying29 tsz72 (HM.own_rd 0 rfl) (idx_lo e7189) (idx_hi e7189)) ?_
      refine ox rfl rfl rfl rfl (ex_fieldAddr (off' := so p0 + (a7141).toNat * 8 + 2) rfl rfl Tryz.underlying72 rfl tsz70 rfl) ?_
      refine ox rfl rfl rfl rfl (ex_fieldAddr (off' := so p0 + (a7141).toNat * 8 + 3) rfl rfl Tryz.underlying70 rfl tsz68 rfl) ?_
      refine ox rfl rfl rfl rfl (ex_fieldAddr (off' := so p0 + (a7141).toNat * 8 + 5) rfl rfl Tryz.underlying68 rfl tsz2 rfl) ?_
      refine odS rfl rfl rfl (does_setField (fo := 5) (vs := [(.int .i64 (wrap64 (t7178.1 + 1)))]) (y := (⟨(⟨a7140, wrap64 (a7140 + 1)⟩ : Ref), (⟨wrap64 ((wrap64 (a7140 + 1)) + 1), (⟨t7178.2, t7178.1, wrap64 (t7178.1 + 1)⟩ : Rule)⟩ : Out), (gt a7138 a7141).fHeight, (gt a7138 a7141).fMined⟩ : Coin)) kCoin rfl rfl rfl rfl rfl tsz2 (Ones.int Ones.nil) rfl rfl (idx_nat e7189) (fun _ _ _ h => by rw [List.getElem_set_self] at h; obtain ⟨_, rfl, h2⟩ := h; exact ⟨_, rfl, h2⟩) HM) ?_
      rintro w7190 HM
      replace HM := HM.set2
      refine ops_nil (at_then (run_seq ?_))
      refine run_region rfl ?_
      refine ox rfl rfl rfl rfl (ex_move rfl rfl) ?_
      refine ox rfl rfl rfl rfl (ex_add rfl rfl rfl) ?_
      refine ox rfl rfl rfl rfl (ex_assign rfl rfl) ?_
      refine ops_nil (at_then (run_seq ?_))
      refine run_region rfl ?_
      refine ox rfl rfl rfl rfl (ex_move rfl rfl) ?_
      refine ox rfl rfl rfl rfl (ex_move rfl rfl) ?_
      refine ox rfl rfl rfl rfl (ex_move rfl rfl) ?_
      have e7191 : idxOk a7141 (a7138.set (a7141).toNat (⟨(⟨a7140, wrap64 (a7140 + 1)⟩ : Ref), (⟨wrap64 ((wrap64 (a7140 + 1)) + 1), (⟨t7178.2, t7178.1, wrap64 (t7178.1 + 1)⟩ : Rule)⟩ : Out), (gt a7138 a7141).fHeight, (gt a7138 a7141).fMined⟩ : Coin)).length = true := len_set e7167
      refine ox rfl rfl rfl rfl (ex_indexAddr (d := kCoin) rfl rfl rfl Tryz.underlying29 tsz72 (HM.own_rd 0 rfl) (idx_lo e7191) (idx_hi e7191)) ?_
      refine ox rfl rfl rfl rfl (ex_fieldAddr (off' := so p0 + (a7141).toNat * 8 + 6) rfl rfl Tryz.underlying72 rfl tsz2 rfl) ?_
      refine odS rfl rfl rfl (does_setField (fo := 6) (vs := [(.int .i64 (wrap64 ((wrap64 (t7178.1 + 1)) + 1)))]) (y := (⟨(⟨a7140, wrap64 (a7140 + 1)⟩ : Ref), (⟨wrap64 ((wrap64 (a7140 + 1)) + 1), (⟨t7178.2, t7178.1, wrap64 (t7178.1 + 1)⟩ : Rule)⟩ : Out), wrap64 ((wrap64 (t7178.1 + 1)) + 1), (gt a7138 a7141).fMined⟩ : Coin)) kCoin rfl rfl rfl rfl rfl tsz2 (Ones.int Ones.nil) rfl rfl (idx_nat e7191) (fun _ _ _ h => by rw [List.getElem_set_self] at h; obtain ⟨_, rfl, h2⟩ := h; exact ⟨_, rfl, h2⟩) HM) ?_
      rintro w7192 HM
      replace HM := HM.set2
      refine ops_nil (at_then (run_seq ?_))
      refine run_region rfl ?_
      refine ox rfl rfl rfl rfl (ex_move rfl rfl) ?_
      refine ox rfl rfl rfl rfl (ex_add rfl rfl rfl) ?_
      refine ox rfl rfl rfl rfl (ex_assign rfl rfl) ?_
      refine ops_nil (at_then (run_seq ?_))
      obtain ⟨e7193, ho7115⟩ := chk_some ho7115
      refine run_region rfl ?_
      refine ox rfl rfl rfl rfl (ex_move rfl rfl) ?_
      refine ox rfl rfl rfl rfl (ex_move rfl rfl) ?_
      refine ox rfl rfl rfl rfl (ex_move rfl rfl) ?_
      refine ox rfl rfl rfl rfl (ex_remk rfl rfl rfl e7193) ?_
      refine ox rfl rfl rfl rfl (ex_eql rfl rfl rfl) ?_
      have e7194 : idxOk a7141 (a7138.set (a7141).toNat (⟨(⟨a7140, wrap64 (a7140 + 1)⟩ : Ref), (⟨wrap64 ((wrap64 (a7140 + 1)) + 1), (⟨t7178.2, t7178.1, wrap64 (t7178.1 + 1)⟩ : Rule)⟩ : Out), wrap64 ((wrap64 (t7178.1 + 1)) + 1), (gt a7138 a7141).fMined⟩ : Coin)).length = true := len_set e7167
      refine ox rfl rfl rfl rfl (ex_indexAddr (d := kCoin) rfl rfl rfl Tryz.underlying29 tsz72 (HM.own_rd 0 rfl) (idx_lo e7194) (idx_hi e7194)) ?_
      refine ox rfl rfl rfl rfl (ex_fieldAddr (off' := so p0 + (a7141).toNat * 8 + 7) rfl rfl Tryz.underlying72 rfl tsz4 rfl) ?_
      refine odS rfl rfl rfl (does_setField (fo := 7) (vs := [(.bool ((Int.tmod (wrap64 ((wrap64 ((wrap64 (t7178.1 + 1)) + 1)) + 1)) (3 : Int)) == 0))]) (y := (⟨(⟨a7140, wrap64 (a7140 + 1)⟩ : Ref), (⟨wrap64 ((wrap64 (a7140 + 1)) + 1), (⟨t7178.2, t7178.1, wrap64 (t7178.1 + 1)⟩ : Rule)⟩ : Out), wrap64 ((wrap64 (t7178.1 + 1)) + 1), ((Int.tmod (wrap64 ((wrap64 ((wrap64 (t7178.1 + 1)) + 1)) + 1)) (3 : Int)) == 0)⟩ : Coin)) kCoin rfl rfl rfl rfl rfl tsz4 (Ones.bool Ones.nil) rfl rfl (idx_nat e7194) (fun _ _ _ h => by rw [List.getElem_set_self] at h; obtain ⟨_, rfl, h2⟩ := h; exact ⟨_, rfl, h2⟩) HM) ?_
      rintro w7195 HM
      replace HM := HM.set2
      refine ops_nil (at_then ?_)
      refine run_region rfl ?_
      refine ox rfl rfl rfl rfl (ex_move rfl rfl) ?_
      refine ox rfl rfl rfl rfl (ex_add rfl rfl rfl) ?_
      refine ox rfl rfl rfl rfl (ex_assign rfl rfl) ?_
      refine ops_nil ?_
      refine at_block ?_
      refine at_then ?_
      refine run_region rfl ?_
      refine ox rfl rfl rfl rfl (ex_move rfl rfl) ?_
      refine ox rfl rfl rfl rfl (ex_add rfl rfl rfl) ?_
      refine ox rfl rfl rfl rfl (ex_assign rfl rfl) ?_
      refine ops_nil ?_
      exact at_again k7164 (ρ1 := [(0, p0), (1, .int .i64 (wrap64 ((wrap64 ((wrap64 ((wrap64 (t7178.1 + 1)) + 1)) + 1)) + 1))), (5, .int .i64 (wrap64 (a7141 + 1)))]) (Nat.lt_succ_self _) ⟨_, _, _, ho7115, rfl, HM⟩ (Sub.cons rfl (Sub.cons rfl (Sub.cons rfl Sub.nil)))
    · replace ho7115 := cond_f hb7166 ho7115
      refine run_exit ?_
      refine at_then_exit ?_
      refine at_then_exit ?_
      refine at_block_exit ?_
      exact at_mid (ρ' := [(1, .int .i64 a7140)]) ⟨_, _, (Option.some.inj ho7115), rfl, HM⟩ (Sub.cons rfl Sub.nil)
  · rintro _ w7196 ⟨a7111, a7113, rfl, rfl, HM⟩
    replace H := cur2_mk H
    refine run_seq ?_
    refine run_region rfl ?_
    refine ox rfl rfl rfl rfl (ex_move rfl rfl) ?_
    refine ox rfl rfl rfl rfl (ex_assign rfl rfl) ?_
    refine ops_nil (at_then ?_)
    refine run_ret ?_
    have hR := Option.some.inj H
    subst hR
    exact at_ret1 rfl rfl ⟨_, rfl, rfl, HM⟩

def laws_markRefS.l0  : Nat → (List Ref) → Int → Int → Option ((List Ref) × Int)
  | 0, _, _, _ => none
  | k + 1, a7251, a7253, a7254 => (bif (decide (a7254 < (a7251.length : Int))) then (chk (idxOk a7254 a7251.length) (laws_markRefS.l0 k (a7251.set (a7254).toNat (⟨a7253, wrap64 (a7253 + 1)⟩ : Ref)) (wrap64 ((wrap64 (a7253 + 1)) + 1)) (wrap64 (a7254 + 1)))) else some (a7251, a7253))
theorem laws_markRefS.l0_z  (a7251 : List Ref) (a7253 : Int) (a7254 : Int) : laws_markRefS.l0 0 a7251 a7253 a7254 = none := rfl
theorem laws_markRefS.l0_s  (k : Nat) (a7251 : List Ref) (a7253 : Int) (a7254 : Int) : laws_markRefS.l0 (k + 1) a7251 a7253 a7254 = (bif (decide (a7254 < (a7251.length : Int))) then (chk (idxOk a7254 a7251.length) (laws_markRefS.l0 k (a7251.set (a7254).toNat (⟨a7253, wrap64 (a7253 + 1)⟩ : Ref)) (wrap64 ((wrap64 (a7253 + 1)) + 1)) (wrap64 (a7254 + 1)))) else some (a7251, a7253)) := rfl
def laws_markRefS.f (k : Nat) (x0 : List Ref) (x1 : Int) : Option (Int × (List Ref)) := ((laws_markRefS.l0 k x0 x1 0).bind (cur2 (fun a7243 a7245 => some (a7245, a7243))))
theorem laws_markRefS.calls {k : Nat} {x0 : List Ref} {x1 : Int} {p0 : Value} {w wo : World} {X : List Nat} (hwo : Olds wo w X) (hX : Hold w [own kRef 66 p0 x0] X) (hXn : X.Nodup) (hXl : ∀ b ∈ X, b < w.heap.size)  {r : Int × (List Ref)} (H : laws_markRefS.f k x0 x1 = some r) :
    Calls Tryz.prog 37 ([p0, .int .i64 x1] : List Value).toArray w (fun e w_ => ∃ v, e = .returned v ∧ v = (.int .i64 r.1) ∧ Mem w X w_ [own kRef 66 p0 r.2]) := by
  have HM := Mem.startX hX hXn hXl
  refine calls_run (N := 27) Tryz.func37 rfl rfl rfl rfl ?_
  unfold laws_markRefS.f at H
  refine run_seq ?_
  refine run_region rfl ?_
  refine ox rfl rfl rfl rfl (ex_assign rfl rfl) ?_
  refine ops_nil (at_then ?_)
  obtain ⟨o7246, ho7247, H⟩ := bind_some H
  refine run_mid (fun ρ_ w_ => ∃ a7243 : List Ref, ∃ a7245 : Int, (a7243, a7245) = o7246 ∧ ρ_ = [(1, .int .i64 a7245)] ∧ Mem w X w_ [own kRef 66 p0 a7243]) ?_ ?_
  · clear H
    refine run_seq ?_
    refine run_region rfl ?_
    refine ox rfl rfl rfl rfl (ex_assign rfl rfl) ?_
    refine ops_nil (at_then ?_)
    refine run_block ?_
    refine run_loop (fun k_ ρ_ w_ => ∃ a7251 : List Ref, ∃ a7253 : Int, ∃ a7254 : Int, laws_markRefS.l0 k_ a7251 a7253 a7254 = some o7246 ∧ ρ_ = [(0, p0), (1, .int .i64 a7253), (5, .int .i64 a7254)] ∧ Mem w X w_ [own kRef 66 p0 a7251]) k (ρ1 := [(0, p0), (1, .int .i64 x1), (5, .int .i64 0)]) ⟨_, _, _, ho7247, rfl, HM⟩ (Sub.cons rfl (Sub.cons rfl (Sub.cons rfl Sub.nil))) ?_
    clear HM ho7247
    rintro k7258 _ w7259 ⟨a7251, a7253, a7254, ho7247, rfl, HM⟩
    obtain _ | k7258 := k7258
    · exact nomatch ((laws_markRefS.l0_z a7251 a7253 a7254).symm.trans ho7247)
    replace ho7247 := (laws_markRefS.l0_s k7258 a7251 a7253 a7254).symm.trans ho7247
    refine run_seq ?_
    refine run_seq ?_
    refine run_region rfl ?_
    refine ox rfl rfl rfl rfl (ex_move rfl rfl) ?_
    refine ox rfl rfl rfl rfl (ex_move rfl rfl) ?_
    refine ox rfl rfl rfl rfl (ex_len (d := kRef) (xs := a7251) rfl rfl Tryz.underlying34 (HM.own_rd 0 rfl)) ?_
    refine ox rfl rfl rfl rfl (ex_lss rfl rfl rfl) ?_
    refine ops_nil (at_then ?_)
    refine run_cond (b := (decide (a7254 < (a7251.length : Int)))) rfl (fun hb7260 => ?_) (fun hb7260 => ?_)
    · replace ho7247 := cond_t hb7260 ho7247
      refine run_skip ?_
      refine at_then ?_
      refine run_seq ?_
      refine run_block ?_
      refine run_seq ?_
      obtain ⟨e7261, ho7247⟩ := chk_some ho7247
      refine run_region rfl ?_
      refine ox rfl rfl rfl rfl (ex_move rfl rfl) ?_
      refine ox rfl rfl rfl rfl (ex_move rfl rfl) ?_
      refine ox rfl rfl rfl rfl (ex_move rfl rfl) ?_
      refine ox rfl rfl rfl rfl (ex_indexAddr (d := kRef) rfl rfl rfl Tryz.underlying34 tsz66 (HM.own_rd 0 rfl) (idx_lo e7261) (idx_hi e7261)) ?_
      refine ox rfl rfl rfl rfl (ex_fieldAddr (off' := so p0 + (a7254).toNat * 2) rfl rfl Tryz.underlying66 rfl tsz2 rfl) ?_
      refine odS rfl rfl rfl (does_setField (fo := 0) (vs := [(.int .i64 a7253)]) (y := (⟨a7253, (gt a7251 a7254).fAt⟩ : Ref)) kRef rfl rfl rfl rfl rfl tsz2 (Ones.int Ones.nil) rfl rfl (idx_nat e7261) (fun _ _ _ h => by rw [← gt_eq (idx_nat e7261)] at h; obtain ⟨rfl, h2⟩ := h; exact ⟨rfl, h2⟩) HM) ?_
      rintro w7262 HM
      refine ops_nil (at_then (run_seq ?_))
      refine run_region rfl ?_
      refine ox rfl rfl rfl rfl (ex_move rfl rfl) ?_
      refine ox rfl rfl rfl rfl (ex_add rfl rfl rfl) ?_
      refine ox rfl rfl rfl rfl (ex_assign rfl rfl) ?_
      refine ops_nil (at_then (run_seq ?_))
      refine run_region rfl ?_
      refine ox rfl rfl rfl rfl (ex_move rfl rfl) ?_
      refine ox rfl rfl rfl rfl (ex_move rfl rfl) ?_
      refine ox rfl rfl rfl rfl (ex_move rfl rfl) ?_
      have e7263 : idxOk a7254 (a7251.set (a7254).toNat (⟨a7253, (gt a7251 a7254).fAt⟩ : Ref)).length = true := len_set e7261
      refine ox rfl rfl rfl rfl (ex_indexAddr (d := kRef) rfl rfl rfl Tryz.underlying34 tsz66 (HM.own_rd 0 rfl) (idx_lo e7263) (idx_hi e7263)) ?_
      refine ox rfl rfl rfl rfl (ex_fieldAddr (off' := so p0 + (a7254).toNat * 2 + 1) rfl rfl Tryz.underlying66 rfl tsz2 rfl) ?_
      refine odS rfl rfl rfl (does_setField (fo := 1) (vs := [(.int .i64 (wrap64 (a7253 + 1)))]) (y := (⟨a7253, wrap64 (a7253 + 1)⟩ : Ref)) kRef rfl rfl rfl rfl rfl tsz2 (Ones.int Ones.nil) rfl rfl (idx_nat e7263) (fun _ _ _ h => by rw [List.getElem_set_self] at h; obtain ⟨rfl, h2⟩ := h; exact ⟨rfl, h2⟩) HM) ?_
      rintro w7264 HM
      replace HM := HM.set2
      refine ops_nil (at_then ?_)
      refine run_region rfl ?_
      refine ox rfl rfl rfl rfl (ex_move rfl rfl) ?_
      refine ox rfl rfl rfl rfl (ex_add rfl rfl rfl) ?_
      refine ox rfl rfl rfl rfl (ex_assign rfl rfl) ?_
      refine ops_nil ?_
      refine at_block ?_
      refine at_then ?_
      refine run_region rfl ?_
      refine ox rfl rfl rfl rfl (ex_move rfl rfl) ?_
      refine ox rfl rfl rfl rfl (ex_add rfl rfl rfl) ?_
      refine ox rfl rfl rfl rfl (ex_assign rfl rfl) ?_
      refine ops_nil ?_
      exact at_again k7258 (ρ1 := [(0, p0), (1, .int .i64 (wrap64 ((wrap64 (a7253 + 1)) + 1))), (5, .int .i64 (wrap64 (a7254 + 1)))]) (Nat.lt_succ_self _) ⟨_, _, _, ho7247, rfl, HM⟩ (Sub.cons rfl (Sub.cons rfl (Sub.cons rfl Sub.nil)))
    · replace ho7247 := cond_f hb7260 ho7247
      refine run_exit ?_
      refine at_then_exit ?_
      refine at_then_exit ?_
      refine at_block_exit ?_
      exact at_mid (ρ' := [(1, .int .i64 a7253)]) ⟨_, _, (Option.some.inj ho7247), rfl, HM⟩ (Sub.cons rfl Sub.nil)
  · rintro _ w7265 ⟨a7243, a7245, rfl, rfl, HM⟩
    replace H := cur2_mk H
    refine run_seq ?_
    refine run_region rfl ?_
    refine ox rfl rfl rfl rfl (ex_move rfl rfl) ?_
    refine ox rfl rfl rfl rfl (ex_assign rfl rfl) ?_
    refine ops_nil (at_then ?_)
    refine run_ret ?_
    have hR := Option.some.inj H
    subst hR
    exact at_ret1 rfl rfl ⟨_, rfl, rfl, HM⟩

def laws_markOutS.l0  : Nat → (List Out) → Int → Int → Option ((List Out) × Int)
  | 0, _, _, _ => none
  | k + 1, a7424, a7426, a7427 => (bif (decide (a7427 < (a7424.length : Int))) then (chk (idxOk a7427 a7424.length) ((laws_markInt64S.f k ((gt a7424 a7427).fRule.fKeys) (wrap64 (a7426 + 1))).bind fun t7455 => laws_markOutS.l0 k (a7424.set (a7427).toNat (⟨a7426, (⟨t7455.2, t7455.1, wrap64 (t7455.1 + 1)⟩ : Rule)⟩ : Out)) (wrap64 ((wrap64 (t7455.1 + 1)) + 1)) (wrap64 (a7427 + 1)))) else some (a7424, a7426))
theorem laws_markOutS.l0_z  (a7424 : List Out) (a7426 : Int) (a7427 : Int) : laws_markOutS.l0 0 a7424 a7426 a7427 = none := rfl
theorem laws_markOutS.l0_s  (k : Nat) (a7424 : List Out) (a7426 : Int) (a7427 : Int) : laws_markOutS.l0 (k + 1) a7424 a7426 a7427 = (bif (decide (a7427 < (a7424.length : Int))) then (chk (idxOk a7427 a7424.length) ((laws_markInt64S.f k ((gt a7424 a7427).fRule.fKeys) (wrap64 (a7426 + 1))).bind fun t7455 => laws_markOutS.l0 k (a7424.set (a7427).toNat (⟨a7426, (⟨t7455.2, t7455.1, wrap64 (t7455.1 + 1)⟩ : Rule)⟩ : Out)) (wrap64 ((wrap64 (t7455.1 + 1)) + 1)) (wrap64 (a7427 + 1)))) else some (a7424, a7426)) := rfl
def laws_markOutS.f (k : Nat) (x0 : List Out) (x1 : Int) : Option (Int × (List Out)) := ((laws_markOutS.l0 k x0 x1 0).bind (cur2 (fun a7402 a7404 => some (a7404, a7402))))
theorem laws_markOutS.calls {k : Nat} {x0 : List Out} {x1 : Int} {p0 : Value} {w wo : World} {X : List Nat} (hwo : Olds wo w X) (hX : Hold w [own kOut 70 p0 x0] X) (hXn : X.Nodup) (hXl : ∀ b ∈ X, b < w.heap.size)  {r : Int × (List Out)} (H : laws_markOutS.f k x0 x1 = some r) :
    Calls Tryz.prog 38 ([p0, .int .i64 x1] : List Value).toArray w (fun e w_ => ∃ v, e = .returned v ∧ v = (.int .i64 r.1) ∧ Mem w X w_ [own kOut 70 p0 r.2]) := by
  have HM := Mem.startX hX hXn hXl
  refine calls_run (N := 44) Tryz.func38 rfl rfl rfl rfl ?_
  unfold laws_markOutS.f at H
  refine run_seq ?_
  refine run_region rfl ?_
  refine ox rfl rfl rfl rfl (ex_assign rfl rfl) ?_
  refine ops_nil (at_then ?_)
  obtain ⟨o7405, ho7406, H⟩ := bind_some H
  refine run_mid (fun ρ_ w_ => ∃ a7402 : List Out, ∃ a7404 : Int, (a7402, a7404) = o7405 ∧ ρ_ = [(1, .int .i64 a7404)] ∧ Mem w X w_ [own kOut 70 p0 a7402]) ?_ ?_
  · clear H
    refine run_seq ?_
    refine run_region rfl ?_
    refine ox rfl rfl rfl rfl (ex_assign rfl rfl) ?_
    refine ops_nil (at_then ?_)
    refine run_block ?_
    refine run_loop (fun k_ ρ_ w_ => ∃ a7424 : List Out, ∃ a7426 : Int, ∃ a7427 : Int, laws_markOutS.l0 k_ a7424 a7426 a7427 = some o7405 ∧ ρ_ = [(0, p0), (1, .int .i64 a7426), (5, .int .i64 a7427)] ∧ Mem w X w_ [own kOut 70 p0 a7424]) k (ρ1 := [(0, p0), (1, .int .i64 x1), (5, .int .i64 0)]) ⟨_, _, _, ho7406, rfl, HM⟩ (Sub.cons rfl (Sub.cons rfl (Sub.cons rfl Sub.nil))) ?_
    clear HM ho7406
    rintro k7445 _ w7446 ⟨a7424, a7426, a7427, ho7406, rfl, HM⟩
    obtain _ | k7445 := k7445
    · exact nomatch ((laws_markOutS.l0_z a7424 a7426 a7427).symm.trans ho7406)
    replace ho7406 := (laws_markOutS.l0_s k7445 a7424 a7426 a7427).symm.trans ho7406
    refine run_seq ?_
    refine run_seq ?_
    refine run_region rfl ?_
    refine ox rfl rfl rfl rfl (ex_move rfl rfl) ?_
    refine ox rfl rfl rfl rfl (ex_move rfl rfl) ?_
    refine ox rfl rfl rfl rfl (ex_len (d := kOut) (xs := a7424) rfl rfl Tryz.underlying35 (HM.own_rd 0 rfl)) ?_
    refine ox rfl rfl rfl rfl (ex_lss rfl rfl rfl) ?_
    refine ops_nil (at_then ?_)
    refine run_cond (b := (decide (a7427 < (a7424.length : Int)))) rfl (fun hb7447 => ?_) (fun hb7447 => ?_)
    · replace ho7406 := cond_t hb7447 ho7406
      refine run_skip ?_
      refine at_then ?_
      refine run_seq ?_
      refine run_block ?_
      refine run_seq ?_
      obtain ⟨e7448, ho7406⟩ := chk_some ho7406
      refine run_region rfl ?_
      refine ox rfl rfl rfl rfl (ex_move rfl rfl) ?_
      refine ox rfl rfl rfl rfl (ex_move rfl rfl) ?_
      refine ox rfl rfl rfl rfl (ex_move rfl rfl) ?_
      refine ox rfl rfl rfl rfl (ex_indexAddr (d := kOut) rfl rfl rfl Tryz.underlying35 tsz70 (HM.own_rd 0 rfl) (idx_lo e7448) (idx_hi e7448)) ?_
      refine ox rfl rfl rfl rfl (ex_fieldAddr (off' := so p0 + (a7427).toNat * 4) rfl rfl Tryz.underlying70 rfl tsz2 rfl) ?_
      refine odS rfl rfl rfl (does_setField (fo := 0) (vs := [(.int .i64 a7426)]) (y := (⟨a7426, (gt a7424 a7427).fRule⟩ : Out)) kOut rfl rfl rfl rfl rfl tsz2 (Ones.int Ones.nil) rfl rfl (idx_nat e7448) (fun _ _ _ h => by rw [← gt_eq (idx_nat e7448)] at h; obtain ⟨_, rfl, h2⟩ := h; exact ⟨_, rfl, h2⟩) HM) ?_
      rintro w7449 HM
      refine ops_nil (at_then (run_seq ?_))
      refine run_region rfl ?_
      refine ox rfl rfl rfl rfl (ex_move rfl rfl) ?_
      refine ox rfl rfl rfl rfl (ex_add rfl rfl rfl) ?_
      refine ox rfl rfl rfl rfl (ex_assign rfl rfl) ?_
      refine ops_nil (at_then (run_seq ?_))
      obtain ⟨t7455, h7456, ho7406⟩ := bind_some ho7406
      refine run_region rfl ?_
      refine ox rfl rfl rfl rfl (ex_move rfl rfl) ?_
      refine ox rfl rfl rfl rfl (ex_move rfl rfl) ?_
      have e7450 : idxOk a7427 (a7424.set (a7427).toNat (⟨a7426, (gt a7424 a7427).fRule⟩ : Out)).length = true := len_set e7448
      refine ox rfl rfl rfl rfl (ex_indexAddr (d := kOut) rfl rfl rfl Tryz.underlying35 tsz70 (HM.own_rd 0 rfl) (idx_lo e7450) (idx_hi e7450)) ?_
      refine ox rfl rfl rfl rfl (ex_fieldAddr (off' := so p0 + (a7427).toNat * 4 + 1) rfl rfl Tryz.underlying70 rfl tsz68 rfl) ?_
      refine ox rfl rfl rfl rfl (ex_fieldAddr (off' := so p0 + (a7427).toNat * 4 + 1) rfl rfl Tryz.underlying68 rfl tsz49 rfl) ?_
      obtain ⟨u7451, hc7452, HM⟩ := HM.open1 e7450 (gt_set2 e7448)
      refine ox rfl rfl rfl rfl (ex_load1 rfl rfl Tryz.underlying49 rfl (hc7452 1 _ rfl)) ?_
      refine ox rfl rfl rfl rfl (ex_move rfl rfl) ?_
      obtain ⟨F7457, hF7458, hFn7459, hFl7460, HMh7461, hcl7462⟩ := HM.hide (Ms := [own kInt 2 u7451 ((gt a7424 a7427).fRule.fKeys)])
      refine od rfl rfl rfl rfl (does_callk rfl callok36 rfl (laws_markInt64S.calls (x0 := (gt a7424 a7427).fRule.fKeys) (x1 := wrap64 (a7426 + 1)) (hide_olds _ _) hF7458 hFn7459 hFl7460 h7456)) ?_
      rintro _ w7463 ⟨rfl, hn⟩
      replace HM : Mem w X w7463 [own kInt 2 u7451 t7455.2, hole kOut (fun u_ => [(.int .i64 a7426), u_, (.int .i64 ((gt a7424 a7427).fRule.fNeed)), (.int .i64 ((gt a7424 a7427).fRule.fAfter))]) 70 p0 (a7424.set (a7427).toNat (⟨a7426, (gt a7424 a7427).fRule⟩ : Out)) (a7427).toNat u7451] := hcl7462 _ _ hn
      replace HM := HM.front 1 rfl rfl
      replace HM := HM.front 1 rfl rfl
      replace HM := Mem.close1 (⟨a7426, (⟨t7455.2, (gt a7424 a7427).fRule.fNeed, (gt a7424 a7427).fRule.fAfter⟩ : Rule)⟩ : Out) HM rfl rfl
      replace HM := HM.set2
      refine ox rfl rfl rfl rfl (ex_assign rfl rfl) ?_
      refine ops_nil (at_then (run_seq ?_))
      refine run_region rfl ?_
      refine ox rfl rfl rfl rfl (ex_move rfl rfl) ?_
      refine ox rfl rfl rfl rfl (ex_move rfl rfl) ?_
      refine ox rfl rfl rfl rfl (ex_move rfl rfl) ?_
      have e7464 : idxOk a7427 (a7424.set (a7427).toNat (⟨a7426, (⟨t7455.2, (gt a7424 a7427).fRule.fNeed, (gt a7424 a7427).fRule.fAfter⟩ : Rule)⟩ : Out)).length = true := len_set e7448
      refine ox rfl rfl rfl rfl (ex_indexAddr (d := kOut) rfl rfl rfl Tryz.underlying35 tsz70 (HM.own_rd 0 rfl) (idx_lo e7464) (idx_hi e7464)) ?_
      refine ox rfl rfl rfl rfl (ex_fieldAddr (off' := so p0 + (a7427).toNat * 4 + 1) rfl rfl Tryz.underlying70 rfl tsz68 rfl) ?_
      refine ox rfl rfl rfl rfl (ex_fieldAddr (off' := so p0 + (a7427).toNat * 4 + 2) rfl rfl Tryz.underlying68 rfl tsz2 rfl) ?_
      refine odS rfl rfl rfl (does_setField (fo := 2) (vs := [(.int .i64 t7455.1)]) (y := (⟨a7426, (⟨t7455.2, t7455.1, (gt a7424 a7427).fRule.fAfter⟩ : Rule)⟩ : Out)) kOut rfl rfl rfl rfl rfl tsz2 (Ones.int Ones.nil) rfl rfl (idx_nat e7464) (fun _ _ _ h => by rw [List.getElem_set_self] at h; obtain ⟨_, rfl, h2⟩ := h; exact ⟨_, rfl, h2⟩) HM) ?_
      rintro w7465 HM
      replace HM := HM.set2
      refine ops_nil (at_then (run_seq ?_))
      refine run_region rfl ?_
      refine ox rfl rfl rfl rfl (ex_move rfl rfl) ?_
      refine ox rfl rfl rfl rfl (ex_add rfl rfl rfl) ?_
      refine ox rfl rfl rfl rfl (ex_assign rfl rfl) ?_
      refine ops_nil (at_then (run_seq ?_))
      refine run_region rfl ?_
      refine ox rfl rfl rfl rfl (ex_move rfl rfl) ?_
      refine ox rfl rfl rfl rfl (ex_move rfl rfl) ?_
      refine ox rfl rfl rfl rfl (ex_move rfl rfl) ?_
      have e7466 : idxOk a7427 (a7424.set (a7427).toNat (⟨a7426, (⟨t7455.2, t7455.1, (gt a7424 a7427).fRule.fAfter⟩ : Rule)⟩ : Out)).length = true := len_set e7448
      refine ox rfl rfl rfl rfl (ex_indexAddr (d := kOut) rfl rfl rfl Tryz.underlying35 tsz70 (HM.own_rd 0 rfl) (idx_lo e7466) (idx_hi e7466)) ?_
      refine ox rfl rfl rfl rfl (ex_fieldAddr (off' := so p0 + (a7427).toNat * 4 + 1) rfl rfl Tryz.underlying70 rfl tsz68 rfl) ?_
      refine ox rfl rfl rfl rfl (ex_fieldAddr (off' := so p0 + (a7427).toNat * 4 + 3) rfl rfl Tryz.underlying68 rfl tsz2 rfl) ?_
      refine odS rfl rfl rfl (does_setField (fo := 3) (vs := [(.int .i64 (wrap64 (t7455.1 + 1)))]) (y := (⟨a7426, (⟨t7455.2, t7455.1, wrap64 (t7455.1 + 1)⟩ : Rule)⟩ : Out)) kOut rfl rfl rfl rfl rfl tsz2 (Ones.int Ones.nil) rfl rfl (idx_nat e7466) (fun _ _ _ h => by rw [List.getElem_set_self] at h; obtain ⟨_, rfl, h2⟩ := h; exact ⟨_, rfl, h2⟩) HM) ?_
      rintro w7467 HM
      replace HM := HM.set2
      refine ops_nil (at_then ?_)
      refine run_region rfl ?_
      refine ox rfl rfl rfl rfl (ex_move rfl rfl) ?_
      refine ox rfl rfl rfl rfl (ex_add rfl rfl rfl) ?_
      refine ox rfl rfl rfl rfl (ex_assign rfl rfl) ?_
      refine ops_nil ?_
      refine at_block ?_
      refine at_then ?_
      refine run_region rfl ?_
      refine ox rfl rfl rfl rfl (ex_move rfl rfl) ?_
      refine ox rfl rfl rfl rfl (ex_add rfl rfl rfl) ?_
      refine ox rfl rfl rfl rfl (ex_assign rfl rfl) ?_
      refine ops_nil ?_
      exact at_again k7445 (ρ1 := [(0, p0), (1, .int .i64 (wrap64 ((wrap64 (t7455.1 + 1)) + 1))), (5, .int .i64 (wrap64 (a7427 + 1)))]) (Nat.lt_succ_self _) ⟨_, _, _, ho7406, rfl, HM⟩ (Sub.cons rfl (Sub.cons rfl (Sub.cons rfl Sub.nil)))
    · replace ho7406 := cond_f hb7447 ho7406
      refine run_exit ?_
      refine at_then_exit ?_
      refine at_then_exit ?_
      refine at_block_exit ?_
      exact at_mid (ρ' := [(1, .int .i64 a7426)]) ⟨_, _, (Option.some.inj ho7406), rfl, HM⟩ (Sub.cons rfl Sub.nil)
  · rintro _ w7468 ⟨a7402, a7404, rfl, rfl, HM⟩
    replace H := cur2_mk H
    refine run_seq ?_
    refine run_region rfl ?_
    refine ox rfl rfl rfl rfl (ex_move rfl rfl) ?_
    refine ox rfl rfl rfl rfl (ex_assign rfl rfl) ?_
    refine ops_nil (at_then ?_)
    refine run_ret ?_
    have hR := Option.some.inj H
    subst hR
    exact at_ret1 rfl rfl ⟨_, rfl, rfl, HM⟩

def laws_markTx.f (k : Nat) (x0 : Tx) (x1 : Int) : Option (Int × (List Ref) × (List Out)) := ((laws_markRefS.f k x0.fIns x1).bind fun t7481 => ((laws_markOutS.f k x0.fOuts t7481.1).bind fun t7490 => some (t7490.1, t7481.2, t7490.2)))
theorem laws_markTx.calls {k : Nat} {x0 : Tx} {x1 : Int} {p0_0 : Value} {p0_1 : Value} {w wo : World} {X : List Nat} (hwo : Olds wo w X) (hX : Hold w [own kRef 66 p0_0 x0.fIns, own kOut 70 p0_1 x0.fOuts] X) (hXn : X.Nodup) (hXl : ∀ b ∈ X, b < w.heap.size)  {r : Int × (List Ref) × (List Out)} (H : laws_markTx.f k x0 x1 = some r) :
    Calls Tryz.prog 14 ([.agg #[(.int .i64 x0.fKind), (.int .i64 x0.fMember), p0_0, p0_1], .int .i64 x1] : List Value).toArray w (fun e w_ => ∃ v, e = .returned v ∧ v = (.int .i64 r.1) ∧ Mem w X w_ [own kRef 66 p0_0 r.2.1, own kOut 70 p0_1 r.2.2]) := by
  have HM := Mem.startX hX hXn hXl
  refine calls_run (N := 14) Tryz.func14 rfl rfl rfl rfl ?_
  unfold laws_markTx.f at H
  refine run_seq ?_
  refine run_region rfl ?_
  refine od rfl rfl rfl rfl (does_box (cs := [.int .i64 x0.fKind, .int .i64 x0.fMember, p0_0, p0_1]) rfl rfl rfl HM) ?_
  rintro _ w7480 ⟨b7477, rfl, HM⟩
  refine ox rfl rfl rfl rfl (ex_assign rfl rfl) ?_
  refine ops_nil (at_then (run_seq ?_))
  obtain ⟨t7481, h7482, H⟩ := bind_some H
  refine run_region rfl ?_
  refine ox rfl rfl rfl rfl (ex_fieldAddr (off' := 2) rfl rfl Tryz.underlying37 rfl tsz34 rfl) ?_
  refine ox rfl rfl rfl rfl (ex_load1 rfl rfl Tryz.underlying34 rfl ((HM.box_at 0 rfl) 2 _ rfl)) ?_
  refine ox rfl rfl rfl rfl (ex_move rfl rfl) ?_
  replace HM := HM.front 1 rfl rfl
  obtain ⟨F7483, hF7484, hFn7485, hFl7486, HMh7487, hcl7488⟩ := HM.hide (Ms := [own kRef 66 p0_0 x0.fIns])
  refine od rfl rfl rfl rfl (does_callk rfl callok37 rfl (laws_markRefS.calls (x0 := x0.fIns) (x1 := x1) (hide_olds _ _) hF7484 hFn7485 hFl7486 h7482)) ?_
  rintro _ w7489 ⟨rfl, hn⟩
  replace HM : Mem w X w7489 [own kRef 66 p0_0 t7481.2, box b7477 37 [.int .i64 x0.fKind, .int .i64 x0.fMember, p0_0, p0_1], own kOut 70 p0_1 x0.fOuts] := hcl7488 _ _ hn
  refine ox rfl rfl rfl rfl (ex_assign rfl rfl) ?_
  refine ops_nil (at_then (run_seq ?_))
  obtain ⟨t7490, h7491, H⟩ := bind_some H
  refine run_region rfl ?_
  refine ox rfl rfl rfl rfl (ex_fieldAddr (off' := 3) rfl rfl Tryz.underlying37 rfl tsz35 rfl) ?_
  refine ox rfl rfl rfl rfl (ex_load1 rfl rfl Tryz.underlying35 rfl ((HM.box_at 1 rfl) 3 _ rfl)) ?_
  refine ox rfl rfl rfl rfl (ex_move rfl rfl) ?_
  replace HM := HM.front 2 rfl rfl
  obtain ⟨F7492, hF7493, hFn7494, hFl7495, HMh7496, hcl7497⟩ := HM.hide (Ms := [own kOut 70 p0_1 x0.fOuts])
  refine od rfl rfl rfl rfl (does_callk rfl callok38 rfl (laws_markOutS.calls (x0 := x0.fOuts) (x1 := t7481.1) (hide_olds _ _) hF7493 hFn7494 hFl7495 h7491)) ?_
  rintro _ w7498 ⟨rfl, hn⟩
  replace HM : Mem w X w7498 [own kOut 70 p0_1 t7490.2, own kRef 66 p0_0 t7481.2, box b7477 37 [.int .i64 x0.fKind, .int .i64 x0.fMember, p0_0, p0_1]] := hcl7497 _ _ hn
  refine ox rfl rfl rfl rfl (ex_assign rfl rfl) ?_
  refine ops_nil (at_then (run_seq ?_))
  refine run_region rfl ?_
  refine ox rfl rfl rfl rfl (ex_move rfl rfl) ?_
  refine ox rfl rfl rfl rfl (ex_assign rfl rfl) ?_
  refine ops_nil (at_then ?_)
  refine run_ret ?_
  replace HM := (HM.front 2 rfl rfl).drop
  replace HM := HM.front 1 rfl rfl
  have hR := Option.some.inj H
  subst hR
  exact at_ret1 rfl rfl ⟨_, rfl, rfl, HM⟩
end Go.Proofs.YtecgbhfgkkpmhabGreat.Zk
