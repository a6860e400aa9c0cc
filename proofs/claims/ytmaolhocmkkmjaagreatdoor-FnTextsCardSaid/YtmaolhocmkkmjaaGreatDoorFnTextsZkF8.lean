/- What functions of the program compute, each as a plain function, and that they do. Conditions: as each theorem states them. -/
import Derived.Test.YtmaolhocmkkmjaaGreatDoorFnTextsZkF7
namespace Go.Proofs.YtmaolhocmkkmjaaGreatDoor.Zk
open Go Go.RowKit Go.IntWalk Go.Proofs
set_option linter.unusedVariables false
set_option linter.unusedSimpArgs false
set_option maxRecDepth 100000
set_option maxHeartbeats 4000000
def spec_l3Ref.f (k : Nat) (x0 : Ref) : Option Bool := ((spec_l1In.f k x0.fTx 1 60).bind fun t5644 => ((bif t5644 then spec_l1In.f k x0.fAt 0 3 else some default).bind fun t5646 => some (t5644 && t5646)))
theorem spec_l3Ref.calls {k : Nat} {x0 : Ref}  {w : World}  {r : Bool} (H : spec_l3Ref.f k x0 = some r) :
    Calls Tryz.prog 58 ([.agg #[(.int .i64 x0.fTx), (.int .i64 x0.fAt)]] : List Value).toArray w (fun e w_ => ∃ v, e = .returned v ∧ v = (.bool r) ∧ Mem w [] w_ []) := by
  have HM := Mem.start w
  refine calls_run (N := 11) Tryz.func58 rfl rfl rfl rfl ?_
  unfold spec_l3Ref.f at H
  refine run_seq ?_
  refine run_region rfl ?_
  refine od rfl rfl rfl rfl (does_box (cs := [.int .i64 x0.fTx, .int .i64 x0.fAt]) rfl rfl rfl HM) ?_
  rintro _ w5643 ⟨b5640, rfl, HM⟩
  refine ox rfl rfl rfl rfl (ex_assign rfl rfl) ?_
  refine ops_nil (at_then (run_seq ?_))
  obtain ⟨t5644, h5645, H⟩ := bind_some H
  obtain ⟨t5646, h5647, H⟩ := bind_some H
  refine run_meet (fun ρ_ w_ => ρ_ = [(2, .bool (t5644 && t5646))] ∧ Mem w [] w_ []) ?_ ?_
  · skip
    refine run_region rfl ?_
    refine ox rfl rfl rfl rfl (ex_fieldAddr (off' := 0) rfl rfl Tryz.underlying62 rfl tsz2 rfl) ?_
    refine ox rfl rfl rfl rfl (ex_load1 rfl rfl Tryz.underlying2 rfl ((HM.box_at 0 rfl) 0 _ rfl)) ?_
    refine od rfl rfl rfl rfl (does_callk rfl callok56 rfl (spec_l1In.calls (x0 := x0.fTx) (x1 := 1) (x2 := 60) h5645)) ?_
    rintro _ w5648 ⟨rfl, hn⟩
    replace HM : Mem w [] w5648 [box b5640 62 [.int .i64 x0.fTx, .int .i64 x0.fAt]] := HM.call hn
    refine ox rfl rfl rfl rfl (ex_move rfl rfl) ?_
    refine bool_cases t5644 (fun hg5649 => ?_) (fun hg5649 => ?_)
    · skip
      refine ops_ex rfl (guard_on rfl rfl rfl hg5649) rfl rfl (ex_fieldAddr (off' := 1) rfl rfl Tryz.underlying62 rfl tsz2 rfl) ?_
      refine ops_ex rfl (guard_on rfl rfl rfl hg5649) rfl rfl (ex_load1 rfl rfl Tryz.underlying2 rfl ((HM.box_at 0 rfl) 1 _ rfl)) ?_
      refine ops_does rfl (guard_on rfl rfl rfl hg5649) rfl rfl (does_callk rfl callok56 rfl (spec_l1In.calls (x0 := x0.fAt) (x1 := 0) (x2 := 3) (cond_t hg5649 h5647))) ?_
      rintro _ w5650 ⟨rfl, hn⟩
      replace HM : Mem w [] w5650 [box b5640 62 [.int .i64 x0.fTx, .int .i64 x0.fAt]] := HM.call hn
      refine ops_ex (v := .bool (t5644 && t5646)) rfl (guard_none rfl) rfl rfl (ex_pand_t rfl rfl hg5649 rfl) ?_
      refine ox rfl rfl rfl rfl (ex_assign rfl rfl) ?_
      refine ops_nil ?_
      replace HM := (HM.front 0 rfl rfl).drop
      exact at_meet [(2, .bool (t5644 && t5646))] ⟨rfl, HM⟩ (Sub.cons rfl Sub.nil)
    · skip
      refine ops_off rfl (guard_off rfl rfl rfl hg5649) rfl rfl ?_
      refine ops_off rfl (guard_off rfl rfl rfl hg5649) rfl rfl ?_
      refine ops_off rfl (guard_off rfl rfl rfl hg5649) rfl rfl ?_
      have hg5651 : (t5644 && t5646) = false := by simp only [hg5649, Bool.and_true, Bool.true_and, Bool.and_false, Bool.false_and, Bool.or_true, Bool.true_or, Bool.or_false, Bool.false_or, Bool.not_true, Bool.not_false, Bool.not_not]
      refine ops_ex (v := .bool (t5644 && t5646)) rfl (guard_none rfl) rfl rfl (ex_pand_f rfl rfl hg5649) ?_
      refine ox rfl rfl rfl rfl (ex_assign rfl rfl) ?_
      refine ops_nil ?_
      replace HM := (HM.front 0 rfl rfl).drop
      exact at_meet [(2, .bool (t5644 && t5646))] ⟨rfl, HM⟩ (Sub.cons rfl Sub.nil)
  · rintro _ w5652 ⟨rfl, HM⟩
    refine at_then ?_
    refine run_ret ?_
    have hR := Option.some.inj H
    subst hR
    exact at_ret1 rfl rfl ⟨_, rfl, rfl, HM⟩

def spec_l3Outs.l0 (x0 : Tx) : Nat → Int → Option (Int ⊕ Unit)
  | 0, _ => none
  | k + 1, a5878 => (bif (decide (a5878 < (x0.fOuts.length : Int))) then (chk (idxOk a5878 x0.fOuts.length) ((spec_l1In.f k ((gt x0.fOuts a5878).fValue) 1 1000000).bind fun t5915 => (bif !t5915 then some (.inl 3) else (chk (idxOk a5878 x0.fOuts.length) ((spec_l2Fault.f k ((gt x0.fOuts a5878).fRule)).bind fun t5923 => (bif (t5923 != 0) then some (.inl t5923) else spec_l3Outs.l0 x0 k (wrap64 (a5878 + 1)))))))) else some (.inr ()))
theorem spec_l3Outs.l0_z (x0 : Tx) (a5878 : Int) : spec_l3Outs.l0 x0 0 a5878 = none := rfl
theorem spec_l3Outs.l0_s (x0 : Tx) (k : Nat) (a5878 : Int) : spec_l3Outs.l0 x0 (k + 1) a5878 = (bif (decide (a5878 < (x0.fOuts.length : Int))) then (chk (idxOk a5878 x0.fOuts.length) ((spec_l1In.f k ((gt x0.fOuts a5878).fValue) 1 1000000).bind fun t5915 => (bif !t5915 then some (.inl 3) else (chk (idxOk a5878 x0.fOuts.length) ((spec_l2Fault.f k ((gt x0.fOuts a5878).fRule)).bind fun t5923 => (bif (t5923 != 0) then some (.inl t5923) else spec_l3Outs.l0 x0 k (wrap64 (a5878 + 1)))))))) else some (.inr ())) := rfl
def spec_l3Outs.f (k : Nat) (x0 : Tx) : Option Int := ((spec_l3Outs.l0 x0 k 0).bind fun o5854 => thn o5854 (fun r => some r) (fun _ => (chk (!(x0.fKind == 1) || (idxOk (0 : Int) x0.fOuts.length)) (bif ((x0.fKind == 1) && (decide (((gt x0.fOuts (0 : Int)).fValue) < 100))) then some 8 else some 0))))
theorem spec_l3Outs.calls {k : Nat} {x0 : Tx} {b0 f0 : Nat} {p0_0 : Value} {p0_1 : Value} {w : World} (hc0 : CellsAt w b0 f0 [.int .i64 x0.fKind, .int .i64 x0.fMember, p0_0, p0_1]) (hp0_0 : RdS kRef w p0_0 x0.fIns) (hp0_1 : RdS kOut w p0_1 x0.fOuts) {r : Int} (H : spec_l3Outs.f k x0 = some r) :
    Calls Tryz.prog 59 ([.pointer (some ⟨b0, f0, none⟩)] : List Value).toArray w (fun e w_ => ∃ v, e = .returned v ∧ v = (.int .i64 r) ∧ Mem w [] w_ []) := by
  have HM := Mem.start w
  refine calls_run (N := 50) Tryz.func59 rfl rfl rfl rfl ?_
  unfold spec_l3Outs.f at H
  refine run_seq ?_
  refine run_region rfl ?_
  refine ox rfl rfl rfl rfl (ex_assign rfl rfl) ?_
  refine ops_nil (at_then ?_)
  obtain ⟨o5854, ho5855, H⟩ := bind_some H
  refine run_mid (fun ρ_ w_ => Sum.inr () = o5854 ∧ ρ_ = [(0, .pointer (some ⟨b0, f0, none⟩))] ∧ Mem w [] w_ []) ?_ ?_
  · skip
    refine run_seq ?_
    refine run_region rfl ?_
    refine ox rfl rfl rfl rfl (ex_assign rfl rfl) ?_
    refine ops_nil (at_then ?_)
    refine run_block ?_
    refine run_loop (fun k_ ρ_ w_ => ∃ a5878 : Int, spec_l3Outs.l0 x0 k_ a5878 = some o5854 ∧ ρ_ = [(0, .pointer (some ⟨b0, f0, none⟩)), (3, .int .i64 a5878)] ∧ Mem w [] w_ []) k (ρ1 := [(0, .pointer (some ⟨b0, f0, none⟩)), (3, .int .i64 0)]) ⟨_, ho5855, rfl, HM⟩ (Sub.cons rfl (Sub.cons rfl Sub.nil)) ?_
    clear HM ho5855
    rintro k5901 _ w5902 ⟨a5878, ho5855, rfl, HM⟩
    obtain _ | k5901 := k5901
    · exact nomatch ((spec_l3Outs.l0_z x0 a5878).symm.trans ho5855)
    replace ho5855 := (spec_l3Outs.l0_s x0 k5901 a5878).symm.trans ho5855
    refine run_seq ?_
    refine run_seq ?_
    refine run_region rfl ?_
    refine ox rfl rfl rfl rfl (ex_move rfl rfl) ?_
    refine ox rfl rfl rfl rfl (ex_move rfl rfl) ?_
    refine ox rfl rfl rfl rfl (ex_nilCheck rfl rfl) ?_
    refine ox rfl rfl rfl rfl (ex_fieldAddr (off' := f0 + 3) rfl rfl Tryz.underlying28 rfl tsz26 rfl) ?_
    refine ox rfl rfl rfl rfl (ex_load1 rfl rfl Tryz.underlying26 rfl ((HM.at_ hc0) 3 _ rfl)) ?_
    refine ox rfl rfl rfl rfl (ex_len (d := kOut) (xs := x0.fOuts) rfl rfl Tryz.underlying26 hp0_1) ?_
    refine ox rfl rfl rfl rfl (ex_lss rfl rfl rfl) ?_
    refine ops_nil (at_then ?_)
    refine run_cond (b := (decide (a5878 < (x0.fOuts.length : Int)))) rfl (fun hb5903 => ?_) (fun hb5903 => ?_)
    · replace ho5855 := cond_t hb5903 ho5855
      refine run_skip ?_
      refine at_then ?_
      refine run_seq ?_
      refine run_block ?_
      refine run_seq ?_
      refine run_seq ?_
      obtain ⟨e5911, ho5855⟩ := chk_some ho5855
      obtain ⟨t5915, h5916, ho5855⟩ := bind_some ho5855
      refine run_region rfl ?_
      refine ox rfl rfl rfl rfl (ex_move rfl rfl) ?_
      refine ox rfl rfl rfl rfl (ex_nilCheck rfl rfl) ?_
      refine ox rfl rfl rfl rfl (ex_fieldAddr (off' := f0 + 3) rfl rfl Tryz.underlying28 rfl tsz26 rfl) ?_
      refine ox rfl rfl rfl rfl (ex_load1 rfl rfl Tryz.underlying26 rfl ((HM.at_ hc0) 3 _ rfl)) ?_
      refine ox rfl rfl rfl rfl (ex_move rfl rfl) ?_
      obtain ⟨kv5913, hc5912, hk5914⟩ : ∃ u, CellsAt _ (sb p0_1) (so p0_1 + (a5878).toNat * 4) [(.int .i64 ((gt x0.fOuts a5878).fValue)), u, (.int .i64 ((gt x0.fOuts a5878).fRule.fNeed)), (.int .i64 ((gt x0.fOuts a5878).fRule.fAfter))] ∧ RdS kInt _ u ((gt x0.fOuts a5878).fRule.fKeys) := rd_with1 hp0_1 e5911
      refine ox rfl rfl rfl rfl (ex_indexAddr (d := kOut) rfl rfl rfl Tryz.underlying26 tsz44 hp0_1 (idx_lo e5911) (idx_hi e5911)) ?_
      refine ox rfl rfl rfl rfl (ex_fieldAddr (off' := so p0_1 + (a5878).toNat * 4) rfl rfl Tryz.underlying44 rfl tsz2 rfl) ?_
      refine ox rfl rfl rfl rfl (ex_load1 rfl rfl Tryz.underlying2 rfl ((HM.at_ hc5912) 0 _ rfl)) ?_
      refine od rfl rfl rfl rfl (does_callk rfl callok56 rfl (spec_l1In.calls (x0 := (gt x0.fOuts a5878).fValue) (x1 := 1) (x2 := 1000000) h5916)) ?_
      rintro _ w5917 ⟨rfl, hn⟩
      replace HM : Mem w [] w5917 [] := HM.call hn
      refine ox rfl rfl rfl rfl (ex_not rfl rfl) ?_
      refine ops_nil (at_then ?_)
      refine run_cond (b := !t5915) rfl (fun hb5918 => ?_) (fun hb5918 => ?_)
      · replace ho5855 := cond_t hb5918 ho5855
        refine run_seq ?_
        refine run_region rfl ?_
        refine ox rfl rfl rfl rfl (ex_assign rfl rfl) ?_
        refine ops_nil (at_then ?_)
        refine run_ret ?_
        refine at_then_ret ?_
        refine at_block_ret ?_
        refine at_then_ret ?_
        refine at_then_ret ?_
        refine at_block_ret ?_
        refine at_then_ret ?_
        have hR := Option.some.inj ho5855
        subst hR
        have hT := thn_inl H
        have hR := Option.some.inj hT
        subst hR
        exact at_ret1 rfl rfl ⟨_, rfl, rfl, HM⟩
      · replace ho5855 := cond_f hb5918 ho5855
        refine run_skip ?_
        refine at_then ?_
        refine run_seq ?_
        obtain ⟨e5919, ho5855⟩ := chk_some ho5855
        obtain ⟨t5923, h5924, ho5855⟩ := bind_some ho5855
        refine run_region rfl ?_
        refine ox rfl rfl rfl rfl (ex_move rfl rfl) ?_
        refine ox rfl rfl rfl rfl (ex_nilCheck rfl rfl) ?_
        refine ox rfl rfl rfl rfl (ex_fieldAddr (off' := f0 + 3) rfl rfl Tryz.underlying28 rfl tsz26 rfl) ?_
        refine ox rfl rfl rfl rfl (ex_load1 rfl rfl Tryz.underlying26 rfl ((HM.at_ hc0) 3 _ rfl)) ?_
        refine ox rfl rfl rfl rfl (ex_move rfl rfl) ?_
        obtain ⟨kv5921, hc5920, hk5922⟩ : ∃ u, CellsAt _ (sb p0_1) (so p0_1 + (a5878).toNat * 4) [(.int .i64 ((gt x0.fOuts a5878).fValue)), u, (.int .i64 ((gt x0.fOuts a5878).fRule.fNeed)), (.int .i64 ((gt x0.fOuts a5878).fRule.fAfter))] ∧ RdS kInt _ u ((gt x0.fOuts a5878).fRule.fKeys) := rd_with1 hp0_1 e5919
        refine ox rfl rfl rfl rfl (ex_indexAddr (d := kOut) rfl rfl rfl Tryz.underlying26 tsz44 hp0_1 (idx_lo e5919) (idx_hi e5919)) ?_
        refine ox rfl rfl rfl rfl (ex_fieldAddr (off' := so p0_1 + (a5878).toNat * 4 + 1) rfl rfl Tryz.underlying44 rfl tsz42 rfl) ?_
        refine od rfl rfl rfl rfl (does_callk rfl callok75 rfl (spec_l2Fault.calls (x0 := (gt x0.fOuts a5878).fRule) (CellsAt.sub (HM.at_ hc5920) 1 3 rfl) (HM.rd hk5922) h5924)) ?_
        rintro _ w5925 ⟨rfl, hn⟩
        replace HM : Mem w [] w5925 [] := HM.call hn
        refine ox rfl rfl rfl rfl (ex_assign rfl rfl) ?_
        refine ops_nil (at_then (run_seq ?_))
        refine run_region rfl ?_
        refine ox rfl rfl rfl rfl (ex_move rfl rfl) ?_
        refine ox rfl rfl rfl rfl (ex_neq rfl rfl rfl) ?_
        refine ops_nil (at_then ?_)
        refine run_cond (b := (t5923 != 0)) rfl (fun hb5926 => ?_) (fun hb5926 => ?_)
        · replace ho5855 := cond_t hb5926 ho5855
          refine run_seq ?_
          refine run_region rfl ?_
          refine ox rfl rfl rfl rfl (ex_move rfl rfl) ?_
          refine ox rfl rfl rfl rfl (ex_assign rfl rfl) ?_
          refine ops_nil (at_then ?_)
          refine run_ret ?_
          refine at_block_ret ?_
          refine at_then_ret ?_
          refine at_then_ret ?_
          refine at_block_ret ?_
          refine at_then_ret ?_
          have hR := Option.some.inj ho5855
          subst hR
          have hT := thn_inl H
          have hR := Option.some.inj hT
          subst hR
          exact at_ret1 rfl rfl ⟨_, rfl, rfl, HM⟩
        · replace ho5855 := cond_f hb5926 ho5855
          refine run_skip ?_
          refine at_block ?_
          refine at_then ?_
          refine run_region rfl ?_
          refine ox rfl rfl rfl rfl (ex_move rfl rfl) ?_
          refine ox rfl rfl rfl rfl (ex_add rfl rfl rfl) ?_
          refine ox rfl rfl rfl rfl (ex_assign rfl rfl) ?_
          refine ops_nil ?_
          exact at_again k5901 (ρ1 := [(0, .pointer (some ⟨b0, f0, none⟩)), (3, .int .i64 (wrap64 (a5878 + 1)))]) (Nat.lt_succ_self _) ⟨_, ho5855, rfl, HM⟩ (Sub.cons rfl (Sub.cons rfl Sub.nil))
    · replace ho5855 := cond_f hb5903 ho5855
      refine run_exit ?_
      refine at_then_exit ?_
      refine at_then_exit ?_
      refine at_block_exit ?_
      exact at_mid (ρ' := [(0, .pointer (some ⟨b0, f0, none⟩))]) ⟨(Option.some.inj ho5855), rfl, HM⟩ (Sub.cons rfl Sub.nil)
  · rintro _ w5927 ⟨rfl, rfl, HM⟩
    replace H := (thn_inr H)
    refine run_seq ?_
    refine run_seq ?_
    obtain ⟨e5928, H⟩ := chk_some H
    refine run_meet (fun ρ_ w_ => ρ_ = [(49, .bool ((x0.fKind == 1) && (decide (((gt x0.fOuts (0 : Int)).fValue) < 100))))] ∧ Mem w [] w_ []) ?_ ?_
    · skip
      refine run_region rfl ?_
      refine ox rfl rfl rfl rfl (ex_move rfl rfl) ?_
      refine ox rfl rfl rfl rfl (ex_nilCheck rfl rfl) ?_
      refine ox rfl rfl rfl rfl (ex_fieldAddr (off' := f0) rfl rfl Tryz.underlying28 rfl tsz2 rfl) ?_
      refine ox rfl rfl rfl rfl (ex_load1 rfl rfl Tryz.underlying2 rfl ((HM.at_ hc0) 0 _ rfl)) ?_
      refine ox rfl rfl rfl rfl (ex_eql rfl rfl rfl) ?_
      refine ox rfl rfl rfl rfl (ex_move rfl rfl) ?_
      refine bool_cases (x0.fKind == 1) (fun hg5932 => ?_) (fun hg5932 => ?_)
      · skip
        refine ops_ex rfl (guard_on rfl rfl rfl hg5932) rfl rfl (ex_move rfl rfl) ?_
        refine ops_ex rfl (guard_on rfl rfl rfl hg5932) rfl rfl (ex_nilCheck rfl rfl) ?_
        refine ops_ex rfl (guard_on rfl rfl rfl hg5932) rfl rfl (ex_fieldAddr (off' := f0 + 3) rfl rfl Tryz.underlying28 rfl tsz26 rfl) ?_
        refine ops_ex rfl (guard_on rfl rfl rfl hg5932) rfl rfl (ex_load1 rfl rfl Tryz.underlying26 rfl ((HM.at_ hc0) 3 _ rfl)) ?_
        obtain ⟨kv5930, hc5929, hk5931⟩ : ∃ u, CellsAt _ (sb p0_1) (so p0_1 + ((0 : Int)).toNat * 4) [(.int .i64 ((gt x0.fOuts (0 : Int)).fValue)), u, (.int .i64 ((gt x0.fOuts (0 : Int)).fRule.fNeed)), (.int .i64 ((gt x0.fOuts (0 : Int)).fRule.fAfter))] ∧ RdS kInt _ u ((gt x0.fOuts (0 : Int)).fRule.fKeys) := rd_with1 hp0_1 (or_t e5928 hg5932)
        refine ops_ex rfl (guard_on rfl rfl rfl hg5932) rfl rfl (ex_indexAddr (d := kOut) rfl rfl rfl Tryz.underlying26 tsz44 hp0_1 (idx_lo (or_t e5928 hg5932)) (idx_hi (or_t e5928 hg5932))) ?_
        refine ops_ex rfl (guard_on rfl rfl rfl hg5932) rfl rfl (ex_fieldAddr (off' := so p0_1 + ((0 : Int)).toNat * 4) rfl rfl Tryz.underlying44 rfl tsz2 rfl) ?_
        refine ops_ex rfl (guard_on rfl rfl rfl hg5932) rfl rfl (ex_load1 rfl rfl Tryz.underlying2 rfl ((HM.at_ hc5929) 0 _ rfl)) ?_
        refine ops_ex rfl (guard_on rfl rfl rfl hg5932) rfl rfl (ex_lss rfl rfl rfl) ?_
        refine ops_ex (v := .bool ((x0.fKind == 1) && (decide (((gt x0.fOuts (0 : Int)).fValue) < 100)))) rfl (guard_none rfl) rfl rfl (ex_pand_t rfl rfl hg5932 rfl) ?_
        refine ops_nil ?_
        exact at_meet [(49, .bool ((x0.fKind == 1) && (decide (((gt x0.fOuts (0 : Int)).fValue) < 100))))] ⟨rfl, HM⟩ (Sub.cons rfl Sub.nil)
      · skip
        refine ops_off rfl (guard_off rfl rfl rfl hg5932) rfl rfl ?_
        refine ops_off rfl (guard_off rfl rfl rfl hg5932) rfl rfl ?_
        refine ops_off rfl (guard_off rfl rfl rfl hg5932) rfl rfl ?_
        refine ops_off rfl (guard_off rfl rfl rfl hg5932) rfl rfl ?_
        refine ops_off rfl (guard_off rfl rfl rfl hg5932) rfl rfl ?_
        refine ops_off rfl (guard_off rfl rfl rfl hg5932) rfl rfl ?_
        refine ops_off rfl (guard_off rfl rfl rfl hg5932) rfl rfl ?_
        refine ops_off rfl (guard_off rfl rfl rfl hg5932) rfl rfl ?_
        have hg5933 : ((x0.fKind == 1) && (decide (((gt x0.fOuts (0 : Int)).fValue) < 100))) = false := by simp only [hg5932, Bool.and_true, Bool.true_and, Bool.and_false, Bool.false_and, Bool.or_true, Bool.true_or, Bool.or_false, Bool.false_or, Bool.not_true, Bool.not_false, Bool.not_not]
        refine ops_ex (v := .bool ((x0.fKind == 1) && (decide (((gt x0.fOuts (0 : Int)).fValue) < 100)))) rfl (guard_none rfl) rfl rfl (ex_pand_f rfl rfl hg5932) ?_
        refine ops_nil ?_
        exact at_meet [(49, .bool ((x0.fKind == 1) && (decide (((gt x0.fOuts (0 : Int)).fValue) < 100))))] ⟨rfl, HM⟩ (Sub.cons rfl Sub.nil)
    · rintro _ w5934 ⟨rfl, HM⟩
      refine at_then ?_
      refine run_cond (b := ((x0.fKind == 1) && (decide (((gt x0.fOuts (0 : Int)).fValue) < 100)))) rfl (fun hb5935 => ?_) (fun hb5935 => ?_)
      · replace H := cond_t hb5935 H
        refine run_seq ?_
        refine run_region rfl ?_
        refine ox rfl rfl rfl rfl (ex_assign rfl rfl) ?_
        refine ops_nil (at_then ?_)
        refine run_ret ?_
        refine at_then_ret ?_
        have hR := Option.some.inj H
        subst hR
        exact at_ret1 rfl rfl ⟨_, rfl, rfl, HM⟩
      · replace H := cond_f hb5935 H
        refine run_skip ?_
        refine at_then ?_
        refine run_seq ?_
        refine run_region rfl ?_
        refine ox rfl rfl rfl rfl (ex_assign rfl rfl) ?_
        refine ops_nil (at_then ?_)
        refine run_ret ?_
        have hR := Option.some.inj H
        subst hR
        exact at_ret1 rfl rfl ⟨_, rfl, rfl, HM⟩

def spec_l3Fault.l0 (x0 : Tx) : Nat → Int → Option (Int ⊕ Unit)
  | 0, _ => none
  | k + 1, a6056 => (bif (decide (a6056 < (x0.fIns.length : Int))) then (chk (idxOk a6056 x0.fIns.length) ((spec_l3Ref.f k (gt x0.fIns a6056)).bind fun t6087 => (bif !t6087 then some (.inl 3) else (chk (cutOk a6056 x0.fIns.length) (chk (idxOk a6056 x0.fIns.length) ((spec_l3Among.f k (x0.fIns.take (a6056).toNat) (gt x0.fIns a6056)).bind fun t6097 => (bif t6097 then some (.inl 7) else spec_l3Fault.l0 x0 k (wrap64 (a6056 + 1))))))))) else some (.inr ()))
theorem spec_l3Fault.l0_z (x0 : Tx) (a6056 : Int) : spec_l3Fault.l0 x0 0 a6056 = none := rfl
theorem spec_l3Fault.l0_s (x0 : Tx) (k : Nat) (a6056 : Int) : spec_l3Fault.l0 x0 (k + 1) a6056 = (bif (decide (a6056 < (x0.fIns.length : Int))) then (chk (idxOk a6056 x0.fIns.length) ((spec_l3Ref.f k (gt x0.fIns a6056)).bind fun t6087 => (bif !t6087 then some (.inl 3) else (chk (cutOk a6056 x0.fIns.length) (chk (idxOk a6056 x0.fIns.length) ((spec_l3Among.f k (x0.fIns.take (a6056).toNat) (gt x0.fIns a6056)).bind fun t6097 => (bif t6097 then some (.inl 7) else spec_l3Fault.l0 x0 k (wrap64 (a6056 + 1))))))))) else some (.inr ())) := rfl
def spec_l3Fault.f (k : Nat) (x0 : Tx) : Option Int := ((spec_l1In.f k x0.fKind 0 2).bind fun t5941 => (bif ((!t5941) || ((x0.fKind == 0) != (x0.fMember == 0))) then some 1 else ((bif (x0.fKind != 0) then spec_l1Key.f k x0.fMember else some default).bind fun t5951 => (bif ((x0.fKind != 0) && (!t5951)) then some 3 else ((spec_l1In.f k (x0.fIns.length : Int) 1 4).bind fun t5963 => ((bif (!(!t5963)) then spec_l1In.f k (x0.fOuts.length : Int) 1 4 else some default).bind fun t5965 => (bif ((!t5963) || (!t5965)) then some 2 else ((spec_l3Fault.l0 x0 k 0).bind fun o6034 => thn o6034 (fun r => some r) (fun _ => ((spec_l3Outs.f k x0).bind fun t6102 => some t6102))))))))))
theorem spec_l3Fault.calls {k : Nat} {x0 : Tx} {b0 f0 : Nat} {p0_0 : Value} {p0_1 : Value} {w : World} (hc0 : CellsAt w b0 f0 [.int .i64 x0.fKind, .int .i64 x0.fMember, p0_0, p0_1]) (hp0_0 : RdS kRef w p0_0 x0.fIns) (hp0_1 : RdS kOut w p0_1 x0.fOuts) {r : Int} (H : spec_l3Fault.f k x0 = some r) :
    Calls Tryz.prog 25 ([.pointer (some ⟨b0, f0, none⟩)] : List Value).toArray w (fun e w_ => ∃ v, e = .returned v ∧ v = (.int .i64 r) ∧ Mem w [] w_ []) := by
  have HM := Mem.start w
  refine calls_run (N := 86) Tryz.func25 rfl rfl rfl rfl ?_
  unfold spec_l3Fault.f at H
  refine run_seq ?_
  refine run_region rfl ?_
  refine ox rfl rfl rfl rfl (ex_assign rfl rfl) ?_
  refine ops_nil (at_then (run_seq ?_))
  refine run_seq ?_
  obtain ⟨t5941, h5942, H⟩ := bind_some H
  refine run_meet (fun ρ_ w_ => ρ_ = [(0, .pointer (some ⟨b0, f0, none⟩)), (22, .bool ((!t5941) || ((x0.fKind == 0) != (x0.fMember == 0))))] ∧ Mem w [] w_ []) ?_ ?_
  · skip
    refine run_drawf (fun w_ => Mem w [] w_ []) [(0, true), (1, true), (2, true), (3, true), (4, false), (5, true), (6, true), (7, true), (8, true), (9, true), (10, true), (11, true), (12, true), (13, true), (14, true), (15, true), (16, true), (17, true), (18, true)] mixed rfl rfl (by kernel_rfl) ?_
    replace HM := HM.grow (fr_drew _)
    have hS := Mem.suf (M := []) HM
    refine dp rfl rfl rfl rfl (ex_move rfl rfl) hS ?_
    refine dp rfl rfl rfl rfl (ex_nilCheck rfl rfl) hS ?_
    refine dp rfl rfl rfl rfl (ex_fieldAddr (off' := f0) rfl rfl Tryz.underlying28 rfl tsz2 rfl) hS ?_
    refine drwp_take rfl (guard_none rfl) rfl rfl (fun w_ hS_ => (ex_load1 rfl rfl Tryz.underlying2 rfl ((hS_.at_ hc0) 0 _ rfl))) hS ?_
    refine drwp_one rfl (guard_none rfl) rfl rfl (does_callk rfl callok56 rfl (spec_l1In.calls (x0 := x0.fKind) (x1 := 0) (x2 := 2) h5942)) ?_
    rintro _ w5943 ⟨rfl, hn⟩
    replace HM : Mem w [] w5943 [] := HM.call hn
    have hS := Mem.suf (M := []) HM
    refine ⟨hS, ?_⟩
    refine dp rfl rfl rfl rfl (ex_not rfl rfl) hS ?_
    refine dp rfl rfl rfl rfl (ex_move rfl rfl) hS ?_
    refine bool_cases (!t5941) (fun hg5944 => ?_) (fun hg5944 => ?_)
    · skip
      refine drwp_off rfl (guard_off rfl rfl rfl hg5944) rfl rfl hS ?_
      refine drwp_off rfl (guard_off rfl rfl rfl hg5944) rfl rfl hS ?_
      refine drwp_off rfl (guard_off rfl rfl rfl hg5944) rfl rfl hS ?_
      refine drwp_off rfl (guard_off rfl rfl rfl hg5944) rfl rfl hS ?_
      refine drwp_off rfl (guard_off rfl rfl rfl hg5944) rfl rfl hS ?_
      refine drwp_off rfl (guard_off rfl rfl rfl hg5944) rfl rfl hS ?_
      refine drwp_off rfl (guard_off rfl rfl rfl hg5944) rfl rfl hS ?_
      refine drwp_off rfl (guard_off rfl rfl rfl hg5944) rfl rfl hS ?_
      refine drwp_off rfl (guard_off rfl rfl rfl hg5944) rfl rfl hS ?_
      refine drwp_off rfl (guard_off rfl rfl rfl hg5944) rfl rfl hS ?_
      refine drwp_off rfl (guard_off rfl rfl rfl hg5944) rfl rfl hS ?_
      have hg5945 : ((!t5941) || ((x0.fKind == 0) != (x0.fMember == 0))) = true := by simp only [hg5944, Bool.and_true, Bool.true_and, Bool.and_false, Bool.false_and, Bool.or_true, Bool.true_or, Bool.or_false, Bool.false_or, Bool.not_true, Bool.not_false, Bool.not_not]
      refine drwp_take (v := .bool ((!t5941) || ((x0.fKind == 0) != (x0.fMember == 0)))) rfl (guard_none rfl) rfl rfl (fun w_ hS_ => (ex_por_t rfl rfl hg5944)) hS ?_
      refine drwp_done ?_
      exact at_meet [(0, .pointer (some ⟨b0, f0, none⟩)), (22, .bool ((!t5941) || ((x0.fKind == 0) != (x0.fMember == 0))))] ⟨rfl, HM⟩ (Sub.cons rfl (Sub.cons rfl Sub.nil))
    · skip
      refine drwp_take rfl (guard_on rfl rfl rfl hg5944) rfl rfl (fun w_ hS_ => (ex_move rfl rfl)) hS ?_
      refine drwp_take rfl (guard_on rfl rfl rfl hg5944) rfl rfl (fun w_ hS_ => (ex_nilCheck rfl rfl)) hS ?_
      refine drwp_take rfl (guard_on rfl rfl rfl hg5944) rfl rfl (fun w_ hS_ => (ex_fieldAddr (off' := f0) rfl rfl Tryz.underlying28 rfl tsz2 rfl)) hS ?_
      refine drwp_take rfl (guard_on rfl rfl rfl hg5944) rfl rfl (fun w_ hS_ => (ex_load1 rfl rfl Tryz.underlying2 rfl ((hS_.at_ hc0) 0 _ rfl))) hS ?_
      refine drwp_take rfl (guard_on rfl rfl rfl hg5944) rfl rfl (fun w_ hS_ => (ex_eql rfl rfl rfl)) hS ?_
      refine drwp_take rfl (guard_on rfl rfl rfl hg5944) rfl rfl (fun w_ hS_ => (ex_move rfl rfl)) hS ?_
      refine drwp_take rfl (guard_on rfl rfl rfl hg5944) rfl rfl (fun w_ hS_ => (ex_nilCheck rfl rfl)) hS ?_
      refine drwp_take rfl (guard_on rfl rfl rfl hg5944) rfl rfl (fun w_ hS_ => (ex_fieldAddr (off' := f0 + 1) rfl rfl Tryz.underlying28 rfl tsz2 rfl)) hS ?_
      refine drwp_take rfl (guard_on rfl rfl rfl hg5944) rfl rfl (fun w_ hS_ => (ex_load1 rfl rfl Tryz.underlying2 rfl ((hS_.at_ hc0) 1 _ rfl))) hS ?_
      refine drwp_take rfl (guard_on rfl rfl rfl hg5944) rfl rfl (fun w_ hS_ => (ex_eql rfl rfl rfl)) hS ?_
      refine drwp_take rfl (guard_on rfl rfl rfl hg5944) rfl rfl (fun w_ hS_ => (ex_bneq rfl rfl rfl Tryz.underlying4)) hS ?_
      refine drwp_take (v := .bool ((!t5941) || ((x0.fKind == 0) != (x0.fMember == 0)))) rfl (guard_none rfl) rfl rfl (fun w_ hS_ => (ex_por_f rfl rfl hg5944 rfl)) hS ?_
      refine drwp_done ?_
      exact at_meet [(0, .pointer (some ⟨b0, f0, none⟩)), (22, .bool ((!t5941) || ((x0.fKind == 0) != (x0.fMember == 0))))] ⟨rfl, HM⟩ (Sub.cons rfl (Sub.cons rfl Sub.nil))
  · rintro _ w5946 ⟨rfl, HM⟩
    refine at_then ?_
    refine run_cond (b := ((!t5941) || ((x0.fKind == 0) != (x0.fMember == 0)))) rfl (fun hb5947 => ?_) (fun hb5947 => ?_)
    · replace H := cond_t hb5947 H
      refine run_seq ?_
      refine run_region rfl ?_
      refine ox rfl rfl rfl rfl (ex_assign rfl rfl) ?_
      refine ops_nil (at_then ?_)
      refine run_ret ?_
      refine at_then_ret ?_
      have hR := Option.some.inj H
      subst hR
      exact at_ret1 rfl rfl ⟨_, rfl, rfl, HM⟩
    · replace H := cond_f hb5947 H
      refine run_skip ?_
      refine at_then ?_
      refine run_seq ?_
      refine run_seq ?_
      obtain ⟨t5951, h5952, H⟩ := bind_some H
      refine run_meet (fun ρ_ w_ => ρ_ = [(0, .pointer (some ⟨b0, f0, none⟩)), (35, .bool ((x0.fKind != 0) && (!t5951)))] ∧ Mem w [] w_ []) ?_ ?_
      · skip
        refine run_region rfl ?_
        refine ox rfl rfl rfl rfl (ex_move rfl rfl) ?_
        refine ox rfl rfl rfl rfl (ex_nilCheck rfl rfl) ?_
        refine ox rfl rfl rfl rfl (ex_fieldAddr (off' := f0) rfl rfl Tryz.underlying28 rfl tsz2 rfl) ?_
        refine ox rfl rfl rfl rfl (ex_load1 rfl rfl Tryz.underlying2 rfl ((HM.at_ hc0) 0 _ rfl)) ?_
        refine ox rfl rfl rfl rfl (ex_neq rfl rfl rfl) ?_
        refine ox rfl rfl rfl rfl (ex_move rfl rfl) ?_
        refine bool_cases (x0.fKind != 0) (fun hg5953 => ?_) (fun hg5953 => ?_)
        · skip
          refine ops_ex rfl (guard_on rfl rfl rfl hg5953) rfl rfl (ex_move rfl rfl) ?_
          refine ops_ex rfl (guard_on rfl rfl rfl hg5953) rfl rfl (ex_nilCheck rfl rfl) ?_
          refine ops_ex rfl (guard_on rfl rfl rfl hg5953) rfl rfl (ex_fieldAddr (off' := f0 + 1) rfl rfl Tryz.underlying28 rfl tsz2 rfl) ?_
          refine ops_ex rfl (guard_on rfl rfl rfl hg5953) rfl rfl (ex_load1 rfl rfl Tryz.underlying2 rfl ((HM.at_ hc0) 1 _ rfl)) ?_
          refine ops_does rfl (guard_on rfl rfl rfl hg5953) rfl rfl (does_callk rfl callok57 rfl (spec_l1Key.calls (x0 := x0.fMember) (cond_t hg5953 h5952))) ?_
          rintro _ w5954 ⟨rfl, hn⟩
          replace HM : Mem w [] w5954 [] := HM.call hn
          refine ops_ex rfl (guard_on rfl rfl rfl hg5953) rfl rfl (ex_not rfl rfl) ?_
          refine ops_ex (v := .bool ((x0.fKind != 0) && (!t5951))) rfl (guard_none rfl) rfl rfl (ex_pand_t rfl rfl hg5953 rfl) ?_
          refine ops_nil ?_
          exact at_meet [(0, .pointer (some ⟨b0, f0, none⟩)), (35, .bool ((x0.fKind != 0) && (!t5951)))] ⟨rfl, HM⟩ (Sub.cons rfl (Sub.cons rfl Sub.nil))
        · skip
          refine ops_off rfl (guard_off rfl rfl rfl hg5953) rfl rfl ?_
          refine ops_off rfl (guard_off rfl rfl rfl hg5953) rfl rfl ?_
          refine ops_off rfl (guard_off rfl rfl rfl hg5953) rfl rfl ?_
          refine ops_off rfl (guard_off rfl rfl rfl hg5953) rfl rfl ?_
          refine ops_off rfl (guard_off rfl rfl rfl hg5953) rfl rfl ?_
          refine ops_off rfl (guard_off rfl rfl rfl hg5953) rfl rfl ?_
          have hg5955 : ((x0.fKind != 0) && (!t5951)) = false := by simp only [hg5953, Bool.and_true, Bool.true_and, Bool.and_false, Bool.false_and, Bool.or_true, Bool.true_or, Bool.or_false, Bool.false_or, Bool.not_true, Bool.not_false, Bool.not_not]
          refine ops_ex (v := .bool ((x0.fKind != 0) && (!t5951))) rfl (guard_none rfl) rfl rfl (ex_pand_f rfl rfl hg5953) ?_
          refine ops_nil ?_
          exact at_meet [(0, .pointer (some ⟨b0, f0, none⟩)), (35, .bool ((x0.fKind != 0) && (!t5951)))] ⟨rfl, HM⟩ (Sub.cons rfl (Sub.cons rfl Sub.nil))
      · rintro _ w5956 ⟨rfl, HM⟩
        refine at_then ?_
        refine run_cond (b := ((x0.fKind != 0) && (!t5951))) rfl (fun hb5957 => ?_) (fun hb5957 => ?_)
        · replace H := cond_t hb5957 H
          refine run_seq ?_
          refine run_region rfl ?_
          refine ox rfl rfl rfl rfl (ex_assign rfl rfl) ?_
          refine ops_nil (at_then ?_)
          refine run_ret ?_
          refine at_then_ret ?_
          have hR := Option.some.inj H
          subst hR
          exact at_ret1 rfl rfl ⟨_, rfl, rfl, HM⟩
        · replace H := cond_f hb5957 H
          refine run_skip ?_
          refine at_then ?_
          refine run_seq ?_
          refine run_seq ?_
          obtain ⟨t5963, h5964, H⟩ := bind_some H
          obtain ⟨t5965, h5966, H⟩ := bind_some H
          refine run_meet (fun ρ_ w_ => ρ_ = [(0, .pointer (some ⟨b0, f0, none⟩)), (51, .bool ((!t5963) || (!t5965)))] ∧ Mem w [] w_ []) ?_ ?_
          · skip
            refine run_region rfl ?_
            refine ox rfl rfl rfl rfl (ex_move rfl rfl) ?_
            refine ox rfl rfl rfl rfl (ex_nilCheck rfl rfl) ?_
            refine ox rfl rfl rfl rfl (ex_fieldAddr (off' := f0 + 2) rfl rfl Tryz.underlying28 rfl tsz25 rfl) ?_
            refine ox rfl rfl rfl rfl (ex_load1 rfl rfl Tryz.underlying25 rfl ((HM.at_ hc0) 2 _ rfl)) ?_
            refine ox rfl rfl rfl rfl (ex_len (d := kRef) (xs := x0.fIns) rfl rfl Tryz.underlying25 hp0_0) ?_
            refine od rfl rfl rfl rfl (does_callk rfl callok56 rfl (spec_l1In.calls (x0 := (x0.fIns.length : Int)) (x1 := 1) (x2 := 4) h5964)) ?_
            rintro _ w5967 ⟨rfl, hn⟩
            replace HM : Mem w [] w5967 [] := HM.call hn
            refine ox rfl rfl rfl rfl (ex_not rfl rfl) ?_
            refine ox rfl rfl rfl rfl (ex_move rfl rfl) ?_
            refine bool_cases (!t5963) (fun hg5968 => ?_) (fun hg5968 => ?_)
            · skip
              refine ops_off rfl (guard_off rfl rfl rfl hg5968) rfl rfl ?_
              refine ops_off rfl (guard_off rfl rfl rfl hg5968) rfl rfl ?_
              refine ops_off rfl (guard_off rfl rfl rfl hg5968) rfl rfl ?_
              refine ops_off rfl (guard_off rfl rfl rfl hg5968) rfl rfl ?_
              refine ops_off rfl (guard_off rfl rfl rfl hg5968) rfl rfl ?_
              refine ops_off rfl (guard_off rfl rfl rfl hg5968) rfl rfl ?_
              refine ops_off rfl (guard_off rfl rfl rfl hg5968) rfl rfl ?_
              have hg5969 : ((!t5963) || (!t5965)) = true := by simp only [hg5968, Bool.and_true, Bool.true_and, Bool.and_false, Bool.false_and, Bool.or_true, Bool.true_or, Bool.or_false, Bool.false_or, Bool.not_true, Bool.not_false, Bool.not_not]
              refine ops_ex (v := .bool ((!t5963) || (!t5965))) rfl (guard_none rfl) rfl rfl (ex_por_t rfl rfl hg5968) ?_
              refine ops_nil ?_
              exact at_meet [(0, .pointer (some ⟨b0, f0, none⟩)), (51, .bool ((!t5963) || (!t5965)))] ⟨rfl, HM⟩ (Sub.cons rfl (Sub.cons rfl Sub.nil))
            · skip
              refine ops_ex rfl (guard_on rfl rfl rfl hg5968) rfl rfl (ex_move rfl rfl) ?_
              refine ops_ex rfl (guard_on rfl rfl rfl hg5968) rfl rfl (ex_nilCheck rfl rfl) ?_
              refine ops_ex rfl (guard_on rfl rfl rfl hg5968) rfl rfl (ex_fieldAddr (off' := f0 + 3) rfl rfl Tryz.underlying28 rfl tsz26 rfl) ?_
              refine ops_ex rfl (guard_on rfl rfl rfl hg5968) rfl rfl (ex_load1 rfl rfl Tryz.underlying26 rfl ((HM.at_ hc0) 3 _ rfl)) ?_
              refine ops_ex rfl (guard_on rfl rfl rfl hg5968) rfl rfl (ex_len (d := kOut) (xs := x0.fOuts) rfl rfl Tryz.underlying26 hp0_1) ?_
              refine ops_does rfl (guard_on rfl rfl rfl hg5968) rfl rfl (does_callk rfl callok56 rfl (spec_l1In.calls (x0 := (x0.fOuts.length : Int)) (x1 := 1) (x2 := 4) (cond_t (not_mk hg5968) h5966))) ?_
              rintro _ w5970 ⟨rfl, hn⟩
              replace HM : Mem w [] w5970 [] := HM.call hn
              refine ops_ex rfl (guard_on rfl rfl rfl hg5968) rfl rfl (ex_not rfl rfl) ?_
              refine ops_ex (v := .bool ((!t5963) || (!t5965))) rfl (guard_none rfl) rfl rfl (ex_por_f rfl rfl hg5968 rfl) ?_
              refine ops_nil ?_
              exact at_meet [(0, .pointer (some ⟨b0, f0, none⟩)), (51, .bool ((!t5963) || (!t5965)))] ⟨rfl, HM⟩ (Sub.cons rfl (Sub.cons rfl Sub.nil))
          · rintro _ w5971 ⟨rfl, HM⟩
            refine at_then ?_
            refine run_cond (b := ((!t5963) || (!t5965))) rfl (fun hb5972 => ?_) (fun hb5972 => ?_)
            · replace H := cond_t hb5972 H
              refine run_seq ?_
              refine run_region rfl ?_
              refine ox rfl rfl rfl rfl (ex_assign rfl rfl) ?_
              refine ops_nil (at_then ?_)
              refine run_ret ?_
              refine at_then_ret ?_
              have hR := Option.some.inj H
              subst hR
              exact at_ret1 rfl rfl ⟨_, rfl, rfl, HM⟩
            · replace H := cond_f hb5972 H
              refine run_skip ?_
              refine at_then ?_
              obtain ⟨o6034, ho6035, H⟩ := bind_some H
              refine run_mid (fun ρ_ w_ => Sum.inr () = o6034 ∧ ρ_ = [(0, .pointer (some ⟨b0, f0, none⟩))] ∧ Mem w [] w_ []) ?_ ?_
              · skip
                refine run_seq ?_
                refine run_region rfl ?_
                refine ox rfl rfl rfl rfl (ex_assign rfl rfl) ?_
                refine ops_nil (at_then ?_)
                refine run_block ?_
                refine run_loop (fun k_ ρ_ w_ => ∃ a6056 : Int, spec_l3Fault.l0 x0 k_ a6056 = some o6034 ∧ ρ_ = [(0, .pointer (some ⟨b0, f0, none⟩)), (3, .int .i64 a6056)] ∧ Mem w [] w_ []) k (ρ1 := [(0, .pointer (some ⟨b0, f0, none⟩)), (3, .int .i64 0)]) ⟨_, ho6035, rfl, HM⟩ (Sub.cons rfl (Sub.cons rfl Sub.nil)) ?_
                clear HM ho6035
                rintro k6077 _ w6078 ⟨a6056, ho6035, rfl, HM⟩
                obtain _ | k6077 := k6077
                · exact nomatch ((spec_l3Fault.l0_z x0 a6056).symm.trans ho6035)
                replace ho6035 := (spec_l3Fault.l0_s x0 k6077 a6056).symm.trans ho6035
                refine run_seq ?_
                refine run_seq ?_
                refine run_region rfl ?_
                refine ox rfl rfl rfl rfl (ex_move rfl rfl) ?_
                refine ox rfl rfl rfl rfl (ex_move rfl rfl) ?_
                refine ox rfl rfl rfl rfl (ex_nilCheck rfl rfl) ?_
                refine ox rfl rfl rfl rfl (ex_fieldAddr (off' := f0 + 2) rfl rfl Tryz.underlying28 rfl tsz25 rfl) ?_
                refine ox rfl rfl rfl rfl (ex_load1 rfl rfl Tryz.underlying25 rfl ((HM.at_ hc0) 2 _ rfl)) ?_
                refine ox rfl rfl rfl rfl (ex_len (d := kRef) (xs := x0.fIns) rfl rfl Tryz.underlying25 hp0_0) ?_
                refine ox rfl rfl rfl rfl (ex_lss rfl rfl rfl) ?_
                refine ops_nil (at_then ?_)
                refine run_cond (b := (decide (a6056 < (x0.fIns.length : Int)))) rfl (fun hb6079 => ?_) (fun hb6079 => ?_)
                · replace ho6035 := cond_t hb6079 ho6035
                  refine run_skip ?_
                  refine at_then ?_
                  refine run_seq ?_
                  refine run_block ?_
                  refine run_seq ?_
                  refine run_seq ?_
                  obtain ⟨e6085, ho6035⟩ := chk_some ho6035
                  obtain ⟨t6087, h6088, ho6035⟩ := bind_some ho6035
                  refine run_region rfl ?_
                  refine ox rfl rfl rfl rfl (ex_move rfl rfl) ?_
                  refine ox rfl rfl rfl rfl (ex_nilCheck rfl rfl) ?_
                  refine ox rfl rfl rfl rfl (ex_fieldAddr (off' := f0 + 2) rfl rfl Tryz.underlying28 rfl tsz25 rfl) ?_
                  refine ox rfl rfl rfl rfl (ex_load1 rfl rfl Tryz.underlying25 rfl ((HM.at_ hc0) 2 _ rfl)) ?_
                  refine ox rfl rfl rfl rfl (ex_move rfl rfl) ?_
                  have hc6086 : CellsAt _ (sb p0_0) (so p0_0 + (a6056).toNat * 2) [(.int .i64 ((gt x0.fIns a6056).fTx)), (.int .i64 ((gt x0.fIns a6056).fAt))] := rd_plain hp0_0 e6085
                  refine ox rfl rfl rfl rfl (ex_indexAddr (d := kRef) rfl rfl rfl Tryz.underlying25 tsz62 hp0_0 (idx_lo e6085) (idx_hi e6085)) ?_
                  refine ox rfl rfl rfl rfl (ex_loadN (cs := [(.int .i64 ((gt x0.fIns a6056).fTx)), (.int .i64 ((gt x0.fIns a6056).fAt))]) rfl rfl Tryz.underlying62 rfl tsz62 rfl ((HM.at_ hc6086).sub 0 2 rfl)) ?_
                  refine od rfl rfl rfl rfl (does_callk rfl callok58 rfl (spec_l3Ref.calls (x0 := (gt x0.fIns a6056)) h6088)) ?_
                  rintro _ w6089 ⟨rfl, hn⟩
                  replace HM : Mem w [] w6089 [] := HM.call hn
                  refine ox rfl rfl rfl rfl (ex_not rfl rfl) ?_
                  refine ops_nil (at_then ?_)
                  refine run_cond (b := !t6087) rfl (fun hb6090 => ?_) (fun hb6090 => ?_)
                  · replace ho6035 := cond_t hb6090 ho6035
                    refine run_seq ?_
                    refine run_region rfl ?_
                    refine ox rfl rfl rfl rfl (ex_assign rfl rfl) ?_
                    refine ops_nil (at_then ?_)
                    refine run_ret ?_
                    refine at_then_ret ?_
                    refine at_block_ret ?_
                    refine at_then_ret ?_
                    refine at_then_ret ?_
                    refine at_block_ret ?_
                    refine at_then_ret ?_
                    have hR := Option.some.inj ho6035
                    subst hR
                    have hT := thn_inl H
                    have hR := Option.some.inj hT
                    subst hR
                    exact at_ret1 rfl rfl ⟨_, rfl, rfl, HM⟩
                  · replace ho6035 := cond_f hb6090 ho6035
                    refine run_skip ?_
                    refine at_then ?_
                    refine run_seq ?_
                    obtain ⟨e6091, ho6035⟩ := chk_some ho6035
                    obtain ⟨e6095, ho6035⟩ := chk_some ho6035
                    obtain ⟨t6097, h6098, ho6035⟩ := bind_some ho6035
                    refine run_drawf (fun w_ => Mem w [] w_ []) [(0, true), (1, true), (2, true), (3, true), (4, true), (5, true), (6, true), (7, true), (8, true), (9, true), (10, true), (11, true), (12, true), (13, false)] mixed rfl rfl (by kernel_rfl) ?_
                    replace HM := HM.grow (fr_drew _)
                    have hS := Mem.suf (M := []) HM
                    refine dp rfl rfl rfl rfl (ex_move rfl rfl) hS ?_
                    refine dp rfl rfl rfl rfl (ex_nilCheck rfl rfl) hS ?_
                    refine dp rfl rfl rfl rfl (ex_fieldAddr (off' := f0 + 2) rfl rfl Tryz.underlying28 rfl tsz25 rfl) hS ?_
                    refine drwp_take rfl (guard_none rfl) rfl rfl (fun w_ hS_ => (ex_load1 rfl rfl Tryz.underlying25 rfl ((hS_.at_ hc0) 2 _ rfl))) hS ?_
                    refine dp rfl rfl rfl rfl (ex_move rfl rfl) hS ?_
                    refine drwp_takeE rfl (guard_none rfl) rfl rfl (ex_cutH kRef rfl rfl rfl Tryz.underlying25 tsz62 hp0_0 e6091) hS ?_
                    rintro u6092 hr6094
                    refine dp rfl rfl rfl rfl (ex_move rfl rfl) hS ?_
                    refine dp rfl rfl rfl rfl (ex_nilCheck rfl rfl) hS ?_
                    refine dp rfl rfl rfl rfl (ex_fieldAddr (off' := f0 + 2) rfl rfl Tryz.underlying28 rfl tsz25 rfl) hS ?_
                    refine drwp_take rfl (guard_none rfl) rfl rfl (fun w_ hS_ => (ex_load1 rfl rfl Tryz.underlying25 rfl ((hS_.at_ hc0) 2 _ rfl))) hS ?_
                    refine dp rfl rfl rfl rfl (ex_move rfl rfl) hS ?_
                    have hc6096 : CellsAt _ (sb p0_0) (so p0_0 + (a6056).toNat * 2) [(.int .i64 ((gt x0.fIns a6056).fTx)), (.int .i64 ((gt x0.fIns a6056).fAt))] := rd_plain hp0_0 e6095
                    refine dp rfl rfl rfl rfl (ex_indexAddr (d := kRef) rfl rfl rfl Tryz.underlying25 tsz62 hp0_0 (idx_lo e6095) (idx_hi e6095)) hS ?_
                    refine drwp_take rfl (guard_none rfl) rfl rfl (fun w_ hS_ => (ex_loadN (cs := [(.int .i64 ((gt x0.fIns a6056).fTx)), (.int .i64 ((gt x0.fIns a6056).fAt))]) rfl rfl Tryz.underlying62 rfl tsz62 rfl ((hS_.at_ hc6096).sub 0 2 rfl))) hS ?_
                    refine drwp_one rfl (guard_none rfl) rfl rfl (does_callk rfl callok37 rfl (spec_l3Among.calls (x0 := x0.fIns.take (a6056).toNat) (x1 := (gt x0.fIns a6056)) (HM.rd hr6094) h6098)) ?_
                    rintro _ w6099 ⟨rfl, hn⟩
                    replace HM : Mem w [] w6099 [] := HM.call hn
                    have hS := Mem.suf (M := []) HM
                    refine ⟨hS, ?_⟩
                    refine drwp_done ?_
                    refine at_then ?_
                    refine run_cond (b := t6097) rfl (fun hb6100 => ?_) (fun hb6100 => ?_)
                    · replace ho6035 := cond_t hb6100 ho6035
                      refine run_seq ?_
                      refine run_region rfl ?_
                      refine ox rfl rfl rfl rfl (ex_assign rfl rfl) ?_
                      refine ops_nil (at_then ?_)
                      refine run_ret ?_
                      refine at_block_ret ?_
                      refine at_then_ret ?_
                      refine at_then_ret ?_
                      refine at_block_ret ?_
                      refine at_then_ret ?_
                      have hR := Option.some.inj ho6035
                      subst hR
                      have hT := thn_inl H
                      have hR := Option.some.inj hT
                      subst hR
                      exact at_ret1 rfl rfl ⟨_, rfl, rfl, HM⟩
                    · replace ho6035 := cond_f hb6100 ho6035
                      refine run_skip ?_
                      refine at_block ?_
                      refine at_then ?_
                      refine run_region rfl ?_
                      refine ox rfl rfl rfl rfl (ex_move rfl rfl) ?_
                      refine ox rfl rfl rfl rfl (ex_add rfl rfl rfl) ?_
                      refine ox rfl rfl rfl rfl (ex_assign rfl rfl) ?_
                      refine ops_nil ?_
                      exact at_again k6077 (ρ1 := [(0, .pointer (some ⟨b0, f0, none⟩)), (3, .int .i64 (wrap64 (a6056 + 1)))]) (Nat.lt_succ_self _) ⟨_, ho6035, rfl, HM⟩ (Sub.cons rfl (Sub.cons rfl Sub.nil))
                · replace ho6035 := cond_f hb6079 ho6035
                  refine run_exit ?_
                  refine at_then_exit ?_
                  refine at_then_exit ?_
                  refine at_block_exit ?_
                  exact at_mid (ρ' := [(0, .pointer (some ⟨b0, f0, none⟩))]) ⟨(Option.some.inj ho6035), rfl, HM⟩ (Sub.cons rfl Sub.nil)
              · rintro _ w6101 ⟨rfl, rfl, HM⟩
                replace H := (thn_inr H)
                refine run_seq ?_
                obtain ⟨t6102, h6103, H⟩ := bind_some H
                refine run_region rfl ?_
                refine ox rfl rfl rfl rfl (ex_move rfl rfl) ?_
                refine od rfl rfl rfl rfl (does_callk rfl callok59 rfl (spec_l3Outs.calls (x0 := x0) (HM.at_ hc0) (HM.rd hp0_0) (HM.rd hp0_1) h6103)) ?_
                rintro _ w6104 ⟨rfl, hn⟩
                replace HM : Mem w [] w6104 [] := HM.call hn
                refine ox rfl rfl rfl rfl (ex_assign rfl rfl) ?_
                refine ops_nil (at_then ?_)
                refine run_ret ?_
                have hR := Option.some.inj H
                subst hR
                exact at_ret1 rfl rfl ⟨_, rfl, rfl, HM⟩

def spec_l3Parse.l0 (t6113 : (List ByteArray)) (a6151 : Int) (a6152 : Int) (t6194 : (List Ref) × Bool) : Nat → (List Out) → Bool → Int → Option ((Tx × Bool) ⊕ ((List Out) × Bool))
  | 0, _, _, _ => none
  | k + 1, a6320, a6322, a6323 => (bif ((decide (a6323 < (t6113.length : Int))) && a6322) then (chk (idxOk a6323 t6113.length) ((spec_l2Cut.f k (gt t6113 a6323) 61).bind fun t6359 => (bif ((t6359.length : Int) != 2) then some (.inl ((⟨a6151, a6152, t6194.1, a6320⟩ : Tx), false)) else (chk (idxOk (0 : Int) t6359.length) ((spec_l2Number.f k (gt t6359 (0 : Int)) 7).bind fun t6368 => (chk (idxOk (1 : Int) t6359.length) ((spec_l3Swap.f k (gt t6359 (1 : Int)) 95 32).bind fun t6372 => ((spec_l2Parse.f k t6372).bind fun t6374 => (chk (leB ((a6320.length + ([(⟨t6368.1, (⟨t6374.1.fKeys, t6374.1.fNeed, t6374.1.fAfter⟩ : Rule)⟩ : Out)] : List Out).length) * 48) 140737488355328) (spec_l3Parse.l0 t6113 a6151 a6152 t6194 k (a6320 ++ ([(⟨t6368.1, (⟨t6374.1.fKeys, t6374.1.fNeed, t6374.1.fAfter⟩ : Rule)⟩ : Out)] : List Out)) (t6368.2 && t6374.2) (wrap64 (a6323 + 1)))))))))))) else some (.inr (a6320, a6322)))
theorem spec_l3Parse.l0_z (t6113 : (List ByteArray)) (a6151 : Int) (a6152 : Int) (t6194 : (List Ref) × Bool) (a6320 : List Out) (a6322 : Bool) (a6323 : Int) : spec_l3Parse.l0 t6113 a6151 a6152 t6194 0 a6320 a6322 a6323 = none := rfl
theorem spec_l3Parse.l0_s (t6113 : (List ByteArray)) (a6151 : Int) (a6152 : Int) (t6194 : (List Ref) × Bool) (k : Nat) (a6320 : List Out) (a6322 : Bool) (a6323 : Int) : spec_l3Parse.l0 t6113 a6151 a6152 t6194 (k + 1) a6320 a6322 a6323 = (bif ((decide (a6323 < (t6113.length : Int))) && a6322) then (chk (idxOk a6323 t6113.length) ((spec_l2Cut.f k (gt t6113 a6323) 61).bind fun t6359 => (bif ((t6359.length : Int) != 2) then some (.inl ((⟨a6151, a6152, t6194.1, a6320⟩ : Tx), false)) else (chk (idxOk (0 : Int) t6359.length) ((spec_l2Number.f k (gt t6359 (0 : Int)) 7).bind fun t6368 => (chk (idxOk (1 : Int) t6359.length) ((spec_l3Swap.f k (gt t6359 (1 : Int)) 95 32).bind fun t6372 => ((spec_l2Parse.f k t6372).bind fun t6374 => (chk (leB ((a6320.length + ([(⟨t6368.1, (⟨t6374.1.fKeys, t6374.1.fNeed, t6374.1.fAfter⟩ : Rule)⟩ : Out)] : List Out).length) * 48) 140737488355328) (spec_l3Parse.l0 t6113 a6151 a6152 t6194 k (a6320 ++ ([(⟨t6368.1, (⟨t6374.1.fKeys, t6374.1.fNeed, t6374.1.fAfter⟩ : Rule)⟩ : Out)] : List Out)) (t6368.2 && t6374.2) (wrap64 (a6323 + 1)))))))))))) else some (.inr (a6320, a6322))) := rfl
def spec_l3Parse.f (k : Nat) (x0 : ByteArray) : Option (Tx × Bool) := ((spec_l2Cut.f k x0 32).bind fun t6113 => ((chk (idxOk (0 : Int) t6113.length) (chk (!(!(sEq (gt t6113 (0 : Int)) (⟨#[106, 111, 105, 110]⟩ : ByteArray))) || (idxOk (0 : Int) t6113.length)) (bif ((sEq (gt t6113 (0 : Int)) (⟨#[106, 111, 105, 110]⟩ : ByteArray)) || (sEq (gt t6113 (0 : Int)) (⟨#[108, 101, 97, 118, 101]⟩ : ByteArray))) then (bif (decide ((t6113.length : Int) < 2)) then some (.inl ((⟨0, 0, ([] : List Ref), ([] : List Out)⟩ : Tx), false)) else (chk (idxOk (1 : Int) t6113.length) ((spec_l2Number.f k (gt t6113 (1 : Int)) 3).bind fun t6168 => (bif !t6168.2 then some (.inl ((⟨0, 0, ([] : List Ref), ([] : List Out)⟩ : Tx), false)) else (chk (idxOk (0 : Int) t6113.length) (bif (sEq (gt t6113 (0 : Int)) (⟨#[108, 101, 97, 118, 101]⟩ : ByteArray)) then some (.inr (2, t6168.1, 2)) else some (.inr (1, t6168.1, 2)))))))) else (chk (idxOk (0 : Int) t6113.length) (bif (!sEq (gt t6113 (0 : Int)) (⟨#[112, 97, 121]⟩ : ByteArray)) then some (.inl ((⟨0, 0, ([] : List Ref), ([] : List Out)⟩ : Tx), false)) else some (.inr (0, 0, 1))))))).bind fun o6154 => thn o6154 (fun r => some r) (cur3 (fun a6151 a6152 a6153 => (bif (decide ((t6113.length : Int) < (wrap64 (a6153 + 2)))) then some ((⟨a6151, a6152, ([] : List Ref), ([] : List Out)⟩ : Tx), false) else (chk (idxOk a6153 t6113.length) ((spec_l3Ins.f k (gt t6113 a6153)).bind fun t6194 => ((spec_l3Parse.l0 t6113 a6151 a6152 t6194 k ([] : List Out) t6194.2 (wrap64 (a6153 + 1))).bind fun o6290 => thn o6290 (fun r => some r) (cur2 (fun a6287 a6289 => ((bif a6289 then spec_l3Fault.f k (⟨a6151, a6152, t6194.1, a6287⟩ : Tx) else some default).bind fun t6398 => ((bif (a6289 && (t6398 == 0)) then spec_l3Text.f k (⟨a6151, a6152, t6194.1, a6287⟩ : Tx) else some default).bind fun t6400 => some ((⟨a6151, a6152, t6194.1, a6287⟩ : Tx), (((a6289 && (t6398 == 0)) && (sEq t6400 x0)) && (decide ((x0.size : Int) ≤ 300))))))))))))))))
theorem spec_l3Parse.calls {k : Nat} {x0 : ByteArray}  {w : World}  {r : Tx × Bool} (H : spec_l3Parse.f k x0 = some r) :
    Calls Tryz.prog 23 ([.string x0] : List Value).toArray w (fun e w_ => ∃ v, e = .returned v ∧ ∃ u0 : Value, ∃ u1 : Value, v = (.tuple #[.agg #[.int .i64 r.1.fKind, .int .i64 r.1.fMember, u0, u1], .bool r.2]) ∧ Mem w [] w_ [own kRef 62 u0 r.1.fIns, own kOut 44 u1 r.1.fOuts]) := by
  have HM := Mem.start w
  refine calls_run (N := 136) Tryz.func23 rfl rfl rfl rfl ?_
  unfold spec_l3Parse.f at H
  refine run_seq ?_
  refine run_region rfl ?_
  refine od rfl rfl rfl rfl (does_alloc (cs := [.int .i64 0, .int .i64 0, .slice none 0 0, .slice none 0 0]) rfl tz28 rfl HM) ?_
  rintro _ w6112 ⟨b6109, rfl, HM⟩
  refine ox rfl rfl rfl rfl (ex_assign rfl rfl) ?_
  refine ops_nil (at_then (run_seq ?_))
  obtain ⟨t6113, h6114, H⟩ := bind_some H
  refine run_region rfl ?_
  refine ox rfl rfl rfl rfl (ex_move rfl rfl) ?_
  refine od rfl rfl rfl rfl (does_callk rfl callok51 rfl (spec_l2Cut.calls (x0 := x0) (x1 := 32) h6114)) ?_
  rintro u6115 w6117 ⟨_, rfl, hn⟩
  replace HM : Mem w [] w6117 [own kStr 9 u6115 t6113, box b6109 28 [.int .i64 0, .int .i64 0, .slice none 0 0, .slice none 0 0]] := HM.call hn
  refine ox rfl rfl rfl rfl (ex_assign rfl rfl) ?_
  refine ops_nil (at_then (run_seq ?_))
  refine run_region rfl ?_
  refine ox rfl rfl rfl rfl (ex_build (cells := #[(.int .i64 0), (.int .i64 0), (.slice none 0 0), (.slice none 0 0)]) rfl rfl (by kernel_rfl)) ?_
  refine od rfl rfl rfl rfl (does_alloc (cs := [.int .i64 0, .int .i64 0, .slice none 0 0, .slice none 0 0]) rfl tz28 rfl HM) ?_
  rintro _ w6121 ⟨b6118, rfl, HM⟩
  refine odS rfl rfl rfl (does_store (vs := [.int .i64 0, .int .i64 0, .slice none 0 0, .slice none 0 0]) (cs' := [.int .i64 0, .int .i64 0, .slice none 0 0, .slice none 0 0]) rfl rfl rfl rfl tsz28 (Ones.int (Ones.int (Ones.sl (Ones.sl Ones.nil)))) rfl rfl HM) ?_
  rintro w6122 HM
  refine ops_nil (at_then (run_seq ?_))
  refine run_region rfl ?_
  refine ox rfl rfl rfl rfl (ex_assign rfl rfl) ?_
  refine ops_nil (at_then ?_)
  obtain ⟨o6154, ho6155, H⟩ := bind_some H
  refine run_mid (fun ρ_ w_ => ∃ a6151 : Int, ∃ a6152 : Int, ∃ a6153 : Int, Sum.inr (a6151, a6152, a6153) = o6154 ∧ ρ_ = [(0, .string x0), (2, .pointer (some ⟨b6109, 0, none⟩)), (4, u6115), (5, .pointer (some ⟨b6118, 0, none⟩)), (6, .int .i64 a6153)] ∧ Mem w [] w_ [box b6109 28 [.int .i64 0, .int .i64 0, .slice none 0 0, .slice none 0 0], own kStr 9 u6115 t6113, box b6118 28 [.int .i64 a6151, .int .i64 a6152, .slice none 0 0, .slice none 0 0]]) ?_ ?_
  · skip
    refine run_seq ?_
    obtain ⟨e6156, ho6155⟩ := chk_some ho6155
    obtain ⟨e6157, ho6155⟩ := chk_some ho6155
    refine run_meet (fun ρ_ w_ => ρ_ = [(0, .string x0), (2, .pointer (some ⟨b6109, 0, none⟩)), (4, u6115), (5, .pointer (some ⟨b6118, 0, none⟩)), (6, .int .i64 1), (29, .bool ((sEq (gt t6113 (0 : Int)) (⟨#[106, 111, 105, 110]⟩ : ByteArray)) || (sEq (gt t6113 (0 : Int)) (⟨#[108, 101, 97, 118, 101]⟩ : ByteArray))))] ∧ Mem w [] w_ [box b6109 28 [.int .i64 0, .int .i64 0, .slice none 0 0, .slice none 0 0], own kStr 9 u6115 t6113, box b6118 28 [.int .i64 0, .int .i64 0, .slice none 0 0, .slice none 0 0]]) ?_ ?_
    · skip
      refine run_region rfl ?_
      refine ox rfl rfl rfl rfl (ex_move rfl rfl) ?_
      refine ox rfl rfl rfl rfl (ex_indexAddr (d := kStr) rfl rfl rfl Tryz.underlying72 tsz9 (HM.own_rd 1 rfl) (idx_lo e6156) (idx_hi e6156)) ?_
      refine ox rfl rfl rfl rfl (ex_load1 rfl rfl Tryz.underlying9 rfl ((rd_plain (HM.own_rd 1 rfl) e6156) 0 _ rfl)) ?_
      refine ox rfl rfl rfl rfl (ex_seql rfl rfl rfl) ?_
      refine ox rfl rfl rfl rfl (ex_move rfl rfl) ?_
      refine bool_cases (sEq (gt t6113 (0 : Int)) (⟨#[106, 111, 105, 110]⟩ : ByteArray)) (fun hg6158 => ?_) (fun hg6158 => ?_)
      · skip
        refine ops_off rfl (guard_off rfl rfl rfl hg6158) rfl rfl ?_
        refine ops_off rfl (guard_off rfl rfl rfl hg6158) rfl rfl ?_
        refine ops_off rfl (guard_off rfl rfl rfl hg6158) rfl rfl ?_
        refine ops_off rfl (guard_off rfl rfl rfl hg6158) rfl rfl ?_
        have hg6159 : ((sEq (gt t6113 (0 : Int)) (⟨#[106, 111, 105, 110]⟩ : ByteArray)) || (sEq (gt t6113 (0 : Int)) (⟨#[108, 101, 97, 118, 101]⟩ : ByteArray))) = true := by simp only [hg6158, Bool.and_true, Bool.true_and, Bool.and_false, Bool.false_and, Bool.or_true, Bool.true_or, Bool.or_false, Bool.false_or, Bool.not_true, Bool.not_false, Bool.not_not]
        refine ops_ex (v := .bool ((sEq (gt t6113 (0 : Int)) (⟨#[106, 111, 105, 110]⟩ : ByteArray)) || (sEq (gt t6113 (0 : Int)) (⟨#[108, 101, 97, 118, 101]⟩ : ByteArray)))) rfl (guard_none rfl) rfl rfl (ex_por_t rfl rfl hg6158) ?_
        refine ops_nil ?_
        replace HM := HM.front 1 rfl rfl
        replace HM := HM.front 2 rfl rfl
        exact at_meet [(0, .string x0), (2, .pointer (some ⟨b6109, 0, none⟩)), (4, u6115), (5, .pointer (some ⟨b6118, 0, none⟩)), (6, .int .i64 1), (29, .bool ((sEq (gt t6113 (0 : Int)) (⟨#[106, 111, 105, 110]⟩ : ByteArray)) || (sEq (gt t6113 (0 : Int)) (⟨#[108, 101, 97, 118, 101]⟩ : ByteArray))))] ⟨rfl, HM⟩ (Sub.cons rfl (Sub.cons rfl (Sub.cons rfl (Sub.cons rfl (Sub.cons rfl (Sub.cons rfl Sub.nil))))))
      · skip
        refine ops_ex rfl (guard_on rfl rfl rfl hg6158) rfl rfl (ex_move rfl rfl) ?_
        refine ops_ex rfl (guard_on rfl rfl rfl hg6158) rfl rfl (ex_indexAddr (d := kStr) rfl rfl rfl Tryz.underlying72 tsz9 (HM.own_rd 1 rfl) (idx_lo (or_t e6157 (not_mk hg6158))) (idx_hi (or_t e6157 (not_mk hg6158)))) ?_
        refine ops_ex rfl (guard_on rfl rfl rfl hg6158) rfl rfl (ex_load1 rfl rfl Tryz.underlying9 rfl ((rd_plain (HM.own_rd 1 rfl) (or_t e6157 (not_mk hg6158))) 0 _ rfl)) ?_
        refine ops_ex rfl (guard_on rfl rfl rfl hg6158) rfl rfl (ex_seql rfl rfl rfl) ?_
        refine ops_ex (v := .bool ((sEq (gt t6113 (0 : Int)) (⟨#[106, 111, 105, 110]⟩ : ByteArray)) || (sEq (gt t6113 (0 : Int)) (⟨#[108, 101, 97, 118, 101]⟩ : ByteArray)))) rfl (guard_none rfl) rfl rfl (ex_por_f rfl rfl hg6158 rfl) ?_
        refine ops_nil ?_
        replace HM := HM.front 1 rfl rfl
        replace HM := HM.front 2 rfl rfl
        exact at_meet [(0, .string x0), (2, .pointer (some ⟨b6109, 0, none⟩)), (4, u6115), (5, .pointer (some ⟨b6118, 0, none⟩)), (6, .int .i64 1), (29, .bool ((sEq (gt t6113 (0 : Int)) (⟨#[106, 111, 105, 110]⟩ : ByteArray)) || (sEq (gt t6113 (0 : Int)) (⟨#[108, 101, 97, 118, 101]⟩ : ByteArray))))] ⟨rfl, HM⟩ (Sub.cons rfl (Sub.cons rfl (Sub.cons rfl (Sub.cons rfl (Sub.cons rfl (Sub.cons rfl Sub.nil))))))
    · rintro _ w6160 ⟨rfl, HM⟩
      refine at_then ?_
      refine run_cond (b := ((sEq (gt t6113 (0 : Int)) (⟨#[106, 111, 105, 110]⟩ : ByteArray)) || (sEq (gt t6113 (0 : Int)) (⟨#[108, 101, 97, 118, 101]⟩ : ByteArray)))) rfl (fun hb6161 => ?_) (fun hb6161 => ?_)
      · replace ho6155 := cond_t hb6161 ho6155
        refine run_seq ?_
        refine run_seq ?_
        refine run_region rfl ?_
        refine ox rfl rfl rfl rfl (ex_move rfl rfl) ?_
        refine ox rfl rfl rfl rfl (ex_len (d := kStr) (xs := t6113) rfl rfl Tryz.underlying72 (HM.own_rd 1 rfl)) ?_
        refine ox rfl rfl rfl rfl (ex_lss rfl rfl rfl) ?_
        refine ops_nil (at_then ?_)
        refine run_cond (b := (decide ((t6113.length : Int) < 2))) rfl (fun hb6163 => ?_) (fun hb6163 => ?_)
        · replace ho6155 := cond_t hb6163 ho6155
          refine run_seq ?_
          refine run_region rfl ?_
          refine ox rfl rfl rfl rfl (ex_loadN (cs := [(.int .i64 0), (.int .i64 0), (.slice none 0 0), (.slice none 0 0)]) rfl rfl Tryz.underlying28 rfl tsz28 rfl ((HM.box_at 2 rfl).sub 0 4 rfl)) ?_
          refine odS rfl rfl rfl (does_store (vs := [.int .i64 0, .int .i64 0, .slice none 0 0, .slice none 0 0]) (cs' := [.int .i64 0, .int .i64 0, .slice none 0 0, .slice none 0 0]) rfl rfl rfl rfl tsz28 (Ones.int (Ones.int (Ones.sl (Ones.sl Ones.nil)))) rfl rfl HM) ?_
          rintro w6164 HM
          refine ox rfl rfl rfl rfl (ex_assign rfl rfl) ?_
          refine ops_nil (at_then ?_)
          refine run_ret ?_
          refine at_then_ret ?_
          refine at_then_ret ?_
          replace HM := HM.empty kRef 62 none
          replace HM := HM.empty kOut 44 none
          replace HM := (HM.front 3 rfl rfl).drop
          replace HM := (HM.front 3 rfl rfl).drop
          replace HM := HM.front 1 rfl rfl
          replace HM := HM.front 2 rfl rfl
          have hcb0 := HM.box_at 0 rfl
          replace HM := (HM.front 0 rfl rfl).drop
          have hR := Option.some.inj ho6155
          subst hR
          have hT := thn_inl H
          have hR := Option.some.inj hT
          subst hR
          exact at_retN1 rfl rfl rfl Tryz.underlying28 rfl tsz28 rfl hcb0 ⟨_, rfl, _, _, rfl, HM⟩
        · replace ho6155 := cond_f hb6163 ho6155
          refine run_skip ?_
          refine at_then ?_
          refine run_seq ?_
          obtain ⟨e6167, ho6155⟩ := chk_some ho6155
          obtain ⟨t6168, h6169, ho6155⟩ := bind_some ho6155
          refine run_region rfl ?_
          refine ox rfl rfl rfl rfl (ex_move rfl rfl) ?_
          refine ox rfl rfl rfl rfl (ex_indexAddr (d := kStr) rfl rfl rfl Tryz.underlying72 tsz9 (HM.own_rd 1 rfl) (idx_lo e6167) (idx_hi e6167)) ?_
          refine ox rfl rfl rfl rfl (ex_load1 rfl rfl Tryz.underlying9 rfl ((rd_plain (HM.own_rd 1 rfl) e6167) 0 _ rfl)) ?_
          refine od rfl rfl rfl rfl (does_callk rfl callok52 rfl (spec_l2Number.calls (x0 := (gt t6113 (1 : Int))) (x1 := 3) h6169)) ?_
          rintro _ w6170 ⟨rfl, hn⟩
          replace HM : Mem w [] w6170 [box b6109 28 [.int .i64 0, .int .i64 0, .slice none 0 0, .slice none 0 0], own kStr 9 u6115 t6113, box b6118 28 [.int .i64 0, .int .i64 0, .slice none 0 0, .slice none 0 0]] := HM.call hn
          refine ox rfl rfl rfl rfl (ex_move rfl rfl) ?_
          refine ox rfl rfl rfl rfl (ex_extract rfl rfl rfl) ?_
          refine ox rfl rfl rfl rfl (ex_extract rfl rfl rfl) ?_
          refine ox rfl rfl rfl rfl (ex_assign rfl rfl) ?_
          refine ox rfl rfl rfl rfl (ex_assign rfl rfl) ?_
          refine ops_nil (at_then (run_seq ?_))
          refine run_seq ?_
          refine run_region rfl ?_
          refine ox rfl rfl rfl rfl (ex_move rfl rfl) ?_
          refine ox rfl rfl rfl rfl (ex_not rfl rfl) ?_
          refine ops_nil (at_then ?_)
          refine run_cond (b := !t6168.2) rfl (fun hb6172 => ?_) (fun hb6172 => ?_)
          · replace ho6155 := cond_t hb6172 ho6155
            refine run_seq ?_
            refine run_region rfl ?_
            refine ox rfl rfl rfl rfl (ex_loadN (cs := [(.int .i64 0), (.int .i64 0), (.slice none 0 0), (.slice none 0 0)]) rfl rfl Tryz.underlying28 rfl tsz28 rfl ((HM.box_at 2 rfl).sub 0 4 rfl)) ?_
            refine odS rfl rfl rfl (does_store (vs := [.int .i64 0, .int .i64 0, .slice none 0 0, .slice none 0 0]) (cs' := [.int .i64 0, .int .i64 0, .slice none 0 0, .slice none 0 0]) rfl rfl rfl rfl tsz28 (Ones.int (Ones.int (Ones.sl (Ones.sl Ones.nil)))) rfl rfl HM) ?_
            rintro w6173 HM
            refine ox rfl rfl rfl rfl (ex_assign rfl rfl) ?_
            refine ops_nil (at_then ?_)
            refine run_ret ?_
            refine at_then_ret ?_
            refine at_then_ret ?_
            replace HM := HM.empty kRef 62 none
            replace HM := HM.empty kOut 44 none
            replace HM := (HM.front 3 rfl rfl).drop
            replace HM := (HM.front 3 rfl rfl).drop
            replace HM := HM.front 1 rfl rfl
            replace HM := HM.front 2 rfl rfl
            have hcb0 := HM.box_at 0 rfl
            replace HM := (HM.front 0 rfl rfl).drop
            have hR := Option.some.inj ho6155
            subst hR
            have hT := thn_inl H
            have hR := Option.some.inj hT
            subst hR
            exact at_retN1 rfl rfl rfl Tryz.underlying28 rfl tsz28 rfl hcb0 ⟨_, rfl, _, _, rfl, HM⟩
          · replace ho6155 := cond_f hb6172 ho6155
            refine run_skip ?_
            refine at_then ?_
            refine run_seq ?_
            refine run_region rfl ?_
            refine ox rfl rfl rfl rfl (ex_fieldAddr (off' := 0) rfl rfl Tryz.underlying28 rfl tsz2 rfl) ?_
            replace HM := HM.front 2 rfl rfl
            refine odS rfl rfl rfl (does_store (vs := [.int .i64 1]) (cs' := [.int .i64 1, .int .i64 0, .slice none 0 0, .slice none 0 0]) rfl rfl rfl rfl tsz2 (Ones.int Ones.nil) rfl rfl HM) ?_
            rintro w6176 HM
            refine ops_nil (at_then (run_seq ?_))
            refine run_seq ?_
            obtain ⟨e6177, ho6155⟩ := chk_some ho6155
            refine run_region rfl ?_
            refine ox rfl rfl rfl rfl (ex_move rfl rfl) ?_
            refine ox rfl rfl rfl rfl (ex_indexAddr (d := kStr) rfl rfl rfl Tryz.underlying72 tsz9 (HM.own_rd 2 rfl) (idx_lo e6177) (idx_hi e6177)) ?_
            refine ox rfl rfl rfl rfl (ex_load1 rfl rfl Tryz.underlying9 rfl ((rd_plain (HM.own_rd 2 rfl) e6177) 0 _ rfl)) ?_
            refine ox rfl rfl rfl rfl (ex_seql rfl rfl rfl) ?_
            refine ops_nil (at_then ?_)
            refine run_cond (b := (sEq (gt t6113 (0 : Int)) (⟨#[108, 101, 97, 118, 101]⟩ : ByteArray))) rfl (fun hb6178 => ?_) (fun hb6178 => ?_)
            · replace ho6155 := cond_t hb6178 ho6155
              refine run_region rfl ?_
              refine ox rfl rfl rfl rfl (ex_fieldAddr (off' := 0) rfl rfl Tryz.underlying28 rfl tsz2 rfl) ?_
              refine odS rfl rfl rfl (does_store (vs := [.int .i64 2]) (cs' := [.int .i64 2, .int .i64 0, .slice none 0 0, .slice none 0 0]) rfl rfl rfl rfl tsz2 (Ones.int Ones.nil) rfl rfl HM) ?_
              rintro w6179 HM
              refine ops_nil (at_then (run_seq ?_))
              refine run_region rfl ?_
              refine ox rfl rfl rfl rfl (ex_move rfl rfl) ?_
              refine ox rfl rfl rfl rfl (ex_fieldAddr (off' := 1) rfl rfl Tryz.underlying28 rfl tsz2 rfl) ?_
              refine odS rfl rfl rfl (does_store (vs := [.int .i64 t6168.1]) (cs' := [.int .i64 2, .int .i64 t6168.1, .slice none 0 0, .slice none 0 0]) rfl rfl rfl rfl tsz2 (Ones.int Ones.nil) rfl rfl HM) ?_
              rintro w6180 HM
              refine ops_nil (at_then ?_)
              refine run_region rfl ?_
              refine ox rfl rfl rfl rfl (ex_assign rfl rfl) ?_
              refine ops_nil ?_
              replace HM := HM.front 2 rfl rfl
              replace HM := HM.front 2 rfl rfl
              exact at_mid (ρ' := [(0, .string x0), (2, .pointer (some ⟨b6109, 0, none⟩)), (4, u6115), (5, .pointer (some ⟨b6118, 0, none⟩)), (6, .int .i64 2)]) ⟨_, _, _, (Option.some.inj ho6155), rfl, HM⟩ (Sub.cons rfl (Sub.cons rfl (Sub.cons rfl (Sub.cons rfl (Sub.cons rfl Sub.nil)))))
            · replace ho6155 := cond_f hb6178 ho6155
              refine run_skip ?_
              refine at_then ?_
              refine run_seq ?_
              refine run_region rfl ?_
              refine ox rfl rfl rfl rfl (ex_move rfl rfl) ?_
              refine ox rfl rfl rfl rfl (ex_fieldAddr (off' := 1) rfl rfl Tryz.underlying28 rfl tsz2 rfl) ?_
              refine odS rfl rfl rfl (does_store (vs := [.int .i64 t6168.1]) (cs' := [.int .i64 1, .int .i64 t6168.1, .slice none 0 0, .slice none 0 0]) rfl rfl rfl rfl tsz2 (Ones.int Ones.nil) rfl rfl HM) ?_
              rintro w6181 HM
              refine ops_nil (at_then ?_)
              refine run_region rfl ?_
              refine ox rfl rfl rfl rfl (ex_assign rfl rfl) ?_
              refine ops_nil ?_
              replace HM := HM.front 2 rfl rfl
              replace HM := HM.front 2 rfl rfl
              exact at_mid (ρ' := [(0, .string x0), (2, .pointer (some ⟨b6109, 0, none⟩)), (4, u6115), (5, .pointer (some ⟨b6118, 0, none⟩)), (6, .int .i64 2)]) ⟨_, _, _, (Option.some.inj ho6155), rfl, HM⟩ (Sub.cons rfl (Sub.cons rfl (Sub.cons rfl (Sub.cons rfl (Sub.cons rfl Sub.nil)))))
      · replace ho6155 := cond_f hb6161 ho6155
        refine run_seq ?_
        obtain ⟨e6182, ho6155⟩ := chk_some ho6155
        refine run_region rfl ?_
        refine ox rfl rfl rfl rfl (ex_move rfl rfl) ?_
        refine ox rfl rfl rfl rfl (ex_indexAddr (d := kStr) rfl rfl rfl Tryz.underlying72 tsz9 (HM.own_rd 1 rfl) (idx_lo e6182) (idx_hi e6182)) ?_
        refine ox rfl rfl rfl rfl (ex_load1 rfl rfl Tryz.underlying9 rfl ((rd_plain (HM.own_rd 1 rfl) e6182) 0 _ rfl)) ?_
        refine ox rfl rfl rfl rfl (ex_sneq rfl rfl rfl) ?_
        refine ops_nil (at_then ?_)
        refine run_cond (b := (!sEq (gt t6113 (0 : Int)) (⟨#[112, 97, 121]⟩ : ByteArray))) rfl (fun hb6183 => ?_) (fun hb6183 => ?_)
        · replace ho6155 := cond_t hb6183 ho6155
          refine run_seq ?_
          refine run_region rfl ?_
          refine ox rfl rfl rfl rfl (ex_loadN (cs := [(.int .i64 0), (.int .i64 0), (.slice none 0 0), (.slice none 0 0)]) rfl rfl Tryz.underlying28 rfl tsz28 rfl ((HM.box_at 2 rfl).sub 0 4 rfl)) ?_
          refine odS rfl rfl rfl (does_store (vs := [.int .i64 0, .int .i64 0, .slice none 0 0, .slice none 0 0]) (cs' := [.int .i64 0, .int .i64 0, .slice none 0 0, .slice none 0 0]) rfl rfl rfl rfl tsz28 (Ones.int (Ones.int (Ones.sl (Ones.sl Ones.nil)))) rfl rfl HM) ?_
          rintro w6184 HM
          refine ox rfl rfl rfl rfl (ex_assign rfl rfl) ?_
          refine ops_nil (at_then ?_)
          refine run_ret ?_
          refine at_then_ret ?_
          replace HM := HM.empty kRef 62 none
          replace HM := HM.empty kOut 44 none
          replace HM := (HM.front 3 rfl rfl).drop
          replace HM := (HM.front 3 rfl rfl).drop
          replace HM := HM.front 1 rfl rfl
          replace HM := HM.front 2 rfl rfl
          have hcb0 := HM.box_at 0 rfl
          replace HM := (HM.front 0 rfl rfl).drop
          have hR := Option.some.inj ho6155
          subst hR
          have hT := thn_inl H
          have hR := Option.some.inj hT
          subst hR
          exact at_retN1 rfl rfl rfl Tryz.underlying28 rfl tsz28 rfl hcb0 ⟨_, rfl, _, _, rfl, HM⟩
        · replace ho6155 := cond_f hb6183 ho6155
          refine run_skip ?_
          exact at_mid (ρ' := [(0, .string x0), (2, .pointer (some ⟨b6109, 0, none⟩)), (4, u6115), (5, .pointer (some ⟨b6118, 0, none⟩)), (6, .int .i64 1)]) ⟨_, _, _, (Option.some.inj ho6155), rfl, HM⟩ (Sub.cons rfl (Sub.cons rfl (Sub.cons rfl (Sub.cons rfl (Sub.cons rfl Sub.nil)))))
  · rintro _ w6187 ⟨a6151, a6152, a6153, rfl, rfl, HM⟩
    replace H := cur3_mk (thn_inr H)
    refine run_seq ?_
    refine run_seq ?_
    refine run_region rfl ?_
    refine ox rfl rfl rfl rfl (ex_move rfl rfl) ?_
    refine ox rfl rfl rfl rfl (ex_len (d := kStr) (xs := t6113) rfl rfl Tryz.underlying72 (HM.own_rd 1 rfl)) ?_
    refine ox rfl rfl rfl rfl (ex_move rfl rfl) ?_
    refine ox rfl rfl rfl rfl (ex_add rfl rfl rfl) ?_
    refine ox rfl rfl rfl rfl (ex_lss rfl rfl rfl) ?_
    refine ops_nil (at_then ?_)
    refine run_cond (b := (decide ((t6113.length : Int) < (wrap64 (a6153 + 2))))) rfl (fun hb6189 => ?_) (fun hb6189 => ?_)
    · replace H := cond_t hb6189 H
      refine run_seq ?_
      refine run_region rfl ?_
      refine ox rfl rfl rfl rfl (ex_loadN (cs := [(.int .i64 a6151), (.int .i64 a6152), (.slice none 0 0), (.slice none 0 0)]) rfl rfl Tryz.underlying28 rfl tsz28 rfl ((HM.box_at 2 rfl).sub 0 4 rfl)) ?_
      refine odS rfl rfl rfl (does_store (vs := [.int .i64 a6151, .int .i64 a6152, .slice none 0 0, .slice none 0 0]) (cs' := [.int .i64 a6151, .int .i64 a6152, .slice none 0 0, .slice none 0 0]) rfl rfl rfl rfl tsz28 (Ones.int (Ones.int (Ones.sl (Ones.sl Ones.nil)))) rfl rfl HM) ?_
      rintro w6190 HM
      refine ox rfl rfl rfl rfl (ex_assign rfl rfl) ?_
      refine ops_nil (at_then ?_)
      refine run_ret ?_
      refine at_then_ret ?_
      replace HM := HM.empty kRef 62 none
      replace HM := HM.empty kOut 44 none
      replace HM := (HM.front 3 rfl rfl).drop
      replace HM := (HM.front 3 rfl rfl).drop
      replace HM := HM.front 1 rfl rfl
      replace HM := HM.front 2 rfl rfl
      have hcb0 := HM.box_at 0 rfl
      replace HM := (HM.front 0 rfl rfl).drop
      have hR := Option.some.inj H
      subst hR
      exact at_retN1 rfl rfl rfl Tryz.underlying28 rfl tsz28 rfl hcb0 ⟨_, rfl, _, _, rfl, HM⟩
    · replace H := cond_f hb6189 H
      refine run_skip ?_
      refine at_then ?_
      refine run_seq ?_
      obtain ⟨e6193, H⟩ := chk_some H
      obtain ⟨t6194, h6195, H⟩ := bind_some H
      refine run_region rfl ?_
      refine ox rfl rfl rfl rfl (ex_move rfl rfl) ?_
      refine ox rfl rfl rfl rfl (ex_move rfl rfl) ?_
      refine ox rfl rfl rfl rfl (ex_indexAddr (d := kStr) rfl rfl rfl Tryz.underlying72 tsz9 (HM.own_rd 1 rfl) (idx_lo e6193) (idx_hi e6193)) ?_
      refine ox rfl rfl rfl rfl (ex_load1 rfl rfl Tryz.underlying9 rfl ((rd_plain (HM.own_rd 1 rfl) e6193) 0 _ rfl)) ?_
      refine od rfl rfl rfl rfl (does_callk rfl callok53 rfl (spec_l3Ins.calls (x0 := (gt t6113 a6153)) h6195)) ?_
      rintro _ w6198 ⟨u6196, rfl, hn⟩
      replace HM : Mem w [] w6198 [own kRef 62 u6196 t6194.1, box b6109 28 [.int .i64 0, .int .i64 0, .slice none 0 0, .slice none 0 0], own kStr 9 u6115 t6113, box b6118 28 [.int .i64 a6151, .int .i64 a6152, .slice none 0 0, .slice none 0 0]] := HM.call hn
      refine ox rfl rfl rfl rfl (ex_move rfl rfl) ?_
      refine ox rfl rfl rfl rfl (ex_extract rfl rfl rfl) ?_
      refine ox rfl rfl rfl rfl (ex_extract rfl rfl rfl) ?_
      refine ox rfl rfl rfl rfl (ex_assign rfl rfl) ?_
      refine ox rfl rfl rfl rfl (ex_assign rfl rfl) ?_
      refine ops_nil (at_then (run_seq ?_))
      refine run_region rfl ?_
      refine ox rfl rfl rfl rfl (ex_move rfl rfl) ?_
      refine ox rfl rfl rfl rfl (ex_fieldAddr (off' := 2) rfl rfl Tryz.underlying28 rfl tsz25 rfl) ?_
      replace HM := HM.front 3 rfl rfl
      refine odS rfl rfl rfl (does_store (vs := [u6196]) (cs' := [.int .i64 a6151, .int .i64 a6152, u6196, .slice none 0 0]) rfl rfl rfl (rd_cells (HM.own_rd 1 rfl)) tsz25 (Ones.rd (HM.own_rd 1 rfl) Ones.nil) rfl rfl HM) ?_
      rintro w6199 HM
      refine ops_nil (at_then ?_)
      obtain ⟨o6290, ho6291, H⟩ := bind_some H
      refine run_mid (fun ρ_ w_ => ∃ v6286 : Value, ∃ a6287 : List Out, ∃ a6289 : Bool, Sum.inr (a6287, a6289) = o6290 ∧ ρ_ = [(0, .string x0), (2, .pointer (some ⟨b6109, 0, none⟩)), (5, .pointer (some ⟨b6118, 0, none⟩)), (10, .bool a6289)] ∧ Mem w [] w_ [box b6109 28 [.int .i64 0, .int .i64 0, .slice none 0 0, .slice none 0 0], box b6118 28 [.int .i64 a6151, .int .i64 a6152, u6196, v6286], own kRef 62 u6196 t6194.1, own kOut 44 v6286 a6287]) ?_ ?_
      · skip
        refine run_seq ?_
        refine run_region rfl ?_
        refine ox rfl rfl rfl rfl (ex_move rfl rfl) ?_
        refine ox rfl rfl rfl rfl (ex_add rfl rfl rfl) ?_
        refine ox rfl rfl rfl rfl (ex_assign rfl rfl) ?_
        refine ops_nil (at_then ?_)
        refine run_block ?_
        replace HM := HM.empty kOut 44 none
        replace HM := HM.front 2 rfl rfl
        replace HM := HM.front 2 rfl rfl
        replace HM := HM.front 4 rfl rfl
        replace HM := HM.front 4 rfl rfl
        refine run_loop (fun k_ ρ_ w_ => ∃ v6319 : Value, ∃ a6320 : List Out, ∃ a6322 : Bool, ∃ a6323 : Int, spec_l3Parse.l0 t6113 a6151 a6152 t6194 k_ a6320 a6322 a6323 = some o6290 ∧ ρ_ = [(0, .string x0), (2, .pointer (some ⟨b6109, 0, none⟩)), (4, u6115), (5, .pointer (some ⟨b6118, 0, none⟩)), (10, .bool a6322), (11, .int .i64 a6323)] ∧ Mem w [] w_ [box b6109 28 [.int .i64 0, .int .i64 0, .slice none 0 0, .slice none 0 0], own kStr 9 u6115 t6113, box b6118 28 [.int .i64 a6151, .int .i64 a6152, u6196, v6319], own kRef 62 u6196 t6194.1, own kOut 44 v6319 a6320]) k (ρ1 := [(0, .string x0), (2, .pointer (some ⟨b6109, 0, none⟩)), (4, u6115), (5, .pointer (some ⟨b6118, 0, none⟩)), (10, .bool t6194.2), (11, .int .i64 (wrap64 (a6153 + 1)))]) ⟨_, _, _, _, ho6291, rfl, HM⟩ (Sub.cons rfl (Sub.cons rfl (Sub.cons rfl (Sub.cons rfl (Sub.cons rfl (Sub.cons rfl Sub.nil)))))) ?_
        clear HM ho6291
        rintro k6352 _ w6353 ⟨v6319, a6320, a6322, a6323, ho6291, rfl, HM⟩
        obtain _ | k6352 := k6352
        · exact nomatch ((spec_l3Parse.l0_z t6113 a6151 a6152 t6194 a6320 a6322 a6323).symm.trans ho6291)
        replace ho6291 := (spec_l3Parse.l0_s t6113 a6151 a6152 t6194 k6352 a6320 a6322 a6323).symm.trans ho6291
        refine run_seq ?_
        refine run_seq ?_
        refine run_meet (fun ρ_ w_ => ρ_ = [(0, .string x0), (2, .pointer (some ⟨b6109, 0, none⟩)), (4, u6115), (5, .pointer (some ⟨b6118, 0, none⟩)), (10, .bool a6322), (11, .int .i64 a6323), (81, .bool ((decide (a6323 < (t6113.length : Int))) && a6322))] ∧ Mem w [] w_ [box b6109 28 [.int .i64 0, .int .i64 0, .slice none 0 0, .slice none 0 0], own kStr 9 u6115 t6113, box b6118 28 [.int .i64 a6151, .int .i64 a6152, u6196, v6319], own kRef 62 u6196 t6194.1, own kOut 44 v6319 a6320]) ?_ ?_
        · skip
          refine run_region rfl ?_
          refine ox rfl rfl rfl rfl (ex_move rfl rfl) ?_
          refine ox rfl rfl rfl rfl (ex_move rfl rfl) ?_
          refine ox rfl rfl rfl rfl (ex_len (d := kStr) (xs := t6113) rfl rfl Tryz.underlying72 (HM.own_rd 1 rfl)) ?_
          refine ox rfl rfl rfl rfl (ex_lss rfl rfl rfl) ?_
          refine ox rfl rfl rfl rfl (ex_move rfl rfl) ?_
          refine bool_cases (decide (a6323 < (t6113.length : Int))) (fun hg6354 => ?_) (fun hg6354 => ?_)
          · skip
            refine ops_ex rfl (guard_on rfl rfl rfl hg6354) rfl rfl (ex_move rfl rfl) ?_
            refine ops_ex (v := .bool ((decide (a6323 < (t6113.length : Int))) && a6322)) rfl (guard_none rfl) rfl rfl (ex_pand_t rfl rfl hg6354 rfl) ?_
            refine ops_nil ?_
            exact at_meet [(0, .string x0), (2, .pointer (some ⟨b6109, 0, none⟩)), (4, u6115), (5, .pointer (some ⟨b6118, 0, none⟩)), (10, .bool a6322), (11, .int .i64 a6323), (81, .bool ((decide (a6323 < (t6113.length : Int))) && a6322))] ⟨rfl, HM⟩ (Sub.cons rfl (Sub.cons rfl (Sub.cons rfl (Sub.cons rfl (Sub.cons rfl (Sub.cons rfl (Sub.cons rfl Sub.nil)))))))
          · skip
            refine ops_off rfl (guard_off rfl rfl rfl hg6354) rfl rfl ?_
            have hg6355 : ((decide (a6323 < (t6113.length : Int))) && a6322) = false := by simp only [hg6354, Bool.and_true, Bool.true_and, Bool.and_false, Bool.false_and, Bool.or_true, Bool.true_or, Bool.or_false, Bool.false_or, Bool.not_true, Bool.not_false, Bool.not_not]
            refine ops_ex (v := .bool ((decide (a6323 < (t6113.length : Int))) && a6322)) rfl (guard_none rfl) rfl rfl (ex_pand_f rfl rfl hg6354) ?_
            refine ops_nil ?_
            exact at_meet [(0, .string x0), (2, .pointer (some ⟨b6109, 0, none⟩)), (4, u6115), (5, .pointer (some ⟨b6118, 0, none⟩)), (10, .bool a6322), (11, .int .i64 a6323), (81, .bool ((decide (a6323 < (t6113.length : Int))) && a6322))] ⟨rfl, HM⟩ (Sub.cons rfl (Sub.cons rfl (Sub.cons rfl (Sub.cons rfl (Sub.cons rfl (Sub.cons rfl (Sub.cons rfl Sub.nil)))))))
        · rintro _ w6356 ⟨rfl, HM⟩
          refine at_then ?_
          refine run_cond (b := ((decide (a6323 < (t6113.length : Int))) && a6322)) rfl (fun hb6357 => ?_) (fun hb6357 => ?_)
          · replace ho6291 := cond_t hb6357 ho6291
            refine run_skip ?_
            refine at_then ?_
            refine run_seq ?_
            refine run_block ?_
            refine run_seq ?_
            obtain ⟨e6358, ho6291⟩ := chk_some ho6291
            obtain ⟨t6359, h6360, ho6291⟩ := bind_some ho6291
            refine run_region rfl ?_
            refine ox rfl rfl rfl rfl (ex_move rfl rfl) ?_
            refine ox rfl rfl rfl rfl (ex_move rfl rfl) ?_
            refine ox rfl rfl rfl rfl (ex_indexAddr (d := kStr) rfl rfl rfl Tryz.underlying72 tsz9 (HM.own_rd 1 rfl) (idx_lo e6358) (idx_hi e6358)) ?_
            refine ox rfl rfl rfl rfl (ex_load1 rfl rfl Tryz.underlying9 rfl ((rd_plain (HM.own_rd 1 rfl) e6358) 0 _ rfl)) ?_
            refine od rfl rfl rfl rfl (does_callk rfl callok51 rfl (spec_l2Cut.calls (x0 := (gt t6113 a6323)) (x1 := 61) h6360)) ?_
            rintro u6361 w6363 ⟨_, rfl, hn⟩
            replace HM : Mem w [] w6363 [own kStr 9 u6361 t6359, box b6109 28 [.int .i64 0, .int .i64 0, .slice none 0 0, .slice none 0 0], own kStr 9 u6115 t6113, box b6118 28 [.int .i64 a6151, .int .i64 a6152, u6196, v6319], own kRef 62 u6196 t6194.1, own kOut 44 v6319 a6320] := HM.call hn
            refine ox rfl rfl rfl rfl (ex_assign rfl rfl) ?_
            refine ops_nil (at_then (run_seq ?_))
            refine run_seq ?_
            refine run_region rfl ?_
            refine ox rfl rfl rfl rfl (ex_move rfl rfl) ?_
            refine ox rfl rfl rfl rfl (ex_len (d := kStr) (xs := t6359) rfl rfl Tryz.underlying72 (HM.own_rd 0 rfl)) ?_
            refine ox rfl rfl rfl rfl (ex_neq rfl rfl rfl) ?_
            refine ops_nil (at_then ?_)
            refine run_cond (b := ((t6359.length : Int) != 2)) rfl (fun hb6365 => ?_) (fun hb6365 => ?_)
            · replace ho6291 := cond_t hb6365 ho6291
              refine run_seq ?_
              refine run_region rfl ?_
              refine ox rfl rfl rfl rfl (ex_loadN (cs := [(.int .i64 a6151), (.int .i64 a6152), u6196, v6319]) rfl rfl Tryz.underlying28 rfl tsz28 rfl ((HM.box_at 3 rfl).sub 0 4 rfl)) ?_
              replace HM := HM.front 1 rfl rfl
              refine odS rfl rfl rfl (does_store (vs := [.int .i64 a6151, .int .i64 a6152, u6196, v6319]) (cs' := [.int .i64 a6151, .int .i64 a6152, u6196, v6319]) rfl rfl rfl rfl tsz28 (Ones.int (Ones.int (Ones.rd (HM.own_rd 4 rfl) (Ones.rd (HM.own_rd 5 rfl) Ones.nil)))) rfl rfl HM) ?_
              rintro w6366 HM
              refine ox rfl rfl rfl rfl (ex_assign rfl rfl) ?_
              refine ops_nil (at_then ?_)
              refine run_ret ?_
              refine at_then_ret ?_
              refine at_block_ret ?_
              refine at_then_ret ?_
              refine at_then_ret ?_
              refine at_block_ret ?_
              refine at_then_ret ?_
              replace HM := (HM.front 1 rfl rfl).drop
              replace HM := (HM.front 1 rfl rfl).drop
              replace HM := (HM.front 1 rfl rfl).drop
              have hcb0 := HM.box_at 0 rfl
              replace HM := (HM.front 0 rfl rfl).drop
              have hR := Option.some.inj ho6291
              subst hR
              have hT := thn_inl H
              have hR := Option.some.inj hT
              subst hR
              exact at_retN1 rfl rfl rfl Tryz.underlying28 rfl tsz28 rfl hcb0 ⟨_, rfl, _, _, rfl, HM⟩
            · replace ho6291 := cond_f hb6365 ho6291
              refine run_skip ?_
              refine at_then ?_
              refine run_seq ?_
              obtain ⟨e6367, ho6291⟩ := chk_some ho6291
              obtain ⟨t6368, h6369, ho6291⟩ := bind_some ho6291
              refine run_region rfl ?_
              refine ox rfl rfl rfl rfl (ex_move rfl rfl) ?_
              refine ox rfl rfl rfl rfl (ex_indexAddr (d := kStr) rfl rfl rfl Tryz.underlying72 tsz9 (HM.own_rd 0 rfl) (idx_lo e6367) (idx_hi e6367)) ?_
              refine ox rfl rfl rfl rfl (ex_load1 rfl rfl Tryz.underlying9 rfl ((rd_plain (HM.own_rd 0 rfl) e6367) 0 _ rfl)) ?_
              refine od rfl rfl rfl rfl (does_callk rfl callok52 rfl (spec_l2Number.calls (x0 := (gt t6359 (0 : Int))) (x1 := 7) h6369)) ?_
              rintro _ w6370 ⟨rfl, hn⟩
              replace HM : Mem w [] w6370 [own kStr 9 u6361 t6359, box b6109 28 [.int .i64 0, .int .i64 0, .slice none 0 0, .slice none 0 0], own kStr 9 u6115 t6113, box b6118 28 [.int .i64 a6151, .int .i64 a6152, u6196, v6319], own kRef 62 u6196 t6194.1, own kOut 44 v6319 a6320] := HM.call hn
              refine ox rfl rfl rfl rfl (ex_move rfl rfl) ?_
              refine ox rfl rfl rfl rfl (ex_extract rfl rfl rfl) ?_
              refine ox rfl rfl rfl rfl (ex_extract rfl rfl rfl) ?_
              refine ox rfl rfl rfl rfl (ex_assign rfl rfl) ?_
              refine ox rfl rfl rfl rfl (ex_assign rfl rfl) ?_
              refine ops_nil (at_then (run_seq ?_))
              obtain ⟨e6371, ho6291⟩ := chk_some ho6291
              obtain ⟨t6372, h6373, ho6291⟩ := bind_some ho6291
              obtain ⟨t6374, h6375, ho6291⟩ := bind_some ho6291
              refine run_region rfl ?_
              refine ox rfl rfl rfl rfl (ex_move rfl rfl) ?_
              refine ox rfl rfl rfl rfl (ex_indexAddr (d := kStr) rfl rfl rfl Tryz.underlying72 tsz9 (HM.own_rd 0 rfl) (idx_lo e6371) (idx_hi e6371)) ?_
              refine ox rfl rfl rfl rfl (ex_load1 rfl rfl Tryz.underlying9 rfl ((rd_plain (HM.own_rd 0 rfl) e6371) 0 _ rfl)) ?_
              refine od rfl rfl rfl rfl (does_callk rfl callok40 rfl (spec_l3Swap.calls (x0 := (gt t6359 (1 : Int))) (x1 := 95) (x2 := 32) h6373)) ?_
              rintro _ w6381 ⟨rfl, hn⟩
              replace HM : Mem w [] w6381 [own kStr 9 u6361 t6359, box b6109 28 [.int .i64 0, .int .i64 0, .slice none 0 0, .slice none 0 0], own kStr 9 u6115 t6113, box b6118 28 [.int .i64 a6151, .int .i64 a6152, u6196, v6319], own kRef 62 u6196 t6194.1, own kOut 44 v6319 a6320] := HM.call hn
              refine od rfl rfl rfl rfl (does_callk rfl callok54 rfl (spec_l2Parse.calls (x0 := t6372) h6375)) ?_
              rintro _ w6382 ⟨u6376, rfl, hn⟩
              replace HM : Mem w [] w6382 [own kInt 2 u6376 t6374.1.fKeys, own kStr 9 u6361 t6359, box b6109 28 [.int .i64 0, .int .i64 0, .slice none 0 0, .slice none 0 0], own kStr 9 u6115 t6113, box b6118 28 [.int .i64 a6151, .int .i64 a6152, u6196, v6319], own kRef 62 u6196 t6194.1, own kOut 44 v6319 a6320] := HM.call hn
              refine ox rfl rfl rfl rfl (ex_move rfl rfl) ?_
              refine ox rfl rfl rfl rfl (ex_extract rfl rfl rfl) ?_
              refine ox rfl rfl rfl rfl (ex_extract rfl rfl rfl) ?_
              refine od rfl rfl rfl rfl (does_alloc (cs := [.slice none 0 0, .int .i64 0, .int .i64 0]) rfl tz42 rfl HM) ?_
              rintro _ w6383 ⟨b6378, rfl, HM⟩
              refine odS rfl rfl rfl (does_store (vs := [u6376, .int .i64 t6374.1.fNeed, .int .i64 t6374.1.fAfter]) (cs' := [u6376, .int .i64 t6374.1.fNeed, .int .i64 t6374.1.fAfter]) rfl rfl rfl rfl tsz42 (Ones.rd (HM.own_rd 1 rfl) (Ones.int (Ones.int Ones.nil))) rfl rfl HM) ?_
              rintro w6384 HM
              refine ox rfl rfl rfl rfl (ex_assign rfl rfl) ?_
              refine ops_nil (at_then (run_seq ?_))
              refine run_meet (fun ρ_ w_ => ρ_ = [(0, .string x0), (2, .pointer (some ⟨b6109, 0, none⟩)), (4, u6115), (5, .pointer (some ⟨b6118, 0, none⟩)), (10, .bool (t6368.2 && t6374.2)), (11, .int .i64 a6323), (13, .int .i64 t6368.1), (15, .pointer (some ⟨b6378, 0, none⟩))] ∧ Mem w [] w_ [box b6109 28 [.int .i64 0, .int .i64 0, .slice none 0 0, .slice none 0 0], own kStr 9 u6115 t6113, box b6118 28 [.int .i64 a6151, .int .i64 a6152, u6196, v6319], own kRef 62 u6196 t6194.1, own kOut 44 v6319 a6320, box b6378 42 [u6376, .int .i64 t6374.1.fNeed, .int .i64 t6374.1.fAfter], own kInt 2 u6376 t6374.1.fKeys]) ?_ ?_
              · skip
                refine run_region rfl ?_
                refine ox rfl rfl rfl rfl (ex_move rfl rfl) ?_
                refine ox rfl rfl rfl rfl (ex_move rfl rfl) ?_
                refine bool_cases t6368.2 (fun hg6385 => ?_) (fun hg6385 => ?_)
                · skip
                  refine ops_ex rfl (guard_on rfl rfl rfl hg6385) rfl rfl (ex_move rfl rfl) ?_
                  refine ops_ex (v := .bool (t6368.2 && t6374.2)) rfl (guard_none rfl) rfl rfl (ex_pand_t rfl rfl hg6385 rfl) ?_
                  refine ox rfl rfl rfl rfl (ex_assign rfl rfl) ?_
                  refine ops_nil ?_
                  replace HM := (HM.front 2 rfl rfl).drop
                  replace HM := HM.front 1 rfl rfl
                  replace HM := HM.front 1 rfl rfl
                  replace HM := HM.front 6 rfl rfl
                  replace HM := HM.front 6 rfl rfl
                  replace HM := HM.front 6 rfl rfl
                  replace HM := HM.front 6 rfl rfl
                  replace HM := HM.front 6 rfl rfl
                  exact at_meet [(0, .string x0), (2, .pointer (some ⟨b6109, 0, none⟩)), (4, u6115), (5, .pointer (some ⟨b6118, 0, none⟩)), (10, .bool (t6368.2 && t6374.2)), (11, .int .i64 a6323), (13, .int .i64 t6368.1), (15, .pointer (some ⟨b6378, 0, none⟩))] ⟨rfl, HM⟩ (Sub.cons rfl (Sub.cons rfl (Sub.cons rfl (Sub.cons rfl (Sub.cons rfl (Sub.cons rfl (Sub.cons rfl (Sub.cons rfl Sub.nil))))))))
                · skip
                  refine ops_off rfl (guard_off rfl rfl rfl hg6385) rfl rfl ?_
                  have hg6386 : (t6368.2 && t6374.2) = false := by simp only [hg6385, Bool.and_true, Bool.true_and, Bool.and_false, Bool.false_and, Bool.or_true, Bool.true_or, Bool.or_false, Bool.false_or, Bool.not_true, Bool.not_false, Bool.not_not]
                  refine ops_ex (v := .bool (t6368.2 && t6374.2)) rfl (guard_none rfl) rfl rfl (ex_pand_f rfl rfl hg6385) ?_
                  refine ox rfl rfl rfl rfl (ex_assign rfl rfl) ?_
                  refine ops_nil ?_
                  replace HM := (HM.front 2 rfl rfl).drop
                  replace HM := HM.front 1 rfl rfl
                  replace HM := HM.front 1 rfl rfl
                  replace HM := HM.front 6 rfl rfl
                  replace HM := HM.front 6 rfl rfl
                  replace HM := HM.front 6 rfl rfl
                  replace HM := HM.front 6 rfl rfl
                  replace HM := HM.front 6 rfl rfl
                  exact at_meet [(0, .string x0), (2, .pointer (some ⟨b6109, 0, none⟩)), (4, u6115), (5, .pointer (some ⟨b6118, 0, none⟩)), (10, .bool (t6368.2 && t6374.2)), (11, .int .i64 a6323), (13, .int .i64 t6368.1), (15, .pointer (some ⟨b6378, 0, none⟩))] ⟨rfl, HM⟩ (Sub.cons rfl (Sub.cons rfl (Sub.cons rfl (Sub.cons rfl (Sub.cons rfl (Sub.cons rfl (Sub.cons rfl (Sub.cons rfl Sub.nil))))))))
              · rintro _ w6387 ⟨rfl, HM⟩
                refine at_then ?_
                obtain ⟨e6391, ho6291⟩ := chk_some ho6291
                refine run_region rfl ?_
                refine ox rfl rfl rfl rfl (ex_fieldAddr (off' := 3) rfl rfl Tryz.underlying28 rfl tsz26 rfl) ?_
                refine ox rfl rfl rfl rfl (ex_load1 rfl rfl Tryz.underlying26 rfl ((HM.box_at 2 rfl) 3 _ rfl)) ?_
                refine ox rfl rfl rfl rfl (ex_move rfl rfl) ?_
                refine ox rfl rfl rfl rfl (ex_loadN (cs := [u6376, (.int .i64 t6374.1.fNeed), (.int .i64 t6374.1.fAfter)]) rfl rfl Tryz.underlying42 rfl tsz42 rfl ((HM.box_at 5 rfl).sub 0 3 rfl)) ?_
                refine ox rfl rfl rfl rfl (ex_build1 (fun u6376 => [(0, .int .i64 t6368.1), (1, .agg #[u6376, (.int .i64 t6374.1.fNeed), (.int .i64 t6374.1.fAfter)])]) (fun u6376 => #[.int .i64 t6368.1, u6376, .int .i64 t6374.1.fNeed, .int .i64 t6374.1.fAfter]) rfl rfl (fun _ _ _ => by kernel_rfl) (HM.own_rd 6 rfl).isSl) ?_
                replace HM := HM.front 6 rfl rfl
                refine od rfl rfl rfl rfl (does_lit (e := 44) (cs := [(.int .i64 t6368.1), u6376, (.int .i64 t6374.1.fNeed), (.int .i64 t6374.1.fAfter)]) (xs := ([(⟨t6368.1, (⟨t6374.1.fKeys, t6374.1.fNeed, t6374.1.fAfter⟩ : Rule)⟩ : Out)] : List Out)) kOut rfl rfl (fun _ => by kernel_rfl) rfl rfl (fun _ _ h => by have := Elems.cons (d := kOut) (x := (⟨t6368.1, (⟨t6374.1.fKeys, t6374.1.fNeed, t6374.1.fAfter⟩ : Rule)⟩ : Out)) ⟨_, rfl, h⟩ .nil; rw [List.append_nil, List.append_nil] at this; exact this) HM) ?_
                rintro v6388 w6394 HM
                replace HM := HM.front 5 rfl rfl
                refine od rfl rfl rfl rfl (does_append kOut rfl rfl rfl Tryz.underlying26 tsz44 rfl tby44 tz44 rfl rfl (leB_le e6391) HM) ?_
                rintro v6392 w6395 HM
                refine ox rfl rfl rfl rfl (ex_fieldAddr (off' := 3) rfl rfl Tryz.underlying28 rfl tsz26 rfl) ?_
                replace HM := HM.front 3 rfl rfl
                refine odS rfl rfl rfl (does_store (vs := [v6392]) (cs' := [.int .i64 a6151, .int .i64 a6152, u6196, v6392]) rfl rfl rfl (rd_cells (HM.own_rd 1 rfl)) tsz26 (Ones.rd (HM.own_rd 1 rfl) Ones.nil) rfl rfl HM) ?_
                rintro w6396 HM
                refine ops_nil ?_
                refine at_block ?_
                refine at_then ?_
                refine run_region rfl ?_
                refine ox rfl rfl rfl rfl (ex_move rfl rfl) ?_
                refine ox rfl rfl rfl rfl (ex_add rfl rfl rfl) ?_
                refine ox rfl rfl rfl rfl (ex_assign rfl rfl) ?_
                refine ops_nil ?_
                replace HM := (HM.front 5 rfl rfl).drop
                replace HM := HM.front 1 rfl rfl
                replace HM := HM.front 4 rfl rfl
                replace HM := HM.front 2 rfl rfl
                replace HM := HM.front 4 rfl rfl
                replace HM := HM.front 4 rfl rfl
                exact at_again k6352 (ρ1 := [(0, .string x0), (2, .pointer (some ⟨b6109, 0, none⟩)), (4, u6115), (5, .pointer (some ⟨b6118, 0, none⟩)), (10, .bool (t6368.2 && t6374.2)), (11, .int .i64 (wrap64 (a6323 + 1)))]) (Nat.lt_succ_self _) ⟨_, _, _, _, ho6291, rfl, HM⟩ (Sub.cons rfl (Sub.cons rfl (Sub.cons rfl (Sub.cons rfl (Sub.cons rfl (Sub.cons rfl Sub.nil))))))
          · replace ho6291 := cond_f hb6357 ho6291
            refine run_exit ?_
            refine at_then_exit ?_
            refine at_then_exit ?_
            refine at_block_exit ?_
            replace HM := (HM.front 1 rfl rfl).drop
            exact at_mid (ρ' := [(0, .string x0), (2, .pointer (some ⟨b6109, 0, none⟩)), (5, .pointer (some ⟨b6118, 0, none⟩)), (10, .bool a6322)]) ⟨_, _, _, (Option.some.inj ho6291), rfl, HM⟩ (Sub.cons rfl (Sub.cons rfl (Sub.cons rfl (Sub.cons rfl Sub.nil))))
      · rintro _ w6397 ⟨v6286, a6287, a6289, rfl, rfl, HM⟩
        replace H := cur2_mk (thn_inr H)
        refine run_seq ?_
        obtain ⟨t6398, h6399, H⟩ := bind_some H
        obtain ⟨t6400, h6401, H⟩ := bind_some H
        refine run_meet (fun ρ_ w_ => ρ_ = [(2, .pointer (some ⟨b6109, 0, none⟩)), (3, .bool (((a6289 && (t6398 == 0)) && (sEq t6400 x0)) && (decide ((x0.size : Int) ≤ 300))))] ∧ Mem w [] w_ [box b6109 28 [.int .i64 a6151, .int .i64 a6152, u6196, v6286], own kRef 62 u6196 t6194.1, own kOut 44 v6286 a6287]) ?_ ?_
        · skip
          refine run_drawf (fun w_ => Mem w [] w_ [box b6118 28 [.int .i64 a6151, .int .i64 a6152, u6196, v6286], own kRef 62 u6196 t6194.1, own kOut 44 v6286 a6287]) [(0, true), (1, true), (2, true), (3, false), (4, true), (5, true), (6, true), (8, true), (7, false), (9, true), (10, true), (11, true), (12, true), (13, true), (14, true), (15, true), (16, false), (17, true)] mixed rfl rfl (by kernel_rfl) ?_
          replace HM := HM.grow (fr_drew _)
          have hS := Mem.suf (M := [box b6109 28 [.int .i64 0, .int .i64 0, .slice none 0 0, .slice none 0 0]]) HM
          refine drwp_take rfl (guard_none rfl) rfl rfl (fun w_ hS_ => (ex_loadN (cs := [(.int .i64 a6151), (.int .i64 a6152), u6196, v6286]) rfl rfl Tryz.underlying28 rfl tsz28 rfl ((hS_.box_at 0 rfl).sub 0 4 rfl))) hS ?_
          refine dp rfl rfl rfl rfl (ex_move rfl rfl) hS ?_
          refine dp rfl rfl rfl rfl (ex_move rfl rfl) hS ?_
          refine bool_cases a6289 (fun hg6402 => ?_) (fun hg6402 => ?_)
          · skip
            refine drwp_one rfl (guard_on rfl rfl rfl hg6402) rfl rfl (does_callk rfl callok25 rfl (spec_l3Fault.calls (x0 := (⟨a6151, a6152, t6194.1, a6287⟩ : Tx)) (HM.box_at 1 rfl) (HM.own_rd 2 rfl) (HM.own_rd 3 rfl) (cond_t hg6402 h6399))) ?_
            rintro _ w6403 ⟨rfl, hn⟩
            replace HM : Mem w [] w6403 [box b6109 28 [.int .i64 0, .int .i64 0, .slice none 0 0, .slice none 0 0], box b6118 28 [.int .i64 a6151, .int .i64 a6152, u6196, v6286], own kRef 62 u6196 t6194.1, own kOut 44 v6286 a6287] := HM.call hn
            have hS := Mem.suf (M := [box b6109 28 [.int .i64 0, .int .i64 0, .slice none 0 0, .slice none 0 0]]) HM
            refine ⟨hS, ?_⟩
            refine drwp_take rfl (guard_on rfl rfl rfl hg6402) rfl rfl (fun w_ hS_ => (ex_eql rfl rfl rfl)) hS ?_
            refine drwp_take (v := .bool (a6289 && (t6398 == 0))) rfl (guard_none rfl) rfl rfl (fun w_ hS_ => (ex_pand_t rfl rfl hg6402 rfl)) hS ?_
            refine dp rfl rfl rfl rfl (ex_move rfl rfl) hS ?_
            refine bool_cases (a6289 && (t6398 == 0)) (fun hg6404 => ?_) (fun hg6404 => ?_)
            · skip
              refine drwp_take rfl (guard_on rfl rfl rfl hg6404) rfl rfl (fun w_ hS_ => (ex_move rfl rfl)) hS ?_
              refine drwp_one rfl (guard_on rfl rfl rfl hg6404) rfl rfl (does_callk rfl callok18 rfl (spec_l3Text.calls (x0 := (⟨a6151, a6152, t6194.1, a6287⟩ : Tx)) (HM.box_at 1 rfl) (HM.own_rd 2 rfl) (HM.own_rd 3 rfl) (cond_t hg6404 h6401))) ?_
              rintro _ w6405 ⟨rfl, hn⟩
              replace HM : Mem w [] w6405 [box b6109 28 [.int .i64 0, .int .i64 0, .slice none 0 0, .slice none 0 0], box b6118 28 [.int .i64 a6151, .int .i64 a6152, u6196, v6286], own kRef 62 u6196 t6194.1, own kOut 44 v6286 a6287] := HM.call hn
              have hS := Mem.suf (M := [box b6109 28 [.int .i64 0, .int .i64 0, .slice none 0 0, .slice none 0 0]]) HM
              refine ⟨hS, ?_⟩
              refine drwp_take rfl (guard_on rfl rfl rfl hg6404) rfl rfl (fun w_ hS_ => (ex_seql rfl rfl rfl)) hS ?_
              refine drwp_take (v := .bool ((a6289 && (t6398 == 0)) && (sEq t6400 x0))) rfl (guard_none rfl) rfl rfl (fun w_ hS_ => (ex_pand_t rfl rfl hg6404 rfl)) hS ?_
              refine dp rfl rfl rfl rfl (ex_move rfl rfl) hS ?_
              refine bool_cases ((a6289 && (t6398 == 0)) && (sEq t6400 x0)) (fun hg6406 => ?_) (fun hg6406 => ?_)
              · skip
                refine drwp_take rfl (guard_on rfl rfl rfl hg6406) rfl rfl (fun w_ hS_ => (ex_move rfl rfl)) hS ?_
                refine drwp_take rfl (guard_on rfl rfl rfl hg6406) rfl rfl (fun w_ hS_ => (ex_strlen rfl rfl Tryz.underlying9)) hS ?_
                refine drwp_take rfl (guard_on rfl rfl rfl hg6406) rfl rfl (fun w_ hS_ => (ex_leq rfl rfl rfl)) hS ?_
                refine drwp_take (v := .bool (((a6289 && (t6398 == 0)) && (sEq t6400 x0)) && (decide ((x0.size : Int) ≤ 300)))) rfl (guard_none rfl) rfl rfl (fun w_ hS_ => (ex_pand_t rfl rfl hg6406 rfl)) hS ?_
                refine drwp_oneS rfl (guard_none rfl) rfl (does_store (vs := [.int .i64 a6151, .int .i64 a6152, u6196, v6286]) (cs' := [.int .i64 a6151, .int .i64 a6152, u6196, v6286]) rfl rfl rfl rfl tsz28 (Ones.int (Ones.int (Ones.rd (HM.own_rd 2 rfl) (Ones.rd (HM.own_rd 3 rfl) Ones.nil)))) rfl rfl HM) ?_
                rintro w6407 HM
                have hS := Mem.suf (M := [box b6109 28 [.int .i64 a6151, .int .i64 a6152, u6196, v6286]]) HM
                refine ⟨hS, ?_⟩
                refine dp rfl rfl rfl rfl (ex_assign rfl rfl) hS ?_
                refine drwp_done ?_
                replace HM := (HM.front 1 rfl rfl).drop
                exact at_meet [(2, .pointer (some ⟨b6109, 0, none⟩)), (3, .bool (((a6289 && (t6398 == 0)) && (sEq t6400 x0)) && (decide ((x0.size : Int) ≤ 300))))] ⟨rfl, HM⟩ (Sub.cons rfl (Sub.cons rfl Sub.nil))
              · skip
                refine drwp_off rfl (guard_off rfl rfl rfl hg6406) rfl rfl hS ?_
                refine drwp_off rfl (guard_off rfl rfl rfl hg6406) rfl rfl hS ?_
                refine drwp_off rfl (guard_off rfl rfl rfl hg6406) rfl rfl hS ?_
                have hg6408 : (((a6289 && (t6398 == 0)) && (sEq t6400 x0)) && (decide ((x0.size : Int) ≤ 300))) = false := by simp only [hg6406, Bool.and_true, Bool.true_and, Bool.and_false, Bool.false_and, Bool.or_true, Bool.true_or, Bool.or_false, Bool.false_or, Bool.not_true, Bool.not_false, Bool.not_not]
                refine drwp_take (v := .bool (((a6289 && (t6398 == 0)) && (sEq t6400 x0)) && (decide ((x0.size : Int) ≤ 300)))) rfl (guard_none rfl) rfl rfl (fun w_ hS_ => (ex_pand_f rfl rfl hg6406)) hS ?_
                refine drwp_oneS rfl (guard_none rfl) rfl (does_store (vs := [.int .i64 a6151, .int .i64 a6152, u6196, v6286]) (cs' := [.int .i64 a6151, .int .i64 a6152, u6196, v6286]) rfl rfl rfl rfl tsz28 (Ones.int (Ones.int (Ones.rd (HM.own_rd 2 rfl) (Ones.rd (HM.own_rd 3 rfl) Ones.nil)))) rfl rfl HM) ?_
                rintro w6409 HM
                have hS := Mem.suf (M := [box b6109 28 [.int .i64 a6151, .int .i64 a6152, u6196, v6286]]) HM
                refine ⟨hS, ?_⟩
                refine dp rfl rfl rfl rfl (ex_assign rfl rfl) hS ?_
                refine drwp_done ?_
                replace HM := (HM.front 1 rfl rfl).drop
                exact at_meet [(2, .pointer (some ⟨b6109, 0, none⟩)), (3, .bool (((a6289 && (t6398 == 0)) && (sEq t6400 x0)) && (decide ((x0.size : Int) ≤ 300))))] ⟨rfl, HM⟩ (Sub.cons rfl (Sub.cons rfl Sub.nil))
            · skip
              refine drwp_off rfl (guard_off rfl rfl rfl hg6404) rfl rfl hS ?_
              refine drwp_off1 rfl (guard_off rfl rfl rfl hg6404) rfl rfl ⟨hS, ?_⟩
              refine drwp_off rfl (guard_off rfl rfl rfl hg6404) rfl rfl hS ?_
              have hg6410 : ((a6289 && (t6398 == 0)) && (sEq t6400 x0)) = false := by simp only [hg6404, Bool.and_true, Bool.true_and, Bool.and_false, Bool.false_and, Bool.or_true, Bool.true_or, Bool.or_false, Bool.false_or, Bool.not_true, Bool.not_false, Bool.not_not]
              refine drwp_take (v := .bool ((a6289 && (t6398 == 0)) && (sEq t6400 x0))) rfl (guard_none rfl) rfl rfl (fun w_ hS_ => (ex_pand_f rfl rfl hg6404)) hS ?_
              refine dp rfl rfl rfl rfl (ex_move rfl rfl) hS ?_
              refine drwp_off rfl (guard_off rfl rfl rfl hg6410) rfl rfl hS ?_
              refine drwp_off rfl (guard_off rfl rfl rfl hg6410) rfl rfl hS ?_
              refine drwp_off rfl (guard_off rfl rfl rfl hg6410) rfl rfl hS ?_
              have hg6411 : (((a6289 && (t6398 == 0)) && (sEq t6400 x0)) && (decide ((x0.size : Int) ≤ 300))) = false := by simp only [hg6410, Bool.and_true, Bool.true_and, Bool.and_false, Bool.false_and, Bool.or_true, Bool.true_or, Bool.or_false, Bool.false_or, Bool.not_true, Bool.not_false, Bool.not_not]
              refine drwp_take (v := .bool (((a6289 && (t6398 == 0)) && (sEq t6400 x0)) && (decide ((x0.size : Int) ≤ 300)))) rfl (guard_none rfl) rfl rfl (fun w_ hS_ => (ex_pand_f rfl rfl hg6410)) hS ?_
              refine drwp_oneS rfl (guard_none rfl) rfl (does_store (vs := [.int .i64 a6151, .int .i64 a6152, u6196, v6286]) (cs' := [.int .i64 a6151, .int .i64 a6152, u6196, v6286]) rfl rfl rfl rfl tsz28 (Ones.int (Ones.int (Ones.rd (HM.own_rd 2 rfl) (Ones.rd (HM.own_rd 3 rfl) Ones.nil)))) rfl rfl HM) ?_
              rintro w6412 HM
              have hS := Mem.suf (M := [box b6109 28 [.int .i64 a6151, .int .i64 a6152, u6196, v6286]]) HM
              refine ⟨hS, ?_⟩
              refine dp rfl rfl rfl rfl (ex_assign rfl rfl) hS ?_
              refine drwp_done ?_
              replace HM := (HM.front 1 rfl rfl).drop
              exact at_meet [(2, .pointer (some ⟨b6109, 0, none⟩)), (3, .bool (((a6289 && (t6398 == 0)) && (sEq t6400 x0)) && (decide ((x0.size : Int) ≤ 300))))] ⟨rfl, HM⟩ (Sub.cons rfl (Sub.cons rfl Sub.nil))
          · skip
            refine drwp_off1 rfl (guard_off rfl rfl rfl hg6402) rfl rfl ⟨hS, ?_⟩
            refine drwp_off rfl (guard_off rfl rfl rfl hg6402) rfl rfl hS ?_
            have hg6413 : (a6289 && (t6398 == 0)) = false := by simp only [hg6402, Bool.and_true, Bool.true_and, Bool.and_false, Bool.false_and, Bool.or_true, Bool.true_or, Bool.or_false, Bool.false_or, Bool.not_true, Bool.not_false, Bool.not_not]
            refine drwp_take (v := .bool (a6289 && (t6398 == 0))) rfl (guard_none rfl) rfl rfl (fun w_ hS_ => (ex_pand_f rfl rfl hg6402)) hS ?_
            refine dp rfl rfl rfl rfl (ex_move rfl rfl) hS ?_
            refine drwp_off rfl (guard_off rfl rfl rfl hg6413) rfl rfl hS ?_
            refine drwp_off1 rfl (guard_off rfl rfl rfl hg6413) rfl rfl ⟨hS, ?_⟩
            refine drwp_off rfl (guard_off rfl rfl rfl hg6413) rfl rfl hS ?_
            have hg6414 : ((a6289 && (t6398 == 0)) && (sEq t6400 x0)) = false := by simp only [hg6413, Bool.and_true, Bool.true_and, Bool.and_false, Bool.false_and, Bool.or_true, Bool.true_or, Bool.or_false, Bool.false_or, Bool.not_true, Bool.not_false, Bool.not_not]
            refine drwp_take (v := .bool ((a6289 && (t6398 == 0)) && (sEq t6400 x0))) rfl (guard_none rfl) rfl rfl (fun w_ hS_ => (ex_pand_f rfl rfl hg6413)) hS ?_
            refine dp rfl rfl rfl rfl (ex_move rfl rfl) hS ?_
            refine drwp_off rfl (guard_off rfl rfl rfl hg6414) rfl rfl hS ?_
            refine drwp_off rfl (guard_off rfl rfl rfl hg6414) rfl rfl hS ?_
            refine drwp_off rfl (guard_off rfl rfl rfl hg6414) rfl rfl hS ?_
            have hg6415 : (((a6289 && (t6398 == 0)) && (sEq t6400 x0)) && (decide ((x0.size : Int) ≤ 300))) = false := by simp only [hg6414, Bool.and_true, Bool.true_and, Bool.and_false, Bool.false_and, Bool.or_true, Bool.true_or, Bool.or_false, Bool.false_or, Bool.not_true, Bool.not_false, Bool.not_not]
            refine drwp_take (v := .bool (((a6289 && (t6398 == 0)) && (sEq t6400 x0)) && (decide ((x0.size : Int) ≤ 300)))) rfl (guard_none rfl) rfl rfl (fun w_ hS_ => (ex_pand_f rfl rfl hg6414)) hS ?_
            refine drwp_oneS rfl (guard_none rfl) rfl (does_store (vs := [.int .i64 a6151, .int .i64 a6152, u6196, v6286]) (cs' := [.int .i64 a6151, .int .i64 a6152, u6196, v6286]) rfl rfl rfl rfl tsz28 (Ones.int (Ones.int (Ones.rd (HM.own_rd 2 rfl) (Ones.rd (HM.own_rd 3 rfl) Ones.nil)))) rfl rfl HM) ?_
            rintro w6416 HM
            have hS := Mem.suf (M := [box b6109 28 [.int .i64 a6151, .int .i64 a6152, u6196, v6286]]) HM
            refine ⟨hS, ?_⟩
            refine dp rfl rfl rfl rfl (ex_assign rfl rfl) hS ?_
            refine drwp_done ?_
            replace HM := (HM.front 1 rfl rfl).drop
            exact at_meet [(2, .pointer (some ⟨b6109, 0, none⟩)), (3, .bool (((a6289 && (t6398 == 0)) && (sEq t6400 x0)) && (decide ((x0.size : Int) ≤ 300))))] ⟨rfl, HM⟩ (Sub.cons rfl (Sub.cons rfl Sub.nil))
        · rintro _ w6417 ⟨rfl, HM⟩
          refine at_then ?_
          refine run_ret ?_
          have hcb0 := HM.box_at 0 rfl
          replace HM := (HM.front 0 rfl rfl).drop
          have hR := Option.some.inj H
          subst hR
          exact at_retN1 rfl rfl rfl Tryz.underlying28 rfl tsz28 rfl hcb0 ⟨_, rfl, _, _, rfl, HM⟩
end Go.Proofs.YtmaolhocmkkmjaaGreatDoor.Zk
