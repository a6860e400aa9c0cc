/- What functions of the program compute, each as a plain function, and that they do. Conditions: as each theorem states them. -/
import Derived.Test.YtpfaihnmonfkhaaGreatDoorCheckTxZkF5
namespace Go.Proofs.YtpfaihnmonfkhaaGreatDoor.Zk
open Go Go.RowKit Go.IntWalk Go.Proofs
set_option linter.unusedVariables false
set_option linter.unusedSimpArgs false
set_option maxRecDepth 100000
set_option maxHeartbeats 4000000
def spec_CheckTx.f (k : Nat) (x0 : Ledger) (x1 : List Coin) (x2 : Tx) (x3 : Int) : Option IntResult := ((spec_l1Fault.f k x0).bind fun t4794 => (bif (t4794 != 0) then some (⟨t4794, 0⟩ : IntResult) else ((spec_l4Fault.f k x1).bind fun t4802 => (bif (t4802 != 0) then some (⟨t4802, 0⟩ : IntResult) else ((spec_l3Fault.f k x2).bind fun t4810 => (bif (t4810 != 0) then some (⟨t4810, 0⟩ : IntResult) else ((spec_l2Height.f k x3).bind fun t4818 => (bif !t4818 then some (⟨3, 0⟩ : IntResult) else ((spec_TxText.f k x2).bind fun t4823 => (bif (t4823.fCode != 0) then some (⟨t4823.fCode, 0⟩ : IntResult) else ((spec_l1At.f k x0.fTexts t4823.fText).bind fun t4834 => (bif (t4834 == 0) then some (⟨4, 0⟩ : IntResult) else ((spec_l5Check.f k x0 x1 x2 t4834 x3).bind fun t4840 => (bif (t4840.2 != 0) then some (⟨t4840.2, 0⟩ : IntResult) else some (⟨0, t4840.1⟩ : IntResult)))))))))))))))
theorem spec_CheckTx.calls {k : Nat} {x0 : Ledger} {x1 : List Coin} {x2 : Tx} {x3 : Int} {p0_0 : Value} {p0_1 : Value} {p1 : Value} {p2_0 : Value} {p2_1 : Value} {w : World} (hp0_0 : RdS kStr w p0_0 x0.fTexts) (hp0_1 : RdS kSign w p0_1 x0.fSigns) (hp1 : RdS kCoin w p1 x1) (hp2_0 : RdS kRef w p2_0 x2.fIns) (hp2_1 : RdS kOut w p2_1 x2.fOuts) {r : IntResult} (H : spec_CheckTx.f k x0 x1 x2 x3 = some r) :
  Calls Tryz.prog 7 ([.agg #[p0_0, p0_1], p1, .agg #[(.int .i64 x2.fKind), (.int .i64 x2.fMember), p2_0, p2_1], .int .i64 x3] : List Value).toArray w (fun e w_ => ∃ v, e = .returned v ∧ v = (.agg #[.int .i64 r.fCode, .int .i64 r.fValue]) ∧ Mem w [] w_ []) := by
 have HM := Mem.start w
 refine calls_run (N := 65) Tryz.func7 rfl rfl rfl rfl ?_
 unfold spec_CheckTx.f at H
 refine run_seq ?_
 refine run_region rfl ?_
 refine od rfl rfl rfl rfl (does_box (cs := [p0_0, p0_1]) rfl rfl rfl HM) ?_
 rintro _ w4788 ⟨b4779, rfl, HM⟩
 refine od rfl rfl rfl rfl (does_box (cs := [.int .i64 x2.fKind, .int .i64 x2.fMember, p2_0, p2_1]) rfl rfl rfl HM) ?_
 rintro _ w4789 ⟨b4782, rfl, HM⟩
 refine od rfl rfl rfl rfl (does_alloc (cs := [.int .i64 0, .int .i64 0]) rfl tz35 rfl HM) ?_
 rintro _ w4790 ⟨b4785, rfl, HM⟩
 refine ops_nil (at_then (run_seq ?_))
 refine run_seq ?_
 obtain ⟨t4794, h4795, H⟩ := bind_some H
 refine run_region rfl ?_
 refine od rfl rfl rfl rfl (does_callk rfl callok21 rfl (spec_l1Fault.calls (x0 := x0) (HM.box_at 2 rfl) (HM.rd hp0_0) (HM.rd hp0_1) h4795)) ?_
 rintro _ w4796 ⟨rfl, hn⟩
 replace HM : Mem w [] w4796 [box b4785 35 [.int .i64 0, .int .i64 0], box b4782 46 [.int .i64 x2.fKind, .int .i64 x2.fMember, p2_0, p2_1], box b4779 39 [p0_0, p0_1]] := HM.call hn
 refine ox rfl rfl rfl rfl (ex_assign rfl rfl) ?_
 refine ops_nil (at_then (run_seq ?_))
 refine run_region rfl ?_
 refine ox rfl rfl rfl rfl (ex_move rfl rfl) ?_
 refine ox rfl rfl rfl rfl (ex_neq rfl rfl rfl) ?_
 refine ops_nil (at_then ?_)
 refine run_cond (b := (t4794 != 0)) rfl (fun hb4797 => ?_) (fun hb4797 => ?_)
 ·replace H := cond_t hb4797 H
  refine run_seq ?_
  refine run_region rfl ?_
  refine ox rfl rfl rfl rfl (ex_move rfl rfl) ?_
  refine ox rfl rfl rfl rfl (ex_build (cells := #[(.int .i64 t4794), (.int .i64 0)]) rfl rfl (by kernel_rfl)) ?_
  refine odS rfl rfl rfl (does_store (vs := [.int .i64 t4794, .int .i64 0]) (cs' := [.int .i64 t4794, .int .i64 0]) rfl rfl rfl rfl tsz35 (Ones.int (Ones.int Ones.nil)) rfl rfl HM) ?_
  rintro w4798 HM
  refine ops_nil (at_then ?_)
  refine run_ret ?_
  refine at_then_ret ?_
  replace HM := (HM.front 1 rfl rfl).drop
  replace HM := (HM.front 1 rfl rfl).drop
  have hcb0 := HM.box_at 0 rfl
  replace HM := (HM.front 0 rfl rfl).drop
  have hR := Option.some.inj H
  subst hR
  exact at_retN rfl rfl Tryz.underlying35 rfl tsz35 rfl hcb0 ⟨_, rfl, rfl, HM⟩
 ·replace H := cond_f hb4797 H
  refine run_skip ?_
  refine at_then ?_
  refine run_seq ?_
  refine run_seq ?_
  obtain ⟨t4802, h4803, H⟩ := bind_some H
  refine run_region rfl ?_
  refine ox rfl rfl rfl rfl (ex_move rfl rfl) ?_
  refine od rfl rfl rfl rfl (does_callk rfl callok22 rfl (spec_l4Fault.calls (x0 := x1) (HM.rd hp1) h4803)) ?_
  rintro _ w4804 ⟨rfl, hn⟩
  replace HM : Mem w [] w4804 [box b4785 35 [.int .i64 0, .int .i64 0], box b4782 46 [.int .i64 x2.fKind, .int .i64 x2.fMember, p2_0, p2_1], box b4779 39 [p0_0, p0_1]] := HM.call hn
  refine ox rfl rfl rfl rfl (ex_assign rfl rfl) ?_
  refine ops_nil (at_then (run_seq ?_))
  refine run_region rfl ?_
  refine ox rfl rfl rfl rfl (ex_move rfl rfl) ?_
  refine ox rfl rfl rfl rfl (ex_neq rfl rfl rfl) ?_
  refine ops_nil (at_then ?_)
  refine run_cond (b := (t4802 != 0)) rfl (fun hb4805 => ?_) (fun hb4805 => ?_)
  ·replace H := cond_t hb4805 H
   refine run_seq ?_
   refine run_region rfl ?_
   refine ox rfl rfl rfl rfl (ex_move rfl rfl) ?_
   refine ox rfl rfl rfl rfl (ex_build (cells := #[(.int .i64 t4802), (.int .i64 0)]) rfl rfl (by kernel_rfl)) ?_
   refine odS rfl rfl rfl (does_store (vs := [.int .i64 t4802, .int .i64 0]) (cs' := [.int .i64 t4802, .int .i64 0]) rfl rfl rfl rfl tsz35 (Ones.int (Ones.int Ones.nil)) rfl rfl HM) ?_
   rintro w4806 HM
   refine ops_nil (at_then ?_)
   refine run_ret ?_
   refine at_then_ret ?_
   replace HM := (HM.front 1 rfl rfl).drop
   replace HM := (HM.front 1 rfl rfl).drop
   have hcb0 := HM.box_at 0 rfl
   replace HM := (HM.front 0 rfl rfl).drop
   have hR := Option.some.inj H
   subst hR
   exact at_retN rfl rfl Tryz.underlying35 rfl tsz35 rfl hcb0 ⟨_, rfl, rfl, HM⟩
  ·replace H := cond_f hb4805 H
   refine run_skip ?_
   refine at_then ?_
   refine run_seq ?_
   refine run_seq ?_
   obtain ⟨t4810, h4811, H⟩ := bind_some H
   refine run_region rfl ?_
   refine od rfl rfl rfl rfl (does_callk rfl callok23 rfl (spec_l3Fault.calls (x0 := x2) (HM.box_at 1 rfl) (HM.rd hp2_0) (HM.rd hp2_1) h4811)) ?_
   rintro _ w4812 ⟨rfl, hn⟩
   replace HM : Mem w [] w4812 [box b4785 35 [.int .i64 0, .int .i64 0], box b4782 46 [.int .i64 x2.fKind, .int .i64 x2.fMember, p2_0, p2_1], box b4779 39 [p0_0, p0_1]] := HM.call hn
   refine ox rfl rfl rfl rfl (ex_assign rfl rfl) ?_
   refine ops_nil (at_then (run_seq ?_))
   refine run_region rfl ?_
   refine ox rfl rfl rfl rfl (ex_move rfl rfl) ?_
   refine ox rfl rfl rfl rfl (ex_neq rfl rfl rfl) ?_
   refine ops_nil (at_then ?_)
   refine run_cond (b := (t4810 != 0)) rfl (fun hb4813 => ?_) (fun hb4813 => ?_)
   ·replace H := cond_t hb4813 H
    refine run_seq ?_
    refine run_region rfl ?_
    refine ox rfl rfl rfl rfl (ex_move rfl rfl) ?_
    refine ox rfl rfl rfl rfl (ex_build (cells := #[(.int .i64 t4810), (.int .i64 0)]) rfl rfl (by kernel_rfl)) ?_
    refine odS rfl rfl rfl (does_store (vs := [.int .i64 t4810, .int .i64 0]) (cs' := [.int .i64 t4810, .int .i64 0]) rfl rfl rfl rfl tsz35 (Ones.int (Ones.int Ones.nil)) rfl rfl HM) ?_
    rintro w4814 HM
    refine ops_nil (at_then ?_)
    refine run_ret ?_
    refine at_then_ret ?_
    replace HM := (HM.front 1 rfl rfl).drop
    replace HM := (HM.front 1 rfl rfl).drop
    have hcb0 := HM.box_at 0 rfl
    replace HM := (HM.front 0 rfl rfl).drop
    have hR := Option.some.inj H
    subst hR
    exact at_retN rfl rfl Tryz.underlying35 rfl tsz35 rfl hcb0 ⟨_, rfl, rfl, HM⟩
   ·replace H := cond_f hb4813 H
    refine run_skip ?_
    refine at_then ?_
    refine run_seq ?_
    refine run_seq ?_
    obtain ⟨t4818, h4819, H⟩ := bind_some H
    refine run_region rfl ?_
    refine ox rfl rfl rfl rfl (ex_move rfl rfl) ?_
    refine od rfl rfl rfl rfl (does_callk rfl callok24 rfl (spec_l2Height.calls (x0 := x3) h4819)) ?_
    rintro _ w4820 ⟨rfl, hn⟩
    replace HM : Mem w [] w4820 [box b4785 35 [.int .i64 0, .int .i64 0], box b4782 46 [.int .i64 x2.fKind, .int .i64 x2.fMember, p2_0, p2_1], box b4779 39 [p0_0, p0_1]] := HM.call hn
    refine ox rfl rfl rfl rfl (ex_not rfl rfl) ?_
    refine ops_nil (at_then ?_)
    refine run_cond (b := !t4818) rfl (fun hb4821 => ?_) (fun hb4821 => ?_)
    ·replace H := cond_t hb4821 H
     refine run_seq ?_
     refine run_region rfl ?_
     refine ox rfl rfl rfl rfl (ex_build (cells := #[(.int .i64 3), (.int .i64 0)]) rfl rfl (by kernel_rfl)) ?_
     refine odS rfl rfl rfl (does_store (vs := [.int .i64 3, .int .i64 0]) (cs' := [.int .i64 3, .int .i64 0]) rfl rfl rfl rfl tsz35 (Ones.int (Ones.int Ones.nil)) rfl rfl HM) ?_
     rintro w4822 HM
     refine ops_nil (at_then ?_)
     refine run_ret ?_
     refine at_then_ret ?_
     replace HM := (HM.front 1 rfl rfl).drop
     replace HM := (HM.front 1 rfl rfl).drop
     have hcb0 := HM.box_at 0 rfl
     replace HM := (HM.front 0 rfl rfl).drop
     have hR := Option.some.inj H
     subst hR
     exact at_retN rfl rfl Tryz.underlying35 rfl tsz35 rfl hcb0 ⟨_, rfl, rfl, HM⟩
    ·replace H := cond_f hb4821 H
     refine run_skip ?_
     refine at_then ?_
     refine run_seq ?_
     obtain ⟨t4823, h4824, H⟩ := bind_some H
     refine run_region rfl ?_
     refine ox rfl rfl rfl rfl (ex_loadN (cs := [(.int .i64 x2.fKind), (.int .i64 x2.fMember), p2_0, p2_1]) rfl rfl Tryz.underlying46 rfl tsz46 rfl ((HM.box_at 1 rfl).sub 0 4 rfl)) ?_
     refine od rfl rfl rfl rfl (does_callk rfl callok25 rfl (spec_TxText.calls (x0 := x2) (HM.rd hp2_0) (HM.rd hp2_1) h4824)) ?_
     rintro _ w4828 ⟨rfl, hn⟩
     replace HM : Mem w [] w4828 [box b4785 35 [.int .i64 0, .int .i64 0], box b4782 46 [.int .i64 x2.fKind, .int .i64 x2.fMember, p2_0, p2_1], box b4779 39 [p0_0, p0_1]] := HM.call hn
     refine od rfl rfl rfl rfl (does_alloc (cs := [.int .i64 0, .string (⟨#[]⟩ : ByteArray)]) rfl tz74 rfl HM) ?_
     rintro _ w4829 ⟨b4825, rfl, HM⟩
     refine odS rfl rfl rfl (does_store (vs := [.int .i64 t4823.fCode, .string t4823.fText]) (cs' := [.int .i64 t4823.fCode, .string t4823.fText]) rfl rfl rfl rfl tsz74 (Ones.int (Ones.str Ones.nil)) rfl rfl HM) ?_
     rintro w4830 HM
     refine ops_nil (at_then (run_seq ?_))
     refine run_seq ?_
     refine run_region rfl ?_
     refine ox rfl rfl rfl rfl (ex_fieldAddr (off' := 0) rfl rfl Tryz.underlying74 rfl tsz2 rfl) ?_
     refine ox rfl rfl rfl rfl (ex_load1 rfl rfl Tryz.underlying2 rfl ((HM.box_at 0 rfl) 0 _ rfl)) ?_
     refine ox rfl rfl rfl rfl (ex_neq rfl rfl rfl) ?_
     refine ops_nil (at_then ?_)
     refine run_cond (b := (t4823.fCode != 0)) rfl (fun hb4832 => ?_) (fun hb4832 => ?_)
     ·replace H := cond_t hb4832 H
      refine run_seq ?_
      refine run_region rfl ?_
      refine ox rfl rfl rfl rfl (ex_fieldAddr (off' := 0) rfl rfl Tryz.underlying74 rfl tsz2 rfl) ?_
      refine ox rfl rfl rfl rfl (ex_load1 rfl rfl Tryz.underlying2 rfl ((HM.box_at 0 rfl) 0 _ rfl)) ?_
      refine ox rfl rfl rfl rfl (ex_build (cells := #[(.int .i64 t4823.fCode), (.int .i64 0)]) rfl rfl (by kernel_rfl)) ?_
      replace HM := HM.front 1 rfl rfl
      refine odS rfl rfl rfl (does_store (vs := [.int .i64 t4823.fCode, .int .i64 0]) (cs' := [.int .i64 t4823.fCode, .int .i64 0]) rfl rfl rfl rfl tsz35 (Ones.int (Ones.int Ones.nil)) rfl rfl HM) ?_
      rintro w4833 HM
      refine ops_nil (at_then ?_)
      refine run_ret ?_
      refine at_then_ret ?_
      replace HM := (HM.front 1 rfl rfl).drop
      replace HM := (HM.front 1 rfl rfl).drop
      replace HM := (HM.front 1 rfl rfl).drop
      have hcb0 := HM.box_at 0 rfl
      replace HM := (HM.front 0 rfl rfl).drop
      have hR := Option.some.inj H
      subst hR
      exact at_retN rfl rfl Tryz.underlying35 rfl tsz35 rfl hcb0 ⟨_, rfl, rfl, HM⟩
     ·replace H := cond_f hb4832 H
      refine run_skip ?_
      refine at_then ?_
      refine run_seq ?_
      obtain ⟨t4834, h4835, H⟩ := bind_some H
      refine run_region rfl ?_
      refine ox rfl rfl rfl rfl (ex_fieldAddr (off' := 0) rfl rfl Tryz.underlying39 rfl tsz22 rfl) ?_
      refine ox rfl rfl rfl rfl (ex_load1 rfl rfl Tryz.underlying22 rfl ((HM.box_at 3 rfl) 0 _ rfl)) ?_
      refine ox rfl rfl rfl rfl (ex_fieldAddr (off' := 1) rfl rfl Tryz.underlying74 rfl tsz9 rfl) ?_
      refine ox rfl rfl rfl rfl (ex_load1 rfl rfl Tryz.underlying9 rfl ((HM.box_at 0 rfl) 1 _ rfl)) ?_
      refine od rfl rfl rfl rfl (does_callk rfl callok26 rfl (spec_l1At.calls (x0 := x0.fTexts) (x1 := t4823.fText) (HM.rd hp0_0) h4835)) ?_
      rintro _ w4836 ⟨rfl, hn⟩
      replace HM : Mem w [] w4836 [box b4825 74 [.int .i64 t4823.fCode, .string t4823.fText], box b4785 35 [.int .i64 0, .int .i64 0], box b4782 46 [.int .i64 x2.fKind, .int .i64 x2.fMember, p2_0, p2_1], box b4779 39 [p0_0, p0_1]] := HM.call hn
      refine ox rfl rfl rfl rfl (ex_assign rfl rfl) ?_
      refine ops_nil (at_then (run_seq ?_))
      refine run_seq ?_
      refine run_region rfl ?_
      refine ox rfl rfl rfl rfl (ex_move rfl rfl) ?_
      refine ox rfl rfl rfl rfl (ex_eql rfl rfl rfl) ?_
      refine ops_nil (at_then ?_)
      refine run_cond (b := (t4834 == 0)) rfl (fun hb4838 => ?_) (fun hb4838 => ?_)
      ·replace H := cond_t hb4838 H
       refine run_seq ?_
       refine run_region rfl ?_
       refine ox rfl rfl rfl rfl (ex_build (cells := #[(.int .i64 4), (.int .i64 0)]) rfl rfl (by kernel_rfl)) ?_
       replace HM := HM.front 1 rfl rfl
       refine odS rfl rfl rfl (does_store (vs := [.int .i64 4, .int .i64 0]) (cs' := [.int .i64 4, .int .i64 0]) rfl rfl rfl rfl tsz35 (Ones.int (Ones.int Ones.nil)) rfl rfl HM) ?_
       rintro w4839 HM
       refine ops_nil (at_then ?_)
       refine run_ret ?_
       refine at_then_ret ?_
       replace HM := (HM.front 1 rfl rfl).drop
       replace HM := (HM.front 1 rfl rfl).drop
       replace HM := (HM.front 1 rfl rfl).drop
       have hcb0 := HM.box_at 0 rfl
       replace HM := (HM.front 0 rfl rfl).drop
       have hR := Option.some.inj H
       subst hR
       exact at_retN rfl rfl Tryz.underlying35 rfl tsz35 rfl hcb0 ⟨_, rfl, rfl, HM⟩
      ·replace H := cond_f hb4838 H
       refine run_skip ?_
       refine at_then ?_
       refine run_seq ?_
       obtain ⟨t4840, h4841, H⟩ := bind_some H
       refine run_region rfl ?_
       refine ox rfl rfl rfl rfl (ex_move rfl rfl) ?_
       refine ox rfl rfl rfl rfl (ex_move rfl rfl) ?_
       refine ox rfl rfl rfl rfl (ex_move rfl rfl) ?_
       refine od rfl rfl rfl rfl (does_callk rfl callok27 rfl (spec_l5Check.calls (x0 := x0) (x1 := x1) (x2 := x2) (x3 := t4834) (x4 := x3) (HM.box_at 3 rfl) (HM.rd hp0_0) (HM.rd hp0_1) (HM.rd hp1) (HM.box_at 2 rfl) (HM.rd hp2_0) (HM.rd hp2_1) h4841)) ?_
       rintro _ w4842 ⟨rfl, hn⟩
       replace HM : Mem w [] w4842 [box b4825 74 [.int .i64 t4823.fCode, .string t4823.fText], box b4785 35 [.int .i64 0, .int .i64 0], box b4782 46 [.int .i64 x2.fKind, .int .i64 x2.fMember, p2_0, p2_1], box b4779 39 [p0_0, p0_1]] := HM.call hn
       refine ox rfl rfl rfl rfl (ex_move rfl rfl) ?_
       refine ox rfl rfl rfl rfl (ex_extract rfl rfl rfl) ?_
       refine ox rfl rfl rfl rfl (ex_extract rfl rfl rfl) ?_
       refine ox rfl rfl rfl rfl (ex_assign rfl rfl) ?_
       refine ox rfl rfl rfl rfl (ex_assign rfl rfl) ?_
       refine ops_nil (at_then (run_seq ?_))
       refine run_seq ?_
       refine run_region rfl ?_
       refine ox rfl rfl rfl rfl (ex_move rfl rfl) ?_
       refine ox rfl rfl rfl rfl (ex_neq rfl rfl rfl) ?_
       refine ops_nil (at_then ?_)
       refine run_cond (b := (t4840.2 != 0)) rfl (fun hb4843 => ?_) (fun hb4843 => ?_)
       ·replace H := cond_t hb4843 H
        refine run_seq ?_
        refine run_region rfl ?_
        refine ox rfl rfl rfl rfl (ex_move rfl rfl) ?_
        refine ox rfl rfl rfl rfl (ex_build (cells := #[(.int .i64 t4840.2), (.int .i64 0)]) rfl rfl (by kernel_rfl)) ?_
        replace HM := HM.front 1 rfl rfl
        refine odS rfl rfl rfl (does_store (vs := [.int .i64 t4840.2, .int .i64 0]) (cs' := [.int .i64 t4840.2, .int .i64 0]) rfl rfl rfl rfl tsz35 (Ones.int (Ones.int Ones.nil)) rfl rfl HM) ?_
        rintro w4844 HM
        refine ops_nil (at_then ?_)
        refine run_ret ?_
        refine at_then_ret ?_
        replace HM := (HM.front 1 rfl rfl).drop
        replace HM := (HM.front 1 rfl rfl).drop
        replace HM := (HM.front 1 rfl rfl).drop
        have hcb0 := HM.box_at 0 rfl
        replace HM := (HM.front 0 rfl rfl).drop
        have hR := Option.some.inj H
        subst hR
        exact at_retN rfl rfl Tryz.underlying35 rfl tsz35 rfl hcb0 ⟨_, rfl, rfl, HM⟩
       ·replace H := cond_f hb4843 H
        refine run_skip ?_
        refine at_then ?_
        refine run_seq ?_
        refine run_region rfl ?_
        refine ox rfl rfl rfl rfl (ex_move rfl rfl) ?_
        refine ox rfl rfl rfl rfl (ex_build (cells := #[(.int .i64 0), (.int .i64 t4840.1)]) rfl rfl (by kernel_rfl)) ?_
        replace HM := HM.front 1 rfl rfl
        refine odS rfl rfl rfl (does_store (vs := [.int .i64 0, .int .i64 t4840.1]) (cs' := [.int .i64 0, .int .i64 t4840.1]) rfl rfl rfl rfl tsz35 (Ones.int (Ones.int Ones.nil)) rfl rfl HM) ?_
        rintro w4845 HM
        refine ops_nil (at_then ?_)
        refine run_ret ?_
        replace HM := (HM.front 1 rfl rfl).drop
        replace HM := (HM.front 1 rfl rfl).drop
        replace HM := (HM.front 1 rfl rfl).drop
        have hcb0 := HM.box_at 0 rfl
        replace HM := (HM.front 0 rfl rfl).drop
        have hR := Option.some.inj H
        subst hR
        exact at_retN rfl rfl Tryz.underlying35 rfl tsz35 rfl hcb0 ⟨_, rfl, rfl, HM⟩

def impl_within.f (k : Nat) (x0 : Int) (x1 : Int) (x2 : Int) : Option Bool := some ((decide (x1 ≤ x0)) && (decide (x0 ≤ x2)))
theorem impl_within.calls {k : Nat} {x0 : Int} {x1 : Int} {x2 : Int}  {w : World}  {r : Bool} (H : impl_within.f k x0 x1 x2 = some r) :
  Calls Tryz.prog 65 ([.int .i64 x0, .int .i64 x1, .int .i64 x2] : List Value).toArray w (fun e w_ => ∃ v, e = .returned v ∧ v = (.bool r) ∧ Mem w [] w_ []) := by
 have HM := Mem.start w
 refine calls_run (N := 15) Tryz.func65 rfl rfl rfl rfl ?_
 unfold impl_within.f at H
 refine run_seq ?_
 refine run_region rfl ?_
 refine ox rfl rfl rfl rfl (ex_assign rfl rfl) ?_
 refine ops_nil (at_then (run_seq ?_))
 refine run_meet (fun ρ_ w_ => ρ_ = [(6, .bool ((decide (x1 ≤ x0)) && (decide (x0 ≤ x2))))] ∧ Mem w [] w_ []) ?_ ?_
 ·skip
  refine run_region rfl ?_
  refine ox rfl rfl rfl rfl (ex_move rfl rfl) ?_
  refine ox rfl rfl rfl rfl (ex_move rfl rfl) ?_
  refine ox rfl rfl rfl rfl (ex_geq rfl rfl rfl) ?_
  refine ox rfl rfl rfl rfl (ex_move rfl rfl) ?_
  refine bool_cases (decide (x1 ≤ x0)) (fun hg4890 => ?_) (fun hg4890 => ?_)
  ·skip
   refine ops_ex rfl (guard_on rfl rfl rfl hg4890) rfl rfl (ex_move rfl rfl) ?_
   refine ops_ex rfl (guard_on rfl rfl rfl hg4890) rfl rfl (ex_move rfl rfl) ?_
   refine ops_ex rfl (guard_on rfl rfl rfl hg4890) rfl rfl (ex_leq rfl rfl rfl) ?_
   refine ops_ex (v := .bool ((decide (x1 ≤ x0)) && (decide (x0 ≤ x2)))) rfl (guard_none rfl) rfl rfl (ex_pand_t rfl rfl hg4890 rfl) ?_
   refine ox rfl rfl rfl rfl (ex_assign rfl rfl) ?_
   refine ops_nil ?_
   exact at_meet [(6, .bool ((decide (x1 ≤ x0)) && (decide (x0 ≤ x2))))] ⟨rfl, HM⟩ (Sub.cons rfl Sub.nil)
  ·skip
   refine ops_off rfl (guard_off rfl rfl rfl hg4890) rfl rfl ?_
   refine ops_off rfl (guard_off rfl rfl rfl hg4890) rfl rfl ?_
   refine ops_off rfl (guard_off rfl rfl rfl hg4890) rfl rfl ?_
   have hg4891 : ((decide (x1 ≤ x0)) && (decide (x0 ≤ x2))) = false := by simp only [hg4890, Bool.and_true, Bool.true_and, Bool.and_false, Bool.false_and, Bool.or_true, Bool.true_or, Bool.or_false, Bool.false_or, Bool.not_true, Bool.not_false, Bool.not_not]
   refine ops_ex (v := .bool ((decide (x1 ≤ x0)) && (decide (x0 ≤ x2)))) rfl (guard_none rfl) rfl rfl (ex_pand_f rfl rfl hg4890) ?_
   refine ox rfl rfl rfl rfl (ex_assign rfl rfl) ?_
   refine ops_nil ?_
   exact at_meet [(6, .bool ((decide (x1 ≤ x0)) && (decide (x0 ≤ x2))))] ⟨rfl, HM⟩ (Sub.cons rfl Sub.nil)
 ·rintro _ w4892 ⟨rfl, HM⟩
  refine at_then ?_
  refine run_ret ?_
  have hR := Option.some.inj H
  subst hR
  exact at_ret1 rfl rfl ⟨_, rfl, rfl, HM⟩

def impl_isText.f (k : Nat) (x0 : ByteArray) : Option Bool := ((impl_within.f k (x0.size : Int) 1 300).bind fun t4895 => some t4895)
theorem impl_isText.calls {k : Nat} {x0 : ByteArray}  {w : World}  {r : Bool} (H : impl_isText.f k x0 = some r) :
  Calls Tryz.prog 62 ([.string x0] : List Value).toArray w (fun e w_ => ∃ v, e = .returned v ∧ v = (.bool r) ∧ Mem w [] w_ []) := by
 have HM := Mem.start w
 refine calls_run (N := 6) Tryz.func62 rfl rfl rfl rfl ?_
 unfold impl_isText.f at H
 refine run_seq ?_
 refine run_region rfl ?_
 refine ox rfl rfl rfl rfl (ex_assign rfl rfl) ?_
 refine ops_nil (at_then (run_seq ?_))
 obtain ⟨t4895, h4896, H⟩ := bind_some H
 refine run_region rfl ?_
 refine ox rfl rfl rfl rfl (ex_move rfl rfl) ?_
 refine ox rfl rfl rfl rfl (ex_strlen rfl rfl Tryz.underlying9) ?_
 refine od rfl rfl rfl rfl (does_callk rfl callok65 rfl (impl_within.calls (x0 := (x0.size : Int)) (x1 := 1) (x2 := 300) h4896)) ?_
 rintro _ w4897 ⟨rfl, hn⟩
 replace HM : Mem w [] w4897 [] := HM.call hn
 refine ox rfl rfl rfl rfl (ex_assign rfl rfl) ?_
 refine ops_nil (at_then ?_)
 refine run_ret ?_
 have hR := Option.some.inj H
 subst hR
 exact at_ret1 rfl rfl ⟨_, rfl, rfl, HM⟩

def slices_Index_string.l0 (x0 : List ByteArray) (x1 : ByteArray) : Nat → Int → Option (Int ⊕ Unit)
 | 0, _ => none
 | k + 1, a4942 => (bif (decide (a4942 < (x0.length : Int))) then (chk (idxOk a4942 x0.length) (bif (sEq x1 (gt x0 a4942)) then some (.inl a4942) else slices_Index_string.l0 x0 x1 k (wrap64 (a4942 + 1)))) else some (.inr ()))
theorem slices_Index_string.l0_z (x0 : List ByteArray) (x1 : ByteArray) (a4942 : Int) : slices_Index_string.l0 x0 x1 0 a4942 = none := rfl
theorem slices_Index_string.l0_s (x0 : List ByteArray) (x1 : ByteArray) (k : Nat) (a4942 : Int) : slices_Index_string.l0 x0 x1 (k + 1) a4942 = (bif (decide (a4942 < (x0.length : Int))) then (chk (idxOk a4942 x0.length) (bif (sEq x1 (gt x0 a4942)) then some (.inl a4942) else slices_Index_string.l0 x0 x1 k (wrap64 (a4942 + 1)))) else some (.inr ())) := rfl
def slices_Index_string.f (k : Nat) (x0 : List ByteArray) (x1 : ByteArray) : Option Int := ((slices_Index_string.l0 x0 x1 k 0).bind fun o4936 => thn o4936 (fun r => some r) (fun _ => some (-1)))
theorem slices_Index_string.calls {k : Nat} {x0 : List ByteArray} {x1 : ByteArray} {p0 : Value} {w : World} (hp0 : RdS kStr w p0 x0) {r : Int} (H : slices_Index_string.f k x0 x1 = some r) :
  Calls Tryz.prog 91 ([p0, .string x1] : List Value).toArray w (fun e w_ => ∃ v, e = .returned v ∧ v = (.int .i64 r) ∧ Mem w [] w_ []) := by
 have HM := Mem.start w
 refine calls_run (N := 19) Tryz.func91 rfl rfl rfl rfl ?_
 unfold slices_Index_string.f at H
 refine run_seq ?_
 refine run_region rfl ?_
 refine ox rfl rfl rfl rfl (ex_assign rfl rfl) ?_
 refine ops_nil (at_then ?_)
 obtain ⟨o4936, ho4937, H⟩ := bind_some H
 refine run_mid (fun ρ_ w_ => Sum.inr () = o4936 ∧ ρ_ = [] ∧ Mem w [] w_ []) ?_ ?_
 ·skip
  refine run_seq ?_
  refine run_region rfl ?_
  refine ox rfl rfl rfl rfl (ex_move rfl rfl) ?_
  refine ox rfl rfl rfl rfl (ex_len (d := kStr) (xs := x0) rfl rfl Tryz.underlying22 hp0) ?_
  refine ox rfl rfl rfl rfl (ex_move rfl rfl) ?_
  refine ops_nil (at_then ?_)
  refine run_block ?_
  refine run_loop (fun k_ ρ_ w_ => ∃ a4942 : Int, slices_Index_string.l0 x0 x1 k_ a4942 = some o4936 ∧ ρ_ = [(0, p0), (1, .string x1), (7, .int .i64 (x0.length : Int)), (8, .int .i64 a4942)] ∧ Mem w [] w_ []) k (ρ1 := [(0, p0), (1, .string x1), (7, .int .i64 (x0.length : Int)), (8, .int .i64 0)]) ⟨_, ho4937, rfl, HM⟩ (Sub.cons rfl (Sub.cons rfl (Sub.cons rfl (Sub.cons rfl Sub.nil)))) ?_
  clear HM ho4937
  rintro k4947 _ w4948 ⟨a4942, ho4937, rfl, HM⟩
  obtain _ | k4947 := k4947
  ·exact nomatch ((slices_Index_string.l0_z x0 x1 a4942).symm.trans ho4937)
  replace ho4937 := (slices_Index_string.l0_s x0 x1 k4947 a4942).symm.trans ho4937
  refine run_seq ?_
  refine run_region rfl ?_
  refine ox rfl rfl rfl rfl (ex_lss rfl rfl rfl) ?_
  refine ops_nil (at_then (run_seq ?_))
  refine run_cond (b := (decide (a4942 < (x0.length : Int)))) rfl (fun hb4949 => ?_) (fun hb4949 => ?_)
  ·replace ho4937 := cond_t hb4949 ho4937
   refine run_skip ?_
   refine at_then ?_
   refine run_seq ?_
   refine run_block ?_
   refine run_seq ?_
   refine run_region rfl ?_
   refine ox rfl rfl rfl rfl (ex_move rfl rfl) ?_
   refine ox rfl rfl rfl rfl (ex_assign rfl rfl) ?_
   refine ops_nil (at_then (run_seq ?_))
   obtain ⟨e4950, ho4937⟩ := chk_some ho4937
   refine run_region rfl ?_
   refine ox rfl rfl rfl rfl (ex_move rfl rfl) ?_
   refine ox rfl rfl rfl rfl (ex_move rfl rfl) ?_
   refine ox rfl rfl rfl rfl (ex_move rfl rfl) ?_
   have hc4951 : CellsAt _ (sb p0) (so p0 + (a4942).toNat * 1) [(.string (gt x0 a4942))] := rd_plain hp0 e4950
   refine ox rfl rfl rfl rfl (ex_indexAddr (d := kStr) rfl rfl rfl Tryz.underlying22 tsz9 hp0 (idx_lo e4950) (idx_hi e4950)) ?_
   refine ox rfl rfl rfl rfl (ex_load1 rfl rfl Tryz.underlying9 rfl ((HM.at_ hc4951) 0 _ rfl)) ?_
   refine ox rfl rfl rfl rfl (ex_seql rfl rfl rfl) ?_
   refine ops_nil (at_then ?_)
   refine run_cond (b := (sEq x1 (gt x0 a4942))) rfl (fun hb4952 => ?_) (fun hb4952 => ?_)
   ·replace ho4937 := cond_t hb4952 ho4937
    refine run_seq ?_
    refine run_region rfl ?_
    refine ox rfl rfl rfl rfl (ex_move rfl rfl) ?_
    refine ox rfl rfl rfl rfl (ex_assign rfl rfl) ?_
    refine ops_nil (at_then ?_)
    refine run_ret ?_
    refine at_block_ret ?_
    refine at_then_ret ?_
    refine at_then_ret ?_
    refine at_block_ret ?_
    refine at_then_ret ?_
    have hR := Option.some.inj ho4937
    subst hR
    have hT := thn_inl H
    have hR := Option.some.inj hT
    subst hR
    exact at_ret1 rfl rfl ⟨_, rfl, rfl, HM⟩
   ·replace ho4937 := cond_f hb4952 ho4937
    refine run_skip ?_
    refine at_block ?_
    refine at_then ?_
    refine run_region rfl ?_
    refine ox rfl rfl rfl rfl (ex_add rfl rfl rfl) ?_
    refine ox rfl rfl rfl rfl (ex_move rfl rfl) ?_
    refine ops_nil ?_
    exact at_again k4947 (ρ1 := [(0, p0), (1, .string x1), (7, .int .i64 (x0.length : Int)), (8, .int .i64 (wrap64 (a4942 + 1)))]) (Nat.lt_succ_self _) ⟨_, ho4937, rfl, HM⟩ (Sub.cons rfl (Sub.cons rfl (Sub.cons rfl (Sub.cons rfl Sub.nil))))
  ·replace ho4937 := cond_f hb4949 ho4937
   refine run_exit ?_
   refine at_then_exit ?_
   refine at_then_exit ?_
   refine at_block_exit ?_
   exact at_mid (ρ' := []) ⟨(Option.some.inj ho4937), rfl, HM⟩ Sub.nil
 ·rintro _ w4953 ⟨rfl, rfl, HM⟩
  replace H := (thn_inr H)
  refine run_seq ?_
  refine run_region rfl ?_
  refine ox rfl rfl rfl rfl (ex_assign rfl rfl) ?_
  refine ops_nil (at_then ?_)
  refine run_ret ?_
  have hR := Option.some.inj H
  subst hR
  exact at_ret1 rfl rfl ⟨_, rfl, rfl, HM⟩

def slices_Contains_string.f (k : Nat) (x0 : List ByteArray) (x1 : ByteArray) : Option Bool := ((slices_Index_string.f k x0 x1).bind fun t4956 => some (decide (0 ≤ t4956)))
theorem slices_Contains_string.calls {k : Nat} {x0 : List ByteArray} {x1 : ByteArray} {p0 : Value} {w : World} (hp0 : RdS kStr w p0 x0) {r : Bool} (H : slices_Contains_string.f k x0 x1 = some r) :
  Calls Tryz.prog 63 ([p0, .string x1] : List Value).toArray w (fun e w_ => ∃ v, e = .returned v ∧ v = (.bool r) ∧ Mem w [] w_ []) := by
 have HM := Mem.start w
 refine calls_run (N := 9) Tryz.func63 rfl rfl rfl rfl ?_
 unfold slices_Contains_string.f at H
 refine run_seq ?_
 refine run_region rfl ?_
 refine ox rfl rfl rfl rfl (ex_assign rfl rfl) ?_
 refine ops_nil (at_then (run_seq ?_))
 obtain ⟨t4956, h4957, H⟩ := bind_some H
 refine run_region rfl ?_
 refine ox rfl rfl rfl rfl (ex_move rfl rfl) ?_
 refine ox rfl rfl rfl rfl (ex_move rfl rfl) ?_
 refine od rfl rfl rfl rfl (does_callk rfl callok91 rfl (slices_Index_string.calls (x0 := x0) (x1 := x1) (HM.rd hp0) h4957)) ?_
 rintro _ w4958 ⟨rfl, hn⟩
 replace HM : Mem w [] w4958 [] := HM.call hn
 refine ox rfl rfl rfl rfl (ex_geq rfl rfl rfl) ?_
 refine ox rfl rfl rfl rfl (ex_assign rfl rfl) ?_
 refine ops_nil (at_then ?_)
 refine run_ret ?_
 have hR := Option.some.inj H
 subst hR
 exact at_ret1 rfl rfl ⟨_, rfl, rfl, HM⟩

def impl_isKey.f (k : Nat) (x0 : Int) : Option Bool := ((impl_within.f k x0 1 999).bind fun t5005 => some t5005)
theorem impl_isKey.calls {k : Nat} {x0 : Int}  {w : World}  {r : Bool} (H : impl_isKey.f k x0 = some r) :
  Calls Tryz.prog 64 ([.int .i64 x0] : List Value).toArray w (fun e w_ => ∃ v, e = .returned v ∧ v = (.bool r) ∧ Mem w [] w_ []) := by
 have HM := Mem.start w
 refine calls_run (N := 5) Tryz.func64 rfl rfl rfl rfl ?_
 unfold impl_isKey.f at H
 refine run_seq ?_
 refine run_region rfl ?_
 refine ox rfl rfl rfl rfl (ex_assign rfl rfl) ?_
 refine ops_nil (at_then (run_seq ?_))
 obtain ⟨t5005, h5006, H⟩ := bind_some H
 refine run_region rfl ?_
 refine ox rfl rfl rfl rfl (ex_move rfl rfl) ?_
 refine od rfl rfl rfl rfl (does_callk rfl callok65 rfl (impl_within.calls (x0 := x0) (x1 := 1) (x2 := 999) h5006)) ?_
 rintro _ w5007 ⟨rfl, hn⟩
 replace HM : Mem w [] w5007 [] := HM.call hn
 refine ox rfl rfl rfl rfl (ex_assign rfl rfl) ?_
 refine ops_nil (at_then ?_)
 refine run_ret ?_
 have hR := Option.some.inj H
 subst hR
 exact at_ret1 rfl rfl ⟨_, rfl, rfl, HM⟩

def slices_Index_impl_Sign.l0 (x0 : List Sign) (x1 : Sign) : Nat → Int → Option (Int ⊕ Unit)
 | 0, _ => none
 | k + 1, a5066 => (bif (decide (a5066 < (x0.length : Int))) then (chk (idxOk a5066 x0.length) (bif ((x1.fKey == ((gt x0 a5066).fKey)) && (x1.fId == ((gt x0 a5066).fId))) then some (.inl a5066) else slices_Index_impl_Sign.l0 x0 x1 k (wrap64 (a5066 + 1)))) else some (.inr ()))
theorem slices_Index_impl_Sign.l0_z (x0 : List Sign) (x1 : Sign) (a5066 : Int) : slices_Index_impl_Sign.l0 x0 x1 0 a5066 = none := rfl
theorem slices_Index_impl_Sign.l0_s (x0 : List Sign) (x1 : Sign) (k : Nat) (a5066 : Int) : slices_Index_impl_Sign.l0 x0 x1 (k + 1) a5066 = (bif (decide (a5066 < (x0.length : Int))) then (chk (idxOk a5066 x0.length) (bif ((x1.fKey == ((gt x0 a5066).fKey)) && (x1.fId == ((gt x0 a5066).fId))) then some (.inl a5066) else slices_Index_impl_Sign.l0 x0 x1 k (wrap64 (a5066 + 1)))) else some (.inr ())) := rfl
def slices_Index_impl_Sign.f (k : Nat) (x0 : List Sign) (x1 : Sign) : Option Int := ((slices_Index_impl_Sign.l0 x0 x1 k 0).bind fun o5060 => thn o5060 (fun r => some r) (fun _ => some (-1)))
theorem slices_Index_impl_Sign.calls {k : Nat} {x0 : List Sign} {x1 : Sign} {p0 : Value} {w : World} (hp0 : RdS kSign w p0 x0) {r : Int} (H : slices_Index_impl_Sign.f k x0 x1 = some r) :
  Calls Tryz.prog 92 ([p0, .agg #[(.int .i64 x1.fKey), (.int .i64 x1.fId)]] : List Value).toArray w (fun e w_ => ∃ v, e = .returned v ∧ v = (.int .i64 r) ∧ Mem w [] w_ []) := by
 have HM := Mem.start w
 refine calls_run (N := 19) Tryz.func92 rfl rfl rfl rfl ?_
 unfold slices_Index_impl_Sign.f at H
 refine run_seq ?_
 refine run_region rfl ?_
 refine od rfl rfl rfl rfl (does_box (cs := [.int .i64 x1.fKey, .int .i64 x1.fId]) rfl rfl rfl HM) ?_
 rintro _ w5046 ⟨b5043, rfl, HM⟩
 refine ox rfl rfl rfl rfl (ex_assign rfl rfl) ?_
 refine ops_nil (at_then ?_)
 obtain ⟨o5060, ho5061, H⟩ := bind_some H
 refine run_mid (fun ρ_ w_ => Sum.inr () = o5060 ∧ ρ_ = [] ∧ Mem w [] w_ []) ?_ ?_
 ·skip
  refine run_seq ?_
  refine run_region rfl ?_
  refine ox rfl rfl rfl rfl (ex_move rfl rfl) ?_
  refine ox rfl rfl rfl rfl (ex_len (d := kSign) (xs := x0) rfl rfl Tryz.underlying37 hp0) ?_
  refine ox rfl rfl rfl rfl (ex_move rfl rfl) ?_
  refine ops_nil (at_then ?_)
  refine run_block ?_
  refine run_loop (fun k_ ρ_ w_ => ∃ a5066 : Int, slices_Index_impl_Sign.l0 x0 x1 k_ a5066 = some o5060 ∧ ρ_ = [(0, p0), (3, .pointer (some ⟨b5043, 0, none⟩)), (7, .int .i64 (x0.length : Int)), (8, .int .i64 a5066)] ∧ Mem w [] w_ [box b5043 100 [.int .i64 x1.fKey, .int .i64 x1.fId]]) k (ρ1 := [(0, p0), (3, .pointer (some ⟨b5043, 0, none⟩)), (7, .int .i64 (x0.length : Int)), (8, .int .i64 0)]) ⟨_, ho5061, rfl, HM⟩ (Sub.cons rfl (Sub.cons rfl (Sub.cons rfl (Sub.cons rfl Sub.nil)))) ?_
  clear HM ho5061
  rintro k5071 _ w5072 ⟨a5066, ho5061, rfl, HM⟩
  obtain _ | k5071 := k5071
  ·exact nomatch ((slices_Index_impl_Sign.l0_z x0 x1 a5066).symm.trans ho5061)
  replace ho5061 := (slices_Index_impl_Sign.l0_s x0 x1 k5071 a5066).symm.trans ho5061
  refine run_seq ?_
  refine run_region rfl ?_
  refine ox rfl rfl rfl rfl (ex_lss rfl rfl rfl) ?_
  refine ops_nil (at_then (run_seq ?_))
  refine run_cond (b := (decide (a5066 < (x0.length : Int)))) rfl (fun hb5073 => ?_) (fun hb5073 => ?_)
  ·replace ho5061 := cond_t hb5073 ho5061
   refine run_skip ?_
   refine at_then ?_
   refine run_seq ?_
   refine run_block ?_
   refine run_seq ?_
   refine run_region rfl ?_
   refine ox rfl rfl rfl rfl (ex_move rfl rfl) ?_
   refine ox rfl rfl rfl rfl (ex_assign rfl rfl) ?_
   refine ops_nil (at_then (run_seq ?_))
   obtain ⟨e5074, ho5061⟩ := chk_some ho5061
   refine run_drawf (fun w_ => Mem w [] w_ [box b5043 100 [.int .i64 x1.fKey, .int .i64 x1.fId]]) [(0, true), (1, true), (2, true), (3, true), (4, true), (5, true)] mixed rfl rfl (by kernel_rfl) ?_
   replace HM := HM.grow (fr_drew _)
   have hS := Mem.suf (M := []) HM
   refine drwp_take rfl (guard_none rfl) rfl rfl (fun w_ hS_ => (ex_loadN (cs := [(.int .i64 x1.fKey), (.int .i64 x1.fId)]) rfl rfl Tryz.underlying100 rfl tsz100 rfl ((hS_.box_at 0 rfl).sub 0 2 rfl))) hS ?_
   refine dp rfl rfl rfl rfl (ex_move rfl rfl) hS ?_
   refine dp rfl rfl rfl rfl (ex_move rfl rfl) hS ?_
   have hc5075 : CellsAt _ (sb p0) (so p0 + (a5066).toNat * 2) [(.int .i64 ((gt x0 a5066).fKey)), (.int .i64 ((gt x0 a5066).fId))] := rd_plain hp0 e5074
   refine dp rfl rfl rfl rfl (ex_indexAddr (d := kSign) rfl rfl rfl Tryz.underlying37 tsz100 hp0 (idx_lo e5074) (idx_hi e5074)) hS ?_
   refine drwp_take rfl (guard_none rfl) rfl rfl (fun w_ hS_ => (ex_loadN (cs := [(.int .i64 ((gt x0 a5066).fKey)), (.int .i64 ((gt x0 a5066).fId))]) rfl rfl Tryz.underlying100 rfl tsz100 rfl ((hS_.at_ hc5075).sub 0 2 rfl))) hS ?_
   refine dp rfl rfl rfl rfl (ex_aeql rfl rfl rfl (by kernel_rfl) (eqs100 _ _ _ _ _)) hS ?_
   refine drwp_done ?_
   refine at_then ?_
   refine run_cond (b := ((x1.fKey == ((gt x0 a5066).fKey)) && (x1.fId == ((gt x0 a5066).fId)))) rfl (fun hb5076 => ?_) (fun hb5076 => ?_)
   ·replace ho5061 := cond_t hb5076 ho5061
    refine run_seq ?_
    refine run_region rfl ?_
    refine ox rfl rfl rfl rfl (ex_move rfl rfl) ?_
    refine ox rfl rfl rfl rfl (ex_assign rfl rfl) ?_
    refine ops_nil (at_then ?_)
    refine run_ret ?_
    refine at_block_ret ?_
    refine at_then_ret ?_
    refine at_then_ret ?_
    refine at_block_ret ?_
    refine at_then_ret ?_
    replace HM := (HM.front 0 rfl rfl).drop
    have hR := Option.some.inj ho5061
    subst hR
    have hT := thn_inl H
    have hR := Option.some.inj hT
    subst hR
    exact at_ret1 rfl rfl ⟨_, rfl, rfl, HM⟩
   ·replace ho5061 := cond_f hb5076 ho5061
    refine run_skip ?_
    refine at_block ?_
    refine at_then ?_
    refine run_region rfl ?_
    refine ox rfl rfl rfl rfl (ex_add rfl rfl rfl) ?_
    refine ox rfl rfl rfl rfl (ex_move rfl rfl) ?_
    refine ops_nil ?_
    exact at_again k5071 (ρ1 := [(0, p0), (3, .pointer (some ⟨b5043, 0, none⟩)), (7, .int .i64 (x0.length : Int)), (8, .int .i64 (wrap64 (a5066 + 1)))]) (Nat.lt_succ_self _) ⟨_, ho5061, rfl, HM⟩ (Sub.cons rfl (Sub.cons rfl (Sub.cons rfl (Sub.cons rfl Sub.nil))))
  ·replace ho5061 := cond_f hb5073 ho5061
   refine run_exit ?_
   refine at_then_exit ?_
   refine at_then_exit ?_
   refine at_block_exit ?_
   replace HM := (HM.front 0 rfl rfl).drop
   exact at_mid (ρ' := []) ⟨(Option.some.inj ho5061), rfl, HM⟩ Sub.nil
 ·rintro _ w5077 ⟨rfl, rfl, HM⟩
  replace H := (thn_inr H)
  refine run_seq ?_
  refine run_region rfl ?_
  refine ox rfl rfl rfl rfl (ex_assign rfl rfl) ?_
  refine ops_nil (at_then ?_)
  refine run_ret ?_
  have hR := Option.some.inj H
  subst hR
  exact at_ret1 rfl rfl ⟨_, rfl, rfl, HM⟩

def slices_Contains_impl_Sign.f (k : Nat) (x0 : List Sign) (x1 : Sign) : Option Bool := ((slices_Index_impl_Sign.f k x0 x1).bind fun t5084 => some (decide (0 ≤ t5084)))
theorem slices_Contains_impl_Sign.calls {k : Nat} {x0 : List Sign} {x1 : Sign} {p0 : Value} {w : World} (hp0 : RdS kSign w p0 x0) {r : Bool} (H : slices_Contains_impl_Sign.f k x0 x1 = some r) :
  Calls Tryz.prog 66 ([p0, .agg #[(.int .i64 x1.fKey), (.int .i64 x1.fId)]] : List Value).toArray w (fun e w_ => ∃ v, e = .returned v ∧ v = (.bool r) ∧ Mem w [] w_ []) := by
 have HM := Mem.start w
 refine calls_run (N := 9) Tryz.func66 rfl rfl rfl rfl ?_
 unfold slices_Contains_impl_Sign.f at H
 refine run_seq ?_
 refine run_region rfl ?_
 refine od rfl rfl rfl rfl (does_box (cs := [.int .i64 x1.fKey, .int .i64 x1.fId]) rfl rfl rfl HM) ?_
 rintro _ w5083 ⟨b5080, rfl, HM⟩
 refine ox rfl rfl rfl rfl (ex_assign rfl rfl) ?_
 refine ops_nil (at_then (run_seq ?_))
 obtain ⟨t5084, h5085, H⟩ := bind_some H
 refine run_region rfl ?_
 refine ox rfl rfl rfl rfl (ex_move rfl rfl) ?_
 refine ox rfl rfl rfl rfl (ex_loadN (cs := [(.int .i64 x1.fKey), (.int .i64 x1.fId)]) rfl rfl Tryz.underlying100 rfl tsz100 rfl ((HM.box_at 0 rfl).sub 0 2 rfl)) ?_
 refine od rfl rfl rfl rfl (does_callk rfl callok92 rfl (slices_Index_impl_Sign.calls (x0 := x0) (x1 := x1) (HM.rd hp0) h5085)) ?_
 rintro _ w5086 ⟨rfl, hn⟩
 replace HM : Mem w [] w5086 [box b5080 100 [.int .i64 x1.fKey, .int .i64 x1.fId]] := HM.call hn
 refine ox rfl rfl rfl rfl (ex_geq rfl rfl rfl) ?_
 refine ox rfl rfl rfl rfl (ex_assign rfl rfl) ?_
 refine ops_nil (at_then ?_)
 refine run_ret ?_
 replace HM := (HM.front 0 rfl rfl).drop
 have hR := Option.some.inj H
 subst hR
 exact at_ret1 rfl rfl ⟨_, rfl, rfl, HM⟩

def impl_LedgerFault.l0 (x0 : Ledger) : Nat → Int → Option (Int ⊕ Unit)
 | 0, _ => none
 | k + 1, a5215 => (bif (decide (a5215 < (x0.fTexts.length : Int))) then (chk (idxOk a5215 x0.fTexts.length) ((impl_isText.f k (gt x0.fTexts a5215)).bind fun t5240 => (bif !t5240 then some (.inl 2) else (chk (cutOk a5215 x0.fTexts.length) ((slices_Contains_string.f k (x0.fTexts.take (a5215).toNat) (gt x0.fTexts a5215)).bind fun t5248 => (bif t5248 then some (.inl 7) else impl_LedgerFault.l0 x0 k (wrap64 (a5215 + 1)))))))) else some (.inr ()))
theorem impl_LedgerFault.l0_z (x0 : Ledger) (a5215 : Int) : impl_LedgerFault.l0 x0 0 a5215 = none := rfl
theorem impl_LedgerFault.l0_s (x0 : Ledger) (k : Nat) (a5215 : Int) : impl_LedgerFault.l0 x0 (k + 1) a5215 = (bif (decide (a5215 < (x0.fTexts.length : Int))) then (chk (idxOk a5215 x0.fTexts.length) ((impl_isText.f k (gt x0.fTexts a5215)).bind fun t5240 => (bif !t5240 then some (.inl 2) else (chk (cutOk a5215 x0.fTexts.length) ((slices_Contains_string.f k (x0.fTexts.take (a5215).toNat) (gt x0.fTexts a5215)).bind fun t5248 => (bif t5248 then some (.inl 7) else impl_LedgerFault.l0 x0 k (wrap64 (a5215 + 1)))))))) else some (.inr ())) := rfl
def impl_LedgerFault.l1 (x0 : Ledger) : Nat → Int → Option (Int ⊕ Unit)
 | 0, _ => none
 | k + 1, a5348 => (bif (decide (a5348 < (x0.fSigns.length : Int))) then (chk (idxOk a5348 x0.fSigns.length) ((impl_isKey.f k ((gt x0.fSigns a5348).fKey)).bind fun t5387 => ((bif (!(!t5387)) then impl_within.f k ((gt x0.fSigns a5348).fId) 1 (x0.fTexts.length : Int) else some default).bind fun t5389 => (bif ((!t5387) || (!t5389)) then some (.inl 3) else (chk (cutOk a5348 x0.fSigns.length) ((slices_Contains_impl_Sign.f k (x0.fSigns.take (a5348).toNat) (gt x0.fSigns a5348)).bind fun t5401 => (bif t5401 then some (.inl 7) else impl_LedgerFault.l1 x0 k (wrap64 (a5348 + 1))))))))) else some (.inr ()))
theorem impl_LedgerFault.l1_z (x0 : Ledger) (a5348 : Int) : impl_LedgerFault.l1 x0 0 a5348 = none := rfl
theorem impl_LedgerFault.l1_s (x0 : Ledger) (k : Nat) (a5348 : Int) : impl_LedgerFault.l1 x0 (k + 1) a5348 = (bif (decide (a5348 < (x0.fSigns.length : Int))) then (chk (idxOk a5348 x0.fSigns.length) ((impl_isKey.f k ((gt x0.fSigns a5348).fKey)).bind fun t5387 => ((bif (!(!t5387)) then impl_within.f k ((gt x0.fSigns a5348).fId) 1 (x0.fTexts.length : Int) else some default).bind fun t5389 => (bif ((!t5387) || (!t5389)) then some (.inl 3) else (chk (cutOk a5348 x0.fSigns.length) ((slices_Contains_impl_Sign.f k (x0.fSigns.take (a5348).toNat) (gt x0.fSigns a5348)).bind fun t5401 => (bif t5401 then some (.inl 7) else impl_LedgerFault.l1 x0 k (wrap64 (a5348 + 1))))))))) else some (.inr ())) := rfl
def impl_LedgerFault.f (k : Nat) (x0 : Ledger) : Option Int := (bif ((decide (60 < (x0.fTexts.length : Int))) || (decide (120 < (x0.fSigns.length : Int)))) then some 2 else ((impl_LedgerFault.l0 x0 k 0).bind fun o5197 => thn o5197 (fun r => some r) (fun _ => ((impl_LedgerFault.l1 x0 k 0).bind fun o5323 => thn o5323 (fun r => some r) (fun _ => some 0)))))
theorem impl_LedgerFault.calls {k : Nat} {x0 : Ledger} {p0_0 : Value} {p0_1 : Value} {w : World} (hp0_0 : RdS kStr w p0_0 x0.fTexts) (hp0_1 : RdS kSign w p0_1 x0.fSigns) {r : Int} (H : impl_LedgerFault.f k x0 = some r) :
  Calls Tryz.prog 33 ([.agg #[p0_0, p0_1]] : List Value).toArray w (fun e w_ => ∃ v, e = .returned v ∧ v = (.int .i64 r) ∧ Mem w [] w_ []) := by
 have HM := Mem.start w
 refine calls_run (N := 63) Tryz.func33 rfl rfl rfl rfl ?_
 unfold impl_LedgerFault.f at H
 refine run_seq ?_
 refine run_region rfl ?_
 refine od rfl rfl rfl rfl (does_box (cs := [p0_0, p0_1]) rfl rfl rfl HM) ?_
 rintro _ w5142 ⟨b5139, rfl, HM⟩
 refine ox rfl rfl rfl rfl (ex_assign rfl rfl) ?_
 refine ops_nil (at_then (run_seq ?_))
 refine run_seq ?_
 refine run_meet (fun ρ_ w_ => ρ_ = [(1, .pointer (some ⟨b5139, 0, none⟩)), (16, .bool ((decide (60 < (x0.fTexts.length : Int))) || (decide (120 < (x0.fSigns.length : Int)))))] ∧ Mem w [] w_ [box b5139 39 [p0_0, p0_1]]) ?_ ?_
 ·skip
  refine run_region rfl ?_
  refine ox rfl rfl rfl rfl (ex_fieldAddr (off' := 0) rfl rfl Tryz.underlying39 rfl tsz22 rfl) ?_
  refine ox rfl rfl rfl rfl (ex_load1 rfl rfl Tryz.underlying22 rfl ((HM.box_at 0 rfl) 0 _ rfl)) ?_
  refine ox rfl rfl rfl rfl (ex_len (d := kStr) (xs := x0.fTexts) rfl rfl Tryz.underlying22 hp0_0) ?_
  refine ox rfl rfl rfl rfl (ex_gtr rfl rfl rfl) ?_
  refine ox rfl rfl rfl rfl (ex_move rfl rfl) ?_
  refine bool_cases (decide (60 < (x0.fTexts.length : Int))) (fun hg5144 => ?_) (fun hg5144 => ?_)
  ·skip
   refine ops_off rfl (guard_off rfl rfl rfl hg5144) rfl rfl ?_
   refine ops_off rfl (guard_off rfl rfl rfl hg5144) rfl rfl ?_
   refine ops_off rfl (guard_off rfl rfl rfl hg5144) rfl rfl ?_
   refine ops_off rfl (guard_off rfl rfl rfl hg5144) rfl rfl ?_
   have hg5145 : ((decide (60 < (x0.fTexts.length : Int))) || (decide (120 < (x0.fSigns.length : Int)))) = true := by simp only [hg5144, Bool.and_true, Bool.true_and, Bool.and_false, Bool.false_and, Bool.or_true, Bool.true_or, Bool.or_false, Bool.false_or, Bool.not_true, Bool.not_false, Bool.not_not]
   refine ops_ex (v := .bool ((decide (60 < (x0.fTexts.length : Int))) || (decide (120 < (x0.fSigns.length : Int))))) rfl (guard_none rfl) rfl rfl (ex_por_t rfl rfl hg5144) ?_
   refine ops_nil ?_
   exact at_meet [(1, .pointer (some ⟨b5139, 0, none⟩)), (16, .bool ((decide (60 < (x0.fTexts.length : Int))) || (decide (120 < (x0.fSigns.length : Int)))))] ⟨rfl, HM⟩ (Sub.cons rfl (Sub.cons rfl Sub.nil))
  ·skip
   refine ops_ex rfl (guard_on rfl rfl rfl hg5144) rfl rfl (ex_fieldAddr (off' := 1) rfl rfl Tryz.underlying39 rfl tsz37 rfl) ?_
   refine ops_ex rfl (guard_on rfl rfl rfl hg5144) rfl rfl (ex_load1 rfl rfl Tryz.underlying37 rfl ((HM.box_at 0 rfl) 1 _ rfl)) ?_
   refine ops_ex rfl (guard_on rfl rfl rfl hg5144) rfl rfl (ex_len (d := kSign) (xs := x0.fSigns) rfl rfl Tryz.underlying37 hp0_1) ?_
   refine ops_ex rfl (guard_on rfl rfl rfl hg5144) rfl rfl (ex_gtr rfl rfl rfl) ?_
   refine ops_ex (v := .bool ((decide (60 < (x0.fTexts.length : Int))) || (decide (120 < (x0.fSigns.length : Int))))) rfl (guard_none rfl) rfl rfl (ex_por_f rfl rfl hg5144 rfl) ?_
   refine ops_nil ?_
   exact at_meet [(1, .pointer (some ⟨b5139, 0, none⟩)), (16, .bool ((decide (60 < (x0.fTexts.length : Int))) || (decide (120 < (x0.fSigns.length : Int)))))] ⟨rfl, HM⟩ (Sub.cons rfl (Sub.cons rfl Sub.nil))
 ·rintro _ w5146 ⟨rfl, HM⟩
  refine at_then ?_
  refine run_cond (b := ((decide (60 < (x0.fTexts.length : Int))) || (decide (120 < (x0.fSigns.length : Int))))) rfl (fun hb5147 => ?_) (fun hb5147 => ?_)
  ·replace H := cond_t hb5147 H
   refine run_seq ?_
   refine run_region rfl ?_
   refine ox rfl rfl rfl rfl (ex_assign rfl rfl) ?_
   refine ops_nil (at_then ?_)
   refine run_ret ?_
   refine at_then_ret ?_
   replace HM := (HM.front 0 rfl rfl).drop
   have hR := Option.some.inj H
   subst hR
   exact at_ret1 rfl rfl ⟨_, rfl, rfl, HM⟩
  ·replace H := cond_f hb5147 H
   refine run_skip ?_
   refine at_then ?_
   obtain ⟨o5197, ho5198, H⟩ := bind_some H
   refine run_mid (fun ρ_ w_ => Sum.inr () = o5197 ∧ ρ_ = [(1, .pointer (some ⟨b5139, 0, none⟩))] ∧ Mem w [] w_ [box b5139 39 [p0_0, p0_1]]) ?_ ?_
   ·skip
    refine run_seq ?_
    refine run_region rfl ?_
    refine ox rfl rfl rfl rfl (ex_fieldAddr (off' := 0) rfl rfl Tryz.underlying39 rfl tsz22 rfl) ?_
    refine ox rfl rfl rfl rfl (ex_load1 rfl rfl Tryz.underlying22 rfl ((HM.box_at 0 rfl) 0 _ rfl)) ?_
    refine ox rfl rfl rfl rfl (ex_len (d := kStr) (xs := x0.fTexts) rfl rfl Tryz.underlying22 hp0_0) ?_
    refine ox rfl rfl rfl rfl (ex_move rfl rfl) ?_
    refine ops_nil (at_then ?_)
    refine run_block ?_
    refine run_loop (fun k_ ρ_ w_ => ∃ a5215 : Int, impl_LedgerFault.l0 x0 k_ a5215 = some o5197 ∧ ρ_ = [(1, .pointer (some ⟨b5139, 0, none⟩)), (18, p0_0), (19, .int .i64 (x0.fTexts.length : Int)), (20, .int .i64 a5215)] ∧ Mem w [] w_ [box b5139 39 [p0_0, p0_1]]) k (ρ1 := [(1, .pointer (some ⟨b5139, 0, none⟩)), (18, p0_0), (19, .int .i64 (x0.fTexts.length : Int)), (20, .int .i64 0)]) ⟨_, ho5198, rfl, HM⟩ (Sub.cons rfl (Sub.cons rfl (Sub.cons rfl (Sub.cons rfl Sub.nil)))) ?_
    clear HM ho5198
    rintro k5232 _ w5233 ⟨a5215, ho5198, rfl, HM⟩
    obtain _ | k5232 := k5232
    ·exact nomatch ((impl_LedgerFault.l0_z x0 a5215).symm.trans ho5198)
    replace ho5198 := (impl_LedgerFault.l0_s x0 k5232 a5215).symm.trans ho5198
    refine run_seq ?_
    refine run_region rfl ?_
    refine ox rfl rfl rfl rfl (ex_lss rfl rfl rfl) ?_
    refine ops_nil (at_then (run_seq ?_))
    refine run_cond (b := (decide (a5215 < (x0.fTexts.length : Int)))) rfl (fun hb5234 => ?_) (fun hb5234 => ?_)
    ·replace ho5198 := cond_t hb5234 ho5198
     refine run_skip ?_
     refine at_then ?_
     refine run_seq ?_
     refine run_block ?_
     refine run_seq ?_
     obtain ⟨e5235, ho5198⟩ := chk_some ho5198
     refine run_region rfl ?_
     refine ox rfl rfl rfl rfl (ex_move rfl rfl) ?_
     have hc5236 : CellsAt _ (sb p0_0) (so p0_0 + (a5215).toNat * 1) [(.string (gt x0.fTexts a5215))] := rd_plain hp0_0 e5235
     refine ox rfl rfl rfl rfl (ex_indexAddr (d := kStr) rfl rfl rfl Tryz.underlying22 tsz9 hp0_0 (idx_lo e5235) (idx_hi e5235)) ?_
     refine ox rfl rfl rfl rfl (ex_load1 rfl rfl Tryz.underlying9 rfl ((HM.at_ hc5236) 0 _ rfl)) ?_
     refine ox rfl rfl rfl rfl (ex_assign rfl rfl) ?_
     refine ox rfl rfl rfl rfl (ex_assign rfl rfl) ?_
     refine ops_nil (at_then (run_seq ?_))
     refine run_seq ?_
     obtain ⟨t5240, h5241, ho5198⟩ := bind_some ho5198
     refine run_region rfl ?_
     refine ox rfl rfl rfl rfl (ex_move rfl rfl) ?_
     refine od rfl rfl rfl rfl (does_callk rfl callok62 rfl (impl_isText.calls (x0 := (gt x0.fTexts a5215)) h5241)) ?_
     rintro _ w5242 ⟨rfl, hn⟩
     replace HM : Mem w [] w5242 [box b5139 39 [p0_0, p0_1]] := HM.call hn
     refine ox rfl rfl rfl rfl (ex_not rfl rfl) ?_
     refine ops_nil (at_then ?_)
     refine run_cond (b := !t5240) rfl (fun hb5243 => ?_) (fun hb5243 => ?_)
     ·replace ho5198 := cond_t hb5243 ho5198
      refine run_seq ?_
      refine run_region rfl ?_
      refine ox rfl rfl rfl rfl (ex_assign rfl rfl) ?_
      refine ops_nil (at_then ?_)
      refine run_ret ?_
      refine at_then_ret ?_
      refine at_block_ret ?_
      refine at_then_ret ?_
      refine at_then_ret ?_
      refine at_block_ret ?_
      refine at_then_ret ?_
      replace HM := (HM.front 0 rfl rfl).drop
      have hR := Option.some.inj ho5198
      subst hR
      have hT := thn_inl H
      have hR := Option.some.inj hT
      subst hR
      exact at_ret1 rfl rfl ⟨_, rfl, rfl, HM⟩
     ·replace ho5198 := cond_f hb5243 ho5198
      refine run_skip ?_
      refine at_then ?_
      refine run_seq ?_
      obtain ⟨e5244, ho5198⟩ := chk_some ho5198
      obtain ⟨t5248, h5249, ho5198⟩ := bind_some ho5198
      refine run_region rfl ?_
      refine ox rfl rfl rfl rfl (ex_fieldAddr (off' := 0) rfl rfl Tryz.underlying39 rfl tsz22 rfl) ?_
      refine ox rfl rfl rfl rfl (ex_load1 rfl rfl Tryz.underlying22 rfl ((HM.box_at 0 rfl) 0 _ rfl)) ?_
      refine ox rfl rfl rfl rfl (ex_move rfl rfl) ?_
      refine ops_exE rfl (guard_none rfl) rfl rfl (ex_cutH kStr rfl rfl rfl Tryz.underlying22 tsz9 hp0_0 e5244) ?_
      rintro u5245 hr5247
      refine ox rfl rfl rfl rfl (ex_move rfl rfl) ?_
      refine od rfl rfl rfl rfl (does_callk rfl callok63 rfl (slices_Contains_string.calls (x0 := x0.fTexts.take (a5215).toNat) (x1 := (gt x0.fTexts a5215)) (HM.rd hr5247) h5249)) ?_
      rintro _ w5250 ⟨rfl, hn⟩
      replace HM : Mem w [] w5250 [box b5139 39 [p0_0, p0_1]] := HM.call hn
      refine ops_nil (at_then ?_)
      refine run_cond (b := t5248) rfl (fun hb5251 => ?_) (fun hb5251 => ?_)
      ·replace ho5198 := cond_t hb5251 ho5198
       refine run_seq ?_
       refine run_region rfl ?_
       refine ox rfl rfl rfl rfl (ex_assign rfl rfl) ?_
       refine ops_nil (at_then ?_)
       refine run_ret ?_
       refine at_block_ret ?_
       refine at_then_ret ?_
       refine at_then_ret ?_
       refine at_block_ret ?_
       refine at_then_ret ?_
       replace HM := (HM.front 0 rfl rfl).drop
       have hR := Option.some.inj ho5198
       subst hR
       have hT := thn_inl H
       have hR := Option.some.inj hT
       subst hR
       exact at_ret1 rfl rfl ⟨_, rfl, rfl, HM⟩
      ·replace ho5198 := cond_f hb5251 ho5198
       refine run_skip ?_
       refine at_block ?_
       refine at_then ?_
       refine run_region rfl ?_
       refine ox rfl rfl rfl rfl (ex_add rfl rfl rfl) ?_
       refine ox rfl rfl rfl rfl (ex_move rfl rfl) ?_
       refine ops_nil ?_
       exact at_again k5232 (ρ1 := [(1, .pointer (some ⟨b5139, 0, none⟩)), (18, p0_0), (19, .int .i64 (x0.fTexts.length : Int)), (20, .int .i64 (wrap64 (a5215 + 1)))]) (Nat.lt_succ_self _) ⟨_, ho5198, rfl, HM⟩ (Sub.cons rfl (Sub.cons rfl (Sub.cons rfl (Sub.cons rfl Sub.nil))))
    ·replace ho5198 := cond_f hb5234 ho5198
     refine run_exit ?_
     refine at_then_exit ?_
     refine at_then_exit ?_
     refine at_block_exit ?_
     exact at_mid (ρ' := [(1, .pointer (some ⟨b5139, 0, none⟩))]) ⟨(Option.some.inj ho5198), rfl, HM⟩ (Sub.cons rfl Sub.nil)
   ·rintro _ w5252 ⟨rfl, rfl, HM⟩
    replace H := (thn_inr H)
    obtain ⟨o5323, ho5324, H⟩ := bind_some H
    refine run_mid (fun ρ_ w_ => Sum.inr () = o5323 ∧ ρ_ = [] ∧ Mem w [] w_ []) ?_ ?_
    ·skip
     refine run_seq ?_
     refine run_region rfl ?_
     refine ox rfl rfl rfl rfl (ex_fieldAddr (off' := 1) rfl rfl Tryz.underlying39 rfl tsz37 rfl) ?_
     refine ox rfl rfl rfl rfl (ex_load1 rfl rfl Tryz.underlying37 rfl ((HM.box_at 0 rfl) 1 _ rfl)) ?_
     refine ox rfl rfl rfl rfl (ex_len (d := kSign) (xs := x0.fSigns) rfl rfl Tryz.underlying37 hp0_1) ?_
     refine ox rfl rfl rfl rfl (ex_move rfl rfl) ?_
     refine ops_nil (at_then ?_)
     refine run_block ?_
     refine run_loop (fun k_ ρ_ w_ => ∃ a5348 : Int, impl_LedgerFault.l1 x0 k_ a5348 = some o5323 ∧ ρ_ = [(1, .pointer (some ⟨b5139, 0, none⟩)), (36, p0_1), (37, .int .i64 (x0.fSigns.length : Int)), (38, .int .i64 a5348)] ∧ Mem w [] w_ [box b5139 39 [p0_0, p0_1]]) k (ρ1 := [(1, .pointer (some ⟨b5139, 0, none⟩)), (36, p0_1), (37, .int .i64 (x0.fSigns.length : Int)), (38, .int .i64 0)]) ⟨_, ho5324, rfl, HM⟩ (Sub.cons rfl (Sub.cons rfl (Sub.cons rfl (Sub.cons rfl Sub.nil)))) ?_
     clear HM ho5324
     rintro k5372 _ w5373 ⟨a5348, ho5324, rfl, HM⟩
     obtain _ | k5372 := k5372
     ·exact nomatch ((impl_LedgerFault.l1_z x0 a5348).symm.trans ho5324)
     replace ho5324 := (impl_LedgerFault.l1_s x0 k5372 a5348).symm.trans ho5324
     refine run_seq ?_
     refine run_region rfl ?_
     refine ox rfl rfl rfl rfl (ex_lss rfl rfl rfl) ?_
     refine ops_nil (at_then (run_seq ?_))
     refine run_cond (b := (decide (a5348 < (x0.fSigns.length : Int)))) rfl (fun hb5374 => ?_) (fun hb5374 => ?_)
     ·replace ho5324 := cond_t hb5374 ho5324
      refine run_skip ?_
      refine at_then ?_
      refine run_seq ?_
      refine run_block ?_
      refine run_seq ?_
      obtain ⟨e5375, ho5324⟩ := chk_some ho5324
      refine run_region rfl ?_
      refine ox rfl rfl rfl rfl (ex_move rfl rfl) ?_
      have hc5376 : CellsAt _ (sb p0_1) (so p0_1 + (a5348).toNat * 2) [(.int .i64 ((gt x0.fSigns a5348).fKey)), (.int .i64 ((gt x0.fSigns a5348).fId))] := rd_plain hp0_1 e5375
      refine ox rfl rfl rfl rfl (ex_indexAddr (d := kSign) rfl rfl rfl Tryz.underlying37 tsz100 hp0_1 (idx_lo e5375) (idx_hi e5375)) ?_
      refine ox rfl rfl rfl rfl (ex_loadN (cs := [(.int .i64 ((gt x0.fSigns a5348).fKey)), (.int .i64 ((gt x0.fSigns a5348).fId))]) rfl rfl Tryz.underlying100 rfl tsz100 rfl ((HM.at_ hc5376).sub 0 2 rfl)) ?_
      refine od rfl rfl rfl rfl (does_alloc (cs := [.int .i64 0, .int .i64 0]) rfl tz100 rfl HM) ?_
      rintro _ w5380 ⟨b5377, rfl, HM⟩
      refine ox rfl rfl rfl rfl (ex_assign rfl rfl) ?_
      refine odS rfl rfl rfl (does_store (vs := [.int .i64 ((gt x0.fSigns a5348).fKey), .int .i64 ((gt x0.fSigns a5348).fId)]) (cs' := [.int .i64 ((gt x0.fSigns a5348).fKey), .int .i64 ((gt x0.fSigns a5348).fId)]) rfl rfl rfl rfl tsz100 (Ones.int (Ones.int Ones.nil)) rfl rfl HM) ?_
      rintro w5381 HM
      refine ops_nil (at_then (run_seq ?_))
      refine run_seq ?_
      obtain ⟨t5387, h5388, ho5324⟩ := bind_some ho5324
      obtain ⟨t5389, h5390, ho5324⟩ := bind_some ho5324
      refine run_meet (fun ρ_ w_ => ρ_ = [(1, .pointer (some ⟨b5139, 0, none⟩)), (36, p0_1), (37, .int .i64 (x0.fSigns.length : Int)), (38, .int .i64 a5348), (6, .pointer (some ⟨b5377, 0, none⟩)), (5, .int .i64 a5348), (55, .bool ((!t5387) || (!t5389)))] ∧ Mem w [] w_ [box b5139 39 [p0_0, p0_1], box b5377 100 [.int .i64 ((gt x0.fSigns a5348).fKey), .int .i64 ((gt x0.fSigns a5348).fId)]]) ?_ ?_
      ·skip
       refine run_region rfl ?_
       refine ox rfl rfl rfl rfl (ex_fieldAddr (off' := 0) rfl rfl Tryz.underlying100 rfl tsz2 rfl) ?_
       refine ox rfl rfl rfl rfl (ex_load1 rfl rfl Tryz.underlying2 rfl ((HM.box_at 0 rfl) 0 _ rfl)) ?_
       refine od rfl rfl rfl rfl (does_callk rfl callok64 rfl (impl_isKey.calls (x0 := (gt x0.fSigns a5348).fKey) h5388)) ?_
       rintro _ w5391 ⟨rfl, hn⟩
       replace HM : Mem w [] w5391 [box b5377 100 [.int .i64 ((gt x0.fSigns a5348).fKey), .int .i64 ((gt x0.fSigns a5348).fId)], box b5139 39 [p0_0, p0_1]] := HM.call hn
       refine ox rfl rfl rfl rfl (ex_not rfl rfl) ?_
       refine ox rfl rfl rfl rfl (ex_move rfl rfl) ?_
       refine bool_cases (!t5387) (fun hg5392 => ?_) (fun hg5392 => ?_)
       ·skip
        refine ops_off rfl (guard_off rfl rfl rfl hg5392) rfl rfl ?_
        refine ops_off rfl (guard_off rfl rfl rfl hg5392) rfl rfl ?_
        refine ops_off rfl (guard_off rfl rfl rfl hg5392) rfl rfl ?_
        refine ops_off rfl (guard_off rfl rfl rfl hg5392) rfl rfl ?_
        refine ops_off rfl (guard_off rfl rfl rfl hg5392) rfl rfl ?_
        refine ops_off rfl (guard_off rfl rfl rfl hg5392) rfl rfl ?_
        refine ops_off rfl (guard_off rfl rfl rfl hg5392) rfl rfl ?_
        have hg5393 : ((!t5387) || (!t5389)) = true := by simp only [hg5392, Bool.and_true, Bool.true_and, Bool.and_false, Bool.false_and, Bool.or_true, Bool.true_or, Bool.or_false, Bool.false_or, Bool.not_true, Bool.not_false, Bool.not_not]
        refine ops_ex (v := .bool ((!t5387) || (!t5389))) rfl (guard_none rfl) rfl rfl (ex_por_t rfl rfl hg5392) ?_
        refine ops_nil ?_
        replace HM := HM.front 1 rfl rfl
        exact at_meet [(1, .pointer (some ⟨b5139, 0, none⟩)), (36, p0_1), (37, .int .i64 (x0.fSigns.length : Int)), (38, .int .i64 a5348), (6, .pointer (some ⟨b5377, 0, none⟩)), (5, .int .i64 a5348), (55, .bool ((!t5387) || (!t5389)))] ⟨rfl, HM⟩ (Sub.cons rfl (Sub.cons rfl (Sub.cons rfl (Sub.cons rfl (Sub.cons rfl (Sub.cons rfl (Sub.cons rfl Sub.nil)))))))
       ·skip
        refine ops_ex rfl (guard_on rfl rfl rfl hg5392) rfl rfl (ex_fieldAddr (off' := 1) rfl rfl Tryz.underlying100 rfl tsz2 rfl) ?_
        refine ops_ex rfl (guard_on rfl rfl rfl hg5392) rfl rfl (ex_load1 rfl rfl Tryz.underlying2 rfl ((HM.box_at 0 rfl) 1 _ rfl)) ?_
        refine ops_ex rfl (guard_on rfl rfl rfl hg5392) rfl rfl (ex_fieldAddr (off' := 0) rfl rfl Tryz.underlying39 rfl tsz22 rfl) ?_
        refine ops_ex rfl (guard_on rfl rfl rfl hg5392) rfl rfl (ex_load1 rfl rfl Tryz.underlying22 rfl ((HM.box_at 1 rfl) 0 _ rfl)) ?_
        refine ops_ex rfl (guard_on rfl rfl rfl hg5392) rfl rfl (ex_len (d := kStr) (xs := x0.fTexts) rfl rfl Tryz.underlying22 hp0_0) ?_
        refine ops_does rfl (guard_on rfl rfl rfl hg5392) rfl rfl (does_callk rfl callok65 rfl (impl_within.calls (x0 := (gt x0.fSigns a5348).fId) (x1 := 1) (x2 := (x0.fTexts.length : Int)) (cond_t (not_mk hg5392) h5390))) ?_
        rintro _ w5394 ⟨rfl, hn⟩
        replace HM : Mem w [] w5394 [box b5377 100 [.int .i64 ((gt x0.fSigns a5348).fKey), .int .i64 ((gt x0.fSigns a5348).fId)], box b5139 39 [p0_0, p0_1]] := HM.call hn
        refine ops_ex rfl (guard_on rfl rfl rfl hg5392) rfl rfl (ex_not rfl rfl) ?_
        refine ops_ex (v := .bool ((!t5387) || (!t5389))) rfl (guard_none rfl) rfl rfl (ex_por_f rfl rfl hg5392 rfl) ?_
        refine ops_nil ?_
        replace HM := HM.front 1 rfl rfl
        exact at_meet [(1, .pointer (some ⟨b5139, 0, none⟩)), (36, p0_1), (37, .int .i64 (x0.fSigns.length : Int)), (38, .int .i64 a5348), (6, .pointer (some ⟨b5377, 0, none⟩)), (5, .int .i64 a5348), (55, .bool ((!t5387) || (!t5389)))] ⟨rfl, HM⟩ (Sub.cons rfl (Sub.cons rfl (Sub.cons rfl (Sub.cons rfl (Sub.cons rfl (Sub.cons rfl (Sub.cons rfl Sub.nil)))))))
      ·rintro _ w5395 ⟨rfl, HM⟩
       refine at_then ?_
       refine run_cond (b := ((!t5387) || (!t5389))) rfl (fun hb5396 => ?_) (fun hb5396 => ?_)
       ·replace ho5324 := cond_t hb5396 ho5324
        refine run_seq ?_
        refine run_region rfl ?_
        refine ox rfl rfl rfl rfl (ex_assign rfl rfl) ?_
        refine ops_nil (at_then ?_)
        refine run_ret ?_
        refine at_then_ret ?_
        refine at_block_ret ?_
        refine at_then_ret ?_
        refine at_then_ret ?_
        refine at_block_ret ?_
        refine at_then_ret ?_
        replace HM := (HM.front 0 rfl rfl).drop
        replace HM := (HM.front 0 rfl rfl).drop
        have hR := Option.some.inj ho5324
        subst hR
        have hT := thn_inl H
        have hR := Option.some.inj hT
        subst hR
        exact at_ret1 rfl rfl ⟨_, rfl, rfl, HM⟩
       ·replace ho5324 := cond_f hb5396 ho5324
        refine run_skip ?_
        refine at_then ?_
        refine run_seq ?_
        obtain ⟨e5397, ho5324⟩ := chk_some ho5324
        obtain ⟨t5401, h5402, ho5324⟩ := bind_some ho5324
        refine run_drawf (fun w_ => Mem w [] w_ [box b5139 39 [p0_0, p0_1], box b5377 100 [.int .i64 ((gt x0.fSigns a5348).fKey), .int .i64 ((gt x0.fSigns a5348).fId)]]) [(0, true), (1, true), (2, true), (3, true), (4, true), (5, false)] mixed rfl rfl (by kernel_rfl) ?_
        replace HM := HM.grow (fr_drew _)
        have hS := Mem.suf (M := []) HM
        refine dp rfl rfl rfl rfl (ex_fieldAddr (off' := 1) rfl rfl Tryz.underlying39 rfl tsz37 rfl) hS ?_
        refine drwp_take rfl (guard_none rfl) rfl rfl (fun w_ hS_ => (ex_load1 rfl rfl Tryz.underlying37 rfl ((hS_.box_at 0 rfl) 1 _ rfl))) hS ?_
        refine dp rfl rfl rfl rfl (ex_move rfl rfl) hS ?_
        refine drwp_takeE rfl (guard_none rfl) rfl rfl (ex_cutH kSign rfl rfl rfl Tryz.underlying37 tsz100 hp0_1 e5397) hS ?_
        rintro u5398 hr5400
        refine drwp_take rfl (guard_none rfl) rfl rfl (fun w_ hS_ => (ex_loadN (cs := [(.int .i64 ((gt x0.fSigns a5348).fKey)), (.int .i64 ((gt x0.fSigns a5348).fId))]) rfl rfl Tryz.underlying100 rfl tsz100 rfl ((hS_.box_at 1 rfl).sub 0 2 rfl))) hS ?_
        refine drwp_one rfl (guard_none rfl) rfl rfl (does_callk rfl callok66 rfl (slices_Contains_impl_Sign.calls (x0 := x0.fSigns.take (a5348).toNat) (x1 := (gt x0.fSigns a5348)) (HM.rd hr5400) h5402)) ?_
        rintro _ w5403 ⟨rfl, hn⟩
        replace HM : Mem w [] w5403 [box b5139 39 [p0_0, p0_1], box b5377 100 [.int .i64 ((gt x0.fSigns a5348).fKey), .int .i64 ((gt x0.fSigns a5348).fId)]] := HM.call hn
        have hS := Mem.suf (M := []) HM
        refine ⟨hS, ?_⟩
        refine drwp_done ?_
        refine at_then ?_
        refine run_cond (b := t5401) rfl (fun hb5404 => ?_) (fun hb5404 => ?_)
        ·replace ho5324 := cond_t hb5404 ho5324
         refine run_seq ?_
         refine run_region rfl ?_
         refine ox rfl rfl rfl rfl (ex_assign rfl rfl) ?_
         refine ops_nil (at_then ?_)
         refine run_ret ?_
         refine at_block_ret ?_
         refine at_then_ret ?_
         refine at_then_ret ?_
         refine at_block_ret ?_
         refine at_then_ret ?_
         replace HM := (HM.front 0 rfl rfl).drop
         replace HM := (HM.front 0 rfl rfl).drop
         have hR := Option.some.inj ho5324
         subst hR
         have hT := thn_inl H
         have hR := Option.some.inj hT
         subst hR
         exact at_ret1 rfl rfl ⟨_, rfl, rfl, HM⟩
        ·replace ho5324 := cond_f hb5404 ho5324
         refine run_skip ?_
         refine at_block ?_
         refine at_then ?_
         refine run_region rfl ?_
         refine ox rfl rfl rfl rfl (ex_add rfl rfl rfl) ?_
         refine ox rfl rfl rfl rfl (ex_move rfl rfl) ?_
         refine ops_nil ?_
         replace HM := (HM.front 1 rfl rfl).drop
         exact at_again k5372 (ρ1 := [(1, .pointer (some ⟨b5139, 0, none⟩)), (36, p0_1), (37, .int .i64 (x0.fSigns.length : Int)), (38, .int .i64 (wrap64 (a5348 + 1)))]) (Nat.lt_succ_self _) ⟨_, ho5324, rfl, HM⟩ (Sub.cons rfl (Sub.cons rfl (Sub.cons rfl (Sub.cons rfl Sub.nil))))
     ·replace ho5324 := cond_f hb5374 ho5324
      refine run_exit ?_
      refine at_then_exit ?_
      refine at_then_exit ?_
      refine at_block_exit ?_
      replace HM := (HM.front 0 rfl rfl).drop
      exact at_mid (ρ' := []) ⟨(Option.some.inj ho5324), rfl, HM⟩ Sub.nil
    ·rintro _ w5405 ⟨rfl, rfl, HM⟩
     replace H := (thn_inr H)
     refine run_seq ?_
     refine run_region rfl ?_
     refine ox rfl rfl rfl rfl (ex_assign rfl rfl) ?_
     refine ops_nil (at_then ?_)
     refine run_ret ?_
     have hR := Option.some.inj H
     subst hR
     exact at_ret1 rfl rfl ⟨_, rfl, rfl, HM⟩
end Go.Proofs.YtpfaihnmonfkhaaGreatDoor.Zk
