/- What functions of the program compute, each as a plain function, and that they do. Conditions: as each theorem states them. -/
import Derived.Test.YtcpacdbdehphkaaDoorFnBlocksZkF0
namespace Go.Proofs.YtcpacdbdehphkaaDoor.Zk
open Go Go.RowKit Go.IntWalk Go.Proofs
set_option linter.unusedVariables false
set_option linter.unusedSimpArgs false
set_option maxRecDepth 100000
set_option maxHeartbeats 4000000
def spec_l1Pick.f (k : Nat) (x0 : l1Src) (x1 : List Int) : Option (Int × Int) := ((spec_l1Next.f k x0 (x1.length : Int)).bind fun t720 => (chk (idxOk t720.1 x1.length) (some ((gt x1 t720.1), t720.2))))
theorem spec_l1Pick.calls {k : Nat} {x0 : l1Src} {x1 : List Int} {b0 : Nat} {p0_0 : Value} {p1 : Value} {w wo : World} {X : List Nat} (hwo : Olds wo w X) (hX : Hold w [box b0 130 [p0_0, .int .i64 x0.fAt]] X) (hXn : X.Nodup) (hXl : ∀ b ∈ X, b < w.heap.size) (hp0_0 : RdS kU8 wo p0_0 x0.fCode) (hp1 : RdS kInt wo p1 x1) {r : Int × Int} (H : spec_l1Pick.f k x0 x1 = some r) :
    Calls Tryd.prog 48 ([.pointer (some ⟨b0, 0, none⟩), p1] : List Value).toArray w (fun e w_ => ∃ v, e = .returned v ∧ v = (.int .i64 r.1) ∧ Mem w X w_ [box b0 130 [p0_0, .int .i64 r.2]]) := by
  have HM := Mem.startX hX hXn hXl
  refine calls_run (N := 12) Tryd.func48 rfl rfl rfl rfl ?_
  unfold spec_l1Pick.f at H
  refine run_seq ?_
  refine run_region rfl ?_
  refine ops_ex rfl (guard_none rfl) rfl rfl (ex_assign rfl rfl) ?_
  refine ops_nil ?_
  refine at_then ?_
  refine run_seq ?_
  obtain ⟨t720, h721, H⟩ := bind_some H
  obtain ⟨e728, H⟩ := chk_some H
  refine run_region rfl ?_
  refine ops_ex rfl (guard_none rfl) rfl rfl (ex_move rfl rfl) ?_
  refine ops_ex rfl (guard_none rfl) rfl rfl (ex_move rfl rfl) ?_
  refine ops_ex rfl (guard_none rfl) rfl rfl (ex_move rfl rfl) ?_
  refine ops_ex rfl (guard_none rfl) rfl rfl (ex_len (d := kInt) (xs := x1) rfl rfl Tryd.underlying38 hp1) ?_
  obtain ⟨F722, hF723, hFn724, hFl725, HMh726, hcl727⟩ := HM.hide (Ms := [box b0 130 [p0_0, .int .i64 x0.fAt]])
  refine ops_does rfl (guard_none rfl) rfl rfl (does_callk rfl callok47 rfl (spec_l1Next.calls (x0 := x0) (x1 := (x1.length : Int)) (hide_olds _ _) hF723 hFn724 hFl725 (HMh726.rdo hwo hp0_0) h721)) ?_
  rintro _ w730 ⟨rfl, hn⟩
  replace HM : Mem w X w730 [box b0 130 [p0_0, .int .i64 t720.2]] := hcl727 _ _ hn
  have hc729 : CellsAt _ (sb p1) (so p1 + (t720.1).toNat * 1) [(.int .i64 (gt x1 t720.1))] := rd_plain hp1 e728
  refine ops_ex rfl (guard_none rfl) rfl rfl (ex_indexAddr (d := kInt) rfl rfl rfl Tryd.underlying38 tsz2 hp1 (idx_lo e728) (idx_hi e728)) ?_
  refine ops_ex rfl (guard_none rfl) rfl rfl (ex_load1 rfl rfl Tryd.underlying2 rfl ((HM.ato hwo hc729) 0 _ rfl)) ?_
  refine ops_ex rfl (guard_none rfl) rfl rfl (ex_assign rfl rfl) ?_
  refine ops_nil ?_
  refine at_then ?_
  refine run_ret ?_
  have hR := Option.some.inj H
  subst hR
  exact at_ret1 rfl rfl ⟨_, rfl, rfl, HM⟩

def spec_DrawParseBlock.f (k : Nat) (x0 : List Int) : Option ByteArray := ((spec_l1Source.f k x0).bind fun t752 => ((spec_l7Draw.f k (⟨x0, t752⟩ : l1Src)).bind fun t757 => ((spec_l7Text.f k (⟨t757.1.fPrev, t757.1.fHeight, t757.1.fMiner, t757.1.fTxs⟩ : Block)).bind fun t773 => ((spec_l1Next.f k (⟨x0, t757.2⟩ : l1Src) 5).bind fun t779 => (bif (t779.1 == 0) then ((spec_l1Next.f k (⟨x0, t779.2⟩ : l1Src) ((strNums t773).length : Int)).bind fun t789 => ((spec_l1Pick.f k (⟨x0, t789.2⟩ : l1Src) ([48, 32, 57, 43] : List Int)).bind fun t800 => (chk (idxOk t789.1 (strNums t773).length) (some (strOfNums ((strNums t773).set (t789.1).toNat (IntKind.u8.wrap t800.1))))))) else (bif (t779.1 == 1) then ((spec_l1Next.f k (⟨x0, t779.2⟩ : l1Src) ((strNums t773).length : Int)).bind fun t814 => (chk (cutOk t814.1 (strNums t773).length) (some (strOfNums ((strNums t773).take (t814.1).toNat))))) else some (strOfNums (strNums t773))))))))
theorem spec_DrawParseBlock.calls {k : Nat} {x0 : List Int} {p0 : Value} {w : World} (hp0 : RdS kU8 w p0 x0) {r : ByteArray} (H : spec_DrawParseBlock.f k x0 = some r) :
    Calls Tryd.prog 18 ([p0] : List Value).toArray w (fun e w_ => ∃ v, e = .returned v ∧ v = (.string r) ∧ Mem w [] w_ []) := by
  have HM := Mem.start w
  refine calls_run (N := 36) Tryd.func18 rfl rfl rfl rfl ?_
  unfold spec_DrawParseBlock.f at H
  refine run_seq ?_
  refine run_region rfl ?_
  refine ops_ex rfl (guard_none rfl) rfl rfl (ex_assign rfl rfl) ?_
  refine ops_nil ?_
  refine at_then ?_
  refine run_seq ?_
  obtain ⟨t752, h753, H⟩ := bind_some H
  refine run_region rfl ?_
  refine ops_ex rfl (guard_none rfl) rfl rfl (ex_move rfl rfl) ?_
  refine ops_does rfl (guard_none rfl) rfl rfl (does_callk rfl callok44 rfl (spec_l1Source.calls (x0 := x0) (HM.rd hp0) h753)) ?_
  rintro _ w756 ⟨b754, rfl, hn⟩
  replace HM : Mem w [] w756 [box b754 130 [p0, .int .i64 t752]] := HM.call hn
  refine ops_ex rfl (guard_none rfl) rfl rfl (ex_assign rfl rfl) ?_
  refine ops_nil ?_
  refine at_then ?_
  refine run_seq ?_
  obtain ⟨t757, h758, H⟩ := bind_some H
  refine run_region rfl ?_
  refine ops_ex rfl (guard_none rfl) rfl rfl (ex_move rfl rfl) ?_
  obtain ⟨F761, hF762, hFn763, hFl764, HMh765, hcl766⟩ := HM.hide (Ms := [box b754 130 [p0, .int .i64 t752]])
  refine ops_does rfl (guard_none rfl) rfl rfl (does_callk rfl callok45 rfl (spec_l7Draw.calls (x0 := (⟨x0, t752⟩ : l1Src)) (hide_olds _ _) hF762 hFn763 hFl764 (HMh765.rd hp0) h758)) ?_
  rintro _ w770 ⟨u759, rfl, hn⟩
  replace HM : Mem w [] w770 [own kInt 2 u759 t757.1.fTxs, box b754 130 [p0, .int .i64 t757.2]] := hcl766 _ _ hn
  refine ops_does rfl (guard_none rfl) rfl rfl (does_alloc (cs := [.int .i64 0, .int .i64 0, .int .i64 0, .slice none 0 0]) rfl tz51 rfl HM) ?_
  rintro _ w771 ⟨b767, rfl, HM⟩
  refine ops_doesS rfl (guard_none rfl) rfl (does_store (vs := [.int .i64 t757.1.fPrev, .int .i64 t757.1.fHeight, .int .i64 t757.1.fMiner, u759]) (cs' := [.int .i64 t757.1.fPrev, .int .i64 t757.1.fHeight, .int .i64 t757.1.fMiner, u759]) rfl rfl rfl rfl tsz51 (Ones.int (Ones.int (Ones.int (Ones.rd (HM.own_rd 1 rfl) Ones.nil)))) rfl rfl HM) ?_
  rintro w772 HM
  refine ops_nil ?_
  refine at_then ?_
  refine run_seq ?_
  obtain ⟨t773, h774, H⟩ := bind_some H
  refine run_region rfl ?_
  refine ops_does rfl (guard_none rfl) rfl rfl (does_callk rfl callok46 rfl (spec_l7Text.calls (x0 := (⟨t757.1.fPrev, t757.1.fHeight, t757.1.fMiner, t757.1.fTxs⟩ : Block)) (HM.box_at 0 rfl) (HM.own_rd 1 rfl) h774)) ?_
  rintro _ w777 ⟨rfl, hn⟩
  replace HM : Mem w [] w777 [box b767 51 [.int .i64 t757.1.fPrev, .int .i64 t757.1.fHeight, .int .i64 t757.1.fMiner, u759], own kInt 2 u759 t757.1.fTxs, box b754 130 [p0, .int .i64 t757.2]] := HM.call hn
  refine ops_does rfl (guard_none rfl) rfl rfl (does_sbytes (e := 5) rfl rfl Tryd.underlying9 Tryd.underlying47 Tryd.underlying5 HM) ?_
  rintro v775 w778 HM
  refine ops_ex rfl (guard_none rfl) rfl rfl (ex_assign rfl rfl) ?_
  refine ops_nil ?_
  refine at_then ?_
  refine run_seq ?_
  refine run_seq ?_
  obtain ⟨t779, h780, H⟩ := bind_some H
  refine run_region rfl ?_
  refine ops_ex rfl (guard_none rfl) rfl rfl (ex_move rfl rfl) ?_
  replace HM := HM.front 3 rfl rfl
  obtain ⟨F781, hF782, hFn783, hFl784, HMh785, hcl786⟩ := HM.hide (Ms := [box b754 130 [p0, .int .i64 t757.2]])
  refine ops_does rfl (guard_none rfl) rfl rfl (does_callk rfl callok47 rfl (spec_l1Next.calls (x0 := (⟨x0, t757.2⟩ : l1Src)) (x1 := 5) (hide_olds _ _) hF782 hFn783 hFl784 (HMh785.rd hp0) h780)) ?_
  rintro _ w787 ⟨rfl, hn⟩
  replace HM : Mem w [] w787 [box b754 130 [p0, .int .i64 t779.2], brow 5 v775 (strNums t773), box b767 51 [.int .i64 t757.1.fPrev, .int .i64 t757.1.fHeight, .int .i64 t757.1.fMiner, u759], own kInt 2 u759 t757.1.fTxs] := hcl786 _ _ hn
  refine ops_nil ?_
  refine at_then ?_
  refine run_block ?_
  refine run_seq ?_
  refine run_region rfl ?_
  refine ops_ex rfl (guard_none rfl) rfl rfl (ex_eql rfl rfl rfl) ?_
  refine ops_ex rfl (guard_none rfl) rfl rfl (ex_assign rfl rfl) ?_
  refine ops_nil ?_
  refine at_then ?_
  refine run_cond (b := (t779.1 == 0)) rfl (fun hb788 => ?_) (fun hb788 => ?_)
  · replace H := cond_t hb788 H
    obtain ⟨t789, h790, H⟩ := bind_some H
    obtain ⟨t800, h801, H⟩ := bind_some H
    obtain ⟨e808, H⟩ := chk_some H
    refine run_region rfl ?_
    refine ops_ex rfl (guard_none rfl) rfl rfl (ex_move rfl rfl) ?_
    refine ops_ex rfl (guard_none rfl) rfl rfl (ex_move rfl rfl) ?_
    refine ops_ex rfl (guard_none rfl) rfl rfl (ex_move rfl rfl) ?_
    refine ops_ex rfl (guard_none rfl) rfl rfl (ex_len (d := kU8) (xs := strNums t773) rfl rfl Tryd.underlying47 (HM.brow_rd (hl := fun _ => rfl) (h1 := fun _ => onesC rfl onesN) 1 rfl)) ?_
    obtain ⟨F791, hF792, hFn793, hFl794, HMh795, hcl796⟩ := HM.hide (Ms := [box b754 130 [p0, .int .i64 t779.2]])
    refine ops_does rfl (guard_none rfl) rfl rfl (does_callk rfl callok47 rfl (spec_l1Next.calls (x0 := (⟨x0, t779.2⟩ : l1Src)) (x1 := ((strNums t773).length : Int)) (hide_olds _ _) hF792 hFn793 hFl794 (HMh795.rd hp0) h790)) ?_
    rintro _ w809 ⟨rfl, hn⟩
    replace HM : Mem w [] w809 [box b754 130 [p0, .int .i64 t789.2], brow 5 v775 (strNums t773), box b767 51 [.int .i64 t757.1.fPrev, .int .i64 t757.1.fHeight, .int .i64 t757.1.fMiner, u759], own kInt 2 u759 t757.1.fTxs] := hcl796 _ _ hn
    refine ops_ex rfl (guard_none rfl) rfl rfl (ex_move rfl rfl) ?_
    refine ops_does rfl (guard_none rfl) rfl rfl (does_lit (e := 2) (cs := [.int .i64 48, .int .i64 32, .int .i64 57, .int .i64 43]) (xs := ([48, 32, 57, 43] : List Int)) kInt rfl rfl (fun _ => by kernel_rfl) rfl rfl (fun _ _ h => by have h' : _ = [] := h; subst h'; exact (Elems.cons (d := kInt) (x := 48) (f := []) ⟨rfl, rfl⟩ (Elems.cons (d := kInt) (x := 32) (f := []) ⟨rfl, rfl⟩ (Elems.cons (d := kInt) (x := 57) (f := []) ⟨rfl, rfl⟩ (Elems.cons (d := kInt) (x := 43) (f := []) ⟨rfl, rfl⟩ .nil))))) HM.emp) ?_
    rintro v797 w810 HM
    replace HM := HM.front 1 rfl rfl
    obtain ⟨F802, hF803, hFn804, hFl805, HMh806, hcl807⟩ := HM.hide (Ms := [box b754 130 [p0, .int .i64 t789.2]])
    refine ops_does rfl (guard_none rfl) rfl rfl (does_callk rfl callok48 rfl (spec_l1Pick.calls (x0 := (⟨x0, t789.2⟩ : l1Src)) (x1 := ([48, 32, 57, 43] : List Int)) (hide_olds _ _) hF803 hFn804 hFl805 (HMh806.rd hp0) (HMh806.own_rd 0 rfl) h801)) ?_
    rintro _ w811 ⟨rfl, hn⟩
    replace HM : Mem w [] w811 [box b754 130 [p0, .int .i64 t800.2], own kInt 2 v797 ([48, 32, 57, 43] : List Int), brow 5 v775 (strNums t773), box b767 51 [.int .i64 t757.1.fPrev, .int .i64 t757.1.fHeight, .int .i64 t757.1.fMiner, u759], own kInt 2 u759 t757.1.fTxs] := hcl807 _ _ hn
    refine ops_ex rfl (guard_none rfl) rfl rfl (ex_conv rfl rfl (by rw [Tryd.underlying2]; rfl) Tryd.underlying5) ?_
    refine ops_ex rfl (guard_none rfl) rfl rfl (ex_indexAddr (d := kU8) rfl rfl rfl Tryd.underlying47 tsz5 (HM.brow_rd (hl := fun _ => rfl) (h1 := fun _ => onesC rfl onesN) 2 rfl) (idx_lo e808) (idx_hi e808)) ?_
    replace HM := HM.front 2 rfl rfl
    refine ops_doesS rfl (guard_none rfl) rfl (does_setB rfl rfl rfl rfl tsz5 (idx_nat e808) HM) ?_
    rintro w812 HM
    refine ops_nil ?_
    refine at_block ?_
    refine at_then ?_
    refine run_seq ?_
    refine run_region rfl ?_
    refine ops_ex rfl (guard_none rfl) rfl rfl (ex_move rfl rfl) ?_
    refine ops_ex rfl (guard_none rfl) rfl rfl (ex_bstr (e := 5) rfl rfl Tryd.underlying47 Tryd.underlying5 Tryd.underlying9 (HM.brow_rd (hl := fun _ => rfl) (h1 := fun _ => onesC rfl onesN) 0 rfl)) ?_
    refine ops_ex rfl (guard_none rfl) rfl rfl (ex_assign rfl rfl) ?_
    refine ops_nil ?_
    refine at_then ?_
    refine run_ret ?_
    replace HM := (HM.front 0 rfl rfl).drop
    replace HM := (HM.front 0 rfl rfl).drop
    replace HM := (HM.front 0 rfl rfl).drop
    replace HM := (HM.front 0 rfl rfl).drop
    replace HM := (HM.front 0 rfl rfl).drop
    have hR := Option.some.inj H
    subst hR
    exact at_ret1 rfl rfl ⟨_, rfl, rfl, HM⟩
  · replace H := cond_f hb788 H
    refine run_seq ?_
    refine run_region rfl ?_
    refine ops_ex rfl (guard_none rfl) rfl rfl (ex_eql rfl rfl rfl) ?_
    refine ops_ex rfl (guard_none rfl) rfl rfl (ex_assign rfl rfl) ?_
    refine ops_nil ?_
    refine at_then ?_
    refine run_cond (b := (t779.1 == 1)) rfl (fun hb813 => ?_) (fun hb813 => ?_)
    · replace H := cond_t hb813 H
      obtain ⟨t814, h815, H⟩ := bind_some H
      obtain ⟨e822, H⟩ := chk_some H
      refine run_region rfl ?_
      refine ops_ex rfl (guard_none rfl) rfl rfl (ex_move rfl rfl) ?_
      refine ops_ex rfl (guard_none rfl) rfl rfl (ex_move rfl rfl) ?_
      refine ops_ex rfl (guard_none rfl) rfl rfl (ex_move rfl rfl) ?_
      refine ops_ex rfl (guard_none rfl) rfl rfl (ex_len (d := kU8) (xs := strNums t773) rfl rfl Tryd.underlying47 (HM.brow_rd (hl := fun _ => rfl) (h1 := fun _ => onesC rfl onesN) 1 rfl)) ?_
      obtain ⟨F816, hF817, hFn818, hFl819, HMh820, hcl821⟩ := HM.hide (Ms := [box b754 130 [p0, .int .i64 t779.2]])
      refine ops_does rfl (guard_none rfl) rfl rfl (does_callk rfl callok47 rfl (spec_l1Next.calls (x0 := (⟨x0, t779.2⟩ : l1Src)) (x1 := ((strNums t773).length : Int)) (hide_olds _ _) hF817 hFn818 hFl819 (HMh820.rd hp0) h815)) ?_
      rintro _ w825 ⟨rfl, hn⟩
      replace HM : Mem w [] w825 [box b754 130 [p0, .int .i64 t814.2], brow 5 v775 (strNums t773), box b767 51 [.int .i64 t757.1.fPrev, .int .i64 t757.1.fHeight, .int .i64 t757.1.fMiner, u759], own kInt 2 u759 t757.1.fTxs] := hcl821 _ _ hn
      replace HM := HM.front 1 rfl rfl
      refine ops_does rfl (guard_none rfl) rfl rfl (does_cutB rfl rfl rfl Tryd.underlying47 tsz5 e822 HM) ?_
      rintro v823 w826 HM
      refine ops_ex rfl (guard_none rfl) rfl rfl (ex_assign rfl rfl) ?_
      refine ops_nil ?_
      refine at_block ?_
      refine at_then ?_
      refine run_seq ?_
      refine run_region rfl ?_
      refine ops_ex rfl (guard_none rfl) rfl rfl (ex_move rfl rfl) ?_
      refine ops_ex rfl (guard_none rfl) rfl rfl (ex_bstr (e := 5) rfl rfl Tryd.underlying47 Tryd.underlying5 Tryd.underlying9 (HM.brow_rd (hl := fun _ => rfl) (h1 := fun _ => onesC rfl onesN) 0 rfl)) ?_
      refine ops_ex rfl (guard_none rfl) rfl rfl (ex_assign rfl rfl) ?_
      refine ops_nil ?_
      refine at_then ?_
      refine run_ret ?_
      replace HM := (HM.front 0 rfl rfl).drop
      replace HM := (HM.front 0 rfl rfl).drop
      replace HM := (HM.front 0 rfl rfl).drop
      replace HM := (HM.front 0 rfl rfl).drop
      have hR := Option.some.inj H
      subst hR
      exact at_ret1 rfl rfl ⟨_, rfl, rfl, HM⟩
    · replace H := cond_f hb813 H
      refine run_skip ?_
      refine at_block ?_
      refine at_then ?_
      refine run_seq ?_
      refine run_region rfl ?_
      refine ops_ex rfl (guard_none rfl) rfl rfl (ex_move rfl rfl) ?_
      refine ops_ex rfl (guard_none rfl) rfl rfl (ex_bstr (e := 5) rfl rfl Tryd.underlying47 Tryd.underlying5 Tryd.underlying9 (HM.brow_rd (hl := fun _ => rfl) (h1 := fun _ => onesC rfl onesN) 1 rfl)) ?_
      refine ops_ex rfl (guard_none rfl) rfl rfl (ex_assign rfl rfl) ?_
      refine ops_nil ?_
      refine at_then ?_
      refine run_ret ?_
      replace HM := (HM.front 0 rfl rfl).drop
      replace HM := (HM.front 0 rfl rfl).drop
      replace HM := (HM.front 0 rfl rfl).drop
      replace HM := (HM.front 0 rfl rfl).drop
      have hR := Option.some.inj H
      subst hR
      exact at_ret1 rfl rfl ⟨_, rfl, rfl, HM⟩

def strings_Split.f (k : Nat) (x0 x1 : ByteArray) : Option (List ByteArray) := (chk (leB 1 x1.size && leB x0.size 4294967280) (some (Lib.splitB x1 0 (Lib.countB x0 x1) x0)))
theorem strings_Split.calls {k : Nat} {x0 x1 : ByteArray} {w : World} (htab : TabP w) {r : List ByteArray} (H : strings_Split.f k x0 x1 = some r) :
    Calls Tryd.prog 84 ([.string x0, .string x1] : List Value).toArray w (fun e w_ => ∃ v, e = .returned v ∧ ∃ u0 : Value, v = u0 ∧ Mem w [] w_ [own kStr 9 u0 r]) := by
  obtain ⟨h, H⟩ := chk_some H
  have hR := Option.some.inj H
  subst hR
  rw [Bool.and_eq_true] at h
  have h1 : 1 ≤ x1.size := leB_le h.1
  have h0 : x0.size ≤ 4294967280 := leB_le h.2
  obtain ⟨m, hm⟩ := htab.maxLen
  refine (Tryd.strings_Split x0 x1 m w (by omega) hm h1).mono fun e w_ ⟨he, hw⟩ => ⟨_, he, _, rfl, ?_⟩
  subst hw
  have hc := Lib.countB_le x1 h1 _ x0 (Nat.le_refl _)
  exact mem_row rfl (Lib.splitB_all x1 h1 0 _ x0 rfl) (by unfold maxLen; omega) (fun w => by simpa using Elems.strs (d := kStr) (fun x => ⟨rfl, rfl⟩) _)

def strconv_ParseInt.f (k : Nat) (x0 : ByteArray) (x1 x2 : Int) : Option (Int × Bool) := (chk ((x1 == 10 && x2 == 64) && leB x0.size 281474976710656) (some (piR x0.data.toList (Lib.parseIntB 64 x0.data.toList))))
theorem strconv_ParseInt.calls {k : Nat} {x0 : ByteArray} {x1 x2 : Int} {w : World} (htab : TabP w) {r : Int × Bool} (H : strconv_ParseInt.f k x0 x1 x2 = some r) :
    Calls Tryd.prog 103 ([.string x0, .int .i64 x1, .int .i64 x2] : List Value).toArray w (fun e w_ => ∃ v, e = .returned v ∧ ∃ u0 : Value, ErrV u0 r.2 ∧ v = .tuple #[.int .i64 r.1, u0] ∧ Mem w [] w_ []) := by
  obtain ⟨h, H⟩ := chk_some H
  have hR := Option.some.inj H
  subst hR
  simp only [Bool.and_eq_true, beq_iff_eq] at h
  obtain ⟨⟨rfl, rfl⟩, h⟩ := h
  have h0 : x0.size ≤ 281474976710656 := leB_le h
  have hm : ∀ w_, Below w.heap.size w w_ → Mem w [] w_ [] := fun w_ hb => ⟨Fr.of_below hb nodr, [], .nil, List.nodup_nil, by simp⟩
  cases hp : Lib.parseIntB 64 x0.data.toList with
  | ok v =>
    refine (Tryd.strconv_ParseInt_10_at64_ok x0 (by omega) v hp w).mono fun e w_ ⟨he, hw⟩ => ⟨_, he, _, .inl ⟨rfl, rfl⟩, rfl, hm _ ?_⟩
    rcases hw with rfl | ⟨t, rfl⟩
    · exact Below.refl _ _
    · exact Lib.bytesWorld_below _ _ _
  | range =>
    obtain ⟨te, pe, hv⟩ := htab.rng
    exact (Tryd.strconv_ParseInt_10_at64_range x0 h0 hp _ w hv (.inr ⟨te, pe, rfl⟩)).mono fun e w_ ⟨N, he, _, _, hw⟩ => ⟨_, he, _, .inr ⟨rfl, _, _, rfl⟩, rfl, hm _ hw⟩
  | _ =>
    obtain ⟨te, pe, hv⟩ := htab.syn
    exact (Tryd.strconv_ParseInt_10_at64_syntax x0 h0 hp _ w hv (.inr ⟨te, pe, rfl⟩)).mono fun e w_ ⟨N, he, _, _, hw⟩ => ⟨_, he, _, .inr ⟨rfl, _, _, rfl⟩, rfl, hm _ hw⟩

def strconv_FormatInt.f (k : Nat) (x0 : Int) (x1 : Int) : Option ByteArray := (chk ((decide (-9223372036854775808 ≤ x0) && decide (x0 ≤ 9223372036854775807)) && (x1 == 10)) (some (⟨(Lib.itoa x0).toArray⟩ : ByteArray)))
theorem strconv_FormatInt.calls {k : Nat} {x0 x1 : Int} {w : World} (htab : TabP w) {r : ByteArray} (H : strconv_FormatInt.f k x0 x1 = some r) :
    Calls Tryd.prog 97 ([.int .i64 x0, .int .i64 x1] : List Value).toArray w (fun e w_ => ∃ v, e = .returned v ∧ v = (.string r) ∧ Mem w [] w_ []) := by
  obtain ⟨h, H⟩ := chk_some H
  have hR := Option.some.inj H
  subst hR
  simp only [Bool.and_eq_true, decide_eq_true_eq, beq_iff_eq] at h
  obtain ⟨⟨h0, h1⟩, rfl⟩ := h
  exact (Tryd.strconv_FormatInt_10 x0 h0 h1 w htab.tab).mono fun e w_ ⟨he, k, os, hw⟩ => ⟨_, he, rfl, hw ▸ mem_grow w k os⟩

def impl_dec.f (k : Nat) (x0 : Int) : Option ByteArray := ((strconv_FormatInt.f k x0 10).bind fun t850 => some t850)
theorem impl_dec.calls {k : Nat} {x0 : Int}  {w : World} (htab : TabP w)  {r : ByteArray} (H : impl_dec.f k x0 = some r) :
    Calls Tryd.prog 76 ([.int .i64 x0] : List Value).toArray w (fun e w_ => ∃ v, e = .returned v ∧ v = (.string r) ∧ Mem w [] w_ []) := by
  have HM := Mem.start w
  refine calls_run (N := 5) Tryd.func76 rfl rfl rfl rfl ?_
  unfold impl_dec.f at H
  refine run_seq ?_
  refine run_region rfl ?_
  refine ops_ex rfl (guard_none rfl) rfl rfl (ex_assign rfl rfl) ?_
  refine ops_nil ?_
  refine at_then ?_
  refine run_seq ?_
  obtain ⟨t850, h851, H⟩ := bind_some H
  refine run_region rfl ?_
  refine ops_ex rfl (guard_none rfl) rfl rfl (ex_move rfl rfl) ?_
  refine ops_does rfl (guard_none rfl) rfl rfl (does_callk rfl callok97 rfl (strconv_FormatInt.calls (x0 := x0) (x1 := 10) (HM.tabP htab) h851)) ?_
  rintro _ w852 ⟨rfl, hn⟩
  replace HM : Mem w [] w852 [] := HM.call hn
  refine ops_ex rfl (guard_none rfl) rfl rfl (ex_assign rfl rfl) ?_
  refine ops_nil ?_
  refine at_then ?_
  refine run_ret ?_
  have hR := Option.some.inj H
  subst hR
  exact at_ret1 rfl rfl ⟨_, rfl, rfl, HM⟩

def impl_number.f (k : Nat) (x0 : ByteArray) : Option Int := ((strconv_ParseInt.f k x0 10 64).bind fun t856 => ((bif (!((!t856.2) || (decide (10 < (x0.size : Int))))) then impl_dec.f k t856.1 else some default).bind fun t861 => (bif (((!t856.2) || (decide (10 < (x0.size : Int)))) || (!sEq t861 x0)) then some (-1) else some t856.1)))
theorem impl_number.calls {k : Nat} {x0 : ByteArray}  {w : World} (htab : TabP w)  {r : Int} (H : impl_number.f k x0 = some r) :
    Calls Tryd.prog 85 ([.string x0] : List Value).toArray w (fun e w_ => ∃ v, e = .returned v ∧ v = (.int .i64 r) ∧ Mem w [] w_ []) := by
  have HM := Mem.start w
  refine calls_run (N := 24) Tryd.func85 rfl rfl rfl rfl ?_
  unfold impl_number.f at H
  refine run_seq ?_
  refine run_region rfl ?_
  refine ops_ex rfl (guard_none rfl) rfl rfl (ex_assign rfl rfl) ?_
  refine ops_nil ?_
  refine at_then ?_
  refine run_seq ?_
  obtain ⟨t856, h857, H⟩ := bind_some H
  refine run_region rfl ?_
  refine ops_ex rfl (guard_none rfl) rfl rfl (ex_move rfl rfl) ?_
  refine ops_does rfl (guard_none rfl) rfl rfl (does_callk rfl callok103 rfl (strconv_ParseInt.calls (x0 := x0) (x1 := 10) (x2 := 64) (HM.tabP htab) h857)) ?_
  rintro _ w860 ⟨u858, hE859, rfl, hn⟩
  replace HM : Mem w [] w860 [] := HM.call hn
  refine ops_ex rfl (guard_none rfl) rfl rfl (ex_move rfl rfl) ?_
  refine ops_ex rfl (guard_none rfl) rfl rfl (ex_extract rfl rfl rfl) ?_
  refine ops_ex rfl (guard_none rfl) rfl rfl (ex_extract rfl rfl rfl) ?_
  refine ops_ex rfl (guard_none rfl) rfl rfl (ex_assign rfl rfl) ?_
  refine ops_ex rfl (guard_none rfl) rfl rfl (ex_assign rfl rfl) ?_
  refine ops_nil ?_
  refine at_then ?_
  refine run_seq ?_
  refine run_seq ?_
  obtain ⟨t861, h862, H⟩ := bind_some H
  refine run_meet (fun ρ_ w_ => ρ_ = [(3, .int .i64 t856.1), (22, .bool (((!t856.2) || (decide (10 < (x0.size : Int)))) || (!sEq t861 x0)))] ∧ Mem w [] w_ []) ?_ ?_
  · skip
    refine run_region rfl ?_
    refine ops_ex rfl (guard_none rfl) rfl rfl (ex_move rfl rfl) ?_
    refine ops_ex rfl (guard_none rfl) rfl rfl (ex_errneq rfl rfl rfl Tryd.underlying143 hE859) ?_
    refine ops_ex rfl (guard_none rfl) rfl rfl (ex_move rfl rfl) ?_
    refine bool_cases (!t856.2) (fun hg863 => ?_) (fun hg863 => ?_)
    · skip
      refine ops_off rfl (guard_off rfl rfl rfl hg863) rfl rfl ?_
      refine ops_off rfl (guard_off rfl rfl rfl hg863) rfl rfl ?_
      refine ops_off rfl (guard_off rfl rfl rfl hg863) rfl rfl ?_
      have hg864 : ((!t856.2) || (decide (10 < (x0.size : Int)))) = true := by simp only [hg863, Bool.and_true, Bool.true_and, Bool.and_false, Bool.false_and, Bool.or_true, Bool.true_or, Bool.or_false, Bool.false_or, Bool.not_true, Bool.not_false, Bool.not_not]
      refine ops_ex (v := .bool ((!t856.2) || (decide (10 < (x0.size : Int))))) rfl (guard_none rfl) rfl rfl (ex_por_t rfl rfl hg863) ?_
      refine ops_ex rfl (guard_none rfl) rfl rfl (ex_move rfl rfl) ?_
      refine ops_off rfl (guard_off rfl rfl rfl hg864) rfl rfl ?_
      refine ops_off rfl (guard_off rfl rfl rfl hg864) rfl rfl ?_
      refine ops_off rfl (guard_off rfl rfl rfl hg864) rfl rfl ?_
      refine ops_off rfl (guard_off rfl rfl rfl hg864) rfl rfl ?_
      have hg865 : (((!t856.2) || (decide (10 < (x0.size : Int)))) || (!sEq t861 x0)) = true := by simp only [hg864, Bool.and_true, Bool.true_and, Bool.and_false, Bool.false_and, Bool.or_true, Bool.true_or, Bool.or_false, Bool.false_or, Bool.not_true, Bool.not_false, Bool.not_not]
      refine ops_ex (v := .bool (((!t856.2) || (decide (10 < (x0.size : Int)))) || (!sEq t861 x0))) rfl (guard_none rfl) rfl rfl (ex_por_t rfl rfl hg864) ?_
      refine ops_nil ?_
      exact at_meet [(3, .int .i64 t856.1), (22, .bool (((!t856.2) || (decide (10 < (x0.size : Int)))) || (!sEq t861 x0)))] ⟨rfl, HM⟩ (Sub.cons rfl (Sub.cons rfl Sub.nil))
    · skip
      refine ops_ex rfl (guard_on rfl rfl rfl hg863) rfl rfl (ex_move rfl rfl) ?_
      refine ops_ex rfl (guard_on rfl rfl rfl hg863) rfl rfl (ex_strlen rfl rfl Tryd.underlying9) ?_
      refine ops_ex rfl (guard_on rfl rfl rfl hg863) rfl rfl (ex_gtr rfl rfl rfl) ?_
      refine ops_ex (v := .bool ((!t856.2) || (decide (10 < (x0.size : Int))))) rfl (guard_none rfl) rfl rfl (ex_por_f rfl rfl hg863 rfl) ?_
      refine ops_ex rfl (guard_none rfl) rfl rfl (ex_move rfl rfl) ?_
      refine bool_cases ((!t856.2) || (decide (10 < (x0.size : Int)))) (fun hg866 => ?_) (fun hg866 => ?_)
      · skip
        refine ops_off rfl (guard_off rfl rfl rfl hg866) rfl rfl ?_
        refine ops_off rfl (guard_off rfl rfl rfl hg866) rfl rfl ?_
        refine ops_off rfl (guard_off rfl rfl rfl hg866) rfl rfl ?_
        refine ops_off rfl (guard_off rfl rfl rfl hg866) rfl rfl ?_
        have hg867 : (((!t856.2) || (decide (10 < (x0.size : Int)))) || (!sEq t861 x0)) = true := by simp only [hg866, Bool.and_true, Bool.true_and, Bool.and_false, Bool.false_and, Bool.or_true, Bool.true_or, Bool.or_false, Bool.false_or, Bool.not_true, Bool.not_false, Bool.not_not]
        refine ops_ex (v := .bool (((!t856.2) || (decide (10 < (x0.size : Int)))) || (!sEq t861 x0))) rfl (guard_none rfl) rfl rfl (ex_por_t rfl rfl hg866) ?_
        refine ops_nil ?_
        exact at_meet [(3, .int .i64 t856.1), (22, .bool (((!t856.2) || (decide (10 < (x0.size : Int)))) || (!sEq t861 x0)))] ⟨rfl, HM⟩ (Sub.cons rfl (Sub.cons rfl Sub.nil))
      · skip
        refine ops_ex rfl (guard_on rfl rfl rfl hg866) rfl rfl (ex_move rfl rfl) ?_
        refine ops_does rfl (guard_on rfl rfl rfl hg866) rfl rfl (does_callk rfl callok76 rfl (impl_dec.calls (x0 := t856.1) (HM.tabP htab) (cond_t (not_mk hg866) h862))) ?_
        rintro _ w868 ⟨rfl, hn⟩
        replace HM : Mem w [] w868 [] := HM.call hn
        refine ops_ex rfl (guard_on rfl rfl rfl hg866) rfl rfl (ex_move rfl rfl) ?_
        refine ops_ex rfl (guard_on rfl rfl rfl hg866) rfl rfl (ex_sneq rfl rfl rfl) ?_
        refine ops_ex (v := .bool (((!t856.2) || (decide (10 < (x0.size : Int)))) || (!sEq t861 x0))) rfl (guard_none rfl) rfl rfl (ex_por_f rfl rfl hg866 rfl) ?_
        refine ops_nil ?_
        exact at_meet [(3, .int .i64 t856.1), (22, .bool (((!t856.2) || (decide (10 < (x0.size : Int)))) || (!sEq t861 x0)))] ⟨rfl, HM⟩ (Sub.cons rfl (Sub.cons rfl Sub.nil))
  · rintro _ w869 ⟨rfl, HM⟩
    refine at_then ?_
    refine run_cond (b := (((!t856.2) || (decide (10 < (x0.size : Int)))) || (!sEq t861 x0))) rfl (fun hb870 => ?_) (fun hb870 => ?_)
    · replace H := cond_t hb870 H
      refine run_seq ?_
      refine run_region rfl ?_
      refine ops_ex rfl (guard_none rfl) rfl rfl (ex_assign rfl rfl) ?_
      refine ops_nil ?_
      refine at_then ?_
      refine run_ret ?_
      refine at_then_ret ?_
      have hR := Option.some.inj H
      subst hR
      exact at_ret1 rfl rfl ⟨_, rfl, rfl, HM⟩
    · replace H := cond_f hb870 H
      refine run_skip ?_
      refine at_then ?_
      refine run_seq ?_
      refine run_region rfl ?_
      refine ops_ex rfl (guard_none rfl) rfl rfl (ex_move rfl rfl) ?_
      refine ops_ex rfl (guard_none rfl) rfl rfl (ex_assign rfl rfl) ?_
      refine ops_nil ?_
      refine at_then ?_
      refine run_ret ?_
      have hR := Option.some.inj H
      subst hR
      exact at_ret1 rfl rfl ⟨_, rfl, rfl, HM⟩

def impl_numbers.l0 (t976 : List ByteArray) : Nat → (List Int) → Int → Option ((List Int))
  | 0, _, _ => none
  | k + 1, a992, a994 => (bif (decide (a994 < (t976.length : Int))) then (chk (idxOk a994 t976.length) ((impl_number.f k (gt t976 a994)).bind fun t1009 => (chk (leB ((a992.length + ([t1009] : List Int).length) * 8) 140737488355328) (impl_numbers.l0 t976 k (a992 ++ ([t1009] : List Int)) (wrap64 (a994 + 1)))))) else some a992)
theorem impl_numbers.l0_z (t976 : List ByteArray) (a992 : List Int) (a994 : Int) : impl_numbers.l0 t976 0 a992 a994 = none := rfl
theorem impl_numbers.l0_s (t976 : List ByteArray) (k : Nat) (a992 : List Int) (a994 : Int) : impl_numbers.l0 t976 (k + 1) a992 a994 = (bif (decide (a994 < (t976.length : Int))) then (chk (idxOk a994 t976.length) ((impl_number.f k (gt t976 a994)).bind fun t1009 => (chk (leB ((a992.length + ([t1009] : List Int).length) * 8) 140737488355328) (impl_numbers.l0 t976 k (a992 ++ ([t1009] : List Int)) (wrap64 (a994 + 1)))))) else some a992) := rfl
def impl_numbers.f (k : Nat) (x0 : ByteArray) (x1 : ByteArray) : Option ((List Int)) := (((strings_Split.f k x0 x1).bind fun t976 => impl_numbers.l0 t976 k ([] : List Int) 0).bind (fun a972 => some a972))
theorem impl_numbers.calls {k : Nat} {x0 : ByteArray} {x1 : ByteArray}  {w : World} (htab : TabP w)  {r : (List Int)} (H : impl_numbers.f k x0 x1 = some r) :
    Calls Tryd.prog 86 ([.string x0, .string x1] : List Value).toArray w (fun e w_ => ∃ v, e = .returned v ∧ ∃ u0 : Value, v = u0 ∧ Mem w [] w_ [own kInt 2 u0 r]) := by
  have HM := Mem.start w
  refine calls_run (N := 24) Tryd.func86 rfl rfl rfl rfl ?_
  unfold impl_numbers.f at H
  refine run_seq ?_
  refine run_region rfl ?_
  refine ops_ex rfl (guard_none rfl) rfl rfl (ex_assign rfl rfl) ?_
  refine ops_nil ?_
  refine at_then ?_
  refine run_seq ?_
  refine run_region rfl ?_
  refine ops_does rfl (guard_none rfl) rfl rfl (does_lit (e := 2) (cs := []) (xs := ([] : List Int)) kInt rfl rfl (fun _ => by kernel_rfl) rfl rfl (fun _ _ h => by have h' : _ = [] := h; subst h'; exact .nil) HM.emp) ?_
  rintro v929 w932 HM
  refine ops_ex rfl (guard_none rfl) rfl rfl (ex_assign rfl rfl) ?_
  refine ops_nil ?_
  refine at_then ?_
  obtain ⟨o974, ho975, H⟩ := bind_some H
  refine run_mid (fun ρ_ w_ => ∃ v971 : Value, ∃ a972 : List Int, a972 = o974 ∧ ρ_ = [(5, v971)] ∧ Mem w [] w_ [own kInt 2 v971 a972]) ?_ ?_
  · clear H
    refine run_seq ?_
    obtain ⟨t976, h977, ho975⟩ := bind_some ho975
    refine run_region rfl ?_
    refine ops_ex rfl (guard_none rfl) rfl rfl (ex_move rfl rfl) ?_
    refine ops_ex rfl (guard_none rfl) rfl rfl (ex_move rfl rfl) ?_
    refine ops_does rfl (guard_none rfl) rfl rfl (does_callk rfl callok84 rfl (strings_Split.calls (x0 := x0) (x1 := x1) (HM.tabP htab) h977)) ?_
    rintro u978 w980 ⟨_, rfl, hn⟩
    replace HM : Mem w [] w980 [own kStr 9 u978 t976, own kInt 2 v929 ([] : List Int)] := HM.call hn
    refine ops_ex rfl (guard_none rfl) rfl rfl (ex_len (d := kStr) (xs := t976) rfl rfl Tryd.underlying103 (HM.own_rd 0 rfl)) ?_
    refine ops_ex rfl (guard_none rfl) rfl rfl (ex_move rfl rfl) ?_
    refine ops_nil ?_
    refine at_then ?_
    refine run_block ?_
    replace HM := HM.front 1 rfl rfl
    refine run_loop (fun k_ ρ_ w_ => ∃ v991 : Value, ∃ a992 : List Int, ∃ a994 : Int, impl_numbers.l0 t976 k_ a992 a994 = some o974 ∧ ρ_ = [(5, v991), (11, u978), (12, .int .i64 (t976.length : Int)), (13, .int .i64 a994)] ∧ Mem w [] w_ [own kInt 2 v991 a992, own kStr 9 u978 t976]) k (ρ1 := [(5, v929), (11, u978), (12, .int .i64 (t976.length : Int)), (13, .int .i64 0)]) ⟨_, _, _, ho975, rfl, HM⟩ (Sub.cons rfl (Sub.cons rfl (Sub.cons rfl (Sub.cons rfl Sub.nil)))) ?_
    clear HM ho975
    rintro k1005 _ w1006 ⟨v991, a992, a994, ho975, rfl, HM⟩
    obtain _ | k1005 := k1005
    · exact nomatch ((impl_numbers.l0_z t976 a992 a994).symm.trans ho975)
    replace ho975 := (impl_numbers.l0_s t976 k1005 a992 a994).symm.trans ho975
    refine run_seq ?_
    refine run_region rfl ?_
    refine ops_ex rfl (guard_none rfl) rfl rfl (ex_lss rfl rfl rfl) ?_
    refine ops_nil ?_
    refine at_then ?_
    refine run_seq ?_
    refine run_cond (b := (decide (a994 < (t976.length : Int)))) rfl (fun hb1007 => ?_) (fun hb1007 => ?_)
    · replace ho975 := cond_t hb1007 ho975
      refine run_skip ?_
      refine at_then ?_
      refine run_seq ?_
      refine run_block ?_
      refine run_seq ?_
      obtain ⟨e1008, ho975⟩ := chk_some ho975
      refine run_region rfl ?_
      refine ops_ex rfl (guard_none rfl) rfl rfl (ex_indexAddr (d := kStr) rfl rfl rfl Tryd.underlying103 tsz9 (HM.own_rd 1 rfl) (idx_lo e1008) (idx_hi e1008)) ?_
      refine ops_ex rfl (guard_none rfl) rfl rfl (ex_load1 rfl rfl Tryd.underlying9 rfl ((rd_plain (HM.own_rd 1 rfl) e1008) 0 _ rfl)) ?_
      refine ops_ex rfl (guard_none rfl) rfl rfl (ex_assign rfl rfl) ?_
      refine ops_nil ?_
      refine at_then ?_
      obtain ⟨t1009, h1010, ho975⟩ := bind_some ho975
      obtain ⟨e1014, ho975⟩ := chk_some ho975
      refine run_region rfl ?_
      refine ops_ex rfl (guard_none rfl) rfl rfl (ex_move rfl rfl) ?_
      refine ops_ex rfl (guard_none rfl) rfl rfl (ex_move rfl rfl) ?_
      refine ops_does rfl (guard_none rfl) rfl rfl (does_callk rfl callok85 rfl (impl_number.calls (x0 := (gt t976 a994)) (HM.tabP htab) h1010)) ?_
      rintro _ w1017 ⟨rfl, hn⟩
      replace HM : Mem w [] w1017 [own kInt 2 v991 a992, own kStr 9 u978 t976] := HM.call hn
      refine ops_does rfl (guard_none rfl) rfl rfl (does_lit (e := 2) (cs := [.int .i64 t1009]) (xs := ([t1009] : List Int)) kInt rfl rfl (fun _ => by kernel_rfl) rfl rfl (fun _ _ h => by have h' : _ = [] := h; subst h'; exact (Elems.cons (d := kInt) (x := t1009) (f := []) ⟨rfl, rfl⟩ .nil)) HM.emp) ?_
      rintro v1011 w1018 HM
      replace HM := HM.front 1 rfl rfl
      refine ops_does rfl (guard_none rfl) rfl rfl (does_appendR kInt flat_plain rfl rfl rfl Tryd.underlying38 tsz2 rfl tby2 tz2 rfl rfl (leB_le e1014) (HM.own_rd 1 rfl) HM) ?_
      rintro v1015 w1019 HM
      refine ops_ex rfl (guard_none rfl) rfl rfl (ex_assign rfl rfl) ?_
      refine ops_nil ?_
      refine at_block ?_
      refine at_then ?_
      refine run_region rfl ?_
      refine ops_ex rfl (guard_none rfl) rfl rfl (ex_add rfl rfl rfl) ?_
      refine ops_ex rfl (guard_none rfl) rfl rfl (ex_move rfl rfl) ?_
      refine ops_nil ?_
      replace HM := (HM.front 1 rfl rfl).drop
      exact at_again k1005 (ρ1 := [(5, v1015), (11, u978), (12, .int .i64 (t976.length : Int)), (13, .int .i64 (wrap64 (a994 + 1)))]) (Nat.lt_succ_self _) ⟨_, _, _, ho975, rfl, HM⟩ (Sub.cons rfl (Sub.cons rfl (Sub.cons rfl (Sub.cons rfl Sub.nil))))
    · replace ho975 := cond_f hb1007 ho975
      refine run_exit ?_
      refine at_then_exit ?_
      refine at_then_exit ?_
      refine at_block_exit ?_
      replace HM := (HM.front 1 rfl rfl).drop
      exact at_mid (ρ' := [(5, v991)]) ⟨_, _, (Option.some.inj ho975), rfl, HM⟩ (Sub.cons rfl Sub.nil)
  · rintro _ w1020 ⟨v971, a972, rfl, rfl, HM⟩
    refine run_seq ?_
    refine run_region rfl ?_
    refine ops_ex rfl (guard_none rfl) rfl rfl (ex_move rfl rfl) ?_
    refine ops_ex rfl (guard_none rfl) rfl rfl (ex_assign rfl rfl) ?_
    refine ops_nil ?_
    refine at_then ?_
    refine run_ret ?_
    have hR := Option.some.inj H
    subst hR
    exact at_ret1 rfl rfl ⟨_, rfl, _, rfl, HM⟩

def impl_within.f (k : Nat) (x0 : Int) (x1 : Int) (x2 : Int) : Option Bool := some ((decide (x1 ≤ x0)) && (decide (x0 ≤ x2)))
theorem impl_within.calls {k : Nat} {x0 : Int} {x1 : Int} {x2 : Int}  {w : World}  {r : Bool} (H : impl_within.f k x0 x1 x2 = some r) :
    Calls Tryd.prog 54 ([.int .i64 x0, .int .i64 x1, .int .i64 x2] : List Value).toArray w (fun e w_ => ∃ v, e = .returned v ∧ v = (.bool r) ∧ Mem w [] w_ []) := by
  have HM := Mem.start w
  refine calls_run (N := 15) Tryd.func54 rfl rfl rfl rfl ?_
  unfold impl_within.f at H
  refine run_seq ?_
  refine run_region rfl ?_
  refine ops_ex rfl (guard_none rfl) rfl rfl (ex_assign rfl rfl) ?_
  refine ops_nil ?_
  refine at_then ?_
  refine run_seq ?_
  refine run_meet (fun ρ_ w_ => ρ_ = [(6, .bool ((decide (x1 ≤ x0)) && (decide (x0 ≤ x2))))] ∧ Mem w [] w_ []) ?_ ?_
  · skip
    refine run_region rfl ?_
    refine ops_ex rfl (guard_none rfl) rfl rfl (ex_move rfl rfl) ?_
    refine ops_ex rfl (guard_none rfl) rfl rfl (ex_move rfl rfl) ?_
    refine ops_ex rfl (guard_none rfl) rfl rfl (ex_geq rfl rfl rfl) ?_
    refine ops_ex rfl (guard_none rfl) rfl rfl (ex_move rfl rfl) ?_
    refine bool_cases (decide (x1 ≤ x0)) (fun hg1040 => ?_) (fun hg1040 => ?_)
    · skip
      refine ops_ex rfl (guard_on rfl rfl rfl hg1040) rfl rfl (ex_move rfl rfl) ?_
      refine ops_ex rfl (guard_on rfl rfl rfl hg1040) rfl rfl (ex_move rfl rfl) ?_
      refine ops_ex rfl (guard_on rfl rfl rfl hg1040) rfl rfl (ex_leq rfl rfl rfl) ?_
      refine ops_ex (v := .bool ((decide (x1 ≤ x0)) && (decide (x0 ≤ x2)))) rfl (guard_none rfl) rfl rfl (ex_pand_t rfl rfl hg1040 rfl) ?_
      refine ops_ex rfl (guard_none rfl) rfl rfl (ex_assign rfl rfl) ?_
      refine ops_nil ?_
      exact at_meet [(6, .bool ((decide (x1 ≤ x0)) && (decide (x0 ≤ x2))))] ⟨rfl, HM⟩ (Sub.cons rfl Sub.nil)
    · skip
      refine ops_off rfl (guard_off rfl rfl rfl hg1040) rfl rfl ?_
      refine ops_off rfl (guard_off rfl rfl rfl hg1040) rfl rfl ?_
      refine ops_off rfl (guard_off rfl rfl rfl hg1040) rfl rfl ?_
      have hg1041 : ((decide (x1 ≤ x0)) && (decide (x0 ≤ x2))) = false := by simp only [hg1040, Bool.and_true, Bool.true_and, Bool.and_false, Bool.false_and, Bool.or_true, Bool.true_or, Bool.or_false, Bool.false_or, Bool.not_true, Bool.not_false, Bool.not_not]
      refine ops_ex (v := .bool ((decide (x1 ≤ x0)) && (decide (x0 ≤ x2)))) rfl (guard_none rfl) rfl rfl (ex_pand_f rfl rfl hg1040) ?_
      refine ops_ex rfl (guard_none rfl) rfl rfl (ex_assign rfl rfl) ?_
      refine ops_nil ?_
      exact at_meet [(6, .bool ((decide (x1 ≤ x0)) && (decide (x0 ≤ x2))))] ⟨rfl, HM⟩ (Sub.cons rfl Sub.nil)
  · rintro _ w1042 ⟨rfl, HM⟩
    refine at_then ?_
    refine run_ret ?_
    have hR := Option.some.inj H
    subst hR
    exact at_ret1 rfl rfl ⟨_, rfl, rfl, HM⟩

def impl_isKey.f (k : Nat) (x0 : Int) : Option Bool := ((impl_within.f k x0 1 999).bind fun t1049 => some t1049)
theorem impl_isKey.calls {k : Nat} {x0 : Int}  {w : World}  {r : Bool} (H : impl_isKey.f k x0 = some r) :
    Calls Tryd.prog 55 ([.int .i64 x0] : List Value).toArray w (fun e w_ => ∃ v, e = .returned v ∧ v = (.bool r) ∧ Mem w [] w_ []) := by
  have HM := Mem.start w
  refine calls_run (N := 5) Tryd.func55 rfl rfl rfl rfl ?_
  unfold impl_isKey.f at H
  refine run_seq ?_
  refine run_region rfl ?_
  refine ops_ex rfl (guard_none rfl) rfl rfl (ex_assign rfl rfl) ?_
  refine ops_nil ?_
  refine at_then ?_
  refine run_seq ?_
  obtain ⟨t1049, h1050, H⟩ := bind_some H
  refine run_region rfl ?_
  refine ops_ex rfl (guard_none rfl) rfl rfl (ex_move rfl rfl) ?_
  refine ops_does rfl (guard_none rfl) rfl rfl (does_callk rfl callok54 rfl (impl_within.calls (x0 := x0) (x1 := 1) (x2 := 999) h1050)) ?_
  rintro _ w1051 ⟨rfl, hn⟩
  replace HM : Mem w [] w1051 [] := HM.call hn
  refine ops_ex rfl (guard_none rfl) rfl rfl (ex_assign rfl rfl) ?_
  refine ops_nil ?_
  refine at_then ?_
  refine run_ret ?_
  have hR := Option.some.inj H
  subst hR
  exact at_ret1 rfl rfl ⟨_, rfl, rfl, HM⟩

def impl_isId.f (k : Nat) (x0 : Int) : Option Bool := ((impl_within.f k x0 1 60).bind fun t1071 => some t1071)
theorem impl_isId.calls {k : Nat} {x0 : Int}  {w : World}  {r : Bool} (H : impl_isId.f k x0 = some r) :
    Calls Tryd.prog 56 ([.int .i64 x0] : List Value).toArray w (fun e w_ => ∃ v, e = .returned v ∧ v = (.bool r) ∧ Mem w [] w_ []) := by
  have HM := Mem.start w
  refine calls_run (N := 5) Tryd.func56 rfl rfl rfl rfl ?_
  unfold impl_isId.f at H
  refine run_seq ?_
  refine run_region rfl ?_
  refine ops_ex rfl (guard_none rfl) rfl rfl (ex_assign rfl rfl) ?_
  refine ops_nil ?_
  refine at_then ?_
  refine run_seq ?_
  obtain ⟨t1071, h1072, H⟩ := bind_some H
  refine run_region rfl ?_
  refine ops_ex rfl (guard_none rfl) rfl rfl (ex_move rfl rfl) ?_
  refine ops_does rfl (guard_none rfl) rfl rfl (does_callk rfl callok54 rfl (impl_within.calls (x0 := x0) (x1 := 1) (x2 := 60) h1072)) ?_
  rintro _ w1073 ⟨rfl, hn⟩
  replace HM : Mem w [] w1073 [] := HM.call hn
  refine ops_ex rfl (guard_none rfl) rfl rfl (ex_assign rfl rfl) ?_
  refine ops_nil ?_
  refine at_then ?_
  refine run_ret ?_
  have hR := Option.some.inj H
  subst hR
  exact at_ret1 rfl rfl ⟨_, rfl, rfl, HM⟩

def slices_Index_int64.l0 (x0 : List Int) (x1 : Int) : Nat → Int → Option (Int ⊕ Unit)
  | 0, _ => none
  | k + 1, a1118 => (bif (decide (a1118 < (x0.length : Int))) then (chk (idxOk a1118 x0.length) (bif (x1 == (gt x0 a1118)) then some (.inl a1118) else slices_Index_int64.l0 x0 x1 k (wrap64 (a1118 + 1)))) else some (.inr ()))
theorem slices_Index_int64.l0_z (x0 : List Int) (x1 : Int) (a1118 : Int) : slices_Index_int64.l0 x0 x1 0 a1118 = none := rfl
theorem slices_Index_int64.l0_s (x0 : List Int) (x1 : Int) (k : Nat) (a1118 : Int) : slices_Index_int64.l0 x0 x1 (k + 1) a1118 = (bif (decide (a1118 < (x0.length : Int))) then (chk (idxOk a1118 x0.length) (bif (x1 == (gt x0 a1118)) then some (.inl a1118) else slices_Index_int64.l0 x0 x1 k (wrap64 (a1118 + 1)))) else some (.inr ())) := rfl
def slices_Index_int64.f (k : Nat) (x0 : List Int) (x1 : Int) : Option Int := ((slices_Index_int64.l0 x0 x1 k 0).bind fun o1112 => thn o1112 (fun r => some r) (fun _ => some (-1)))
theorem slices_Index_int64.calls {k : Nat} {x0 : List Int} {x1 : Int} {p0 : Value} {w : World} (hp0 : RdS kInt w p0 x0) {r : Int} (H : slices_Index_int64.f k x0 x1 = some r) :
    Calls Tryd.prog 93 ([p0, .int .i64 x1] : List Value).toArray w (fun e w_ => ∃ v, e = .returned v ∧ v = (.int .i64 r) ∧ Mem w [] w_ []) := by
  have HM := Mem.start w
  refine calls_run (N := 19) Tryd.func93 rfl rfl rfl rfl ?_
  unfold slices_Index_int64.f at H
  refine run_seq ?_
  refine run_region rfl ?_
  refine ops_ex rfl (guard_none rfl) rfl rfl (ex_assign rfl rfl) ?_
  refine ops_nil ?_
  refine at_then ?_
  obtain ⟨o1112, ho1113, H⟩ := bind_some H
  refine run_mid (fun ρ_ w_ => Sum.inr () = o1112 ∧ ρ_ = [] ∧ Mem w [] w_ []) ?_ ?_
  · skip
    refine run_seq ?_
    refine run_region rfl ?_
    refine ops_ex rfl (guard_none rfl) rfl rfl (ex_move rfl rfl) ?_
    refine ops_ex rfl (guard_none rfl) rfl rfl (ex_len (d := kInt) (xs := x0) rfl rfl Tryd.underlying38 hp0) ?_
    refine ops_ex rfl (guard_none rfl) rfl rfl (ex_move rfl rfl) ?_
    refine ops_nil ?_
    refine at_then ?_
    refine run_block ?_
    refine run_loop (fun k_ ρ_ w_ => ∃ a1118 : Int, slices_Index_int64.l0 x0 x1 k_ a1118 = some o1112 ∧ ρ_ = [(0, p0), (1, .int .i64 x1), (7, .int .i64 (x0.length : Int)), (8, .int .i64 a1118)] ∧ Mem w [] w_ []) k (ρ1 := [(0, p0), (1, .int .i64 x1), (7, .int .i64 (x0.length : Int)), (8, .int .i64 0)]) ⟨_, ho1113, rfl, HM⟩ (Sub.cons rfl (Sub.cons rfl (Sub.cons rfl (Sub.cons rfl Sub.nil)))) ?_
    clear HM ho1113
    rintro k1123 _ w1124 ⟨a1118, ho1113, rfl, HM⟩
    obtain _ | k1123 := k1123
    · exact nomatch ((slices_Index_int64.l0_z x0 x1 a1118).symm.trans ho1113)
    replace ho1113 := (slices_Index_int64.l0_s x0 x1 k1123 a1118).symm.trans ho1113
    refine run_seq ?_
    refine run_region rfl ?_
    refine ops_ex rfl (guard_none rfl) rfl rfl (ex_lss rfl rfl rfl) ?_
    refine ops_nil ?_
    refine at_then ?_
    refine run_seq ?_
    refine run_cond (b := (decide (a1118 < (x0.length : Int)))) rfl (fun hb1125 => ?_) (fun hb1125 => ?_)
    · replace ho1113 := cond_t hb1125 ho1113
      refine run_skip ?_
      refine at_then ?_
      refine run_seq ?_
      refine run_block ?_
      refine run_seq ?_
      refine run_region rfl ?_
      refine ops_ex rfl (guard_none rfl) rfl rfl (ex_move rfl rfl) ?_
      refine ops_ex rfl (guard_none rfl) rfl rfl (ex_assign rfl rfl) ?_
      refine ops_nil ?_
      refine at_then ?_
      refine run_seq ?_
      obtain ⟨e1126, ho1113⟩ := chk_some ho1113
      refine run_region rfl ?_
      refine ops_ex rfl (guard_none rfl) rfl rfl (ex_move rfl rfl) ?_
      refine ops_ex rfl (guard_none rfl) rfl rfl (ex_move rfl rfl) ?_
      refine ops_ex rfl (guard_none rfl) rfl rfl (ex_move rfl rfl) ?_
      have hc1127 : CellsAt _ (sb p0) (so p0 + (a1118).toNat * 1) [(.int .i64 (gt x0 a1118))] := rd_plain hp0 e1126
      refine ops_ex rfl (guard_none rfl) rfl rfl (ex_indexAddr (d := kInt) rfl rfl rfl Tryd.underlying38 tsz2 hp0 (idx_lo e1126) (idx_hi e1126)) ?_
      refine ops_ex rfl (guard_none rfl) rfl rfl (ex_load1 rfl rfl Tryd.underlying2 rfl ((HM.at_ hc1127) 0 _ rfl)) ?_
      refine ops_ex rfl (guard_none rfl) rfl rfl (ex_eql rfl rfl rfl) ?_
      refine ops_nil ?_
      refine at_then ?_
      refine run_cond (b := (x1 == (gt x0 a1118))) rfl (fun hb1128 => ?_) (fun hb1128 => ?_)
      · replace ho1113 := cond_t hb1128 ho1113
        refine run_seq ?_
        refine run_region rfl ?_
        refine ops_ex rfl (guard_none rfl) rfl rfl (ex_move rfl rfl) ?_
        refine ops_ex rfl (guard_none rfl) rfl rfl (ex_assign rfl rfl) ?_
        refine ops_nil ?_
        refine at_then ?_
        refine run_ret ?_
        refine at_block_ret ?_
        refine at_then_ret ?_
        refine at_then_ret ?_
        refine at_block_ret ?_
        refine at_then_ret ?_
        have hR := Option.some.inj ho1113
        subst hR
        have hT := thn_inl H
        have hR := Option.some.inj hT
        subst hR
        exact at_ret1 rfl rfl ⟨_, rfl, rfl, HM⟩
      · replace ho1113 := cond_f hb1128 ho1113
        refine run_skip ?_
        refine at_block ?_
        refine at_then ?_
        refine run_region rfl ?_
        refine ops_ex rfl (guard_none rfl) rfl rfl (ex_add rfl rfl rfl) ?_
        refine ops_ex rfl (guard_none rfl) rfl rfl (ex_move rfl rfl) ?_
        refine ops_nil ?_
        exact at_again k1123 (ρ1 := [(0, p0), (1, .int .i64 x1), (7, .int .i64 (x0.length : Int)), (8, .int .i64 (wrap64 (a1118 + 1)))]) (Nat.lt_succ_self _) ⟨_, ho1113, rfl, HM⟩ (Sub.cons rfl (Sub.cons rfl (Sub.cons rfl (Sub.cons rfl Sub.nil))))
    · replace ho1113 := cond_f hb1125 ho1113
      refine run_exit ?_
      refine at_then_exit ?_
      refine at_then_exit ?_
      refine at_block_exit ?_
      exact at_mid (ρ' := []) ⟨(Option.some.inj ho1113), rfl, HM⟩ Sub.nil
  · rintro _ w1129 ⟨rfl, rfl, HM⟩
    replace H := (thn_inr H)
    refine run_seq ?_
    refine run_region rfl ?_
    refine ops_ex rfl (guard_none rfl) rfl rfl (ex_assign rfl rfl) ?_
    refine ops_nil ?_
    refine at_then ?_
    refine run_ret ?_
    have hR := Option.some.inj H
    subst hR
    exact at_ret1 rfl rfl ⟨_, rfl, rfl, HM⟩

def slices_Contains_int64.f (k : Nat) (x0 : List Int) (x1 : Int) : Option Bool := ((slices_Index_int64.f k x0 x1).bind fun t1132 => some (decide (0 ≤ t1132)))
theorem slices_Contains_int64.calls {k : Nat} {x0 : List Int} {x1 : Int} {p0 : Value} {w : World} (hp0 : RdS kInt w p0 x0) {r : Bool} (H : slices_Contains_int64.f k x0 x1 = some r) :
    Calls Tryd.prog 57 ([p0, .int .i64 x1] : List Value).toArray w (fun e w_ => ∃ v, e = .returned v ∧ v = (.bool r) ∧ Mem w [] w_ []) := by
  have HM := Mem.start w
  refine calls_run (N := 9) Tryd.func57 rfl rfl rfl rfl ?_
  unfold slices_Contains_int64.f at H
  refine run_seq ?_
  refine run_region rfl ?_
  refine ops_ex rfl (guard_none rfl) rfl rfl (ex_assign rfl rfl) ?_
  refine ops_nil ?_
  refine at_then ?_
  refine run_seq ?_
  obtain ⟨t1132, h1133, H⟩ := bind_some H
  refine run_region rfl ?_
  refine ops_ex rfl (guard_none rfl) rfl rfl (ex_move rfl rfl) ?_
  refine ops_ex rfl (guard_none rfl) rfl rfl (ex_move rfl rfl) ?_
  refine ops_does rfl (guard_none rfl) rfl rfl (does_callk rfl callok93 rfl (slices_Index_int64.calls (x0 := x0) (x1 := x1) (HM.rd hp0) h1133)) ?_
  rintro _ w1134 ⟨rfl, hn⟩
  replace HM : Mem w [] w1134 [] := HM.call hn
  refine ops_ex rfl (guard_none rfl) rfl rfl (ex_geq rfl rfl rfl) ?_
  refine ops_ex rfl (guard_none rfl) rfl rfl (ex_assign rfl rfl) ?_
  refine ops_nil ?_
  refine at_then ?_
  refine run_ret ?_
  have hR := Option.some.inj H
  subst hR
  exact at_ret1 rfl rfl ⟨_, rfl, rfl, HM⟩

def impl_BlockFault.l0 (x0 : Block) : Nat → Int → Option (Int ⊕ Unit)
  | 0, _ => none
  | k + 1, a1271 => (bif (decide (a1271 < (x0.fTxs.length : Int))) then (chk (idxOk a1271 x0.fTxs.length) ((impl_isId.f k (gt x0.fTxs a1271)).bind fun t1296 => (bif !t1296 then some (.inl 3) else (chk (cutOk a1271 x0.fTxs.length) ((slices_Contains_int64.f k (x0.fTxs.take (a1271).toNat) (gt x0.fTxs a1271)).bind fun t1304 => (bif t1304 then some (.inl 7) else impl_BlockFault.l0 x0 k (wrap64 (a1271 + 1)))))))) else some (.inr ()))
theorem impl_BlockFault.l0_z (x0 : Block) (a1271 : Int) : impl_BlockFault.l0 x0 0 a1271 = none := rfl
theorem impl_BlockFault.l0_s (x0 : Block) (k : Nat) (a1271 : Int) : impl_BlockFault.l0 x0 (k + 1) a1271 = (bif (decide (a1271 < (x0.fTxs.length : Int))) then (chk (idxOk a1271 x0.fTxs.length) ((impl_isId.f k (gt x0.fTxs a1271)).bind fun t1296 => (bif !t1296 then some (.inl 3) else (chk (cutOk a1271 x0.fTxs.length) ((slices_Contains_int64.f k (x0.fTxs.take (a1271).toNat) (gt x0.fTxs a1271)).bind fun t1304 => (bif t1304 then some (.inl 7) else impl_BlockFault.l0 x0 k (wrap64 (a1271 + 1)))))))) else some (.inr ())) := rfl
def impl_BlockFault.f (k : Nat) (x0 : Block) : Option Int := ((impl_within.f k x0.fPrev 0 60).bind fun t1186 => ((bif (!(!t1186)) then impl_within.f k x0.fHeight 1 40 else some default).bind fun t1188 => ((bif (!((!t1186) || (!t1188))) then impl_isKey.f k x0.fMiner else some default).bind fun t1190 => (bif (((!t1186) || (!t1188)) || (!t1190)) then some 3 else (bif ((x0.fPrev == 0) != (x0.fHeight == 1)) then some 1 else (bif (decide (6 < (x0.fTxs.length : Int))) then some 2 else ((impl_BlockFault.l0 x0 k 0).bind fun o1253 => thn o1253 (fun r => some r) (fun _ => some 0))))))))
theorem impl_BlockFault.calls {k : Nat} {x0 : Block} {p0_0 : Value} {w : World} (hp0_0 : RdS kInt w p0_0 x0.fTxs) {r : Int} (H : impl_BlockFault.f k x0 = some r) :
    Calls Tryd.prog 24 ([.agg #[(.int .i64 x0.fPrev), (.int .i64 x0.fHeight), (.int .i64 x0.fMiner), p0_0]] : List Value).toArray w (fun e w_ => ∃ v, e = .returned v ∧ v = (.int .i64 r) ∧ Mem w [] w_ []) := by
  have HM := Mem.start w
  refine calls_run (N := 53) Tryd.func24 rfl rfl rfl rfl ?_
  unfold impl_BlockFault.f at H
  refine run_seq ?_
  refine run_region rfl ?_
  refine ops_does rfl (guard_none rfl) rfl rfl (does_box (cs := [.int .i64 x0.fPrev, .int .i64 x0.fHeight, .int .i64 x0.fMiner, p0_0]) rfl rfl rfl HM) ?_
  rintro _ w1176 ⟨b1173, rfl, HM⟩
  refine ops_ex rfl (guard_none rfl) rfl rfl (ex_assign rfl rfl) ?_
  refine ops_nil ?_
  refine at_then ?_
  refine run_seq ?_
  refine run_block ?_
  refine run_seq ?_
  obtain ⟨t1186, h1187, H⟩ := bind_some H
  obtain ⟨t1188, h1189, H⟩ := bind_some H
  obtain ⟨t1190, h1191, H⟩ := bind_some H
  refine run_meet (fun ρ_ w_ => ρ_ = [(1, .pointer (some ⟨b1173, 0, none⟩)), (5, .bool (((!t1186) || (!t1188)) || (!t1190)))] ∧ Mem w [] w_ [box b1173 51 [.int .i64 x0.fPrev, .int .i64 x0.fHeight, .int .i64 x0.fMiner, p0_0]]) ?_ ?_
  · skip
    refine run_region rfl ?_
    refine ops_ex rfl (guard_none rfl) rfl rfl (ex_fieldAddr (off' := 0) rfl rfl Tryd.underlying51 rfl tsz2 rfl) ?_
    refine ops_ex rfl (guard_none rfl) rfl rfl (ex_load1 rfl rfl Tryd.underlying2 rfl ((HM.box_at 0 rfl) 0 _ rfl)) ?_
    refine ops_does rfl (guard_none rfl) rfl rfl (does_callk rfl callok54 rfl (impl_within.calls (x0 := x0.fPrev) (x1 := 0) (x2 := 60) h1187)) ?_
    rintro _ w1192 ⟨rfl, hn⟩
    replace HM : Mem w [] w1192 [box b1173 51 [.int .i64 x0.fPrev, .int .i64 x0.fHeight, .int .i64 x0.fMiner, p0_0]] := HM.call hn
    refine ops_ex rfl (guard_none rfl) rfl rfl (ex_not rfl rfl) ?_
    refine ops_ex rfl (guard_none rfl) rfl rfl (ex_move rfl rfl) ?_
    refine bool_cases (!t1186) (fun hg1193 => ?_) (fun hg1193 => ?_)
    · skip
      refine ops_off rfl (guard_off rfl rfl rfl hg1193) rfl rfl ?_
      refine ops_off rfl (guard_off rfl rfl rfl hg1193) rfl rfl ?_
      refine ops_off rfl (guard_off rfl rfl rfl hg1193) rfl rfl ?_
      refine ops_off rfl (guard_off rfl rfl rfl hg1193) rfl rfl ?_
      have hg1194 : ((!t1186) || (!t1188)) = true := by simp only [hg1193, Bool.and_true, Bool.true_and, Bool.and_false, Bool.false_and, Bool.or_true, Bool.true_or, Bool.or_false, Bool.false_or, Bool.not_true, Bool.not_false, Bool.not_not]
      refine ops_ex (v := .bool ((!t1186) || (!t1188))) rfl (guard_none rfl) rfl rfl (ex_por_t rfl rfl hg1193) ?_
      refine ops_ex rfl (guard_none rfl) rfl rfl (ex_move rfl rfl) ?_
      refine ops_off rfl (guard_off rfl rfl rfl hg1194) rfl rfl ?_
      refine ops_off rfl (guard_off rfl rfl rfl hg1194) rfl rfl ?_
      refine ops_off rfl (guard_off rfl rfl rfl hg1194) rfl rfl ?_
      refine ops_off rfl (guard_off rfl rfl rfl hg1194) rfl rfl ?_
      have hg1195 : (((!t1186) || (!t1188)) || (!t1190)) = true := by simp only [hg1194, Bool.and_true, Bool.true_and, Bool.and_false, Bool.false_and, Bool.or_true, Bool.true_or, Bool.or_false, Bool.false_or, Bool.not_true, Bool.not_false, Bool.not_not]
      refine ops_ex (v := .bool (((!t1186) || (!t1188)) || (!t1190))) rfl (guard_none rfl) rfl rfl (ex_por_t rfl rfl hg1194) ?_
      refine ops_ex rfl (guard_none rfl) rfl rfl (ex_assign rfl rfl) ?_
      refine ops_nil ?_
      exact at_meet [(1, .pointer (some ⟨b1173, 0, none⟩)), (5, .bool (((!t1186) || (!t1188)) || (!t1190)))] ⟨rfl, HM⟩ (Sub.cons rfl (Sub.cons rfl Sub.nil))
    · skip
      refine ops_ex rfl (guard_on rfl rfl rfl hg1193) rfl rfl (ex_fieldAddr (off' := 1) rfl rfl Tryd.underlying51 rfl tsz2 rfl) ?_
      refine ops_ex rfl (guard_on rfl rfl rfl hg1193) rfl rfl (ex_load1 rfl rfl Tryd.underlying2 rfl ((HM.box_at 0 rfl) 1 _ rfl)) ?_
      refine ops_does rfl (guard_on rfl rfl rfl hg1193) rfl rfl (does_callk rfl callok54 rfl (impl_within.calls (x0 := x0.fHeight) (x1 := 1) (x2 := 40) (cond_t (not_mk hg1193) h1189))) ?_
      rintro _ w1196 ⟨rfl, hn⟩
      replace HM : Mem w [] w1196 [box b1173 51 [.int .i64 x0.fPrev, .int .i64 x0.fHeight, .int .i64 x0.fMiner, p0_0]] := HM.call hn
      refine ops_ex rfl (guard_on rfl rfl rfl hg1193) rfl rfl (ex_not rfl rfl) ?_
      refine ops_ex (v := .bool ((!t1186) || (!t1188))) rfl (guard_none rfl) rfl rfl (ex_por_f rfl rfl hg1193 rfl) ?_
      refine ops_ex rfl (guard_none rfl) rfl rfl (ex_move rfl rfl) ?_
      refine bool_cases ((!t1186) || (!t1188)) (fun hg1197 => ?_) (fun hg1197 => ?_)
      · skip
        refine ops_off rfl (guard_off rfl rfl rfl hg1197) rfl rfl ?_
        refine ops_off rfl (guard_off rfl rfl rfl hg1197) rfl rfl ?_
        refine ops_off rfl (guard_off rfl rfl rfl hg1197) rfl rfl ?_
        refine ops_off rfl (guard_off rfl rfl rfl hg1197) rfl rfl ?_
        have hg1198 : (((!t1186) || (!t1188)) || (!t1190)) = true := by simp only [hg1197, Bool.and_true, Bool.true_and, Bool.and_false, Bool.false_and, Bool.or_true, Bool.true_or, Bool.or_false, Bool.false_or, Bool.not_true, Bool.not_false, Bool.not_not]
        refine ops_ex (v := .bool (((!t1186) || (!t1188)) || (!t1190))) rfl (guard_none rfl) rfl rfl (ex_por_t rfl rfl hg1197) ?_
        refine ops_ex rfl (guard_none rfl) rfl rfl (ex_assign rfl rfl) ?_
        refine ops_nil ?_
        exact at_meet [(1, .pointer (some ⟨b1173, 0, none⟩)), (5, .bool (((!t1186) || (!t1188)) || (!t1190)))] ⟨rfl, HM⟩ (Sub.cons rfl (Sub.cons rfl Sub.nil))
      · skip
        refine ops_ex rfl (guard_on rfl rfl rfl hg1197) rfl rfl (ex_fieldAddr (off' := 2) rfl rfl Tryd.underlying51 rfl tsz2 rfl) ?_
        refine ops_ex rfl (guard_on rfl rfl rfl hg1197) rfl rfl (ex_load1 rfl rfl Tryd.underlying2 rfl ((HM.box_at 0 rfl) 2 _ rfl)) ?_
        refine ops_does rfl (guard_on rfl rfl rfl hg1197) rfl rfl (does_callk rfl callok55 rfl (impl_isKey.calls (x0 := x0.fMiner) (cond_t (not_mk hg1197) h1191))) ?_
        rintro _ w1199 ⟨rfl, hn⟩
        replace HM : Mem w [] w1199 [box b1173 51 [.int .i64 x0.fPrev, .int .i64 x0.fHeight, .int .i64 x0.fMiner, p0_0]] := HM.call hn
        refine ops_ex rfl (guard_on rfl rfl rfl hg1197) rfl rfl (ex_not rfl rfl) ?_
        refine ops_ex (v := .bool (((!t1186) || (!t1188)) || (!t1190))) rfl (guard_none rfl) rfl rfl (ex_por_f rfl rfl hg1197 rfl) ?_
        refine ops_ex rfl (guard_none rfl) rfl rfl (ex_assign rfl rfl) ?_
        refine ops_nil ?_
        exact at_meet [(1, .pointer (some ⟨b1173, 0, none⟩)), (5, .bool (((!t1186) || (!t1188)) || (!t1190)))] ⟨rfl, HM⟩ (Sub.cons rfl (Sub.cons rfl Sub.nil))
  · rintro _ w1200 ⟨rfl, HM⟩
    refine at_then ?_
    refine run_cond (b := (((!t1186) || (!t1188)) || (!t1190))) rfl (fun hb1201 => ?_) (fun hb1201 => ?_)
    · replace H := cond_t hb1201 H
      refine run_seq ?_
      refine run_region rfl ?_
      refine ops_ex rfl (guard_none rfl) rfl rfl (ex_assign rfl rfl) ?_
      refine ops_nil ?_
      refine at_then ?_
      refine run_ret ?_
      refine at_block_ret ?_
      refine at_then_ret ?_
      replace HM := (HM.front 0 rfl rfl).drop
      have hR := Option.some.inj H
      subst hR
      exact at_ret1 rfl rfl ⟨_, rfl, rfl, HM⟩
    · replace H := cond_f hb1201 H
      refine run_seq ?_
      refine run_region rfl ?_
      refine ops_ex rfl (guard_none rfl) rfl rfl (ex_fieldAddr (off' := 0) rfl rfl Tryd.underlying51 rfl tsz2 rfl) ?_
      refine ops_ex rfl (guard_none rfl) rfl rfl (ex_load1 rfl rfl Tryd.underlying2 rfl ((HM.box_at 0 rfl) 0 _ rfl)) ?_
      refine ops_ex rfl (guard_none rfl) rfl rfl (ex_eql rfl rfl rfl) ?_
      refine ops_ex rfl (guard_none rfl) rfl rfl (ex_fieldAddr (off' := 1) rfl rfl Tryd.underlying51 rfl tsz2 rfl) ?_
      refine ops_ex rfl (guard_none rfl) rfl rfl (ex_load1 rfl rfl Tryd.underlying2 rfl ((HM.box_at 0 rfl) 1 _ rfl)) ?_
      refine ops_ex rfl (guard_none rfl) rfl rfl (ex_eql rfl rfl rfl) ?_
      refine ops_ex rfl (guard_none rfl) rfl rfl (ex_bneq rfl rfl rfl Tryd.underlying4) ?_
      refine ops_ex rfl (guard_none rfl) rfl rfl (ex_assign rfl rfl) ?_
      refine ops_nil ?_
      refine at_then ?_
      refine run_cond (b := ((x0.fPrev == 0) != (x0.fHeight == 1))) rfl (fun hb1202 => ?_) (fun hb1202 => ?_)
      · replace H := cond_t hb1202 H
        refine run_seq ?_
        refine run_region rfl ?_
        refine ops_ex rfl (guard_none rfl) rfl rfl (ex_assign rfl rfl) ?_
        refine ops_nil ?_
        refine at_then ?_
        refine run_ret ?_
        refine at_block_ret ?_
        refine at_then_ret ?_
        replace HM := (HM.front 0 rfl rfl).drop
        have hR := Option.some.inj H
        subst hR
        exact at_ret1 rfl rfl ⟨_, rfl, rfl, HM⟩
      · replace H := cond_f hb1202 H
        refine run_seq ?_
        refine run_region rfl ?_
        refine ops_ex rfl (guard_none rfl) rfl rfl (ex_fieldAddr (off' := 3) rfl rfl Tryd.underlying51 rfl tsz38 rfl) ?_
        refine ops_ex rfl (guard_none rfl) rfl rfl (ex_load1 rfl rfl Tryd.underlying38 rfl ((HM.box_at 0 rfl) 3 _ rfl)) ?_
        refine ops_ex rfl (guard_none rfl) rfl rfl (ex_len (d := kInt) (xs := x0.fTxs) rfl rfl Tryd.underlying38 hp0_0) ?_
        refine ops_ex rfl (guard_none rfl) rfl rfl (ex_gtr rfl rfl rfl) ?_
        refine ops_ex rfl (guard_none rfl) rfl rfl (ex_assign rfl rfl) ?_
        refine ops_nil ?_
        refine at_then ?_
        refine run_cond (b := (decide (6 < (x0.fTxs.length : Int)))) rfl (fun hb1203 => ?_) (fun hb1203 => ?_)
        · replace H := cond_t hb1203 H
          refine run_seq ?_
          refine run_region rfl ?_
          refine ops_ex rfl (guard_none rfl) rfl rfl (ex_assign rfl rfl) ?_
          refine ops_nil ?_
          refine at_then ?_
          refine run_ret ?_
          refine at_block_ret ?_
          refine at_then_ret ?_
          replace HM := (HM.front 0 rfl rfl).drop
          have hR := Option.some.inj H
          subst hR
          exact at_ret1 rfl rfl ⟨_, rfl, rfl, HM⟩
        · replace H := cond_f hb1203 H
          refine run_skip ?_
          refine at_block ?_
          refine at_then ?_
          obtain ⟨o1253, ho1254, H⟩ := bind_some H
          refine run_mid (fun ρ_ w_ => Sum.inr () = o1253 ∧ ρ_ = [] ∧ Mem w [] w_ []) ?_ ?_
          · skip
            refine run_seq ?_
            refine run_region rfl ?_
            refine ops_ex rfl (guard_none rfl) rfl rfl (ex_fieldAddr (off' := 3) rfl rfl Tryd.underlying51 rfl tsz38 rfl) ?_
            refine ops_ex rfl (guard_none rfl) rfl rfl (ex_load1 rfl rfl Tryd.underlying38 rfl ((HM.box_at 0 rfl) 3 _ rfl)) ?_
            refine ops_ex rfl (guard_none rfl) rfl rfl (ex_len (d := kInt) (xs := x0.fTxs) rfl rfl Tryd.underlying38 hp0_0) ?_
            refine ops_ex rfl (guard_none rfl) rfl rfl (ex_move rfl rfl) ?_
            refine ops_nil ?_
            refine at_then ?_
            refine run_block ?_
            refine run_loop (fun k_ ρ_ w_ => ∃ a1271 : Int, impl_BlockFault.l0 x0 k_ a1271 = some o1253 ∧ ρ_ = [(1, .pointer (some ⟨b1173, 0, none⟩)), (36, p0_0), (37, .int .i64 (x0.fTxs.length : Int)), (38, .int .i64 a1271)] ∧ Mem w [] w_ [box b1173 51 [.int .i64 x0.fPrev, .int .i64 x0.fHeight, .int .i64 x0.fMiner, p0_0]]) k (ρ1 := [(1, .pointer (some ⟨b1173, 0, none⟩)), (36, p0_0), (37, .int .i64 (x0.fTxs.length : Int)), (38, .int .i64 0)]) ⟨_, ho1254, rfl, HM⟩ (Sub.cons rfl (Sub.cons rfl (Sub.cons rfl (Sub.cons rfl Sub.nil)))) ?_
            clear HM ho1254
            rintro k1288 _ w1289 ⟨a1271, ho1254, rfl, HM⟩
            obtain _ | k1288 := k1288
            · exact nomatch ((impl_BlockFault.l0_z x0 a1271).symm.trans ho1254)
            replace ho1254 := (impl_BlockFault.l0_s x0 k1288 a1271).symm.trans ho1254
            refine run_seq ?_
            refine run_region rfl ?_
            refine ops_ex rfl (guard_none rfl) rfl rfl (ex_lss rfl rfl rfl) ?_
            refine ops_nil ?_
            refine at_then ?_
            refine run_seq ?_
            refine run_cond (b := (decide (a1271 < (x0.fTxs.length : Int)))) rfl (fun hb1290 => ?_) (fun hb1290 => ?_)
            · replace ho1254 := cond_t hb1290 ho1254
              refine run_skip ?_
              refine at_then ?_
              refine run_seq ?_
              refine run_block ?_
              refine run_seq ?_
              obtain ⟨e1291, ho1254⟩ := chk_some ho1254
              refine run_region rfl ?_
              refine ops_ex rfl (guard_none rfl) rfl rfl (ex_move rfl rfl) ?_
              have hc1292 : CellsAt _ (sb p0_0) (so p0_0 + (a1271).toNat * 1) [(.int .i64 (gt x0.fTxs a1271))] := rd_plain hp0_0 e1291
              refine ops_ex rfl (guard_none rfl) rfl rfl (ex_indexAddr (d := kInt) rfl rfl rfl Tryd.underlying38 tsz2 hp0_0 (idx_lo e1291) (idx_hi e1291)) ?_
              refine ops_ex rfl (guard_none rfl) rfl rfl (ex_load1 rfl rfl Tryd.underlying2 rfl ((HM.at_ hc1292) 0 _ rfl)) ?_
              refine ops_ex rfl (guard_none rfl) rfl rfl (ex_assign rfl rfl) ?_
              refine ops_ex rfl (guard_none rfl) rfl rfl (ex_assign rfl rfl) ?_
              refine ops_nil ?_
              refine at_then ?_
              refine run_seq ?_
              refine run_seq ?_
              obtain ⟨t1296, h1297, ho1254⟩ := bind_some ho1254
              refine run_region rfl ?_
              refine ops_ex rfl (guard_none rfl) rfl rfl (ex_move rfl rfl) ?_
              refine ops_does rfl (guard_none rfl) rfl rfl (does_callk rfl callok56 rfl (impl_isId.calls (x0 := (gt x0.fTxs a1271)) h1297)) ?_
              rintro _ w1298 ⟨rfl, hn⟩
              replace HM : Mem w [] w1298 [box b1173 51 [.int .i64 x0.fPrev, .int .i64 x0.fHeight, .int .i64 x0.fMiner, p0_0]] := HM.call hn
              refine ops_ex rfl (guard_none rfl) rfl rfl (ex_not rfl rfl) ?_
              refine ops_nil ?_
              refine at_then ?_
              refine run_cond (b := !t1296) rfl (fun hb1299 => ?_) (fun hb1299 => ?_)
              · replace ho1254 := cond_t hb1299 ho1254
                refine run_seq ?_
                refine run_region rfl ?_
                refine ops_ex rfl (guard_none rfl) rfl rfl (ex_assign rfl rfl) ?_
                refine ops_nil ?_
                refine at_then ?_
                refine run_ret ?_
                refine at_then_ret ?_
                refine at_block_ret ?_
                refine at_then_ret ?_
                refine at_then_ret ?_
                refine at_block_ret ?_
                refine at_then_ret ?_
                replace HM := (HM.front 0 rfl rfl).drop
                have hR := Option.some.inj ho1254
                subst hR
                have hT := thn_inl H
                have hR := Option.some.inj hT
                subst hR
                exact at_ret1 rfl rfl ⟨_, rfl, rfl, HM⟩
              · replace ho1254 := cond_f hb1299 ho1254
                refine run_skip ?_
                refine at_then ?_
                refine run_seq ?_
                obtain ⟨e1300, ho1254⟩ := chk_some ho1254
                obtain ⟨t1304, h1305, ho1254⟩ := bind_some ho1254
                refine run_region rfl ?_
                refine ops_ex rfl (guard_none rfl) rfl rfl (ex_fieldAddr (off' := 3) rfl rfl Tryd.underlying51 rfl tsz38 rfl) ?_
                refine ops_ex rfl (guard_none rfl) rfl rfl (ex_load1 rfl rfl Tryd.underlying38 rfl ((HM.box_at 0 rfl) 3 _ rfl)) ?_
                refine ops_ex rfl (guard_none rfl) rfl rfl (ex_move rfl rfl) ?_
                refine ops_exE rfl (guard_none rfl) rfl rfl (ex_cutH kInt rfl rfl rfl Tryd.underlying38 tsz2 hp0_0 e1300) ?_
                rintro u1301 hr1303
                refine ops_ex rfl (guard_none rfl) rfl rfl (ex_move rfl rfl) ?_
                refine ops_does rfl (guard_none rfl) rfl rfl (does_callk rfl callok57 rfl (slices_Contains_int64.calls (x0 := x0.fTxs.take (a1271).toNat) (x1 := (gt x0.fTxs a1271)) (HM.rd hr1303) h1305)) ?_
                rintro _ w1306 ⟨rfl, hn⟩
                replace HM : Mem w [] w1306 [box b1173 51 [.int .i64 x0.fPrev, .int .i64 x0.fHeight, .int .i64 x0.fMiner, p0_0]] := HM.call hn
                refine ops_nil ?_
                refine at_then ?_
                refine run_cond (b := t1304) rfl (fun hb1307 => ?_) (fun hb1307 => ?_)
                · replace ho1254 := cond_t hb1307 ho1254
                  refine run_seq ?_
                  refine run_region rfl ?_
                  refine ops_ex rfl (guard_none rfl) rfl rfl (ex_assign rfl rfl) ?_
                  refine ops_nil ?_
                  refine at_then ?_
                  refine run_ret ?_
                  refine at_block_ret ?_
                  refine at_then_ret ?_
                  refine at_then_ret ?_
                  refine at_block_ret ?_
                  refine at_then_ret ?_
                  replace HM := (HM.front 0 rfl rfl).drop
                  have hR := Option.some.inj ho1254
                  subst hR
                  have hT := thn_inl H
                  have hR := Option.some.inj hT
                  subst hR
                  exact at_ret1 rfl rfl ⟨_, rfl, rfl, HM⟩
                · replace ho1254 := cond_f hb1307 ho1254
                  refine run_skip ?_
                  refine at_block ?_
                  refine at_then ?_
                  refine run_region rfl ?_
                  refine ops_ex rfl (guard_none rfl) rfl rfl (ex_add rfl rfl rfl) ?_
                  refine ops_ex rfl (guard_none rfl) rfl rfl (ex_move rfl rfl) ?_
                  refine ops_nil ?_
                  exact at_again k1288 (ρ1 := [(1, .pointer (some ⟨b1173, 0, none⟩)), (36, p0_0), (37, .int .i64 (x0.fTxs.length : Int)), (38, .int .i64 (wrap64 (a1271 + 1)))]) (Nat.lt_succ_self _) ⟨_, ho1254, rfl, HM⟩ (Sub.cons rfl (Sub.cons rfl (Sub.cons rfl (Sub.cons rfl Sub.nil))))
            · replace ho1254 := cond_f hb1290 ho1254
              refine run_exit ?_
              refine at_then_exit ?_
              refine at_then_exit ?_
              refine at_block_exit ?_
              replace HM := (HM.front 0 rfl rfl).drop
              exact at_mid (ρ' := []) ⟨(Option.some.inj ho1254), rfl, HM⟩ Sub.nil
          · rintro _ w1308 ⟨rfl, rfl, HM⟩
            replace H := (thn_inr H)
            refine run_seq ?_
            refine run_region rfl ?_
            refine ops_ex rfl (guard_none rfl) rfl rfl (ex_assign rfl rfl) ?_
            refine ops_nil ?_
            refine at_then ?_
            refine run_ret ?_
            have hR := Option.some.inj H
            subst hR
            exact at_ret1 rfl rfl ⟨_, rfl, rfl, HM⟩
end Go.Proofs.YtcpacdbdehphkaaDoor.Zk
