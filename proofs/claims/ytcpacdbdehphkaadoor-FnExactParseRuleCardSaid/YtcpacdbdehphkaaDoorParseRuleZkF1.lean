/- What functions of the program compute, each as a plain function, and that they do. Conditions: as each theorem states them. -/
import Derived.Test.YtcpacdbdehphkaaDoorParseRuleZkF0
namespace Go.Proofs.YtcpacdbdehphkaaDoor.Zk
open Go Go.RowKit Go.IntWalk Go.Proofs
set_option linter.unusedVariables false
set_option linter.unusedSimpArgs false
set_option maxRecDepth 100000
set_option maxHeartbeats 4000000
def spec_ParseRule.f (k : Nat) (x0 : ByteArray) : Option RuleResult := ((spec_l2Parse.f k x0).bind fun t684 => (bif !t684.2 then some (⟨5, (⟨([] : List Int), 0, 0⟩ : Rule)⟩ : RuleResult) else some (⟨0, (⟨t684.1.fKeys, t684.1.fNeed, t684.1.fAfter⟩ : Rule)⟩ : RuleResult)))
theorem spec_ParseRule.calls {k : Nat} {x0 : ByteArray}  {w : World}  {r : RuleResult} (H : spec_ParseRule.f k x0 = some r) :
    Calls Tryd.prog 12 ([.string x0] : List Value).toArray w (fun e w_ => ∃ v, e = .returned v ∧ ∃ u0 : Value, v = (.agg #[.int .i64 r.fCode, u0, .int .i64 r.fRule.fNeed, .int .i64 r.fRule.fAfter]) ∧ Mem w [] w_ [own kInt 2 u0 r.fRule.fKeys]) := by
  have HM := Mem.start w
  refine calls_run (N := 15) Tryd.func12 rfl rfl rfl rfl ?_
  unfold spec_ParseRule.f at H
  refine run_seq ?_
  refine run_region rfl ?_
  refine ops_does rfl (guard_none rfl) rfl rfl (does_alloc (cs := [.int .i64 0, .slice none 0 0, .int .i64 0, .int .i64 0]) rfl tz42 rfl HM) ?_
  rintro _ w683 ⟨b680, rfl, HM⟩
  refine ops_nil ?_
  refine at_then ?_
  refine run_seq ?_
  obtain ⟨t684, h685, H⟩ := bind_some H
  refine run_region rfl ?_
  refine ops_ex rfl (guard_none rfl) rfl rfl (ex_move rfl rfl) ?_
  refine ops_does rfl (guard_none rfl) rfl rfl (does_callk rfl callok39 rfl (spec_l2Parse.calls (x0 := x0) h685)) ?_
  rintro _ w691 ⟨u686, rfl, hn⟩
  replace HM : Mem w [] w691 [own kInt 2 u686 t684.1.fKeys, box b680 42 [.int .i64 0, .slice none 0 0, .int .i64 0, .int .i64 0]] := HM.call hn
  refine ops_ex rfl (guard_none rfl) rfl rfl (ex_move rfl rfl) ?_
  refine ops_ex rfl (guard_none rfl) rfl rfl (ex_extract rfl rfl rfl) ?_
  refine ops_ex rfl (guard_none rfl) rfl rfl (ex_extract rfl rfl rfl) ?_
  refine ops_does rfl (guard_none rfl) rfl rfl (does_alloc (cs := [.slice none 0 0, .int .i64 0, .int .i64 0]) rfl tz40 rfl HM) ?_
  rintro _ w692 ⟨b688, rfl, HM⟩
  refine ops_doesS rfl (guard_none rfl) rfl (does_store (vs := [u686, .int .i64 t684.1.fNeed, .int .i64 t684.1.fAfter]) (cs' := [u686, .int .i64 t684.1.fNeed, .int .i64 t684.1.fAfter]) rfl rfl rfl rfl tsz40 (Ones.rd (HM.own_rd 1 rfl) (Ones.int (Ones.int Ones.nil))) rfl rfl HM) ?_
  rintro w693 HM
  refine ops_ex rfl (guard_none rfl) rfl rfl (ex_assign rfl rfl) ?_
  refine ops_nil ?_
  refine at_then ?_
  refine run_seq ?_
  refine run_seq ?_
  refine run_region rfl ?_
  refine ops_ex rfl (guard_none rfl) rfl rfl (ex_move rfl rfl) ?_
  refine ops_ex rfl (guard_none rfl) rfl rfl (ex_not rfl rfl) ?_
  refine ops_nil ?_
  refine at_then ?_
  refine run_cond (b := !t684.2) rfl (fun hb694 => ?_) (fun hb694 => ?_)
  · replace H := cond_t hb694 H
    refine run_seq ?_
    refine run_region rfl ?_
    refine ops_ex rfl (guard_none rfl) rfl rfl (ex_build (cells := #[(.int .i64 5), (.slice none 0 0), (.int .i64 0), (.int .i64 0)]) rfl rfl (by kernel_rfl)) ?_
    replace HM := HM.front 2 rfl rfl
    refine ops_doesS rfl (guard_none rfl) rfl (does_store (vs := [.int .i64 5, .slice none 0 0, .int .i64 0, .int .i64 0]) (cs' := [.int .i64 5, .slice none 0 0, .int .i64 0, .int .i64 0]) rfl rfl rfl rfl tsz42 (Ones.int (Ones.sl (Ones.int (Ones.int Ones.nil)))) rfl rfl HM) ?_
    rintro w695 HM
    refine ops_nil ?_
    refine at_then ?_
    refine run_ret ?_
    refine at_then_ret ?_
    replace HM := HM.empty kInt 2 none
    replace HM := (HM.front 2 rfl rfl).drop
    replace HM := (HM.front 2 rfl rfl).drop
    replace HM := HM.front 1 rfl rfl
    have hcb0 := HM.box_at 0 rfl
    replace HM := (HM.front 0 rfl rfl).drop
    have hR := Option.some.inj H
    subst hR
    exact at_retN rfl rfl Tryd.underlying42 rfl tsz42 rfl hcb0 ⟨_, rfl, _, rfl, HM⟩
  · replace H := cond_f hb694 H
    refine run_skip ?_
    refine at_then ?_
    refine run_seq ?_
    refine run_region rfl ?_
    refine ops_ex rfl (guard_none rfl) rfl rfl (ex_loadN (cs := [u686, (.int .i64 t684.1.fNeed), (.int .i64 t684.1.fAfter)]) rfl rfl Tryd.underlying40 rfl tsz40 rfl ((HM.box_at 0 rfl).sub 0 3 rfl)) ?_
    refine ops_ex rfl (guard_none rfl) rfl rfl (ex_build1 (fun u686 => [(1, .agg #[u686, (.int .i64 t684.1.fNeed), (.int .i64 t684.1.fAfter)])]) (fun u686 => #[.int .i64 0, u686, .int .i64 t684.1.fNeed, .int .i64 t684.1.fAfter]) rfl rfl (fun _ _ _ => by kernel_rfl) (HM.own_rd 1 rfl).isSl) ?_
    replace HM := HM.front 2 rfl rfl
    refine ops_doesS rfl (guard_none rfl) rfl (does_store (vs := [.int .i64 0, u686, .int .i64 t684.1.fNeed, .int .i64 t684.1.fAfter]) (cs' := [.int .i64 0, u686, .int .i64 t684.1.fNeed, .int .i64 t684.1.fAfter]) rfl rfl rfl rfl tsz42 (Ones.int (Ones.rd (HM.own_rd 2 rfl) (Ones.int (Ones.int Ones.nil)))) rfl rfl HM) ?_
    rintro w697 HM
    refine ops_nil ?_
    refine at_then ?_
    refine run_ret ?_
    replace HM := (HM.front 1 rfl rfl).drop
    have hcb0 := HM.box_at 0 rfl
    replace HM := (HM.front 0 rfl rfl).drop
    have hR := Option.some.inj H
    subst hR
    exact at_retN rfl rfl Tryd.underlying42 rfl tsz42 rfl hcb0 ⟨_, rfl, _, rfl, HM⟩

def strings_Split.f (k : Nat) (x0 x1 : ByteArray) : Option (List ByteArray) := (chk (leB 1 x1.size && leB x0.size 4294967280) (some (Lib.splitB x1 0 (Lib.countB x0 x1) x0)))
theorem strings_Split.calls {k : Nat} {x0 x1 : ByteArray} {w : World} (htab : TabP w) {r : List ByteArray} (H : strings_Split.f k x0 x1 = some r) :
    Calls Tryd.prog 84 ([.string x0, .string x1] : List Value).toArray w (fun e w_ => ∃ v, e = .returned v ∧ ∃ u0 : Value, v = u0 ∧ Mem w [] w_ [own kStr 9 u0 r]) := by
  obtain ⟨h, H⟩ := chk_some H
  have hR := Option.some.inj H
  subst hR
  rw [Bool.and_eq_true] at h
  have h1 : 1 ≤ x1.size := leB_le h.1
  have h0 : x0.size ≤ 4294967280 := leB_le h.2
  obtain ⟨m, hm⟩ := htab.maxLen
  refine (Tryd.strings_Split x0 x1 m w (by omega) hm h1).mono fun e w_ ⟨he, hw⟩ => ⟨_, he, _, rfl, ?_⟩
  subst hw
  have hc := Lib.countB_le x1 h1 _ x0 (Nat.le_refl _)
  exact mem_row rfl (Lib.splitB_all x1 h1 0 _ x0 rfl) (by unfold maxLen; omega) (fun w => by simpa using Elems.strs (d := kStr) (fun x => ⟨rfl, rfl⟩) _)

def strconv_ParseInt.f (k : Nat) (x0 : ByteArray) (x1 x2 : Int) : Option (Int × Bool) := (chk ((x1 == 10 && x2 == 64) && leB x0.size 281474976710656) (some (piR x0.data.toList (Lib.parseIntB 64 x0.data.toList))))
theorem strconv_ParseInt.calls {k : Nat} {x0 : ByteArray} {x1 x2 : Int} {w : World} (htab : TabP w) {r : Int × Bool} (H : strconv_ParseInt.f k x0 x1 x2 = some r) :
    Calls Tryd.prog 103 ([.string x0, .int .i64 x1, .int .i64 x2] : List Value).toArray w (fun e w_ => ∃ v, e = .returned v ∧ ∃ u0 : Value, ErrV u0 r.2 ∧ v = .tuple #[.int .i64 r.1, u0] ∧ Mem w [] w_ []) := by
  obtain ⟨h, H⟩ := chk_some H
  have hR := Option.some.inj H
  subst hR
  simp only [Bool.and_eq_true, beq_iff_eq] at h
  obtain ⟨⟨rfl, rfl⟩, h⟩ := h
  have h0 : x0.size ≤ 281474976710656 := leB_le h
  have hm : ∀ w_, Below w.heap.size w w_ → Mem w [] w_ [] := fun w_ hb => ⟨Fr.of_below hb, [], .nil, List.nodup_nil, by simp⟩
  cases hp : Lib.parseIntB 64 x0.data.toList with
  | ok v =>
    refine (Tryd.strconv_ParseInt_10_at64_ok x0 (by omega) v hp w).mono fun e w_ ⟨he, hw⟩ => ⟨_, he, _, .inl ⟨rfl, rfl⟩, rfl, hm _ ?_⟩
    rcases hw with rfl | ⟨t, rfl⟩
    · exact Below.refl _ _
    · exact Lib.bytesWorld_below _ _ _
  | range =>
    obtain ⟨te, pe, hv⟩ := htab.rng
    exact (Tryd.strconv_ParseInt_10_at64_range x0 h0 hp _ w hv (.inr ⟨te, pe, rfl⟩)).mono fun e w_ ⟨N, he, _, _, hw⟩ => ⟨_, he, _, .inr ⟨rfl, _, _, rfl⟩, rfl, hm _ hw⟩
  | _ =>
    obtain ⟨te, pe, hv⟩ := htab.syn
    exact (Tryd.strconv_ParseInt_10_at64_syntax x0 h0 hp _ w hv (.inr ⟨te, pe, rfl⟩)).mono fun e w_ ⟨N, he, _, _, hw⟩ => ⟨_, he, _, .inr ⟨rfl, _, _, rfl⟩, rfl, hm _ hw⟩

def strconv_FormatInt.f (k : Nat) (x0 : Int) (x1 : Int) : Option ByteArray := (chk ((decide (-9223372036854775808 ≤ x0) && decide (x0 ≤ 9223372036854775807)) && (x1 == 10)) (some (⟨(Lib.itoa x0).toArray⟩ : ByteArray)))
theorem strconv_FormatInt.calls {k : Nat} {x0 x1 : Int} {w : World} (htab : TabP w) {r : ByteArray} (H : strconv_FormatInt.f k x0 x1 = some r) :
    Calls Tryd.prog 97 ([.int .i64 x0, .int .i64 x1] : List Value).toArray w (fun e w_ => ∃ v, e = .returned v ∧ v = (.string r) ∧ Mem w [] w_ []) := by
  obtain ⟨h, H⟩ := chk_some H
  have hR := Option.some.inj H
  subst hR
  simp only [Bool.and_eq_true, decide_eq_true_eq, beq_iff_eq] at h
  obtain ⟨⟨h0, h1⟩, rfl⟩ := h
  exact (Tryd.strconv_FormatInt_10 x0 h0 h1 w htab.tab).mono fun e w_ ⟨he, k, os, hw⟩ => ⟨_, he, rfl, hw ▸ mem_grow w k os⟩

def impl_dec.f (k : Nat) (x0 : Int) : Option ByteArray := ((strconv_FormatInt.f k x0 10).bind fun t725 => some t725)
theorem impl_dec.calls {k : Nat} {x0 : Int}  {w : World} (htab : TabP w)  {r : ByteArray} (H : impl_dec.f k x0 = some r) :
    Calls Tryd.prog 76 ([.int .i64 x0] : List Value).toArray w (fun e w_ => ∃ v, e = .returned v ∧ v = (.string r) ∧ Mem w [] w_ []) := by
  have HM := Mem.start w
  refine calls_run (N := 5) Tryd.func76 rfl rfl rfl rfl ?_
  unfold impl_dec.f at H
  refine run_seq ?_
  refine run_region rfl ?_
  refine ops_ex rfl (guard_none rfl) rfl rfl (ex_assign rfl rfl) ?_
  refine ops_nil ?_
  refine at_then ?_
  refine run_seq ?_
  obtain ⟨t725, h726, H⟩ := bind_some H
  refine run_region rfl ?_
  refine ops_ex rfl (guard_none rfl) rfl rfl (ex_move rfl rfl) ?_
  refine ops_does rfl (guard_none rfl) rfl rfl (does_callk rfl callok97 rfl (strconv_FormatInt.calls (x0 := x0) (x1 := 10) (HM.tabP htab) h726)) ?_
  rintro _ w727 ⟨rfl, hn⟩
  replace HM : Mem w [] w727 [] := HM.call hn
  refine ops_ex rfl (guard_none rfl) rfl rfl (ex_assign rfl rfl) ?_
  refine ops_nil ?_
  refine at_then ?_
  refine run_ret ?_
  have hR := Option.some.inj H
  subst hR
  exact at_ret1 rfl rfl ⟨_, rfl, rfl, HM⟩

def impl_number.f (k : Nat) (x0 : ByteArray) : Option Int := ((strconv_ParseInt.f k x0 10 64).bind fun t731 => ((bif (!((!t731.2) || (decide (10 < (x0.size : Int))))) then impl_dec.f k t731.1 else some default).bind fun t736 => (bif (((!t731.2) || (decide (10 < (x0.size : Int)))) || (!sEq t736 x0)) then some (-1) else some t731.1)))
theorem impl_number.calls {k : Nat} {x0 : ByteArray}  {w : World} (htab : TabP w)  {r : Int} (H : impl_number.f k x0 = some r) :
    Calls Tryd.prog 85 ([.string x0] : List Value).toArray w (fun e w_ => ∃ v, e = .returned v ∧ v = (.int .i64 r) ∧ Mem w [] w_ []) := by
  have HM := Mem.start w
  refine calls_run (N := 24) Tryd.func85 rfl rfl rfl rfl ?_
  unfold impl_number.f at H
  refine run_seq ?_
  refine run_region rfl ?_
  refine ops_ex rfl (guard_none rfl) rfl rfl (ex_assign rfl rfl) ?_
  refine ops_nil ?_
  refine at_then ?_
  refine run_seq ?_
  obtain ⟨t731, h732, H⟩ := bind_some H
  refine run_region rfl ?_
  refine ops_ex rfl (guard_none rfl) rfl rfl (ex_move rfl rfl) ?_
  refine ops_does rfl (guard_none rfl) rfl rfl (does_callk rfl callok103 rfl (strconv_ParseInt.calls (x0 := x0) (x1 := 10) (x2 := 64) (HM.tabP htab) h732)) ?_
  rintro _ w735 ⟨u733, hE734, rfl, hn⟩
  replace HM : Mem w [] w735 [] := HM.call hn
  refine ops_ex rfl (guard_none rfl) rfl rfl (ex_move rfl rfl) ?_
  refine ops_ex rfl (guard_none rfl) rfl rfl (ex_extract rfl rfl rfl) ?_
  refine ops_ex rfl (guard_none rfl) rfl rfl (ex_extract rfl rfl rfl) ?_
  refine ops_ex rfl (guard_none rfl) rfl rfl (ex_assign rfl rfl) ?_
  refine ops_ex rfl (guard_none rfl) rfl rfl (ex_assign rfl rfl) ?_
  refine ops_nil ?_
  refine at_then ?_
  refine run_seq ?_
  refine run_seq ?_
  obtain ⟨t736, h737, H⟩ := bind_some H
  refine run_meet (fun ρ_ w_ => ρ_ = [(3, .int .i64 t731.1), (22, .bool (((!t731.2) || (decide (10 < (x0.size : Int)))) || (!sEq t736 x0)))] ∧ Mem w [] w_ []) ?_ ?_
  · skip
    refine run_region rfl ?_
    refine ops_ex rfl (guard_none rfl) rfl rfl (ex_move rfl rfl) ?_
    refine ops_ex rfl (guard_none rfl) rfl rfl (ex_errneq rfl rfl rfl Tryd.underlying143 hE734) ?_
    refine ops_ex rfl (guard_none rfl) rfl rfl (ex_move rfl rfl) ?_
    refine bool_cases (!t731.2) (fun hg738 => ?_) (fun hg738 => ?_)
    · skip
      refine ops_off rfl (guard_off rfl rfl rfl hg738) rfl rfl ?_
      refine ops_off rfl (guard_off rfl rfl rfl hg738) rfl rfl ?_
      refine ops_off rfl (guard_off rfl rfl rfl hg738) rfl rfl ?_
      have hg739 : ((!t731.2) || (decide (10 < (x0.size : Int)))) = true := by simp only [hg738, Bool.and_true, Bool.true_and, Bool.and_false, Bool.false_and, Bool.or_true, Bool.true_or, Bool.or_false, Bool.false_or, Bool.not_true, Bool.not_false, Bool.not_not]
      refine ops_ex (v := .bool ((!t731.2) || (decide (10 < (x0.size : Int))))) rfl (guard_none rfl) rfl rfl (ex_por_t rfl rfl hg738) ?_
      refine ops_ex rfl (guard_none rfl) rfl rfl (ex_move rfl rfl) ?_
      refine ops_off rfl (guard_off rfl rfl rfl hg739) rfl rfl ?_
      refine ops_off rfl (guard_off rfl rfl rfl hg739) rfl rfl ?_
      refine ops_off rfl (guard_off rfl rfl rfl hg739) rfl rfl ?_
      refine ops_off rfl (guard_off rfl rfl rfl hg739) rfl rfl ?_
      have hg740 : (((!t731.2) || (decide (10 < (x0.size : Int)))) || (!sEq t736 x0)) = true := by simp only [hg739, Bool.and_true, Bool.true_and, Bool.and_false, Bool.false_and, Bool.or_true, Bool.true_or, Bool.or_false, Bool.false_or, Bool.not_true, Bool.not_false, Bool.not_not]
      refine ops_ex (v := .bool (((!t731.2) || (decide (10 < (x0.size : Int)))) || (!sEq t736 x0))) rfl (guard_none rfl) rfl rfl (ex_por_t rfl rfl hg739) ?_
      refine ops_nil ?_
      exact at_meet [(3, .int .i64 t731.1), (22, .bool (((!t731.2) || (decide (10 < (x0.size : Int)))) || (!sEq t736 x0)))] ⟨rfl, HM⟩ (Sub.cons rfl (Sub.cons rfl Sub.nil))
    · skip
      refine ops_ex rfl (guard_on rfl rfl rfl hg738) rfl rfl (ex_move rfl rfl) ?_
      refine ops_ex rfl (guard_on rfl rfl rfl hg738) rfl rfl (ex_strlen rfl rfl Tryd.underlying9) ?_
      refine ops_ex rfl (guard_on rfl rfl rfl hg738) rfl rfl (ex_gtr rfl rfl rfl) ?_
      refine ops_ex (v := .bool ((!t731.2) || (decide (10 < (x0.size : Int))))) rfl (guard_none rfl) rfl rfl (ex_por_f rfl rfl hg738 rfl) ?_
      refine ops_ex rfl (guard_none rfl) rfl rfl (ex_move rfl rfl) ?_
      refine bool_cases ((!t731.2) || (decide (10 < (x0.size : Int)))) (fun hg741 => ?_) (fun hg741 => ?_)
      · skip
        refine ops_off rfl (guard_off rfl rfl rfl hg741) rfl rfl ?_
        refine ops_off rfl (guard_off rfl rfl rfl hg741) rfl rfl ?_
        refine ops_off rfl (guard_off rfl rfl rfl hg741) rfl rfl ?_
        refine ops_off rfl (guard_off rfl rfl rfl hg741) rfl rfl ?_
        have hg742 : (((!t731.2) || (decide (10 < (x0.size : Int)))) || (!sEq t736 x0)) = true := by simp only [hg741, Bool.and_true, Bool.true_and, Bool.and_false, Bool.false_and, Bool.or_true, Bool.true_or, Bool.or_false, Bool.false_or, Bool.not_true, Bool.not_false, Bool.not_not]
        refine ops_ex (v := .bool (((!t731.2) || (decide (10 < (x0.size : Int)))) || (!sEq t736 x0))) rfl (guard_none rfl) rfl rfl (ex_por_t rfl rfl hg741) ?_
        refine ops_nil ?_
        exact at_meet [(3, .int .i64 t731.1), (22, .bool (((!t731.2) || (decide (10 < (x0.size : Int)))) || (!sEq t736 x0)))] ⟨rfl, HM⟩ (Sub.cons rfl (Sub.cons rfl Sub.nil))
      · skip
        refine ops_ex rfl (guard_on rfl rfl rfl hg741) rfl rfl (ex_move rfl rfl) ?_
        refine ops_does rfl (guard_on rfl rfl rfl hg741) rfl rfl (does_callk rfl callok76 rfl (impl_dec.calls (x0 := t731.1) (HM.tabP htab) (cond_t (not_mk hg741) h737))) ?_
        rintro _ w743 ⟨rfl, hn⟩
        replace HM : Mem w [] w743 [] := HM.call hn
        refine ops_ex rfl (guard_on rfl rfl rfl hg741) rfl rfl (ex_move rfl rfl) ?_
        refine ops_ex rfl (guard_on rfl rfl rfl hg741) rfl rfl (ex_sneq rfl rfl rfl) ?_
        refine ops_ex (v := .bool (((!t731.2) || (decide (10 < (x0.size : Int)))) || (!sEq t736 x0))) rfl (guard_none rfl) rfl rfl (ex_por_f rfl rfl hg741 rfl) ?_
        refine ops_nil ?_
        exact at_meet [(3, .int .i64 t731.1), (22, .bool (((!t731.2) || (decide (10 < (x0.size : Int)))) || (!sEq t736 x0)))] ⟨rfl, HM⟩ (Sub.cons rfl (Sub.cons rfl Sub.nil))
  · rintro _ w744 ⟨rfl, HM⟩
    refine at_then ?_
    refine run_cond (b := (((!t731.2) || (decide (10 < (x0.size : Int)))) || (!sEq t736 x0))) rfl (fun hb745 => ?_) (fun hb745 => ?_)
    · replace H := cond_t hb745 H
      refine run_seq ?_
      refine run_region rfl ?_
      refine ops_ex rfl (guard_none rfl) rfl rfl (ex_assign rfl rfl) ?_
      refine ops_nil ?_
      refine at_then ?_
      refine run_ret ?_
      refine at_then_ret ?_
      have hR := Option.some.inj H
      subst hR
      exact at_ret1 rfl rfl ⟨_, rfl, rfl, HM⟩
    · replace H := cond_f hb745 H
      refine run_skip ?_
      refine at_then ?_
      refine run_seq ?_
      refine run_region rfl ?_
      refine ops_ex rfl (guard_none rfl) rfl rfl (ex_move rfl rfl) ?_
      refine ops_ex rfl (guard_none rfl) rfl rfl (ex_assign rfl rfl) ?_
      refine ops_nil ?_
      refine at_then ?_
      refine run_ret ?_
      have hR := Option.some.inj H
      subst hR
      exact at_ret1 rfl rfl ⟨_, rfl, rfl, HM⟩

def impl_numbers.l0 (t841 : List ByteArray) : Nat → (List Int) → Int → Option ((List Int))
  | 0, _, _ => none
  | k + 1, a857, a859 => (bif (decide (a859 < (t841.length : Int))) then (chk (idxOk a859 t841.length) ((impl_number.f k (gt t841 a859)).bind fun t874 => (chk (leB ((a857.length + ([t874] : List Int).length) * 8) 140737488355328) (impl_numbers.l0 t841 k (a857 ++ ([t874] : List Int)) (wrap64 (a859 + 1)))))) else some a857)
theorem impl_numbers.l0_z (t841 : List ByteArray) (a857 : List Int) (a859 : Int) : impl_numbers.l0 t841 0 a857 a859 = none := rfl
theorem impl_numbers.l0_s (t841 : List ByteArray) (k : Nat) (a857 : List Int) (a859 : Int) : impl_numbers.l0 t841 (k + 1) a857 a859 = (bif (decide (a859 < (t841.length : Int))) then (chk (idxOk a859 t841.length) ((impl_number.f k (gt t841 a859)).bind fun t874 => (chk (leB ((a857.length + ([t874] : List Int).length) * 8) 140737488355328) (impl_numbers.l0 t841 k (a857 ++ ([t874] : List Int)) (wrap64 (a859 + 1)))))) else some a857) := rfl
def impl_numbers.f (k : Nat) (x0 : ByteArray) (x1 : ByteArray) : Option ((List Int)) := (((strings_Split.f k x0 x1).bind fun t841 => impl_numbers.l0 t841 k ([] : List Int) 0).bind (fun a837 => some a837))
theorem impl_numbers.calls {k : Nat} {x0 : ByteArray} {x1 : ByteArray}  {w : World} (htab : TabP w)  {r : (List Int)} (H : impl_numbers.f k x0 x1 = some r) :
    Calls Tryd.prog 86 ([.string x0, .string x1] : List Value).toArray w (fun e w_ => ∃ v, e = .returned v ∧ ∃ u0 : Value, v = u0 ∧ Mem w [] w_ [own kInt 2 u0 r]) := by
  have HM := Mem.start w
  refine calls_run (N := 24) Tryd.func86 rfl rfl rfl rfl ?_
  unfold impl_numbers.f at H
  refine run_seq ?_
  refine run_region rfl ?_
  refine ops_ex rfl (guard_none rfl) rfl rfl (ex_assign rfl rfl) ?_
  refine ops_nil ?_
  refine at_then ?_
  refine run_seq ?_
  refine run_region rfl ?_
  refine ops_does rfl (guard_none rfl) rfl rfl (does_lit (e := 2) (cs := []) (xs := ([] : List Int)) kInt rfl rfl (fun _ => by kernel_rfl) rfl rfl (fun _ _ h => by have h' : _ = [] := h; subst h'; exact .nil) HM.emp) ?_
  rintro v794 w797 HM
  refine ops_ex rfl (guard_none rfl) rfl rfl (ex_assign rfl rfl) ?_
  refine ops_nil ?_
  refine at_then ?_
  obtain ⟨o839, ho840, H⟩ := bind_some H
  refine run_mid (fun ρ_ w_ => ∃ v836 : Value, ∃ a837 : List Int, a837 = o839 ∧ ρ_ = [(5, v836)] ∧ Mem w [] w_ [own kInt 2 v836 a837]) ?_ ?_
  · clear H
    refine run_seq ?_
    obtain ⟨t841, h842, ho840⟩ := bind_some ho840
    refine run_region rfl ?_
    refine ops_ex rfl (guard_none rfl) rfl rfl (ex_move rfl rfl) ?_
    refine ops_ex rfl (guard_none rfl) rfl rfl (ex_move rfl rfl) ?_
    refine ops_does rfl (guard_none rfl) rfl rfl (does_callk rfl callok84 rfl (strings_Split.calls (x0 := x0) (x1 := x1) (HM.tabP htab) h842)) ?_
    rintro u843 w845 ⟨_, rfl, hn⟩
    replace HM : Mem w [] w845 [own kStr 9 u843 t841, own kInt 2 v794 ([] : List Int)] := HM.call hn
    refine ops_ex rfl (guard_none rfl) rfl rfl (ex_len (d := kStr) (xs := t841) rfl rfl Tryd.underlying103 (HM.own_rd 0 rfl)) ?_
    refine ops_ex rfl (guard_none rfl) rfl rfl (ex_move rfl rfl) ?_
    refine ops_nil ?_
    refine at_then ?_
    refine run_block ?_
    replace HM := HM.front 1 rfl rfl
    refine run_loop (fun k_ ρ_ w_ => ∃ v856 : Value, ∃ a857 : List Int, ∃ a859 : Int, impl_numbers.l0 t841 k_ a857 a859 = some o839 ∧ ρ_ = [(5, v856), (11, u843), (12, .int .i64 (t841.length : Int)), (13, .int .i64 a859)] ∧ Mem w [] w_ [own kInt 2 v856 a857, own kStr 9 u843 t841]) k (ρ1 := [(5, v794), (11, u843), (12, .int .i64 (t841.length : Int)), (13, .int .i64 0)]) ⟨_, _, _, ho840, rfl, HM⟩ (Sub.cons rfl (Sub.cons rfl (Sub.cons rfl (Sub.cons rfl Sub.nil)))) ?_
    clear HM ho840
    rintro k870 _ w871 ⟨v856, a857, a859, ho840, rfl, HM⟩
    obtain _ | k870 := k870
    · exact nomatch ((impl_numbers.l0_z t841 a857 a859).symm.trans ho840)
    replace ho840 := (impl_numbers.l0_s t841 k870 a857 a859).symm.trans ho840
    refine run_seq ?_
    refine run_region rfl ?_
    refine ops_ex rfl (guard_none rfl) rfl rfl (ex_lss rfl rfl rfl) ?_
    refine ops_nil ?_
    refine at_then ?_
    refine run_seq ?_
    refine run_cond (b := (decide (a859 < (t841.length : Int)))) rfl (fun hb872 => ?_) (fun hb872 => ?_)
    · replace ho840 := cond_t hb872 ho840
      refine run_skip ?_
      refine at_then ?_
      refine run_seq ?_
      refine run_block ?_
      refine run_seq ?_
      obtain ⟨e873, ho840⟩ := chk_some ho840
      refine run_region rfl ?_
      refine ops_ex rfl (guard_none rfl) rfl rfl (ex_indexAddr (d := kStr) rfl rfl rfl Tryd.underlying103 tsz9 (HM.own_rd 1 rfl) (idx_lo e873) (idx_hi e873)) ?_
      refine ops_ex rfl (guard_none rfl) rfl rfl (ex_load1 rfl rfl Tryd.underlying9 rfl ((rd_plain (HM.own_rd 1 rfl) e873) 0 _ rfl)) ?_
      refine ops_ex rfl (guard_none rfl) rfl rfl (ex_assign rfl rfl) ?_
      refine ops_nil ?_
      refine at_then ?_
      obtain ⟨t874, h875, ho840⟩ := bind_some ho840
      obtain ⟨e879, ho840⟩ := chk_some ho840
      refine run_region rfl ?_
      refine ops_ex rfl (guard_none rfl) rfl rfl (ex_move rfl rfl) ?_
      refine ops_ex rfl (guard_none rfl) rfl rfl (ex_move rfl rfl) ?_
      refine ops_does rfl (guard_none rfl) rfl rfl (does_callk rfl callok85 rfl (impl_number.calls (x0 := (gt t841 a859)) (HM.tabP htab) h875)) ?_
      rintro _ w882 ⟨rfl, hn⟩
      replace HM : Mem w [] w882 [own kInt 2 v856 a857, own kStr 9 u843 t841] := HM.call hn
      refine ops_does rfl (guard_none rfl) rfl rfl (does_lit (e := 2) (cs := [.int .i64 t874]) (xs := ([t874] : List Int)) kInt rfl rfl (fun _ => by kernel_rfl) rfl rfl (fun _ _ h => by have h' : _ = [] := h; subst h'; exact (Elems.cons (d := kInt) (f := []) ⟨rfl, rfl⟩ .nil)) HM.emp) ?_
      rintro v876 w883 HM
      replace HM := HM.front 1 rfl rfl
      refine ops_does rfl (guard_none rfl) rfl rfl (does_appendR kInt flat_plain rfl rfl rfl Tryd.underlying38 tsz2 rfl tby2 tz2 rfl rfl (leB_le e879) (HM.own_rd 1 rfl) HM) ?_
      rintro v880 w884 HM
      refine ops_ex rfl (guard_none rfl) rfl rfl (ex_assign rfl rfl) ?_
      refine ops_nil ?_
      refine at_block ?_
      refine at_then ?_
      refine run_region rfl ?_
      refine ops_ex rfl (guard_none rfl) rfl rfl (ex_add rfl rfl rfl) ?_
      refine ops_ex rfl (guard_none rfl) rfl rfl (ex_move rfl rfl) ?_
      refine ops_nil ?_
      replace HM := (HM.front 1 rfl rfl).drop
      exact at_again k870 (ρ1 := [(5, v880), (11, u843), (12, .int .i64 (t841.length : Int)), (13, .int .i64 (wrap64 (a859 + 1)))]) (Nat.lt_succ_self _) ⟨_, _, _, ho840, rfl, HM⟩ (Sub.cons rfl (Sub.cons rfl (Sub.cons rfl (Sub.cons rfl Sub.nil))))
    · replace ho840 := cond_f hb872 ho840
      refine run_exit ?_
      refine at_then_exit ?_
      refine at_then_exit ?_
      refine at_block_exit ?_
      replace HM := (HM.front 1 rfl rfl).drop
      exact at_mid (ρ' := [(5, v856)]) ⟨_, _, (Option.some.inj ho840), rfl, HM⟩ (Sub.cons rfl Sub.nil)
  · rintro _ w885 ⟨v836, a837, rfl, rfl, HM⟩
    refine run_seq ?_
    refine run_region rfl ?_
    refine ops_ex rfl (guard_none rfl) rfl rfl (ex_move rfl rfl) ?_
    refine ops_ex rfl (guard_none rfl) rfl rfl (ex_assign rfl rfl) ?_
    refine ops_nil ?_
    refine at_then ?_
    refine run_ret ?_
    have hR := Option.some.inj H
    subst hR
    exact at_ret1 rfl rfl ⟨_, rfl, _, rfl, HM⟩

def impl_within.f (k : Nat) (x0 : Int) (x1 : Int) (x2 : Int) : Option Bool := some ((decide (x1 ≤ x0)) && (decide (x0 ≤ x2)))
theorem impl_within.calls {k : Nat} {x0 : Int} {x1 : Int} {x2 : Int}  {w : World}  {r : Bool} (H : impl_within.f k x0 x1 x2 = some r) :
    Calls Tryd.prog 54 ([.int .i64 x0, .int .i64 x1, .int .i64 x2] : List Value).toArray w (fun e w_ => ∃ v, e = .returned v ∧ v = (.bool r) ∧ Mem w [] w_ []) := by
  have HM := Mem.start w
  refine calls_run (N := 15) Tryd.func54 rfl rfl rfl rfl ?_
  unfold impl_within.f at H
  refine run_seq ?_
  refine run_region rfl ?_
  refine ops_ex rfl (guard_none rfl) rfl rfl (ex_assign rfl rfl) ?_
  refine ops_nil ?_
  refine at_then ?_
  refine run_seq ?_
  refine run_meet (fun ρ_ w_ => ρ_ = [(6, .bool ((decide (x1 ≤ x0)) && (decide (x0 ≤ x2))))] ∧ Mem w [] w_ []) ?_ ?_
  · skip
    refine run_region rfl ?_
    refine ops_ex rfl (guard_none rfl) rfl rfl (ex_move rfl rfl) ?_
    refine ops_ex rfl (guard_none rfl) rfl rfl (ex_move rfl rfl) ?_
    refine ops_ex rfl (guard_none rfl) rfl rfl (ex_geq rfl rfl rfl) ?_
    refine ops_ex rfl (guard_none rfl) rfl rfl (ex_move rfl rfl) ?_
    refine bool_cases (decide (x1 ≤ x0)) (fun hg907 => ?_) (fun hg907 => ?_)
    · skip
      refine ops_ex rfl (guard_on rfl rfl rfl hg907) rfl rfl (ex_move rfl rfl) ?_
      refine ops_ex rfl (guard_on rfl rfl rfl hg907) rfl rfl (ex_move rfl rfl) ?_
      refine ops_ex rfl (guard_on rfl rfl rfl hg907) rfl rfl (ex_leq rfl rfl rfl) ?_
      refine ops_ex (v := .bool ((decide (x1 ≤ x0)) && (decide (x0 ≤ x2)))) rfl (guard_none rfl) rfl rfl (ex_pand_t rfl rfl hg907 rfl) ?_
      refine ops_ex rfl (guard_none rfl) rfl rfl (ex_assign rfl rfl) ?_
      refine ops_nil ?_
      exact at_meet [(6, .bool ((decide (x1 ≤ x0)) && (decide (x0 ≤ x2))))] ⟨rfl, HM⟩ (Sub.cons rfl Sub.nil)
    · skip
      refine ops_off rfl (guard_off rfl rfl rfl hg907) rfl rfl ?_
      refine ops_off rfl (guard_off rfl rfl rfl hg907) rfl rfl ?_
      refine ops_off rfl (guard_off rfl rfl rfl hg907) rfl rfl ?_
      have hg908 : ((decide (x1 ≤ x0)) && (decide (x0 ≤ x2))) = false := by simp only [hg907, Bool.and_true, Bool.true_and, Bool.and_false, Bool.false_and, Bool.or_true, Bool.true_or, Bool.or_false, Bool.false_or, Bool.not_true, Bool.not_false, Bool.not_not]
      refine ops_ex (v := .bool ((decide (x1 ≤ x0)) && (decide (x0 ≤ x2)))) rfl (guard_none rfl) rfl rfl (ex_pand_f rfl rfl hg907) ?_
      refine ops_ex rfl (guard_none rfl) rfl rfl (ex_assign rfl rfl) ?_
      refine ops_nil ?_
      exact at_meet [(6, .bool ((decide (x1 ≤ x0)) && (decide (x0 ≤ x2))))] ⟨rfl, HM⟩ (Sub.cons rfl Sub.nil)
  · rintro _ w909 ⟨rfl, HM⟩
    refine at_then ?_
    refine run_ret ?_
    have hR := Option.some.inj H
    subst hR
    exact at_ret1 rfl rfl ⟨_, rfl, rfl, HM⟩

def impl_isKey.f (k : Nat) (x0 : Int) : Option Bool := ((impl_within.f k x0 1 999).bind fun t918 => some t918)
theorem impl_isKey.calls {k : Nat} {x0 : Int}  {w : World}  {r : Bool} (H : impl_isKey.f k x0 = some r) :
    Calls Tryd.prog 55 ([.int .i64 x0] : List Value).toArray w (fun e w_ => ∃ v, e = .returned v ∧ v = (.bool r) ∧ Mem w [] w_ []) := by
  have HM := Mem.start w
  refine calls_run (N := 5) Tryd.func55 rfl rfl rfl rfl ?_
  unfold impl_isKey.f at H
  refine run_seq ?_
  refine run_region rfl ?_
  refine ops_ex rfl (guard_none rfl) rfl rfl (ex_assign rfl rfl) ?_
  refine ops_nil ?_
  refine at_then ?_
  refine run_seq ?_
  obtain ⟨t918, h919, H⟩ := bind_some H
  refine run_region rfl ?_
  refine ops_ex rfl (guard_none rfl) rfl rfl (ex_move rfl rfl) ?_
  refine ops_does rfl (guard_none rfl) rfl rfl (does_callk rfl callok54 rfl (impl_within.calls (x0 := x0) (x1 := 1) (x2 := 999) h919)) ?_
  rintro _ w920 ⟨rfl, hn⟩
  replace HM : Mem w [] w920 [] := HM.call hn
  refine ops_ex rfl (guard_none rfl) rfl rfl (ex_assign rfl rfl) ?_
  refine ops_nil ?_
  refine at_then ?_
  refine run_ret ?_
  have hR := Option.some.inj H
  subst hR
  exact at_ret1 rfl rfl ⟨_, rfl, rfl, HM⟩

def impl_areKeys_1.f (k : Nat) (x0 : Int) : Option Bool := ((impl_isKey.f k x0).bind fun t923 => some (!t923))
theorem impl_areKeys_1.calls {k : Nat} {x0 : Int}  {w : World}  {r : Bool} (H : impl_areKeys_1.f k x0 = some r) :
    Calls Tryd.prog 118 ([.int .i64 x0] : List Value).toArray w (fun e w_ => ∃ v, e = .returned v ∧ v = (.bool r) ∧ Mem w [] w_ []) := by
  have HM := Mem.start w
  refine calls_run (N := 6) Tryd.func118 rfl rfl rfl rfl ?_
  unfold impl_areKeys_1.f at H
  refine run_seq ?_
  refine run_region rfl ?_
  refine ops_ex rfl (guard_none rfl) rfl rfl (ex_assign rfl rfl) ?_
  refine ops_nil ?_
  refine at_then ?_
  refine run_seq ?_
  obtain ⟨t923, h924, H⟩ := bind_some H
  refine run_region rfl ?_
  refine ops_ex rfl (guard_none rfl) rfl rfl (ex_move rfl rfl) ?_
  refine ops_does rfl (guard_none rfl) rfl rfl (does_callk rfl callok55 rfl (impl_isKey.calls (x0 := x0) h924)) ?_
  rintro _ w925 ⟨rfl, hn⟩
  replace HM : Mem w [] w925 [] := HM.call hn
  refine ops_ex rfl (guard_none rfl) rfl rfl (ex_not rfl rfl) ?_
  refine ops_ex rfl (guard_none rfl) rfl rfl (ex_assign rfl rfl) ?_
  refine ops_nil ?_
  refine at_then ?_
  refine run_ret ?_
  have hR := Option.some.inj H
  subst hR
  exact at_ret1 rfl rfl ⟨_, rfl, rfl, HM⟩

def slices_IndexFunc_int64.l0 (x0 : List Int) : Nat → Int → Option (Int ⊕ Unit)
  | 0, _ => none
  | k + 1, a971 => (bif (decide (a971 < (x0.length : Int))) then (chk (idxOk a971 x0.length) ((impl_areKeys_1.f k (gt x0 a971)).bind fun t983 => (bif t983 then some (.inl a971) else slices_IndexFunc_int64.l0 x0 k (wrap64 (a971 + 1))))) else some (.inr ()))
theorem slices_IndexFunc_int64.l0_z (x0 : List Int) (a971 : Int) : slices_IndexFunc_int64.l0 x0 0 a971 = none := rfl
theorem slices_IndexFunc_int64.l0_s (x0 : List Int) (k : Nat) (a971 : Int) : slices_IndexFunc_int64.l0 x0 (k + 1) a971 = (bif (decide (a971 < (x0.length : Int))) then (chk (idxOk a971 x0.length) ((impl_areKeys_1.f k (gt x0 a971)).bind fun t983 => (bif t983 then some (.inl a971) else slices_IndexFunc_int64.l0 x0 k (wrap64 (a971 + 1))))) else some (.inr ())) := rfl
def slices_IndexFunc_int64.f (k : Nat) (x0 : List Int) : Option Int := ((slices_IndexFunc_int64.l0 x0 k 0).bind fun o963 => thn o963 (fun r => some r) (fun _ => some (-1)))
theorem slices_IndexFunc_int64.calls {k : Nat} {x0 : List Int} {p0 : Value} {w : World} (hp0 : RdS kInt w p0 x0) {r : Int} (H : slices_IndexFunc_int64.f k x0 = some r) :
    Calls Tryd.prog 134 ([p0, .func (.func 118) #[] #[]] : List Value).toArray w (fun e w_ => ∃ v, e = .returned v ∧ v = (.int .i64 r) ∧ Mem w [] w_ []) := by
  have HM := Mem.start w
  refine calls_run (N := 19) Tryd.func134 rfl rfl rfl rfl ?_
  unfold slices_IndexFunc_int64.f at H
  refine run_seq ?_
  refine run_region rfl ?_
  refine ops_ex rfl (guard_none rfl) rfl rfl (ex_assign rfl rfl) ?_
  refine ops_nil ?_
  refine at_then ?_
  obtain ⟨o963, ho964, H⟩ := bind_some H
  refine run_mid (fun ρ_ w_ => Sum.inr () = o963 ∧ ρ_ = [] ∧ Mem w [] w_ []) ?_ ?_
  · skip
    refine run_seq ?_
    refine run_region rfl ?_
    refine ops_ex rfl (guard_none rfl) rfl rfl (ex_move rfl rfl) ?_
    refine ops_ex rfl (guard_none rfl) rfl rfl (ex_len (d := kInt) (xs := x0) rfl rfl Tryd.underlying38 hp0) ?_
    refine ops_ex rfl (guard_none rfl) rfl rfl (ex_move rfl rfl) ?_
    refine ops_nil ?_
    refine at_then ?_
    refine run_block ?_
    refine run_loop (fun k_ ρ_ w_ => ∃ a971 : Int, slices_IndexFunc_int64.l0 x0 k_ a971 = some o963 ∧ ρ_ = [(0, p0), (1, .func (.func 118) #[] #[]), (7, .int .i64 (x0.length : Int)), (8, .int .i64 a971)] ∧ Mem w [] w_ []) k (ρ1 := [(0, p0), (1, .func (.func 118) #[] #[]), (7, .int .i64 (x0.length : Int)), (8, .int .i64 0)]) ⟨_, ho964, rfl, HM⟩ (Sub.cons rfl (Sub.cons rfl (Sub.cons rfl (Sub.cons rfl Sub.nil)))) ?_
    clear HM ho964
    rintro k978 _ w979 ⟨a971, ho964, rfl, HM⟩
    obtain _ | k978 := k978
    · exact nomatch ((slices_IndexFunc_int64.l0_z x0 a971).symm.trans ho964)
    replace ho964 := (slices_IndexFunc_int64.l0_s x0 k978 a971).symm.trans ho964
    refine run_seq ?_
    refine run_region rfl ?_
    refine ops_ex rfl (guard_none rfl) rfl rfl (ex_lss rfl rfl rfl) ?_
    refine ops_nil ?_
    refine at_then ?_
    refine run_seq ?_
    refine run_cond (b := (decide (a971 < (x0.length : Int)))) rfl (fun hb980 => ?_) (fun hb980 => ?_)
    · replace ho964 := cond_t hb980 ho964
      refine run_skip ?_
      refine at_then ?_
      refine run_seq ?_
      refine run_block ?_
      refine run_seq ?_
      refine run_region rfl ?_
      refine ops_ex rfl (guard_none rfl) rfl rfl (ex_move rfl rfl) ?_
      refine ops_ex rfl (guard_none rfl) rfl rfl (ex_assign rfl rfl) ?_
      refine ops_nil ?_
      refine at_then ?_
      refine run_seq ?_
      obtain ⟨e981, ho964⟩ := chk_some ho964
      obtain ⟨t983, h984, ho964⟩ := bind_some ho964
      refine run_region rfl ?_
      refine ops_ex rfl (guard_none rfl) rfl rfl (ex_move rfl rfl) ?_
      refine ops_ex rfl (guard_none rfl) rfl rfl (ex_move rfl rfl) ?_
      refine ops_ex rfl (guard_none rfl) rfl rfl (ex_move rfl rfl) ?_
      have hc982 : CellsAt _ (sb p0) (so p0 + (a971).toNat * 1) [(.int .i64 (gt x0 a971))] := rd_plain hp0 e981
      refine ops_ex rfl (guard_none rfl) rfl rfl (ex_indexAddr (d := kInt) rfl rfl rfl Tryd.underlying38 tsz2 hp0 (idx_lo e981) (idx_hi e981)) ?_
      refine ops_ex rfl (guard_none rfl) rfl rfl (ex_load1 rfl rfl Tryd.underlying2 rfl ((HM.at_ hc982) 0 _ rfl)) ?_
      refine ops_does rfl (guard_none rfl) rfl rfl (does_callvk rfl callok118 rfl rfl rfl (impl_areKeys_1.calls (x0 := (gt x0 a971)) h984)) ?_
      rintro _ w985 ⟨rfl, hn⟩
      replace HM : Mem w [] w985 [] := HM.call hn
      refine ops_nil ?_
      refine at_then ?_
      refine run_cond (b := t983) rfl (fun hb986 => ?_) (fun hb986 => ?_)
      · replace ho964 := cond_t hb986 ho964
        refine run_seq ?_
        refine run_region rfl ?_
        refine ops_ex rfl (guard_none rfl) rfl rfl (ex_move rfl rfl) ?_
        refine ops_ex rfl (guard_none rfl) rfl rfl (ex_assign rfl rfl) ?_
        refine ops_nil ?_
        refine at_then ?_
        refine run_ret ?_
        refine at_block_ret ?_
        refine at_then_ret ?_
        refine at_then_ret ?_
        refine at_block_ret ?_
        refine at_then_ret ?_
        have hR := Option.some.inj ho964
        subst hR
        have hT := thn_inl H
        have hR := Option.some.inj hT
        subst hR
        exact at_ret1 rfl rfl ⟨_, rfl, rfl, HM⟩
      · replace ho964 := cond_f hb986 ho964
        refine run_skip ?_
        refine at_block ?_
        refine at_then ?_
        refine run_region rfl ?_
        refine ops_ex rfl (guard_none rfl) rfl rfl (ex_add rfl rfl rfl) ?_
        refine ops_ex rfl (guard_none rfl) rfl rfl (ex_move rfl rfl) ?_
        refine ops_nil ?_
        exact at_again k978 (ρ1 := [(0, p0), (1, .func (.func 118) #[] #[]), (7, .int .i64 (x0.length : Int)), (8, .int .i64 (wrap64 (a971 + 1)))]) (Nat.lt_succ_self _) ⟨_, ho964, rfl, HM⟩ (Sub.cons rfl (Sub.cons rfl (Sub.cons rfl (Sub.cons rfl Sub.nil))))
    · replace ho964 := cond_f hb980 ho964
      refine run_exit ?_
      refine at_then_exit ?_
      refine at_then_exit ?_
      refine at_block_exit ?_
      exact at_mid (ρ' := []) ⟨(Option.some.inj ho964), rfl, HM⟩ Sub.nil
  · rintro _ w987 ⟨rfl, rfl, HM⟩
    replace H := (thn_inr H)
    refine run_seq ?_
    refine run_region rfl ?_
    refine ops_ex rfl (guard_none rfl) rfl rfl (ex_assign rfl rfl) ?_
    refine ops_nil ?_
    refine at_then ?_
    refine run_ret ?_
    have hR := Option.some.inj H
    subst hR
    exact at_ret1 rfl rfl ⟨_, rfl, rfl, HM⟩

def slices_ContainsFunc_int64.f (k : Nat) (x0 : List Int) : Option Bool := ((slices_IndexFunc_int64.f k x0).bind fun t990 => some (decide (0 ≤ t990)))
theorem slices_ContainsFunc_int64.calls {k : Nat} {x0 : List Int} {p0 : Value} {w : World} (hp0 : RdS kInt w p0 x0) {r : Bool} (H : slices_ContainsFunc_int64.f k x0 = some r) :
    Calls Tryd.prog 117 ([p0, .func (.func 118) #[] #[]] : List Value).toArray w (fun e w_ => ∃ v, e = .returned v ∧ v = (.bool r) ∧ Mem w [] w_ []) := by
  have HM := Mem.start w
  refine calls_run (N := 9) Tryd.func117 rfl rfl rfl rfl ?_
  unfold slices_ContainsFunc_int64.f at H
  refine run_seq ?_
  refine run_region rfl ?_
  refine ops_ex rfl (guard_none rfl) rfl rfl (ex_assign rfl rfl) ?_
  refine ops_nil ?_
  refine at_then ?_
  refine run_seq ?_
  obtain ⟨t990, h991, H⟩ := bind_some H
  refine run_region rfl ?_
  refine ops_ex rfl (guard_none rfl) rfl rfl (ex_move rfl rfl) ?_
  refine ops_ex rfl (guard_none rfl) rfl rfl (ex_move rfl rfl) ?_
  refine ops_does rfl (guard_none rfl) rfl rfl (does_callk rfl callok134 rfl (slices_IndexFunc_int64.calls (x0 := x0) (HM.rd hp0) h991)) ?_
  rintro _ w992 ⟨rfl, hn⟩
  replace HM : Mem w [] w992 [] := HM.call hn
  refine ops_ex rfl (guard_none rfl) rfl rfl (ex_geq rfl rfl rfl) ?_
  refine ops_ex rfl (guard_none rfl) rfl rfl (ex_assign rfl rfl) ?_
  refine ops_nil ?_
  refine at_then ?_
  refine run_ret ?_
  have hR := Option.some.inj H
  subst hR
  exact at_ret1 rfl rfl ⟨_, rfl, rfl, HM⟩

def impl_areKeys.f (k : Nat) (x0 : List Int) : Option Bool := ((slices_ContainsFunc_int64.f k x0).bind fun t995 => some (!t995))
theorem impl_areKeys.calls {k : Nat} {x0 : List Int} {p0 : Value} {w : World} (hp0 : RdS kInt w p0 x0) {r : Bool} (H : impl_areKeys.f k x0 = some r) :
    Calls Tryd.prog 104 ([p0] : List Value).toArray w (fun e w_ => ∃ v, e = .returned v ∧ v = (.bool r) ∧ Mem w [] w_ []) := by
  have HM := Mem.start w
  refine calls_run (N := 6) Tryd.func104 rfl rfl rfl rfl ?_
  unfold impl_areKeys.f at H
  refine run_seq ?_
  refine run_region rfl ?_
  refine ops_ex rfl (guard_none rfl) rfl rfl (ex_assign rfl rfl) ?_
  refine ops_nil ?_
  refine at_then ?_
  refine run_seq ?_
  obtain ⟨t995, h996, H⟩ := bind_some H
  refine run_region rfl ?_
  refine ops_ex rfl (guard_none rfl) rfl rfl (ex_move rfl rfl) ?_
  refine ops_does rfl (guard_none rfl) rfl rfl (does_callk rfl callok117 rfl (slices_ContainsFunc_int64.calls (x0 := x0) (HM.rd hp0) h996)) ?_
  rintro _ w997 ⟨rfl, hn⟩
  replace HM : Mem w [] w997 [] := HM.call hn
  refine ops_ex rfl (guard_none rfl) rfl rfl (ex_not rfl rfl) ?_
  refine ops_ex rfl (guard_none rfl) rfl rfl (ex_assign rfl rfl) ?_
  refine ops_nil ?_
  refine at_then ?_
  refine run_ret ?_
  have hR := Option.some.inj H
  subst hR
  exact at_ret1 rfl rfl ⟨_, rfl, rfl, HM⟩

def impl_isHeight.f (k : Nat) (x0 : Int) : Option Bool := ((impl_within.f k x0 0 999).bind fun t1004 => some t1004)
theorem impl_isHeight.calls {k : Nat} {x0 : Int}  {w : World}  {r : Bool} (H : impl_isHeight.f k x0 = some r) :
    Calls Tryd.prog 105 ([.int .i64 x0] : List Value).toArray w (fun e w_ => ∃ v, e = .returned v ∧ v = (.bool r) ∧ Mem w [] w_ []) := by
  have HM := Mem.start w
  refine calls_run (N := 5) Tryd.func105 rfl rfl rfl rfl ?_
  unfold impl_isHeight.f at H
  refine run_seq ?_
  refine run_region rfl ?_
  refine ops_ex rfl (guard_none rfl) rfl rfl (ex_assign rfl rfl) ?_
  refine ops_nil ?_
  refine at_then ?_
  refine run_seq ?_
  obtain ⟨t1004, h1005, H⟩ := bind_some H
  refine run_region rfl ?_
  refine ops_ex rfl (guard_none rfl) rfl rfl (ex_move rfl rfl) ?_
  refine ops_does rfl (guard_none rfl) rfl rfl (does_callk rfl callok54 rfl (impl_within.calls (x0 := x0) (x1 := 0) (x2 := 999) h1005)) ?_
  rintro _ w1006 ⟨rfl, hn⟩
  replace HM : Mem w [] w1006 [] := HM.call hn
  refine ops_ex rfl (guard_none rfl) rfl rfl (ex_assign rfl rfl) ?_
  refine ops_nil ?_
  refine at_then ?_
  refine run_ret ?_
  have hR := Option.some.inj H
  subst hR
  exact at_ret1 rfl rfl ⟨_, rfl, rfl, HM⟩

def impl_isRising.l0 (x0 : List Int) : Nat → Int → Option (Bool ⊕ Unit)
  | 0, _ => none
  | k + 1, a1058 => (bif (decide (a1058 < (x0.length : Int))) then (chk (idxOk a1058 x0.length) (chk (idxOk (wrap64 (a1058 - 1)) x0.length) (bif (decide ((gt x0 a1058) ≤ (gt x0 (wrap64 (a1058 - 1))))) then some (.inl false) else impl_isRising.l0 x0 k (wrap64 (a1058 + 1))))) else some (.inr ()))
theorem impl_isRising.l0_z (x0 : List Int) (a1058 : Int) : impl_isRising.l0 x0 0 a1058 = none := rfl
theorem impl_isRising.l0_s (x0 : List Int) (k : Nat) (a1058 : Int) : impl_isRising.l0 x0 (k + 1) a1058 = (bif (decide (a1058 < (x0.length : Int))) then (chk (idxOk a1058 x0.length) (chk (idxOk (wrap64 (a1058 - 1)) x0.length) (bif (decide ((gt x0 a1058) ≤ (gt x0 (wrap64 (a1058 - 1))))) then some (.inl false) else impl_isRising.l0 x0 k (wrap64 (a1058 + 1))))) else some (.inr ())) := rfl
def impl_isRising.f (k : Nat) (x0 : List Int) : Option Bool := ((impl_isRising.l0 x0 k 1).bind fun o1050 => thn o1050 (fun r => some r) (fun _ => some true))
theorem impl_isRising.calls {k : Nat} {x0 : List Int} {p0 : Value} {w : World} (hp0 : RdS kInt w p0 x0) {r : Bool} (H : impl_isRising.f k x0 = some r) :
    Calls Tryd.prog 106 ([p0] : List Value).toArray w (fun e w_ => ∃ v, e = .returned v ∧ v = (.bool r) ∧ Mem w [] w_ []) := by
  have HM := Mem.start w
  refine calls_run (N := 20) Tryd.func106 rfl rfl rfl rfl ?_
  unfold impl_isRising.f at H
  refine run_seq ?_
  refine run_region rfl ?_
  refine ops_ex rfl (guard_none rfl) rfl rfl (ex_assign rfl rfl) ?_
  refine ops_nil ?_
  refine at_then ?_
  obtain ⟨o1050, ho1051, H⟩ := bind_some H
  refine run_mid (fun ρ_ w_ => Sum.inr () = o1050 ∧ ρ_ = [] ∧ Mem w [] w_ []) ?_ ?_
  · skip
    refine run_seq ?_
    refine run_region rfl ?_
    refine ops_ex rfl (guard_none rfl) rfl rfl (ex_assign rfl rfl) ?_
    refine ops_nil ?_
    refine at_then ?_
    refine run_block ?_
    refine run_loop (fun k_ ρ_ w_ => ∃ a1058 : Int, impl_isRising.l0 x0 k_ a1058 = some o1050 ∧ ρ_ = [(0, p0), (3, .int .i64 a1058)] ∧ Mem w [] w_ []) k (ρ1 := [(0, p0), (3, .int .i64 1)]) ⟨_, ho1051, rfl, HM⟩ (Sub.cons rfl (Sub.cons rfl Sub.nil)) ?_
    clear HM ho1051
    rintro k1065 _ w1066 ⟨a1058, ho1051, rfl, HM⟩
    obtain _ | k1065 := k1065
    · exact nomatch ((impl_isRising.l0_z x0 a1058).symm.trans ho1051)
    replace ho1051 := (impl_isRising.l0_s x0 k1065 a1058).symm.trans ho1051
    refine run_seq ?_
    refine run_seq ?_
    refine run_region rfl ?_
    refine ops_ex rfl (guard_none rfl) rfl rfl (ex_move rfl rfl) ?_
    refine ops_ex rfl (guard_none rfl) rfl rfl (ex_move rfl rfl) ?_
    refine ops_ex rfl (guard_none rfl) rfl rfl (ex_len (d := kInt) (xs := x0) rfl rfl Tryd.underlying38 hp0) ?_
    refine ops_ex rfl (guard_none rfl) rfl rfl (ex_lss rfl rfl rfl) ?_
    refine ops_nil ?_
    refine at_then ?_
    refine run_cond (b := (decide (a1058 < (x0.length : Int)))) rfl (fun hb1067 => ?_) (fun hb1067 => ?_)
    · replace ho1051 := cond_t hb1067 ho1051
      refine run_skip ?_
      refine at_then ?_
      refine run_seq ?_
      refine run_block ?_
      refine run_seq ?_
      obtain ⟨e1068, ho1051⟩ := chk_some ho1051
      obtain ⟨e1070, ho1051⟩ := chk_some ho1051
      refine run_drawf (fun w_ => Mem w [] w_ []) [(0, true), (1, true), (2, true), (3, true), (4, true), (5, true), (6, true), (7, true), (8, true), (9, true)] mixed rfl rfl (by kernel_rfl) ?_
      replace HM := HM.grow (fr_drew _)
      have hS := Mem.suf (M := []) HM
      refine drwp_take rfl (guard_none rfl) rfl rfl (fun w_ hS_ => (ex_move rfl rfl)) hS ?_
      refine drwp_take rfl (guard_none rfl) rfl rfl (fun w_ hS_ => (ex_move rfl rfl)) hS ?_
      have hc1069 : CellsAt _ (sb p0) (so p0 + (a1058).toNat * 1) [(.int .i64 (gt x0 a1058))] := rd_plain hp0 e1068
      refine drwp_take rfl (guard_none rfl) rfl rfl (fun w_ hS_ => (ex_indexAddr (d := kInt) rfl rfl rfl Tryd.underlying38 tsz2 hp0 (idx_lo e1068) (idx_hi e1068))) hS ?_
      refine drwp_take rfl (guard_none rfl) rfl rfl (fun w_ hS_ => (ex_load1 rfl rfl Tryd.underlying2 rfl ((hS_.at_ hc1069) 0 _ rfl))) hS ?_
      refine drwp_take rfl (guard_none rfl) rfl rfl (fun w_ hS_ => (ex_move rfl rfl)) hS ?_
      refine drwp_take rfl (guard_none rfl) rfl rfl (fun w_ hS_ => (ex_move rfl rfl)) hS ?_
      refine drwp_take rfl (guard_none rfl) rfl rfl (fun w_ hS_ => (ex_sub rfl rfl rfl)) hS ?_
      have hc1071 : CellsAt _ (sb p0) (so p0 + (wrap64 (a1058 - 1)).toNat * 1) [(.int .i64 (gt x0 (wrap64 (a1058 - 1))))] := rd_plain hp0 e1070
      refine drwp_take rfl (guard_none rfl) rfl rfl (fun w_ hS_ => (ex_indexAddr (d := kInt) rfl rfl rfl Tryd.underlying38 tsz2 hp0 (idx_lo e1070) (idx_hi e1070))) hS ?_
      refine drwp_take rfl (guard_none rfl) rfl rfl (fun w_ hS_ => (ex_load1 rfl rfl Tryd.underlying2 rfl ((hS_.at_ hc1071) 0 _ rfl))) hS ?_
      refine drwp_take rfl (guard_none rfl) rfl rfl (fun w_ hS_ => (ex_leq rfl rfl rfl)) hS ?_
      refine drwp_done ?_
      refine at_then ?_
      refine run_cond (b := (decide ((gt x0 a1058) ≤ (gt x0 (wrap64 (a1058 - 1)))))) rfl (fun hb1072 => ?_) (fun hb1072 => ?_)
      · replace ho1051 := cond_t hb1072 ho1051
        refine run_seq ?_
        refine run_region rfl ?_
        refine ops_ex rfl (guard_none rfl) rfl rfl (ex_assign rfl rfl) ?_
        refine ops_nil ?_
        refine at_then ?_
        refine run_ret ?_
        refine at_block_ret ?_
        refine at_then_ret ?_
        refine at_then_ret ?_
        refine at_block_ret ?_
        refine at_then_ret ?_
        have hR := Option.some.inj ho1051
        subst hR
        have hT := thn_inl H
        have hR := Option.some.inj hT
        subst hR
        exact at_ret1 rfl rfl ⟨_, rfl, rfl, HM⟩
      · replace ho1051 := cond_f hb1072 ho1051
        refine run_skip ?_
        refine at_block ?_
        refine at_then ?_
        refine run_region rfl ?_
        refine ops_ex rfl (guard_none rfl) rfl rfl (ex_move rfl rfl) ?_
        refine ops_ex rfl (guard_none rfl) rfl rfl (ex_add rfl rfl rfl) ?_
        refine ops_ex rfl (guard_none rfl) rfl rfl (ex_assign rfl rfl) ?_
        refine ops_nil ?_
        exact at_again k1065 (ρ1 := [(0, p0), (3, .int .i64 (wrap64 (a1058 + 1)))]) (Nat.lt_succ_self _) ⟨_, ho1051, rfl, HM⟩ (Sub.cons rfl (Sub.cons rfl Sub.nil))
    · replace ho1051 := cond_f hb1067 ho1051
      refine run_exit ?_
      refine at_then_exit ?_
      refine at_then_exit ?_
      refine at_block_exit ?_
      exact at_mid (ρ' := []) ⟨(Option.some.inj ho1051), rfl, HM⟩ Sub.nil
  · rintro _ w1073 ⟨rfl, rfl, HM⟩
    replace H := (thn_inr H)
    refine run_seq ?_
    refine run_region rfl ?_
    refine ops_ex rfl (guard_none rfl) rfl rfl (ex_assign rfl rfl) ?_
    refine ops_nil ?_
    refine at_then ?_
    refine run_ret ?_
    have hR := Option.some.inj H
    subst hR
    exact at_ret1 rfl rfl ⟨_, rfl, rfl, HM⟩

def impl_RuleFault.f (k : Nat) (x0 : Rule) : Option Int := ((impl_within.f k (x0.fKeys.length : Int) 1 3).bind fun t1081 => (bif !t1081 then some 2 else ((impl_areKeys.f k x0.fKeys).bind fun t1085 => ((bif (!(!t1085)) then impl_within.f k x0.fNeed 1 (x0.fKeys.length : Int) else some default).bind fun t1087 => ((bif (!((!t1085) || (!t1087))) then impl_isHeight.f k x0.fAfter else some default).bind fun t1089 => (bif (((!t1085) || (!t1087)) || (!t1089)) then some 3 else ((impl_isRising.f k x0.fKeys).bind fun t1101 => (bif !t1101 then some 1 else some 0))))))))
theorem impl_RuleFault.calls {k : Nat} {x0 : Rule} {p0_0 : Value} {w : World} (hp0_0 : RdS kInt w p0_0 x0.fKeys) {r : Int} (H : impl_RuleFault.f k x0 = some r) :
    Calls Tryd.prog 87 ([.agg #[p0_0, (.int .i64 x0.fNeed), (.int .i64 x0.fAfter)]] : List Value).toArray w (fun e w_ => ∃ v, e = .returned v ∧ v = (.int .i64 r) ∧ Mem w [] w_ []) := by
  have HM := Mem.start w
  refine calls_run (N := 34) Tryd.func87 rfl rfl rfl rfl ?_
  unfold impl_RuleFault.f at H
  refine run_seq ?_
  refine run_region rfl ?_
  refine ops_does rfl (guard_none rfl) rfl rfl (does_box (cs := [p0_0, .int .i64 x0.fNeed, .int .i64 x0.fAfter]) rfl rfl rfl HM) ?_
  rintro _ w1080 ⟨b1077, rfl, HM⟩
  refine ops_ex rfl (guard_none rfl) rfl rfl (ex_assign rfl rfl) ?_
  refine ops_nil ?_
  refine at_then ?_
  refine run_seq ?_
  refine run_region rfl ?_
  refine ops_ex rfl (guard_none rfl) rfl rfl (ex_fieldAddr (off' := 0) rfl rfl Tryd.underlying40 rfl tsz38 rfl) ?_
  refine ops_ex rfl (guard_none rfl) rfl rfl (ex_load1 rfl rfl Tryd.underlying38 rfl ((HM.box_at 0 rfl) 0 _ rfl)) ?_
  refine ops_ex rfl (guard_none rfl) rfl rfl (ex_len (d := kInt) (xs := x0.fKeys) rfl rfl Tryd.underlying38 hp0_0) ?_
  refine ops_ex rfl (guard_none rfl) rfl rfl (ex_assign rfl rfl) ?_
  refine ops_nil ?_
  refine at_then ?_
  refine run_seq ?_
  refine run_block ?_
  refine run_seq ?_
  obtain ⟨t1081, h1082, H⟩ := bind_some H
  refine run_region rfl ?_
  refine ops_ex rfl (guard_none rfl) rfl rfl (ex_move rfl rfl) ?_
  refine ops_does rfl (guard_none rfl) rfl rfl (does_callk rfl callok54 rfl (impl_within.calls (x0 := (x0.fKeys.length : Int)) (x1 := 1) (x2 := 3) h1082)) ?_
  rintro _ w1083 ⟨rfl, hn⟩
  replace HM : Mem w [] w1083 [box b1077 40 [p0_0, .int .i64 x0.fNeed, .int .i64 x0.fAfter]] := HM.call hn
  refine ops_ex rfl (guard_none rfl) rfl rfl (ex_not rfl rfl) ?_
  refine ops_ex rfl (guard_none rfl) rfl rfl (ex_assign rfl rfl) ?_
  refine ops_nil ?_
  refine at_then ?_
  refine run_cond (b := !t1081) rfl (fun hb1084 => ?_) (fun hb1084 => ?_)
  · replace H := cond_t hb1084 H
    refine run_seq ?_
    refine run_region rfl ?_
    refine ops_ex rfl (guard_none rfl) rfl rfl (ex_assign rfl rfl) ?_
    refine ops_nil ?_
    refine at_then ?_
    refine run_ret ?_
    refine at_block_ret ?_
    refine at_then_ret ?_
    replace HM := (HM.front 0 rfl rfl).drop
    have hR := Option.some.inj H
    subst hR
    exact at_ret1 rfl rfl ⟨_, rfl, rfl, HM⟩
  · replace H := cond_f hb1084 H
    refine run_seq ?_
    obtain ⟨t1085, h1086, H⟩ := bind_some H
    obtain ⟨t1087, h1088, H⟩ := bind_some H
    obtain ⟨t1089, h1090, H⟩ := bind_some H
    refine run_meet (fun ρ_ w_ => ρ_ = [(1, .pointer (some ⟨b1077, 0, none⟩)), (11, .bool (((!t1085) || (!t1087)) || (!t1089)))] ∧ Mem w [] w_ [box b1077 40 [p0_0, .int .i64 x0.fNeed, .int .i64 x0.fAfter]]) ?_ ?_
    · skip
      refine run_region rfl ?_
      refine ops_ex rfl (guard_none rfl) rfl rfl (ex_fieldAddr (off' := 0) rfl rfl Tryd.underlying40 rfl tsz38 rfl) ?_
      refine ops_ex rfl (guard_none rfl) rfl rfl (ex_load1 rfl rfl Tryd.underlying38 rfl ((HM.box_at 0 rfl) 0 _ rfl)) ?_
      refine ops_does rfl (guard_none rfl) rfl rfl (does_callk rfl callok104 rfl (impl_areKeys.calls (x0 := x0.fKeys) (HM.rd hp0_0) h1086)) ?_
      rintro _ w1091 ⟨rfl, hn⟩
      replace HM : Mem w [] w1091 [box b1077 40 [p0_0, .int .i64 x0.fNeed, .int .i64 x0.fAfter]] := HM.call hn
      refine ops_ex rfl (guard_none rfl) rfl rfl (ex_not rfl rfl) ?_
      refine ops_ex rfl (guard_none rfl) rfl rfl (ex_move rfl rfl) ?_
      refine bool_cases (!t1085) (fun hg1092 => ?_) (fun hg1092 => ?_)
      · skip
        refine ops_off rfl (guard_off rfl rfl rfl hg1092) rfl rfl ?_
        refine ops_off rfl (guard_off rfl rfl rfl hg1092) rfl rfl ?_
        refine ops_off rfl (guard_off rfl rfl rfl hg1092) rfl rfl ?_
        refine ops_off rfl (guard_off rfl rfl rfl hg1092) rfl rfl ?_
        refine ops_off rfl (guard_off rfl rfl rfl hg1092) rfl rfl ?_
        have hg1093 : ((!t1085) || (!t1087)) = true := by simp only [hg1092, Bool.and_true, Bool.true_and, Bool.and_false, Bool.false_and, Bool.or_true, Bool.true_or, Bool.or_false, Bool.false_or, Bool.not_true, Bool.not_false, Bool.not_not]
        refine ops_ex (v := .bool ((!t1085) || (!t1087))) rfl (guard_none rfl) rfl rfl (ex_por_t rfl rfl hg1092) ?_
        refine ops_ex rfl (guard_none rfl) rfl rfl (ex_move rfl rfl) ?_
        refine ops_off rfl (guard_off rfl rfl rfl hg1093) rfl rfl ?_
        refine ops_off rfl (guard_off rfl rfl rfl hg1093) rfl rfl ?_
        refine ops_off rfl (guard_off rfl rfl rfl hg1093) rfl rfl ?_
        refine ops_off rfl (guard_off rfl rfl rfl hg1093) rfl rfl ?_
        have hg1094 : (((!t1085) || (!t1087)) || (!t1089)) = true := by simp only [hg1093, Bool.and_true, Bool.true_and, Bool.and_false, Bool.false_and, Bool.or_true, Bool.true_or, Bool.or_false, Bool.false_or, Bool.not_true, Bool.not_false, Bool.not_not]
        refine ops_ex (v := .bool (((!t1085) || (!t1087)) || (!t1089))) rfl (guard_none rfl) rfl rfl (ex_por_t rfl rfl hg1093) ?_
        refine ops_ex rfl (guard_none rfl) rfl rfl (ex_assign rfl rfl) ?_
        refine ops_nil ?_
        exact at_meet [(1, .pointer (some ⟨b1077, 0, none⟩)), (11, .bool (((!t1085) || (!t1087)) || (!t1089)))] ⟨rfl, HM⟩ (Sub.cons rfl (Sub.cons rfl Sub.nil))
      · skip
        refine ops_ex rfl (guard_on rfl rfl rfl hg1092) rfl rfl (ex_fieldAddr (off' := 1) rfl rfl Tryd.underlying40 rfl tsz2 rfl) ?_
        refine ops_ex rfl (guard_on rfl rfl rfl hg1092) rfl rfl (ex_load1 rfl rfl Tryd.underlying2 rfl ((HM.box_at 0 rfl) 1 _ rfl)) ?_
        refine ops_ex rfl (guard_on rfl rfl rfl hg1092) rfl rfl (ex_move rfl rfl) ?_
        refine ops_does rfl (guard_on rfl rfl rfl hg1092) rfl rfl (does_callk rfl callok54 rfl (impl_within.calls (x0 := x0.fNeed) (x1 := 1) (x2 := (x0.fKeys.length : Int)) (cond_t (not_mk hg1092) h1088))) ?_
        rintro _ w1095 ⟨rfl, hn⟩
        replace HM : Mem w [] w1095 [box b1077 40 [p0_0, .int .i64 x0.fNeed, .int .i64 x0.fAfter]] := HM.call hn
        refine ops_ex rfl (guard_on rfl rfl rfl hg1092) rfl rfl (ex_not rfl rfl) ?_
        refine ops_ex (v := .bool ((!t1085) || (!t1087))) rfl (guard_none rfl) rfl rfl (ex_por_f rfl rfl hg1092 rfl) ?_
        refine ops_ex rfl (guard_none rfl) rfl rfl (ex_move rfl rfl) ?_
        refine bool_cases ((!t1085) || (!t1087)) (fun hg1096 => ?_) (fun hg1096 => ?_)
        · skip
          refine ops_off rfl (guard_off rfl rfl rfl hg1096) rfl rfl ?_
          refine ops_off rfl (guard_off rfl rfl rfl hg1096) rfl rfl ?_
          refine ops_off rfl (guard_off rfl rfl rfl hg1096) rfl rfl ?_
          refine ops_off rfl (guard_off rfl rfl rfl hg1096) rfl rfl ?_
          have hg1097 : (((!t1085) || (!t1087)) || (!t1089)) = true := by simp only [hg1096, Bool.and_true, Bool.true_and, Bool.and_false, Bool.false_and, Bool.or_true, Bool.true_or, Bool.or_false, Bool.false_or, Bool.not_true, Bool.not_false, Bool.not_not]
          refine ops_ex (v := .bool (((!t1085) || (!t1087)) || (!t1089))) rfl (guard_none rfl) rfl rfl (ex_por_t rfl rfl hg1096) ?_
          refine ops_ex rfl (guard_none rfl) rfl rfl (ex_assign rfl rfl) ?_
          refine ops_nil ?_
          exact at_meet [(1, .pointer (some ⟨b1077, 0, none⟩)), (11, .bool (((!t1085) || (!t1087)) || (!t1089)))] ⟨rfl, HM⟩ (Sub.cons rfl (Sub.cons rfl Sub.nil))
        · skip
          refine ops_ex rfl (guard_on rfl rfl rfl hg1096) rfl rfl (ex_fieldAddr (off' := 2) rfl rfl Tryd.underlying40 rfl tsz2 rfl) ?_
          refine ops_ex rfl (guard_on rfl rfl rfl hg1096) rfl rfl (ex_load1 rfl rfl Tryd.underlying2 rfl ((HM.box_at 0 rfl) 2 _ rfl)) ?_
          refine ops_does rfl (guard_on rfl rfl rfl hg1096) rfl rfl (does_callk rfl callok105 rfl (impl_isHeight.calls (x0 := x0.fAfter) (cond_t (not_mk hg1096) h1090))) ?_
          rintro _ w1098 ⟨rfl, hn⟩
          replace HM : Mem w [] w1098 [box b1077 40 [p0_0, .int .i64 x0.fNeed, .int .i64 x0.fAfter]] := HM.call hn
          refine ops_ex rfl (guard_on rfl rfl rfl hg1096) rfl rfl (ex_not rfl rfl) ?_
          refine ops_ex (v := .bool (((!t1085) || (!t1087)) || (!t1089))) rfl (guard_none rfl) rfl rfl (ex_por_f rfl rfl hg1096 rfl) ?_
          refine ops_ex rfl (guard_none rfl) rfl rfl (ex_assign rfl rfl) ?_
          refine ops_nil ?_
          exact at_meet [(1, .pointer (some ⟨b1077, 0, none⟩)), (11, .bool (((!t1085) || (!t1087)) || (!t1089)))] ⟨rfl, HM⟩ (Sub.cons rfl (Sub.cons rfl Sub.nil))
    · rintro _ w1099 ⟨rfl, HM⟩
      refine at_then ?_
      refine run_cond (b := (((!t1085) || (!t1087)) || (!t1089))) rfl (fun hb1100 => ?_) (fun hb1100 => ?_)
      · replace H := cond_t hb1100 H
        refine run_seq ?_
        refine run_region rfl ?_
        refine ops_ex rfl (guard_none rfl) rfl rfl (ex_assign rfl rfl) ?_
        refine ops_nil ?_
        refine at_then ?_
        refine run_ret ?_
        refine at_block_ret ?_
        refine at_then_ret ?_
        replace HM := (HM.front 0 rfl rfl).drop
        have hR := Option.some.inj H
        subst hR
        exact at_ret1 rfl rfl ⟨_, rfl, rfl, HM⟩
      · replace H := cond_f hb1100 H
        refine run_seq ?_
        obtain ⟨t1101, h1102, H⟩ := bind_some H
        refine run_region rfl ?_
        refine ops_ex rfl (guard_none rfl) rfl rfl (ex_fieldAddr (off' := 0) rfl rfl Tryd.underlying40 rfl tsz38 rfl) ?_
        refine ops_ex rfl (guard_none rfl) rfl rfl (ex_load1 rfl rfl Tryd.underlying38 rfl ((HM.box_at 0 rfl) 0 _ rfl)) ?_
        refine ops_does rfl (guard_none rfl) rfl rfl (does_callk rfl callok106 rfl (impl_isRising.calls (x0 := x0.fKeys) (HM.rd hp0_0) h1102)) ?_
        rintro _ w1103 ⟨rfl, hn⟩
        replace HM : Mem w [] w1103 [box b1077 40 [p0_0, .int .i64 x0.fNeed, .int .i64 x0.fAfter]] := HM.call hn
        refine ops_ex rfl (guard_none rfl) rfl rfl (ex_not rfl rfl) ?_
        refine ops_ex rfl (guard_none rfl) rfl rfl (ex_assign rfl rfl) ?_
        refine ops_nil ?_
        refine at_then ?_
        refine run_cond (b := !t1101) rfl (fun hb1104 => ?_) (fun hb1104 => ?_)
        · replace H := cond_t hb1104 H
          refine run_seq ?_
          refine run_region rfl ?_
          refine ops_ex rfl (guard_none rfl) rfl rfl (ex_assign rfl rfl) ?_
          refine ops_nil ?_
          refine at_then ?_
          refine run_ret ?_
          refine at_block_ret ?_
          refine at_then_ret ?_
          replace HM := (HM.front 0 rfl rfl).drop
          have hR := Option.some.inj H
          subst hR
          exact at_ret1 rfl rfl ⟨_, rfl, rfl, HM⟩
        · replace H := cond_f hb1104 H
          refine run_skip ?_
          refine at_block ?_
          refine at_then ?_
          refine run_seq ?_
          refine run_region rfl ?_
          refine ops_ex rfl (guard_none rfl) rfl rfl (ex_assign rfl rfl) ?_
          refine ops_nil ?_
          refine at_then ?_
          refine run_ret ?_
          replace HM := (HM.front 0 rfl rfl).drop
          have hR := Option.some.inj H
          subst hR
          exact at_ret1 rfl rfl ⟨_, rfl, rfl, HM⟩

def strings_Join.f (k : Nat) (x0 : List ByteArray) (x1 : ByteArray) : Option ByteArray := (chk (leB x0.length 140737488355328 && leB (Lib.join (x0.map (·.data.toList)) x1.data.toList).length 140737488355328) (some (⟨(Lib.join (x0.map (·.data.toList)) x1.data.toList).toArray⟩ : ByteArray)))
theorem strings_Join.calls {k : Nat} {x0 : List ByteArray} {x1 : ByteArray} {p0 : Value} {w : World} (hp0 : RdS kStr w p0 x0) {r : ByteArray} (H : strings_Join.f k x0 x1 = some r) :
    Calls Tryd.prog 77 ([p0, .string x1] : List Value).toArray w (fun e w_ => ∃ v, e = .returned v ∧ v = (.string r) ∧ Mem w [] w_ []) := by
  obtain ⟨h, H⟩ := chk_some H
  have hR := Option.some.inj H
  subst hR
  rw [Bool.and_eq_true] at h
  have hm : ∀ w_, Below w.heap.size w w_ → Mem w [] w_ [] := fun w_ hb => ⟨Fr.of_below hb, [], .nil, List.nodup_nil, by simp⟩
  obtain ⟨A, c, rfl, hc, hA⟩ := hp0
  rcases hA with rfl | ⟨b, o, rfl, hA⟩
  · exact (Tryd.strings_Join_none A c x1 w).mono fun e w_ ⟨he, hw⟩ => ⟨_, he, rfl, hm _ (hw ▸ Below.refl _ _)⟩
  · cases hx : x0 with
    | nil => subst hx; exact (Tryd.strings_Join_none _ c x1 w).mono fun e w_ ⟨he, hw⟩ => ⟨_, he, rfl, hm _ (hw ▸ Below.refl _ _)⟩
    | cons a l =>
      rw [← hx]
      have hcell : ∀ (j : Nat) x, x0[j]? = some x → w.cell? ⟨b, o + j, none⟩ = some (.string x) := fun j x hj => by
        obtain ⟨hlt, e1⟩ := List.getElem?_eq_some_iff.1 hj
        obtain ⟨cs, h2, h3⟩ := hA j hlt
        have h2' : cs = [Value.string x0[j]] := h2
        subst h2'
        have h4 : w.cell? ⟨b, o + j * 1 + 0, none⟩ = some (.string x0[j]) := h3 0 _ rfl
        rw [e1] at h4
        simpa using h4
      exact (Tryd.strings_Join b o c x0 x1 w hcell (World.block_lt_of_cell? w _ (hcell 0 a (by rw [hx]; rfl))) (leB_le h.1) hc (leB_le h.2)).mono fun e w_ ⟨he, hw⟩ => ⟨_, he, rfl, hm _ hw⟩
end Go.Proofs.YtcpacdbdehphkaaDoor.Zk
