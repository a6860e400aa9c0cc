/- What functions of the program compute, each as a plain function, and that they do. Conditions: as each theorem states them. -/
import Derived.Test.YtoiacoiccpiciaaOutSumZkF2
namespace Go.Proofs.Ytoiacoiccpiciaa.Zk
open Go Go.RowKit Go.IntWalk Go.Proofs
set_option linter.unusedVariables false
set_option linter.unusedSimpArgs false
set_option maxRecDepth 100000
def impl_outFault.f (k : Nat) (x0 : Out) : Option Int := ((impl_within.f k x0.fValue 1 1000000).bind fun t1826 => (bif !t1826 then some 3 else ((impl_RuleFault.f k x0.fRule).bind fun t1830 => some t1830)))
theorem impl_outFault.calls {k : Nat} {x0 : Out} {p0_0 : Value} {w : World} (hp0_0 : RdS kInt w p0_0 x0.fRule.fKeys) {r : Int} (H : impl_outFault.f k x0 = some r) :
    Calls Try.prog 88 ([.agg #[(.int .i64 x0.fValue), p0_0, (.int .i64 x0.fRule.fNeed), (.int .i64 x0.fRule.fAfter)]] : List Value).toArray w (fun e w_ => ∃ v, e = .returned v ∧ v = (.int .i64 r) ∧ Mem w [] w_ []) := by
  have HM := Mem.start w
  refine calls_run (N := 10) Try.func88 rfl rfl rfl rfl ?_
  unfold impl_outFault.f at H
  refine run_seq ?_
  refine run_region rfl ?_
  refine ops_does rfl (guard_none rfl) rfl rfl (does_box (cs := [.int .i64 x0.fValue, p0_0, .int .i64 x0.fRule.fNeed, .int .i64 x0.fRule.fAfter]) rfl rfl rfl HM) ?_
  rintro _ w1825 ⟨b1822, rfl, HM⟩
  refine ops_ex rfl (guard_none rfl) rfl rfl (ex_assign rfl rfl) ?_
  refine ops_nil ?_
  refine at_then ?_
  refine run_seq ?_
  refine run_seq ?_
  obtain ⟨t1826, h1827, H⟩ := bind_some H
  refine run_region rfl ?_
  refine ops_ex rfl (guard_none rfl) rfl rfl (ex_fieldAddr (off' := 0) rfl rfl Try.underlying102 rfl tsz2 rfl) ?_
  refine ops_ex rfl (guard_none rfl) rfl rfl (ex_load1 rfl rfl Try.underlying2 rfl ((HM.box_at 0 rfl) 0 _ rfl)) ?_
  refine ops_does rfl (guard_none rfl) rfl rfl (does_callk rfl callok81 rfl (impl_within.calls (x0 := x0.fValue) (x1 := 1) (x2 := 1000000) h1827)) ?_
  rintro _ w1828 ⟨rfl, hn⟩
  replace HM : Mem w [] w1828 [box b1822 102 [.int .i64 x0.fValue, p0_0, .int .i64 x0.fRule.fNeed, .int .i64 x0.fRule.fAfter]] := HM.call hn
  refine ops_ex rfl (guard_none rfl) rfl rfl (ex_not rfl rfl) ?_
  refine ops_nil ?_
  refine at_then ?_
  refine run_cond (b := !t1826) rfl (fun hb1829 => ?_) (fun hb1829 => ?_)
  · replace H := cond_t hb1829 H
    refine run_seq ?_
    refine run_region rfl ?_
    refine ops_ex rfl (guard_none rfl) rfl rfl (ex_assign rfl rfl) ?_
    refine ops_nil ?_
    refine at_then ?_
    refine run_ret ?_
    refine at_then_ret ?_
    replace HM := (HM.front 0 rfl rfl).drop
    have hR := Option.some.inj H
    subst hR
    exact at_ret1 rfl rfl ⟨_, rfl, rfl, HM⟩
  · replace H := cond_f hb1829 H
    refine run_skip ?_
    refine at_then ?_
    refine run_seq ?_
    obtain ⟨t1830, h1831, H⟩ := bind_some H
    refine run_region rfl ?_
    refine ops_ex rfl (guard_none rfl) rfl rfl (ex_fieldAddr (off' := 1) rfl rfl Try.underlying102 rfl tsz100 rfl) ?_
    refine ops_ex rfl (guard_none rfl) rfl rfl (ex_loadN (cs := [p0_0, (.int .i64 x0.fRule.fNeed), (.int .i64 x0.fRule.fAfter)]) rfl rfl Try.underlying100 rfl tsz100 rfl ((HM.box_at 0 rfl).sub 1 3 rfl)) ?_
    refine ops_does rfl (guard_none rfl) rfl rfl (does_callk rfl callok82 rfl (impl_RuleFault.calls (x0 := x0.fRule) (HM.rd hp0_0) h1831)) ?_
    rintro _ w1832 ⟨rfl, hn⟩
    replace HM : Mem w [] w1832 [box b1822 102 [.int .i64 x0.fValue, p0_0, .int .i64 x0.fRule.fNeed, .int .i64 x0.fRule.fAfter]] := HM.call hn
    refine ops_ex rfl (guard_none rfl) rfl rfl (ex_assign rfl rfl) ?_
    refine ops_nil ?_
    refine at_then ?_
    refine run_ret ?_
    replace HM := (HM.front 0 rfl rfl).drop
    have hR := Option.some.inj H
    subst hR
    exact at_ret1 rfl rfl ⟨_, rfl, rfl, HM⟩

def impl_TxFault.l0 (x0 : Tx) : Nat → Int → Option (Int ⊕ Unit)
  | 0, _ => none
  | k + 1, a1984 => (bif (decide (a1984 < (x0.fIns.length : Int))) then (chk (idxOk a1984 x0.fIns.length) ((impl_isRef.f k (gt x0.fIns a1984)).bind fun t2017 => (bif !t2017 then some (.inl 3) else (chk (cutOk a1984 x0.fIns.length) ((slices_Contains_impl_Ref.f k (x0.fIns.take (a1984).toNat) (gt x0.fIns a1984)).bind fun t2025 => (bif t2025 then some (.inl 7) else impl_TxFault.l0 x0 k (wrap64 (a1984 + 1)))))))) else some (.inr ()))
theorem impl_TxFault.l0_z (x0 : Tx) (a1984 : Int) : impl_TxFault.l0 x0 0 a1984 = none := rfl
theorem impl_TxFault.l0_s (x0 : Tx) (k : Nat) (a1984 : Int) : impl_TxFault.l0 x0 (k + 1) a1984 = (bif (decide (a1984 < (x0.fIns.length : Int))) then (chk (idxOk a1984 x0.fIns.length) ((impl_isRef.f k (gt x0.fIns a1984)).bind fun t2017 => (bif !t2017 then some (.inl 3) else (chk (cutOk a1984 x0.fIns.length) ((slices_Contains_impl_Ref.f k (x0.fIns.take (a1984).toNat) (gt x0.fIns a1984)).bind fun t2025 => (bif t2025 then some (.inl 7) else impl_TxFault.l0 x0 k (wrap64 (a1984 + 1)))))))) else some (.inr ())) := rfl
def impl_TxFault.l1 (x0 : Tx) : Nat → Int → Option (Int ⊕ Unit)
  | 0, _ => none
  | k + 1, a2077 => (bif (decide (a2077 < (x0.fOuts.length : Int))) then (chk (idxOk a2077 x0.fOuts.length) ((impl_outFault.f k (gt x0.fOuts a2077)).bind fun t2101 => (bif (t2101 != 0) then some (.inl t2101) else impl_TxFault.l1 x0 k (wrap64 (a2077 + 1))))) else some (.inr ()))
theorem impl_TxFault.l1_z (x0 : Tx) (a2077 : Int) : impl_TxFault.l1 x0 0 a2077 = none := rfl
theorem impl_TxFault.l1_s (x0 : Tx) (k : Nat) (a2077 : Int) : impl_TxFault.l1 x0 (k + 1) a2077 = (bif (decide (a2077 < (x0.fOuts.length : Int))) then (chk (idxOk a2077 x0.fOuts.length) ((impl_outFault.f k (gt x0.fOuts a2077)).bind fun t2101 => (bif (t2101 != 0) then some (.inl t2101) else impl_TxFault.l1 x0 k (wrap64 (a2077 + 1))))) else some (.inr ())) := rfl
def impl_TxFault.f (k : Nat) (x0 : Tx) : Option Int := ((impl_within.f k x0.fKind 0 2).bind fun t1881 => (bif ((!t1881) || ((x0.fKind == 0) != (x0.fMember == 0))) then some 1 else ((bif (x0.fMember != 0) then impl_isKey.f k x0.fMember else some default).bind fun t1888 => (bif ((x0.fMember != 0) && (!t1888)) then some 3 else ((impl_TxFault_1.f k (x0.fIns.length : Int)).bind fun t1895 => ((bif (!t1895) then impl_TxFault_1.f k (x0.fOuts.length : Int) else some default).bind fun t1897 => (bif (t1895 || t1897) then some 2 else ((impl_TxFault.l0 x0 k 0).bind fun o1963 => thn o1963 (fun r => some r) (fun _ => ((impl_TxFault.l1 x0 k 0).bind fun o2064 => thn o2064 (fun r => some r) (fun _ => (chk (!(x0.fKind == 1) || (idxOk (0 : Int) x0.fOuts.length)) (bif ((x0.fKind == 1) && (decide (((gt x0.fOuts (0 : Int)).fValue) < 100))) then some 8 else some 0)))))))))))))
theorem impl_TxFault.calls {k : Nat} {x0 : Tx} {p0_0 : Value} {p0_1 : Value} {w : World} (hp0_0 : RdS kRef w p0_0 x0.fIns) (hp0_1 : RdS kOut w p0_1 x0.fOuts) {r : Int} (H : impl_TxFault.f k x0 = some r) :
    Calls Try.prog 28 ([.agg #[(.int .i64 x0.fKind), (.int .i64 x0.fMember), p0_0, p0_1]] : List Value).toArray w (fun e w_ => ∃ v, e = .returned v ∧ v = (.int .i64 r) ∧ Mem w [] w_ []) := by
  have HM := Mem.start w
  refine calls_run (N := 88) Try.func28 rfl rfl rfl rfl ?_
  unfold impl_TxFault.f at H
  refine run_seq ?_
  refine run_region rfl ?_
  refine ops_does rfl (guard_none rfl) rfl rfl (does_box (cs := [.int .i64 x0.fKind, .int .i64 x0.fMember, p0_0, p0_1]) rfl rfl rfl HM) ?_
  rintro _ w1869 ⟨b1866, rfl, HM⟩
  refine ops_ex rfl (guard_none rfl) rfl rfl (ex_assign rfl rfl) ?_
  refine ops_nil ?_
  refine at_then ?_
  refine run_seq ?_
  refine run_region rfl ?_
  refine ops_ex rfl (guard_none rfl) rfl rfl (ex_assign rfl rfl) ?_
  refine ops_nil ?_
  refine at_then ?_
  refine run_seq ?_
  refine run_block ?_
  refine run_seq ?_
  obtain ⟨t1881, h1882, H⟩ := bind_some H
  refine run_meet (fun ρ_ w_ => ρ_ = [(1, .pointer (some ⟨b1866, 0, none⟩)), (3, .func (.func 85) #[] #[]), (9, .bool ((!t1881) || ((x0.fKind == 0) != (x0.fMember == 0))))] ∧ Mem w [] w_ [box b1866 37 [.int .i64 x0.fKind, .int .i64 x0.fMember, p0_0, p0_1]]) ?_ ?_
  · skip
    refine run_region rfl ?_
    refine ops_ex rfl (guard_none rfl) rfl rfl (ex_fieldAddr (off' := 0) rfl rfl Try.underlying37 rfl tsz2 rfl) ?_
    refine ops_ex rfl (guard_none rfl) rfl rfl (ex_load1 rfl rfl Try.underlying2 rfl ((HM.box_at 0 rfl) 0 _ rfl)) ?_
    refine ops_does rfl (guard_none rfl) rfl rfl (does_callk rfl callok81 rfl (impl_within.calls (x0 := x0.fKind) (x1 := 0) (x2 := 2) h1882)) ?_
    rintro _ w1883 ⟨rfl, hn⟩
    replace HM : Mem w [] w1883 [box b1866 37 [.int .i64 x0.fKind, .int .i64 x0.fMember, p0_0, p0_1]] := HM.call hn
    refine ops_ex rfl (guard_none rfl) rfl rfl (ex_not rfl rfl) ?_
    refine ops_ex rfl (guard_none rfl) rfl rfl (ex_move rfl rfl) ?_
    refine bool_cases (!t1881) (fun hg1884 => ?_) (fun hg1884 => ?_)
    · skip
      refine ops_off rfl (guard_off rfl rfl rfl hg1884) rfl rfl ?_
      refine ops_off rfl (guard_off rfl rfl rfl hg1884) rfl rfl ?_
      refine ops_off rfl (guard_off rfl rfl rfl hg1884) rfl rfl ?_
      refine ops_off rfl (guard_off rfl rfl rfl hg1884) rfl rfl ?_
      refine ops_off rfl (guard_off rfl rfl rfl hg1884) rfl rfl ?_
      refine ops_off rfl (guard_off rfl rfl rfl hg1884) rfl rfl ?_
      refine ops_off rfl (guard_off rfl rfl rfl hg1884) rfl rfl ?_
      have hg1885 : ((!t1881) || ((x0.fKind == 0) != (x0.fMember == 0))) = true := by simp only [hg1884, Bool.and_true, Bool.true_and, Bool.and_false, Bool.false_and, Bool.or_true, Bool.true_or, Bool.or_false, Bool.false_or, Bool.not_true, Bool.not_false, Bool.not_not]
      refine ops_ex (v := .bool ((!t1881) || ((x0.fKind == 0) != (x0.fMember == 0)))) rfl (guard_none rfl) rfl rfl (ex_por_t rfl rfl hg1884) ?_
      refine ops_ex rfl (guard_none rfl) rfl rfl (ex_assign rfl rfl) ?_
      refine ops_nil ?_
      exact at_meet [(1, .pointer (some ⟨b1866, 0, none⟩)), (3, .func (.func 85) #[] #[]), (9, .bool ((!t1881) || ((x0.fKind == 0) != (x0.fMember == 0))))] ⟨rfl, HM⟩ (Sub.cons rfl (Sub.cons rfl (Sub.cons rfl Sub.nil)))
    · skip
      refine ops_ex rfl (guard_on rfl rfl rfl hg1884) rfl rfl (ex_fieldAddr (off' := 0) rfl rfl Try.underlying37 rfl tsz2 rfl) ?_
      refine ops_ex rfl (guard_on rfl rfl rfl hg1884) rfl rfl (ex_load1 rfl rfl Try.underlying2 rfl ((HM.box_at 0 rfl) 0 _ rfl)) ?_
      refine ops_ex rfl (guard_on rfl rfl rfl hg1884) rfl rfl (ex_eql rfl rfl rfl) ?_
      refine ops_ex rfl (guard_on rfl rfl rfl hg1884) rfl rfl (ex_fieldAddr (off' := 1) rfl rfl Try.underlying37 rfl tsz2 rfl) ?_
      refine ops_ex rfl (guard_on rfl rfl rfl hg1884) rfl rfl (ex_load1 rfl rfl Try.underlying2 rfl ((HM.box_at 0 rfl) 1 _ rfl)) ?_
      refine ops_ex rfl (guard_on rfl rfl rfl hg1884) rfl rfl (ex_eql rfl rfl rfl) ?_
      refine ops_ex rfl (guard_on rfl rfl rfl hg1884) rfl rfl (ex_bneq rfl rfl rfl Try.underlying4) ?_
      refine ops_ex (v := .bool ((!t1881) || ((x0.fKind == 0) != (x0.fMember == 0)))) rfl (guard_none rfl) rfl rfl (ex_por_f rfl rfl hg1884 rfl) ?_
      refine ops_ex rfl (guard_none rfl) rfl rfl (ex_assign rfl rfl) ?_
      refine ops_nil ?_
      exact at_meet [(1, .pointer (some ⟨b1866, 0, none⟩)), (3, .func (.func 85) #[] #[]), (9, .bool ((!t1881) || ((x0.fKind == 0) != (x0.fMember == 0))))] ⟨rfl, HM⟩ (Sub.cons rfl (Sub.cons rfl (Sub.cons rfl Sub.nil)))
  · rintro _ w1886 ⟨rfl, HM⟩
    refine at_then ?_
    refine run_cond (b := ((!t1881) || ((x0.fKind == 0) != (x0.fMember == 0)))) rfl (fun hb1887 => ?_) (fun hb1887 => ?_)
    · replace H := cond_t hb1887 H
      refine run_seq ?_
      refine run_region rfl ?_
      refine ops_ex rfl (guard_none rfl) rfl rfl (ex_assign rfl rfl) ?_
      refine ops_nil ?_
      refine at_then ?_
      refine run_ret ?_
      refine at_block_ret ?_
      refine at_then_ret ?_
      replace HM := (HM.front 0 rfl rfl).drop
      have hR := Option.some.inj H
      subst hR
      exact at_ret1 rfl rfl ⟨_, rfl, rfl, HM⟩
    · replace H := cond_f hb1887 H
      refine run_seq ?_
      obtain ⟨t1888, h1889, H⟩ := bind_some H
      refine run_meet (fun ρ_ w_ => ρ_ = [(1, .pointer (some ⟨b1866, 0, none⟩)), (3, .func (.func 85) #[] #[]), (23, .bool ((x0.fMember != 0) && (!t1888)))] ∧ Mem w [] w_ [box b1866 37 [.int .i64 x0.fKind, .int .i64 x0.fMember, p0_0, p0_1]]) ?_ ?_
      · skip
        refine run_region rfl ?_
        refine ops_ex rfl (guard_none rfl) rfl rfl (ex_fieldAddr (off' := 1) rfl rfl Try.underlying37 rfl tsz2 rfl) ?_
        refine ops_ex rfl (guard_none rfl) rfl rfl (ex_load1 rfl rfl Try.underlying2 rfl ((HM.box_at 0 rfl) 1 _ rfl)) ?_
        refine ops_ex rfl (guard_none rfl) rfl rfl (ex_neq rfl rfl rfl) ?_
        refine ops_ex rfl (guard_none rfl) rfl rfl (ex_move rfl rfl) ?_
        refine bool_cases (x0.fMember != 0) (fun hg1890 => ?_) (fun hg1890 => ?_)
        · skip
          refine ops_ex rfl (guard_on rfl rfl rfl hg1890) rfl rfl (ex_fieldAddr (off' := 1) rfl rfl Try.underlying37 rfl tsz2 rfl) ?_
          refine ops_ex rfl (guard_on rfl rfl rfl hg1890) rfl rfl (ex_load1 rfl rfl Try.underlying2 rfl ((HM.box_at 0 rfl) 1 _ rfl)) ?_
          refine ops_does rfl (guard_on rfl rfl rfl hg1890) rfl rfl (does_callk rfl callok86 rfl (impl_isKey.calls (x0 := x0.fMember) (cond_t hg1890 h1889))) ?_
          rintro _ w1891 ⟨rfl, hn⟩
          replace HM : Mem w [] w1891 [box b1866 37 [.int .i64 x0.fKind, .int .i64 x0.fMember, p0_0, p0_1]] := HM.call hn
          refine ops_ex rfl (guard_on rfl rfl rfl hg1890) rfl rfl (ex_not rfl rfl) ?_
          refine ops_ex (v := .bool ((x0.fMember != 0) && (!t1888))) rfl (guard_none rfl) rfl rfl (ex_pand_t rfl rfl hg1890 rfl) ?_
          refine ops_ex rfl (guard_none rfl) rfl rfl (ex_assign rfl rfl) ?_
          refine ops_nil ?_
          exact at_meet [(1, .pointer (some ⟨b1866, 0, none⟩)), (3, .func (.func 85) #[] #[]), (23, .bool ((x0.fMember != 0) && (!t1888)))] ⟨rfl, HM⟩ (Sub.cons rfl (Sub.cons rfl (Sub.cons rfl Sub.nil)))
        · skip
          refine ops_off rfl (guard_off rfl rfl rfl hg1890) rfl rfl ?_
          refine ops_off rfl (guard_off rfl rfl rfl hg1890) rfl rfl ?_
          refine ops_off rfl (guard_off rfl rfl rfl hg1890) rfl rfl ?_
          refine ops_off rfl (guard_off rfl rfl rfl hg1890) rfl rfl ?_
          have hg1892 : ((x0.fMember != 0) && (!t1888)) = false := by simp only [hg1890, Bool.and_true, Bool.true_and, Bool.and_false, Bool.false_and, Bool.or_true, Bool.true_or, Bool.or_false, Bool.false_or, Bool.not_true, Bool.not_false, Bool.not_not]
          refine ops_ex (v := .bool ((x0.fMember != 0) && (!t1888))) rfl (guard_none rfl) rfl rfl (ex_pand_f rfl rfl hg1890) ?_
          refine ops_ex rfl (guard_none rfl) rfl rfl (ex_assign rfl rfl) ?_
          refine ops_nil ?_
          exact at_meet [(1, .pointer (some ⟨b1866, 0, none⟩)), (3, .func (.func 85) #[] #[]), (23, .bool ((x0.fMember != 0) && (!t1888)))] ⟨rfl, HM⟩ (Sub.cons rfl (Sub.cons rfl (Sub.cons rfl Sub.nil)))
      · rintro _ w1893 ⟨rfl, HM⟩
        refine at_then ?_
        refine run_cond (b := ((x0.fMember != 0) && (!t1888))) rfl (fun hb1894 => ?_) (fun hb1894 => ?_)
        · replace H := cond_t hb1894 H
          refine run_seq ?_
          refine run_region rfl ?_
          refine ops_ex rfl (guard_none rfl) rfl rfl (ex_assign rfl rfl) ?_
          refine ops_nil ?_
          refine at_then ?_
          refine run_ret ?_
          refine at_block_ret ?_
          refine at_then_ret ?_
          replace HM := (HM.front 0 rfl rfl).drop
          have hR := Option.some.inj H
          subst hR
          exact at_ret1 rfl rfl ⟨_, rfl, rfl, HM⟩
        · replace H := cond_f hb1894 H
          refine run_seq ?_
          obtain ⟨t1895, h1896, H⟩ := bind_some H
          obtain ⟨t1897, h1898, H⟩ := bind_some H
          refine run_meet (fun ρ_ w_ => ρ_ = [(1, .pointer (some ⟨b1866, 0, none⟩)), (33, .bool (t1895 || t1897))] ∧ Mem w [] w_ [box b1866 37 [.int .i64 x0.fKind, .int .i64 x0.fMember, p0_0, p0_1]]) ?_ ?_
          · skip
            refine run_region rfl ?_
            refine ops_ex rfl (guard_none rfl) rfl rfl (ex_move rfl rfl) ?_
            refine ops_ex rfl (guard_none rfl) rfl rfl (ex_fieldAddr (off' := 2) rfl rfl Try.underlying37 rfl tsz34 rfl) ?_
            refine ops_ex rfl (guard_none rfl) rfl rfl (ex_load1 rfl rfl Try.underlying34 rfl ((HM.box_at 0 rfl) 2 _ rfl)) ?_
            refine ops_ex rfl (guard_none rfl) rfl rfl (ex_len (d := kRef) (xs := x0.fIns) rfl rfl Try.underlying34 hp0_0) ?_
            refine ops_does rfl (guard_none rfl) rfl rfl (does_callvk rfl callok85 rfl rfl rfl (impl_TxFault_1.calls (x0 := (x0.fIns.length : Int)) h1896)) ?_
            rintro _ w1899 ⟨rfl, hn⟩
            replace HM : Mem w [] w1899 [box b1866 37 [.int .i64 x0.fKind, .int .i64 x0.fMember, p0_0, p0_1]] := HM.call hn
            refine ops_ex rfl (guard_none rfl) rfl rfl (ex_move rfl rfl) ?_
            refine bool_cases t1895 (fun hg1900 => ?_) (fun hg1900 => ?_)
            · skip
              refine ops_off rfl (guard_off rfl rfl rfl hg1900) rfl rfl ?_
              refine ops_off rfl (guard_off rfl rfl rfl hg1900) rfl rfl ?_
              refine ops_off rfl (guard_off rfl rfl rfl hg1900) rfl rfl ?_
              refine ops_off rfl (guard_off rfl rfl rfl hg1900) rfl rfl ?_
              refine ops_off rfl (guard_off rfl rfl rfl hg1900) rfl rfl ?_
              have hg1901 : (t1895 || t1897) = true := by simp only [hg1900, Bool.and_true, Bool.true_and, Bool.and_false, Bool.false_and, Bool.or_true, Bool.true_or, Bool.or_false, Bool.false_or, Bool.not_true, Bool.not_false, Bool.not_not]
              refine ops_ex (v := .bool (t1895 || t1897)) rfl (guard_none rfl) rfl rfl (ex_por_t rfl rfl hg1900) ?_
              refine ops_ex rfl (guard_none rfl) rfl rfl (ex_assign rfl rfl) ?_
              refine ops_nil ?_
              exact at_meet [(1, .pointer (some ⟨b1866, 0, none⟩)), (33, .bool (t1895 || t1897))] ⟨rfl, HM⟩ (Sub.cons rfl (Sub.cons rfl Sub.nil))
            · skip
              refine ops_ex rfl (guard_on rfl rfl rfl hg1900) rfl rfl (ex_move rfl rfl) ?_
              refine ops_ex rfl (guard_on rfl rfl rfl hg1900) rfl rfl (ex_fieldAddr (off' := 3) rfl rfl Try.underlying37 rfl tsz35 rfl) ?_
              refine ops_ex rfl (guard_on rfl rfl rfl hg1900) rfl rfl (ex_load1 rfl rfl Try.underlying35 rfl ((HM.box_at 0 rfl) 3 _ rfl)) ?_
              refine ops_ex rfl (guard_on rfl rfl rfl hg1900) rfl rfl (ex_len (d := kOut) (xs := x0.fOuts) rfl rfl Try.underlying35 hp0_1) ?_
              refine ops_does rfl (guard_on rfl rfl rfl hg1900) rfl rfl (does_callvk rfl callok85 rfl rfl rfl (impl_TxFault_1.calls (x0 := (x0.fOuts.length : Int)) (cond_t (not_mk hg1900) h1898))) ?_
              rintro _ w1902 ⟨rfl, hn⟩
              replace HM : Mem w [] w1902 [box b1866 37 [.int .i64 x0.fKind, .int .i64 x0.fMember, p0_0, p0_1]] := HM.call hn
              refine ops_ex (v := .bool (t1895 || t1897)) rfl (guard_none rfl) rfl rfl (ex_por_f rfl rfl hg1900 rfl) ?_
              refine ops_ex rfl (guard_none rfl) rfl rfl (ex_assign rfl rfl) ?_
              refine ops_nil ?_
              exact at_meet [(1, .pointer (some ⟨b1866, 0, none⟩)), (33, .bool (t1895 || t1897))] ⟨rfl, HM⟩ (Sub.cons rfl (Sub.cons rfl Sub.nil))
          · rintro _ w1903 ⟨rfl, HM⟩
            refine at_then ?_
            refine run_cond (b := (t1895 || t1897)) rfl (fun hb1904 => ?_) (fun hb1904 => ?_)
            · replace H := cond_t hb1904 H
              refine run_seq ?_
              refine run_region rfl ?_
              refine ops_ex rfl (guard_none rfl) rfl rfl (ex_assign rfl rfl) ?_
              refine ops_nil ?_
              refine at_then ?_
              refine run_ret ?_
              refine at_block_ret ?_
              refine at_then_ret ?_
              replace HM := (HM.front 0 rfl rfl).drop
              have hR := Option.some.inj H
              subst hR
              exact at_ret1 rfl rfl ⟨_, rfl, rfl, HM⟩
            · replace H := cond_f hb1904 H
              refine run_skip ?_
              refine at_block ?_
              refine at_then ?_
              obtain ⟨o1963, ho1964, H⟩ := bind_some H
              refine run_mid (fun ρ_ w_ => Sum.inr () = o1963 ∧ ρ_ = [(1, .pointer (some ⟨b1866, 0, none⟩))] ∧ Mem w [] w_ [box b1866 37 [.int .i64 x0.fKind, .int .i64 x0.fMember, p0_0, p0_1]]) ?_ ?_
              · skip
                refine run_seq ?_
                refine run_region rfl ?_
                refine ops_ex rfl (guard_none rfl) rfl rfl (ex_fieldAddr (off' := 2) rfl rfl Try.underlying37 rfl tsz34 rfl) ?_
                refine ops_ex rfl (guard_none rfl) rfl rfl (ex_load1 rfl rfl Try.underlying34 rfl ((HM.box_at 0 rfl) 2 _ rfl)) ?_
                refine ops_ex rfl (guard_none rfl) rfl rfl (ex_len (d := kRef) (xs := x0.fIns) rfl rfl Try.underlying34 hp0_0) ?_
                refine ops_ex rfl (guard_none rfl) rfl rfl (ex_move rfl rfl) ?_
                refine ops_nil ?_
                refine at_then ?_
                refine run_block ?_
                refine run_loop (fun k_ ρ_ w_ => ∃ a1984 : Int, impl_TxFault.l0 x0 k_ a1984 = some o1963 ∧ ρ_ = [(1, .pointer (some ⟨b1866, 0, none⟩)), (47, p0_0), (48, .int .i64 (x0.fIns.length : Int)), (49, .int .i64 a1984)] ∧ Mem w [] w_ [box b1866 37 [.int .i64 x0.fKind, .int .i64 x0.fMember, p0_0, p0_1]]) k (ρ1 := [(1, .pointer (some ⟨b1866, 0, none⟩)), (47, p0_0), (48, .int .i64 (x0.fIns.length : Int)), (49, .int .i64 0)]) ⟨_, ho1964, rfl, HM⟩ (Sub.cons rfl (Sub.cons rfl (Sub.cons rfl (Sub.cons rfl Sub.nil)))) ?_
                clear HM ho1964
                rintro k2004 _ w2005 ⟨a1984, ho1964, rfl, HM⟩
                obtain _ | k2004 := k2004
                · exact nomatch ((impl_TxFault.l0_z x0 a1984).symm.trans ho1964)
                replace ho1964 := (impl_TxFault.l0_s x0 k2004 a1984).symm.trans ho1964
                refine run_seq ?_
                refine run_region rfl ?_
                refine ops_ex rfl (guard_none rfl) rfl rfl (ex_lss rfl rfl rfl) ?_
                refine ops_nil ?_
                refine at_then ?_
                refine run_seq ?_
                refine run_cond (b := (decide (a1984 < (x0.fIns.length : Int)))) rfl (fun hb2006 => ?_) (fun hb2006 => ?_)
                · replace ho1964 := cond_t hb2006 ho1964
                  refine run_skip ?_
                  refine at_then ?_
                  refine run_seq ?_
                  refine run_block ?_
                  refine run_seq ?_
                  obtain ⟨e2007, ho1964⟩ := chk_some ho1964
                  refine run_region rfl ?_
                  refine ops_ex rfl (guard_none rfl) rfl rfl (ex_move rfl rfl) ?_
                  have hc2008 : CellsAt _ (sb p0_0) (so p0_0 + (a1984).toNat * 2) [(.int .i64 ((gt x0.fIns a1984).fTx)), (.int .i64 ((gt x0.fIns a1984).fAt))] := rd_plain hp0_0 e2007
                  refine ops_ex rfl (guard_none rfl) rfl rfl (ex_indexAddr (d := kRef) rfl rfl rfl Try.underlying34 tsz99 hp0_0 (idx_lo e2007) (idx_hi e2007)) ?_
                  refine ops_ex rfl (guard_none rfl) rfl rfl (ex_loadN (cs := [(.int .i64 ((gt x0.fIns a1984).fTx)), (.int .i64 ((gt x0.fIns a1984).fAt))]) rfl rfl Try.underlying99 rfl tsz99 rfl ((HM.at_ hc2008).sub 0 2 rfl)) ?_
                  refine ops_does rfl (guard_none rfl) rfl rfl (does_alloc (cs := [.int .i64 0, .int .i64 0]) rfl tz99 rfl HM) ?_
                  rintro _ w2012 ⟨b2009, rfl, HM⟩
                  refine ops_ex rfl (guard_none rfl) rfl rfl (ex_assign rfl rfl) ?_
                  refine ops_doesS rfl (guard_none rfl) rfl (does_store (vs := [.int .i64 ((gt x0.fIns a1984).fTx), .int .i64 ((gt x0.fIns a1984).fAt)]) (cs' := [.int .i64 ((gt x0.fIns a1984).fTx), .int .i64 ((gt x0.fIns a1984).fAt)]) rfl rfl rfl rfl tsz99 (Ones.int (Ones.int Ones.nil)) rfl rfl HM) ?_
                  rintro w2013 HM
                  refine ops_nil ?_
                  refine at_then ?_
                  refine run_seq ?_
                  refine run_seq ?_
                  obtain ⟨t2017, h2018, ho1964⟩ := bind_some ho1964
                  refine run_region rfl ?_
                  refine ops_ex rfl (guard_none rfl) rfl rfl (ex_loadN (cs := [(.int .i64 ((gt x0.fIns a1984).fTx)), (.int .i64 ((gt x0.fIns a1984).fAt))]) rfl rfl Try.underlying99 rfl tsz99 rfl ((HM.box_at 0 rfl).sub 0 2 rfl)) ?_
                  refine ops_does rfl (guard_none rfl) rfl rfl (does_callk rfl callok79 rfl (impl_isRef.calls (x0 := (gt x0.fIns a1984)) h2018)) ?_
                  rintro _ w2019 ⟨rfl, hn⟩
                  replace HM : Mem w [] w2019 [box b2009 99 [.int .i64 ((gt x0.fIns a1984).fTx), .int .i64 ((gt x0.fIns a1984).fAt)], box b1866 37 [.int .i64 x0.fKind, .int .i64 x0.fMember, p0_0, p0_1]] := HM.call hn
                  refine ops_ex rfl (guard_none rfl) rfl rfl (ex_not rfl rfl) ?_
                  refine ops_nil ?_
                  refine at_then ?_
                  refine run_cond (b := !t2017) rfl (fun hb2020 => ?_) (fun hb2020 => ?_)
                  · replace ho1964 := cond_t hb2020 ho1964
                    refine run_seq ?_
                    refine run_region rfl ?_
                    refine ops_ex rfl (guard_none rfl) rfl rfl (ex_assign rfl rfl) ?_
                    refine ops_nil ?_
                    refine at_then ?_
                    refine run_ret ?_
                    refine at_then_ret ?_
                    refine at_block_ret ?_
                    refine at_then_ret ?_
                    refine at_then_ret ?_
                    refine at_block_ret ?_
                    refine at_then_ret ?_
                    replace HM := (HM.front 0 rfl rfl).drop
                    replace HM := (HM.front 0 rfl rfl).drop
                    have hR := Option.some.inj ho1964
                    subst hR
                    have hT := thn_inl H
                    have hR := Option.some.inj hT
                    subst hR
                    exact at_ret1 rfl rfl ⟨_, rfl, rfl, HM⟩
                  · replace ho1964 := cond_f hb2020 ho1964
                    refine run_skip ?_
                    refine at_then ?_
                    refine run_seq ?_
                    obtain ⟨e2021, ho1964⟩ := chk_some ho1964
                    obtain ⟨t2025, h2026, ho1964⟩ := bind_some ho1964
                    refine run_drawf (fun w_ => Mem w [] w_ [box b2009 99 [.int .i64 ((gt x0.fIns a1984).fTx), .int .i64 ((gt x0.fIns a1984).fAt)], box b1866 37 [.int .i64 x0.fKind, .int .i64 x0.fMember, p0_0, p0_1]]) [(0, true), (1, true), (2, true), (3, true), (4, true), (5, false)] mixed rfl rfl (by kernel_rfl) ?_
                    replace HM := HM.grow (fr_drew _)
                    have hS := Mem.suf (M := []) HM
                    refine drwp_take rfl (guard_none rfl) rfl rfl (fun w_ hS_ => (ex_fieldAddr (off' := 2) rfl rfl Try.underlying37 rfl tsz34 rfl)) hS ?_
                    refine drwp_take rfl (guard_none rfl) rfl rfl (fun w_ hS_ => (ex_load1 rfl rfl Try.underlying34 rfl ((hS_.box_at 1 rfl) 2 _ rfl))) hS ?_
                    refine drwp_take rfl (guard_none rfl) rfl rfl (fun w_ hS_ => (ex_move rfl rfl)) hS ?_
                    refine drwp_takeE rfl (guard_none rfl) rfl rfl (ex_cutH kRef rfl rfl rfl Try.underlying34 tsz99 hp0_0 e2021) hS ?_
                    intro u2022 hr2024
                    refine drwp_take rfl (guard_none rfl) rfl rfl (fun w_ hS_ => (ex_loadN (cs := [(.int .i64 ((gt x0.fIns a1984).fTx)), (.int .i64 ((gt x0.fIns a1984).fAt))]) rfl rfl Try.underlying99 rfl tsz99 rfl ((hS_.box_at 0 rfl).sub 0 2 rfl))) hS ?_
                    refine drwp_one rfl (guard_none rfl) rfl rfl (does_callk rfl callok87 rfl (slices_Contains_impl_Ref.calls (x0 := x0.fIns.take (a1984).toNat) (x1 := (gt x0.fIns a1984)) (HM.rd hr2024) h2026)) ?_
                    rintro _ w2027 ⟨rfl, hn⟩
                    replace HM : Mem w [] w2027 [box b2009 99 [.int .i64 ((gt x0.fIns a1984).fTx), .int .i64 ((gt x0.fIns a1984).fAt)], box b1866 37 [.int .i64 x0.fKind, .int .i64 x0.fMember, p0_0, p0_1]] := HM.call hn
                    refine ⟨Mem.suf (M := []) HM, ?_⟩
                    have hS := Mem.suf (M := []) HM
                    refine drwp_done ?_
                    refine at_then ?_
                    refine run_cond (b := t2025) rfl (fun hb2028 => ?_) (fun hb2028 => ?_)
                    · replace ho1964 := cond_t hb2028 ho1964
                      refine run_seq ?_
                      refine run_region rfl ?_
                      refine ops_ex rfl (guard_none rfl) rfl rfl (ex_assign rfl rfl) ?_
                      refine ops_nil ?_
                      refine at_then ?_
                      refine run_ret ?_
                      refine at_block_ret ?_
                      refine at_then_ret ?_
                      refine at_then_ret ?_
                      refine at_block_ret ?_
                      refine at_then_ret ?_
                      replace HM := (HM.front 0 rfl rfl).drop
                      replace HM := (HM.front 0 rfl rfl).drop
                      have hR := Option.some.inj ho1964
                      subst hR
                      have hT := thn_inl H
                      have hR := Option.some.inj hT
                      subst hR
                      exact at_ret1 rfl rfl ⟨_, rfl, rfl, HM⟩
                    · replace ho1964 := cond_f hb2028 ho1964
                      refine run_skip ?_
                      refine at_block ?_
                      refine at_then ?_
                      refine run_region rfl ?_
                      refine ops_ex rfl (guard_none rfl) rfl rfl (ex_add rfl rfl rfl) ?_
                      refine ops_ex rfl (guard_none rfl) rfl rfl (ex_move rfl rfl) ?_
                      refine ops_nil ?_
                      replace HM := (HM.front 0 rfl rfl).drop
                      exact at_again k2004 (ρ1 := [(1, .pointer (some ⟨b1866, 0, none⟩)), (47, p0_0), (48, .int .i64 (x0.fIns.length : Int)), (49, .int .i64 (wrap64 (a1984 + 1)))]) (Nat.lt_succ_self _) ⟨_, ho1964, rfl, HM⟩ (Sub.cons rfl (Sub.cons rfl (Sub.cons rfl (Sub.cons rfl Sub.nil))))
                · replace ho1964 := cond_f hb2006 ho1964
                  refine run_exit ?_
                  refine at_then_exit ?_
                  refine at_then_exit ?_
                  refine at_block_exit ?_
                  exact at_mid (ρ' := [(1, .pointer (some ⟨b1866, 0, none⟩))]) ⟨(Option.some.inj ho1964), rfl, HM⟩ (Sub.cons rfl Sub.nil)
              · rintro _ w2029 ⟨rfl, rfl, HM⟩
                replace H := (thn_inr H)
                obtain ⟨o2064, ho2065, H⟩ := bind_some H
                refine run_mid (fun ρ_ w_ => Sum.inr () = o2064 ∧ ρ_ = [(1, .pointer (some ⟨b1866, 0, none⟩))] ∧ Mem w [] w_ [box b1866 37 [.int .i64 x0.fKind, .int .i64 x0.fMember, p0_0, p0_1]]) ?_ ?_
                · skip
                  refine run_seq ?_
                  refine run_region rfl ?_
                  refine ops_ex rfl (guard_none rfl) rfl rfl (ex_fieldAddr (off' := 3) rfl rfl Try.underlying37 rfl tsz35 rfl) ?_
                  refine ops_ex rfl (guard_none rfl) rfl rfl (ex_load1 rfl rfl Try.underlying35 rfl ((HM.box_at 0 rfl) 3 _ rfl)) ?_
                  refine ops_ex rfl (guard_none rfl) rfl rfl (ex_len (d := kOut) (xs := x0.fOuts) rfl rfl Try.underlying35 hp0_1) ?_
                  refine ops_ex rfl (guard_none rfl) rfl rfl (ex_move rfl rfl) ?_
                  refine ops_nil ?_
                  refine at_then ?_
                  refine run_block ?_
                  refine run_loop (fun k_ ρ_ w_ => ∃ a2077 : Int, impl_TxFault.l1 x0 k_ a2077 = some o2064 ∧ ρ_ = [(1, .pointer (some ⟨b1866, 0, none⟩)), (65, p0_1), (66, .int .i64 (x0.fOuts.length : Int)), (67, .int .i64 a2077)] ∧ Mem w [] w_ [box b1866 37 [.int .i64 x0.fKind, .int .i64 x0.fMember, p0_0, p0_1]]) k (ρ1 := [(1, .pointer (some ⟨b1866, 0, none⟩)), (65, p0_1), (66, .int .i64 (x0.fOuts.length : Int)), (67, .int .i64 0)]) ⟨_, ho2065, rfl, HM⟩ (Sub.cons rfl (Sub.cons rfl (Sub.cons rfl (Sub.cons rfl Sub.nil)))) ?_
                  clear HM ho2065
                  rintro k2089 _ w2090 ⟨a2077, ho2065, rfl, HM⟩
                  obtain _ | k2089 := k2089
                  · exact nomatch ((impl_TxFault.l1_z x0 a2077).symm.trans ho2065)
                  replace ho2065 := (impl_TxFault.l1_s x0 k2089 a2077).symm.trans ho2065
                  refine run_seq ?_
                  refine run_region rfl ?_
                  refine ops_ex rfl (guard_none rfl) rfl rfl (ex_lss rfl rfl rfl) ?_
                  refine ops_nil ?_
                  refine at_then ?_
                  refine run_seq ?_
                  refine run_cond (b := (decide (a2077 < (x0.fOuts.length : Int)))) rfl (fun hb2091 => ?_) (fun hb2091 => ?_)
                  · replace ho2065 := cond_t hb2091 ho2065
                    refine run_skip ?_
                    refine at_then ?_
                    refine run_seq ?_
                    refine run_block ?_
                    refine run_seq ?_
                    obtain ⟨e2092, ho2065⟩ := chk_some ho2065
                    refine run_region rfl ?_
                    obtain ⟨kv2094, hc2093, hk2095⟩ : ∃ u, CellsAt _ (sb p0_1) (so p0_1 + (a2077).toNat * 4) [(.int .i64 ((gt x0.fOuts a2077).fValue)), u, (.int .i64 ((gt x0.fOuts a2077).fRule.fNeed)), (.int .i64 ((gt x0.fOuts a2077).fRule.fAfter))] ∧ RdS kInt _ u ((gt x0.fOuts a2077).fRule.fKeys) := rd_with1 hp0_1 e2092
                    refine ops_ex rfl (guard_none rfl) rfl rfl (ex_indexAddr (d := kOut) rfl rfl rfl Try.underlying35 tsz102 hp0_1 (idx_lo e2092) (idx_hi e2092)) ?_
                    refine ops_ex rfl (guard_none rfl) rfl rfl (ex_loadN (cs := [(.int .i64 ((gt x0.fOuts a2077).fValue)), kv2094, (.int .i64 ((gt x0.fOuts a2077).fRule.fNeed)), (.int .i64 ((gt x0.fOuts a2077).fRule.fAfter))]) rfl rfl Try.underlying102 rfl tsz102 rfl ((HM.at_ hc2093).sub 0 4 rfl)) ?_
                    refine ops_does rfl (guard_none rfl) rfl rfl (does_alloc (cs := [.int .i64 0, .slice none 0 0, .int .i64 0, .int .i64 0]) rfl tz102 rfl HM) ?_
                    rintro _ w2099 ⟨b2096, rfl, HM⟩
                    refine ops_doesS rfl (guard_none rfl) rfl (does_store (vs := [.int .i64 ((gt x0.fOuts a2077).fValue), kv2094, .int .i64 ((gt x0.fOuts a2077).fRule.fNeed), .int .i64 ((gt x0.fOuts a2077).fRule.fAfter)]) (cs' := [.int .i64 ((gt x0.fOuts a2077).fValue), kv2094, .int .i64 ((gt x0.fOuts a2077).fRule.fNeed), .int .i64 ((gt x0.fOuts a2077).fRule.fAfter)]) rfl rfl rfl rfl tsz102 (Ones.int (Ones.rd hk2095 (Ones.int (Ones.int Ones.nil)))) rfl rfl HM) ?_
                    rintro w2100 HM
                    refine ops_nil ?_
                    refine at_then ?_
                    refine run_seq ?_
                    obtain ⟨t2101, h2102, ho2065⟩ := bind_some ho2065
                    refine run_region rfl ?_
                    refine ops_ex rfl (guard_none rfl) rfl rfl (ex_loadN (cs := [(.int .i64 ((gt x0.fOuts a2077).fValue)), kv2094, (.int .i64 ((gt x0.fOuts a2077).fRule.fNeed)), (.int .i64 ((gt x0.fOuts a2077).fRule.fAfter))]) rfl rfl Try.underlying102 rfl tsz102 rfl ((HM.box_at 0 rfl).sub 0 4 rfl)) ?_
                    refine ops_does rfl (guard_none rfl) rfl rfl (does_callk rfl callok88 rfl (impl_outFault.calls (x0 := (gt x0.fOuts a2077)) (HM.rd hk2095) h2102)) ?_
                    rintro _ w2103 ⟨rfl, hn⟩
                    replace HM : Mem w [] w2103 [box b2096 102 [.int .i64 ((gt x0.fOuts a2077).fValue), kv2094, .int .i64 ((gt x0.fOuts a2077).fRule.fNeed), .int .i64 ((gt x0.fOuts a2077).fRule.fAfter)], box b1866 37 [.int .i64 x0.fKind, .int .i64 x0.fMember, p0_0, p0_1]] := HM.call hn
                    refine ops_ex rfl (guard_none rfl) rfl rfl (ex_assign rfl rfl) ?_
                    refine ops_nil ?_
                    refine at_then ?_
                    refine run_seq ?_
                    refine run_region rfl ?_
                    refine ops_ex rfl (guard_none rfl) rfl rfl (ex_move rfl rfl) ?_
                    refine ops_ex rfl (guard_none rfl) rfl rfl (ex_neq rfl rfl rfl) ?_
                    refine ops_nil ?_
                    refine at_then ?_
                    refine run_cond (b := (t2101 != 0)) rfl (fun hb2104 => ?_) (fun hb2104 => ?_)
                    · replace ho2065 := cond_t hb2104 ho2065
                      refine run_seq ?_
                      refine run_region rfl ?_
                      refine ops_ex rfl (guard_none rfl) rfl rfl (ex_move rfl rfl) ?_
                      refine ops_ex rfl (guard_none rfl) rfl rfl (ex_assign rfl rfl) ?_
                      refine ops_nil ?_
                      refine at_then ?_
                      refine run_ret ?_
                      refine at_block_ret ?_
                      refine at_then_ret ?_
                      refine at_then_ret ?_
                      refine at_block_ret ?_
                      refine at_then_ret ?_
                      replace HM := (HM.front 0 rfl rfl).drop
                      replace HM := (HM.front 0 rfl rfl).drop
                      have hR := Option.some.inj ho2065
                      subst hR
                      have hT := thn_inl H
                      have hR := Option.some.inj hT
                      subst hR
                      exact at_ret1 rfl rfl ⟨_, rfl, rfl, HM⟩
                    · replace ho2065 := cond_f hb2104 ho2065
                      refine run_skip ?_
                      refine at_block ?_
                      refine at_then ?_
                      refine run_region rfl ?_
                      refine ops_ex rfl (guard_none rfl) rfl rfl (ex_add rfl rfl rfl) ?_
                      refine ops_ex rfl (guard_none rfl) rfl rfl (ex_move rfl rfl) ?_
                      refine ops_nil ?_
                      replace HM := (HM.front 0 rfl rfl).drop
                      exact at_again k2089 (ρ1 := [(1, .pointer (some ⟨b1866, 0, none⟩)), (65, p0_1), (66, .int .i64 (x0.fOuts.length : Int)), (67, .int .i64 (wrap64 (a2077 + 1)))]) (Nat.lt_succ_self _) ⟨_, ho2065, rfl, HM⟩ (Sub.cons rfl (Sub.cons rfl (Sub.cons rfl (Sub.cons rfl Sub.nil))))
                  · replace ho2065 := cond_f hb2091 ho2065
                    refine run_exit ?_
                    refine at_then_exit ?_
                    refine at_then_exit ?_
                    refine at_block_exit ?_
                    exact at_mid (ρ' := [(1, .pointer (some ⟨b1866, 0, none⟩))]) ⟨(Option.some.inj ho2065), rfl, HM⟩ (Sub.cons rfl Sub.nil)
                · rintro _ w2105 ⟨rfl, rfl, HM⟩
                  replace H := (thn_inr H)
                  refine run_seq ?_
                  refine run_seq ?_
                  obtain ⟨e2106, H⟩ := chk_some H
                  refine run_meet (fun ρ_ w_ => ρ_ = [(87, .bool ((x0.fKind == 1) && (decide (((gt x0.fOuts (0 : Int)).fValue) < 100))))] ∧ Mem w [] w_ []) ?_ ?_
                  · skip
                    refine run_region rfl ?_
                    refine ops_ex rfl (guard_none rfl) rfl rfl (ex_fieldAddr (off' := 0) rfl rfl Try.underlying37 rfl tsz2 rfl) ?_
                    refine ops_ex rfl (guard_none rfl) rfl rfl (ex_load1 rfl rfl Try.underlying2 rfl ((HM.box_at 0 rfl) 0 _ rfl)) ?_
                    refine ops_ex rfl (guard_none rfl) rfl rfl (ex_eql rfl rfl rfl) ?_
                    refine ops_ex rfl (guard_none rfl) rfl rfl (ex_move rfl rfl) ?_
                    refine bool_cases (x0.fKind == 1) (fun hg2110 => ?_) (fun hg2110 => ?_)
                    · skip
                      refine ops_ex rfl (guard_on rfl rfl rfl hg2110) rfl rfl (ex_fieldAddr (off' := 3) rfl rfl Try.underlying37 rfl tsz35 rfl) ?_
                      refine ops_ex rfl (guard_on rfl rfl rfl hg2110) rfl rfl (ex_load1 rfl rfl Try.underlying35 rfl ((HM.box_at 0 rfl) 3 _ rfl)) ?_
                      obtain ⟨kv2108, hc2107, hk2109⟩ : ∃ u, CellsAt _ (sb p0_1) (so p0_1 + ((0 : Int)).toNat * 4) [(.int .i64 ((gt x0.fOuts (0 : Int)).fValue)), u, (.int .i64 ((gt x0.fOuts (0 : Int)).fRule.fNeed)), (.int .i64 ((gt x0.fOuts (0 : Int)).fRule.fAfter))] ∧ RdS kInt _ u ((gt x0.fOuts (0 : Int)).fRule.fKeys) := rd_with1 hp0_1 (or_t e2106 hg2110)
                      refine ops_ex rfl (guard_on rfl rfl rfl hg2110) rfl rfl (ex_indexAddr (d := kOut) rfl rfl rfl Try.underlying35 tsz102 hp0_1 (idx_lo (or_t e2106 hg2110)) (idx_hi (or_t e2106 hg2110))) ?_
                      refine ops_ex rfl (guard_on rfl rfl rfl hg2110) rfl rfl (ex_fieldAddr (off' := so p0_1 + ((0 : Int)).toNat * 4) rfl rfl Try.underlying102 rfl tsz2 rfl) ?_
                      refine ops_ex rfl (guard_on rfl rfl rfl hg2110) rfl rfl (ex_load1 rfl rfl Try.underlying2 rfl ((HM.at_ hc2107) 0 _ rfl)) ?_
                      refine ops_ex rfl (guard_on rfl rfl rfl hg2110) rfl rfl (ex_lss rfl rfl rfl) ?_
                      refine ops_ex (v := .bool ((x0.fKind == 1) && (decide (((gt x0.fOuts (0 : Int)).fValue) < 100)))) rfl (guard_none rfl) rfl rfl (ex_pand_t rfl rfl hg2110 rfl) ?_
                      refine ops_nil ?_
                      replace HM := (HM.front 0 rfl rfl).drop
                      exact at_meet [(87, .bool ((x0.fKind == 1) && (decide (((gt x0.fOuts (0 : Int)).fValue) < 100))))] ⟨rfl, HM⟩ (Sub.cons rfl Sub.nil)
                    · skip
                      refine ops_off rfl (guard_off rfl rfl rfl hg2110) rfl rfl ?_
                      refine ops_off rfl (guard_off rfl rfl rfl hg2110) rfl rfl ?_
                      refine ops_off rfl (guard_off rfl rfl rfl hg2110) rfl rfl ?_
                      refine ops_off rfl (guard_off rfl rfl rfl hg2110) rfl rfl ?_
                      refine ops_off rfl (guard_off rfl rfl rfl hg2110) rfl rfl ?_
                      refine ops_off rfl (guard_off rfl rfl rfl hg2110) rfl rfl ?_
                      have hg2111 : ((x0.fKind == 1) && (decide (((gt x0.fOuts (0 : Int)).fValue) < 100))) = false := by simp only [hg2110, Bool.and_true, Bool.true_and, Bool.and_false, Bool.false_and, Bool.or_true, Bool.true_or, Bool.or_false, Bool.false_or, Bool.not_true, Bool.not_false, Bool.not_not]
                      refine ops_ex (v := .bool ((x0.fKind == 1) && (decide (((gt x0.fOuts (0 : Int)).fValue) < 100)))) rfl (guard_none rfl) rfl rfl (ex_pand_f rfl rfl hg2110) ?_
                      refine ops_nil ?_
                      replace HM := (HM.front 0 rfl rfl).drop
                      exact at_meet [(87, .bool ((x0.fKind == 1) && (decide (((gt x0.fOuts (0 : Int)).fValue) < 100))))] ⟨rfl, HM⟩ (Sub.cons rfl Sub.nil)
                  · rintro _ w2112 ⟨rfl, HM⟩
                    refine at_then ?_
                    refine run_cond (b := ((x0.fKind == 1) && (decide (((gt x0.fOuts (0 : Int)).fValue) < 100)))) rfl (fun hb2113 => ?_) (fun hb2113 => ?_)
                    · replace H := cond_t hb2113 H
                      refine run_seq ?_
                      refine run_region rfl ?_
                      refine ops_ex rfl (guard_none rfl) rfl rfl (ex_assign rfl rfl) ?_
                      refine ops_nil ?_
                      refine at_then ?_
                      refine run_ret ?_
                      refine at_then_ret ?_
                      have hR := Option.some.inj H
                      subst hR
                      exact at_ret1 rfl rfl ⟨_, rfl, rfl, HM⟩
                    · replace H := cond_f hb2113 H
                      refine run_skip ?_
                      refine at_then ?_
                      refine run_seq ?_
                      refine run_region rfl ?_
                      refine ops_ex rfl (guard_none rfl) rfl rfl (ex_assign rfl rfl) ?_
                      refine ops_nil ?_
                      refine at_then ?_
                      refine run_ret ?_
                      have hR := Option.some.inj H
                      subst hR
                      exact at_ret1 rfl rfl ⟨_, rfl, rfl, HM⟩

def impl_outSum.l0 (x0 : Tx) : Nat → Int → Int → Option Int
  | 0, _, _ => none
  | k + 1, a2190, a2191 => (bif (decide (a2191 < (x0.fOuts.length : Int))) then (chk (idxOk a2191 x0.fOuts.length) (impl_outSum.l0 x0 k (wrap64 (a2190 + ((gt x0.fOuts a2191).fValue))) (wrap64 (a2191 + 1)))) else some a2190)
theorem impl_outSum.l0_z (x0 : Tx) (a2190 : Int) (a2191 : Int) : impl_outSum.l0 x0 0 a2190 a2191 = none := rfl
theorem impl_outSum.l0_s (x0 : Tx) (k : Nat) (a2190 : Int) (a2191 : Int) : impl_outSum.l0 x0 (k + 1) a2190 a2191 = (bif (decide (a2191 < (x0.fOuts.length : Int))) then (chk (idxOk a2191 x0.fOuts.length) (impl_outSum.l0 x0 k (wrap64 (a2190 + ((gt x0.fOuts a2191).fValue))) (wrap64 (a2191 + 1)))) else some a2190) := rfl
def impl_outSum.f (k : Nat) (x0 : Tx) : Option Int := ((impl_outSum.l0 x0 k 0 0).bind (fun a2179 => some a2179))
theorem impl_outSum.calls {k : Nat} {x0 : Tx} {p0_0 : Value} {p0_1 : Value} {w : World} (hp0_0 : RdS kRef w p0_0 x0.fIns) (hp0_1 : RdS kOut w p0_1 x0.fOuts) {r : Int} (H : impl_outSum.f k x0 = some r) :
    Calls Try.prog 96 ([.agg #[(.int .i64 x0.fKind), (.int .i64 x0.fMember), p0_0, p0_1]] : List Value).toArray w (fun e w_ => ∃ v, e = .returned v ∧ v = (.int .i64 r) ∧ Mem w [] w_ []) := by
  have HM := Mem.start w
  refine calls_run (N := 19) Try.func96 rfl rfl rfl rfl ?_
  unfold impl_outSum.f at H
  refine run_seq ?_
  refine run_region rfl ?_
  refine ops_does rfl (guard_none rfl) rfl rfl (does_box (cs := [.int .i64 x0.fKind, .int .i64 x0.fMember, p0_0, p0_1]) rfl rfl rfl HM) ?_
  rintro _ w2152 ⟨b2149, rfl, HM⟩
  refine ops_ex rfl (guard_none rfl) rfl rfl (ex_assign rfl rfl) ?_
  refine ops_nil ?_
  refine at_then ?_
  refine run_seq ?_
  refine run_region rfl ?_
  refine ops_ex rfl (guard_none rfl) rfl rfl (ex_assign rfl rfl) ?_
  refine ops_nil ?_
  refine at_then ?_
  obtain ⟨o2180, ho2181, H⟩ := bind_some H
  refine run_mid (fun ρ_ w_ => ∃ a2179 : Int, a2179 = o2180 ∧ ρ_ = [(3, .int .i64 a2179)] ∧ Mem w [] w_ []) ?_ ?_
  · clear H
    refine run_seq ?_
    refine run_region rfl ?_
    refine ops_ex rfl (guard_none rfl) rfl rfl (ex_fieldAddr (off' := 3) rfl rfl Try.underlying37 rfl tsz35 rfl) ?_
    refine ops_ex rfl (guard_none rfl) rfl rfl (ex_load1 rfl rfl Try.underlying35 rfl ((HM.box_at 0 rfl) 3 _ rfl)) ?_
    refine ops_ex rfl (guard_none rfl) rfl rfl (ex_len (d := kOut) (xs := x0.fOuts) rfl rfl Try.underlying35 hp0_1) ?_
    refine ops_ex rfl (guard_none rfl) rfl rfl (ex_move rfl rfl) ?_
    refine ops_nil ?_
    refine at_then ?_
    refine run_block ?_
    replace HM := (HM.front 0 rfl rfl).drop
    refine run_loop (fun k_ ρ_ w_ => ∃ a2190 : Int, ∃ a2191 : Int, impl_outSum.l0 x0 k_ a2190 a2191 = some o2180 ∧ ρ_ = [(3, .int .i64 a2190), (7, p0_1), (8, .int .i64 (x0.fOuts.length : Int)), (9, .int .i64 a2191)] ∧ Mem w [] w_ []) k (ρ1 := [(3, .int .i64 0), (7, p0_1), (8, .int .i64 (x0.fOuts.length : Int)), (9, .int .i64 0)]) ⟨_, _, ho2181, rfl, HM⟩ (Sub.cons rfl (Sub.cons rfl (Sub.cons rfl (Sub.cons rfl Sub.nil)))) ?_
    clear HM ho2181
    rintro k2200 _ w2201 ⟨a2190, a2191, ho2181, rfl, HM⟩
    obtain _ | k2200 := k2200
    · exact nomatch ((impl_outSum.l0_z x0 a2190 a2191).symm.trans ho2181)
    replace ho2181 := (impl_outSum.l0_s x0 k2200 a2190 a2191).symm.trans ho2181
    refine run_seq ?_
    refine run_region rfl ?_
    refine ops_ex rfl (guard_none rfl) rfl rfl (ex_lss rfl rfl rfl) ?_
    refine ops_nil ?_
    refine at_then ?_
    refine run_seq ?_
    refine run_cond (b := (decide (a2191 < (x0.fOuts.length : Int)))) rfl (fun hb2202 => ?_) (fun hb2202 => ?_)
    · replace ho2181 := cond_t hb2202 ho2181
      refine run_skip ?_
      refine at_then ?_
      refine run_seq ?_
      refine run_block ?_
      refine run_seq ?_
      obtain ⟨e2203, ho2181⟩ := chk_some ho2181
      refine run_region rfl ?_
      obtain ⟨kv2205, hc2204, hk2206⟩ : ∃ u, CellsAt _ (sb p0_1) (so p0_1 + (a2191).toNat * 4) [(.int .i64 ((gt x0.fOuts a2191).fValue)), u, (.int .i64 ((gt x0.fOuts a2191).fRule.fNeed)), (.int .i64 ((gt x0.fOuts a2191).fRule.fAfter))] ∧ RdS kInt _ u ((gt x0.fOuts a2191).fRule.fKeys) := rd_with1 hp0_1 e2203
      refine ops_ex rfl (guard_none rfl) rfl rfl (ex_indexAddr (d := kOut) rfl rfl rfl Try.underlying35 tsz102 hp0_1 (idx_lo e2203) (idx_hi e2203)) ?_
      refine ops_ex rfl (guard_none rfl) rfl rfl (ex_loadN (cs := [(.int .i64 ((gt x0.fOuts a2191).fValue)), kv2205, (.int .i64 ((gt x0.fOuts a2191).fRule.fNeed)), (.int .i64 ((gt x0.fOuts a2191).fRule.fAfter))]) rfl rfl Try.underlying102 rfl tsz102 rfl ((HM.at_ hc2204).sub 0 4 rfl)) ?_
      refine ops_does rfl (guard_none rfl) rfl rfl (does_alloc (cs := [.int .i64 0, .slice none 0 0, .int .i64 0, .int .i64 0]) rfl tz102 rfl HM) ?_
      rintro _ w2210 ⟨b2207, rfl, HM⟩
      refine ops_doesS rfl (guard_none rfl) rfl (does_store (vs := [.int .i64 ((gt x0.fOuts a2191).fValue), kv2205, .int .i64 ((gt x0.fOuts a2191).fRule.fNeed), .int .i64 ((gt x0.fOuts a2191).fRule.fAfter)]) (cs' := [.int .i64 ((gt x0.fOuts a2191).fValue), kv2205, .int .i64 ((gt x0.fOuts a2191).fRule.fNeed), .int .i64 ((gt x0.fOuts a2191).fRule.fAfter)]) rfl rfl rfl rfl tsz102 (Ones.int (Ones.rd hk2206 (Ones.int (Ones.int Ones.nil)))) rfl rfl HM) ?_
      rintro w2211 HM
      refine ops_nil ?_
      refine at_then ?_
      refine run_region rfl ?_
      refine ops_ex rfl (guard_none rfl) rfl rfl (ex_move rfl rfl) ?_
      refine ops_ex rfl (guard_none rfl) rfl rfl (ex_fieldAddr (off' := 0) rfl rfl Try.underlying102 rfl tsz2 rfl) ?_
      refine ops_ex rfl (guard_none rfl) rfl rfl (ex_load1 rfl rfl Try.underlying2 rfl ((HM.box_at 0 rfl) 0 _ rfl)) ?_
      refine ops_ex rfl (guard_none rfl) rfl rfl (ex_add rfl rfl rfl) ?_
      refine ops_ex rfl (guard_none rfl) rfl rfl (ex_assign rfl rfl) ?_
      refine ops_nil ?_
      refine at_block ?_
      refine at_then ?_
      refine run_region rfl ?_
      refine ops_ex rfl (guard_none rfl) rfl rfl (ex_add rfl rfl rfl) ?_
      refine ops_ex rfl (guard_none rfl) rfl rfl (ex_move rfl rfl) ?_
      refine ops_nil ?_
      replace HM := (HM.front 0 rfl rfl).drop
      exact at_again k2200 (ρ1 := [(3, .int .i64 (wrap64 (a2190 + ((gt x0.fOuts a2191).fValue)))), (7, p0_1), (8, .int .i64 (x0.fOuts.length : Int)), (9, .int .i64 (wrap64 (a2191 + 1)))]) (Nat.lt_succ_self _) ⟨_, _, ho2181, rfl, HM⟩ (Sub.cons rfl (Sub.cons rfl (Sub.cons rfl (Sub.cons rfl Sub.nil))))
    · replace ho2181 := cond_f hb2202 ho2181
      refine run_exit ?_
      refine at_then_exit ?_
      refine at_then_exit ?_
      refine at_block_exit ?_
      exact at_mid (ρ' := [(3, .int .i64 a2190)]) ⟨_, (Option.some.inj ho2181), rfl, HM⟩ (Sub.cons rfl Sub.nil)
  · rintro _ w2212 ⟨a2179, rfl, rfl, HM⟩
    refine run_seq ?_
    refine run_region rfl ?_
    refine ops_ex rfl (guard_none rfl) rfl rfl (ex_move rfl rfl) ?_
    refine ops_ex rfl (guard_none rfl) rfl rfl (ex_assign rfl rfl) ?_
    refine ops_nil ?_
    refine at_then ?_
    refine run_ret ?_
    have hR := Option.some.inj H
    subst hR
    exact at_ret1 rfl rfl ⟨_, rfl, rfl, HM⟩

def impl_OutSum.f (k : Nat) (x0 : Tx) : Option IntResult := ((impl_TxFault.f k x0).bind fun t2223 => (bif (t2223 != 0) then some (⟨t2223, 0⟩ : IntResult) else ((impl_outSum.f k x0).bind fun t2228 => some (⟨0, t2228⟩ : IntResult))))
theorem impl_OutSum.calls {k : Nat} {x0 : Tx} {p0_0 : Value} {p0_1 : Value} {w : World} (hp0_0 : RdS kRef w p0_0 x0.fIns) (hp0_1 : RdS kOut w p0_1 x0.fOuts) {r : IntResult} (H : impl_OutSum.f k x0 = some r) :
    Calls Try.prog 40 ([.agg #[(.int .i64 x0.fKind), (.int .i64 x0.fMember), p0_0, p0_1]] : List Value).toArray w (fun e w_ => ∃ v, e = .returned v ∧ v = (.agg #[.int .i64 r.fCode, .int .i64 r.fValue]) ∧ Mem w [] w_ []) := by
  have HM := Mem.start w
  refine calls_run (N := 13) Try.func40 rfl rfl rfl rfl ?_
  unfold impl_OutSum.f at H
  refine run_seq ?_
  refine run_region rfl ?_
  refine ops_does rfl (guard_none rfl) rfl rfl (does_box (cs := [.int .i64 x0.fKind, .int .i64 x0.fMember, p0_0, p0_1]) rfl rfl rfl HM) ?_
  rintro _ w2221 ⟨b2215, rfl, HM⟩
  refine ops_does rfl (guard_none rfl) rfl rfl (does_alloc (cs := [.int .i64 0, .int .i64 0]) rfl tz55 rfl HM) ?_
  rintro _ w2222 ⟨b2218, rfl, HM⟩
  refine ops_nil ?_
  refine at_then ?_
  refine run_seq ?_
  refine run_seq ?_
  obtain ⟨t2223, h2224, H⟩ := bind_some H
  refine run_region rfl ?_
  refine ops_ex rfl (guard_none rfl) rfl rfl (ex_loadN (cs := [(.int .i64 x0.fKind), (.int .i64 x0.fMember), p0_0, p0_1]) rfl rfl Try.underlying37 rfl tsz37 rfl ((HM.box_at 1 rfl).sub 0 4 rfl)) ?_
  refine ops_does rfl (guard_none rfl) rfl rfl (does_callk rfl callok28 rfl (impl_TxFault.calls (x0 := x0) (HM.rd hp0_0) (HM.rd hp0_1) h2224)) ?_
  rintro _ w2225 ⟨rfl, hn⟩
  replace HM : Mem w [] w2225 [box b2218 55 [.int .i64 0, .int .i64 0], box b2215 37 [.int .i64 x0.fKind, .int .i64 x0.fMember, p0_0, p0_1]] := HM.call hn
  refine ops_ex rfl (guard_none rfl) rfl rfl (ex_assign rfl rfl) ?_
  refine ops_nil ?_
  refine at_then ?_
  refine run_seq ?_
  refine run_region rfl ?_
  refine ops_ex rfl (guard_none rfl) rfl rfl (ex_move rfl rfl) ?_
  refine ops_ex rfl (guard_none rfl) rfl rfl (ex_neq rfl rfl rfl) ?_
  refine ops_nil ?_
  refine at_then ?_
  refine run_cond (b := (t2223 != 0)) rfl (fun hb2226 => ?_) (fun hb2226 => ?_)
  · replace H := cond_t hb2226 H
    refine run_seq ?_
    refine run_region rfl ?_
    refine ops_ex rfl (guard_none rfl) rfl rfl (ex_move rfl rfl) ?_
    refine ops_ex rfl (guard_none rfl) rfl rfl (ex_build (cells := #[(.int .i64 t2223), (.int .i64 0)]) rfl rfl (by kernel_rfl)) ?_
    refine ops_doesS rfl (guard_none rfl) rfl (does_store (vs := [.int .i64 t2223, .int .i64 0]) (cs' := [.int .i64 t2223, .int .i64 0]) rfl rfl rfl rfl tsz55 (Ones.int (Ones.int Ones.nil)) rfl rfl HM) ?_
    rintro w2227 HM
    refine ops_nil ?_
    refine at_then ?_
    refine run_ret ?_
    refine at_then_ret ?_
    replace HM := (HM.front 1 rfl rfl).drop
    have hcb0 := HM.box_at 0 rfl
    replace HM := (HM.front 0 rfl rfl).drop
    have hR := Option.some.inj H
    subst hR
    exact at_retN rfl rfl Try.underlying55 rfl tsz55 rfl hcb0 ⟨_, rfl, rfl, HM⟩
  · replace H := cond_f hb2226 H
    refine run_skip ?_
    refine at_then ?_
    refine run_seq ?_
    obtain ⟨t2228, h2229, H⟩ := bind_some H
    refine run_region rfl ?_
    refine ops_ex rfl (guard_none rfl) rfl rfl (ex_loadN (cs := [(.int .i64 x0.fKind), (.int .i64 x0.fMember), p0_0, p0_1]) rfl rfl Try.underlying37 rfl tsz37 rfl ((HM.box_at 1 rfl).sub 0 4 rfl)) ?_
    refine ops_does rfl (guard_none rfl) rfl rfl (does_callk rfl callok96 rfl (impl_outSum.calls (x0 := x0) (HM.rd hp0_0) (HM.rd hp0_1) h2229)) ?_
    rintro _ w2230 ⟨rfl, hn⟩
    replace HM : Mem w [] w2230 [box b2218 55 [.int .i64 0, .int .i64 0], box b2215 37 [.int .i64 x0.fKind, .int .i64 x0.fMember, p0_0, p0_1]] := HM.call hn
    refine ops_ex rfl (guard_none rfl) rfl rfl (ex_build (cells := #[(.int .i64 0), (.int .i64 t2228)]) rfl rfl (by kernel_rfl)) ?_
    refine ops_doesS rfl (guard_none rfl) rfl (does_store (vs := [.int .i64 0, .int .i64 t2228]) (cs' := [.int .i64 0, .int .i64 t2228]) rfl rfl rfl rfl tsz55 (Ones.int (Ones.int Ones.nil)) rfl rfl HM) ?_
    rintro w2231 HM
    refine ops_nil ?_
    refine at_then ?_
    refine run_ret ?_
    replace HM := (HM.front 1 rfl rfl).drop
    have hcb0 := HM.box_at 0 rfl
    replace HM := (HM.front 0 rfl rfl).drop
    have hR := Option.some.inj H
    subst hR
    exact at_retN rfl rfl Try.underlying55 rfl tsz55 rfl hcb0 ⟨_, rfl, rfl, HM⟩

def laws_eqIntResult.f (k : Nat) (x0 : IntResult) (x1 : IntResult) : Option Bool := (bif (x0.fCode != x1.fCode) then some false else (bif (x0.fValue != x1.fValue) then some false else some true))
theorem laws_eqIntResult.calls {k : Nat} {x0 : IntResult} {x1 : IntResult}  {w : World}  {r : Bool} (H : laws_eqIntResult.f k x0 x1 = some r) :
    Calls Try.prog 36 ([.agg #[(.int .i64 x0.fCode), (.int .i64 x0.fValue)], .agg #[(.int .i64 x1.fCode), (.int .i64 x1.fValue)]] : List Value).toArray w (fun e w_ => ∃ v, e = .returned v ∧ v = (.bool r) ∧ Mem w [] w_ []) := by
  have HM := Mem.start w
  refine calls_run (N := 15) Try.func36 rfl rfl rfl rfl ?_
  unfold laws_eqIntResult.f at H
  refine run_seq ?_
  refine run_region rfl ?_
  refine ops_does rfl (guard_none rfl) rfl rfl (does_box (cs := [.int .i64 x0.fCode, .int .i64 x0.fValue]) rfl rfl rfl HM) ?_
  rintro _ w2252 ⟨b2246, rfl, HM⟩
  refine ops_does rfl (guard_none rfl) rfl rfl (does_box (cs := [.int .i64 x1.fCode, .int .i64 x1.fValue]) rfl rfl rfl HM) ?_
  rintro _ w2253 ⟨b2249, rfl, HM⟩
  refine ops_ex rfl (guard_none rfl) rfl rfl (ex_assign rfl rfl) ?_
  refine ops_nil ?_
  refine at_then ?_
  refine run_seq ?_
  refine run_seq ?_
  refine run_region rfl ?_
  refine ops_ex rfl (guard_none rfl) rfl rfl (ex_fieldAddr (off' := 0) rfl rfl Try.underlying55 rfl tsz2 rfl) ?_
  refine ops_ex rfl (guard_none rfl) rfl rfl (ex_load1 rfl rfl Try.underlying2 rfl ((HM.box_at 1 rfl) 0 _ rfl)) ?_
  refine ops_ex rfl (guard_none rfl) rfl rfl (ex_fieldAddr (off' := 0) rfl rfl Try.underlying55 rfl tsz2 rfl) ?_
  refine ops_ex rfl (guard_none rfl) rfl rfl (ex_load1 rfl rfl Try.underlying2 rfl ((HM.box_at 0 rfl) 0 _ rfl)) ?_
  refine ops_ex rfl (guard_none rfl) rfl rfl (ex_neq rfl rfl rfl) ?_
  refine ops_nil ?_
  refine at_then ?_
  refine run_cond (b := (x0.fCode != x1.fCode)) rfl (fun hb2255 => ?_) (fun hb2255 => ?_)
  · replace H := cond_t hb2255 H
    refine run_seq ?_
    refine run_region rfl ?_
    refine ops_ex rfl (guard_none rfl) rfl rfl (ex_assign rfl rfl) ?_
    refine ops_nil ?_
    refine at_then ?_
    refine run_ret ?_
    refine at_then_ret ?_
    replace HM := (HM.front 0 rfl rfl).drop
    replace HM := (HM.front 0 rfl rfl).drop
    have hR := Option.some.inj H
    subst hR
    exact at_ret1 rfl rfl ⟨_, rfl, rfl, HM⟩
  · replace H := cond_f hb2255 H
    refine run_skip ?_
    refine at_then ?_
    refine run_seq ?_
    refine run_seq ?_
    refine run_region rfl ?_
    refine ops_ex rfl (guard_none rfl) rfl rfl (ex_fieldAddr (off' := 1) rfl rfl Try.underlying55 rfl tsz2 rfl) ?_
    refine ops_ex rfl (guard_none rfl) rfl rfl (ex_load1 rfl rfl Try.underlying2 rfl ((HM.box_at 1 rfl) 1 _ rfl)) ?_
    refine ops_ex rfl (guard_none rfl) rfl rfl (ex_fieldAddr (off' := 1) rfl rfl Try.underlying55 rfl tsz2 rfl) ?_
    refine ops_ex rfl (guard_none rfl) rfl rfl (ex_load1 rfl rfl Try.underlying2 rfl ((HM.box_at 0 rfl) 1 _ rfl)) ?_
    refine ops_ex rfl (guard_none rfl) rfl rfl (ex_neq rfl rfl rfl) ?_
    refine ops_nil ?_
    refine at_then ?_
    refine run_cond (b := (x0.fValue != x1.fValue)) rfl (fun hb2256 => ?_) (fun hb2256 => ?_)
    · replace H := cond_t hb2256 H
      refine run_seq ?_
      refine run_region rfl ?_
      refine ops_ex rfl (guard_none rfl) rfl rfl (ex_assign rfl rfl) ?_
      refine ops_nil ?_
      refine at_then ?_
      refine run_ret ?_
      refine at_then_ret ?_
      replace HM := (HM.front 0 rfl rfl).drop
      replace HM := (HM.front 0 rfl rfl).drop
      have hR := Option.some.inj H
      subst hR
      exact at_ret1 rfl rfl ⟨_, rfl, rfl, HM⟩
    · replace H := cond_f hb2256 H
      refine run_skip ?_
      refine at_then ?_
      refine run_seq ?_
      refine run_region rfl ?_
      refine ops_ex rfl (guard_none rfl) rfl rfl (ex_assign rfl rfl) ?_
      refine ops_nil ?_
      refine at_then ?_
      refine run_ret ?_
      replace HM := (HM.front 0 rfl rfl).drop
      replace HM := (HM.front 0 rfl rfl).drop
      have hR := Option.some.inj H
      subst hR
      exact at_ret1 rfl rfl ⟨_, rfl, rfl, HM⟩

def laws_eqRef.f (k : Nat) (x0 : Ref) (x1 : Ref) : Option Bool := (bif (x0.fTx != x1.fTx) then some false else (bif (x0.fAt != x1.fAt) then some false else some true))
theorem laws_eqRef.calls {k : Nat} {x0 : Ref} {x1 : Ref}  {w : World}  {r : Bool} (H : laws_eqRef.f k x0 x1 = some r) :
    Calls Try.prog 124 ([.agg #[(.int .i64 x0.fTx), (.int .i64 x0.fAt)], .agg #[(.int .i64 x1.fTx), (.int .i64 x1.fAt)]] : List Value).toArray w (fun e w_ => ∃ v, e = .returned v ∧ v = (.bool r) ∧ Mem w [] w_ []) := by
  have HM := Mem.start w
  refine calls_run (N := 15) Try.func124 rfl rfl rfl rfl ?_
  unfold laws_eqRef.f at H
  refine run_seq ?_
  refine run_region rfl ?_
  refine ops_does rfl (guard_none rfl) rfl rfl (does_box (cs := [.int .i64 x0.fTx, .int .i64 x0.fAt]) rfl rfl rfl HM) ?_
  rintro _ w2301 ⟨b2295, rfl, HM⟩
  refine ops_does rfl (guard_none rfl) rfl rfl (does_box (cs := [.int .i64 x1.fTx, .int .i64 x1.fAt]) rfl rfl rfl HM) ?_
  rintro _ w2302 ⟨b2298, rfl, HM⟩
  refine ops_ex rfl (guard_none rfl) rfl rfl (ex_assign rfl rfl) ?_
  refine ops_nil ?_
  refine at_then ?_
  refine run_seq ?_
  refine run_seq ?_
  refine run_region rfl ?_
  refine ops_ex rfl (guard_none rfl) rfl rfl (ex_fieldAddr (off' := 0) rfl rfl Try.underlying99 rfl tsz2 rfl) ?_
  refine ops_ex rfl (guard_none rfl) rfl rfl (ex_load1 rfl rfl Try.underlying2 rfl ((HM.box_at 1 rfl) 0 _ rfl)) ?_
  refine ops_ex rfl (guard_none rfl) rfl rfl (ex_fieldAddr (off' := 0) rfl rfl Try.underlying99 rfl tsz2 rfl) ?_
  refine ops_ex rfl (guard_none rfl) rfl rfl (ex_load1 rfl rfl Try.underlying2 rfl ((HM.box_at 0 rfl) 0 _ rfl)) ?_
  refine ops_ex rfl (guard_none rfl) rfl rfl (ex_neq rfl rfl rfl) ?_
  refine ops_nil ?_
  refine at_then ?_
  refine run_cond (b := (x0.fTx != x1.fTx)) rfl (fun hb2304 => ?_) (fun hb2304 => ?_)
  · replace H := cond_t hb2304 H
    refine run_seq ?_
    refine run_region rfl ?_
    refine ops_ex rfl (guard_none rfl) rfl rfl (ex_assign rfl rfl) ?_
    refine ops_nil ?_
    refine at_then ?_
    refine run_ret ?_
    refine at_then_ret ?_
    replace HM := (HM.front 0 rfl rfl).drop
    replace HM := (HM.front 0 rfl rfl).drop
    have hR := Option.some.inj H
    subst hR
    exact at_ret1 rfl rfl ⟨_, rfl, rfl, HM⟩
  · replace H := cond_f hb2304 H
    refine run_skip ?_
    refine at_then ?_
    refine run_seq ?_
    refine run_seq ?_
    refine run_region rfl ?_
    refine ops_ex rfl (guard_none rfl) rfl rfl (ex_fieldAddr (off' := 1) rfl rfl Try.underlying99 rfl tsz2 rfl) ?_
    refine ops_ex rfl (guard_none rfl) rfl rfl (ex_load1 rfl rfl Try.underlying2 rfl ((HM.box_at 1 rfl) 1 _ rfl)) ?_
    refine ops_ex rfl (guard_none rfl) rfl rfl (ex_fieldAddr (off' := 1) rfl rfl Try.underlying99 rfl tsz2 rfl) ?_
    refine ops_ex rfl (guard_none rfl) rfl rfl (ex_load1 rfl rfl Try.underlying2 rfl ((HM.box_at 0 rfl) 1 _ rfl)) ?_
    refine ops_ex rfl (guard_none rfl) rfl rfl (ex_neq rfl rfl rfl) ?_
    refine ops_nil ?_
    refine at_then ?_
    refine run_cond (b := (x0.fAt != x1.fAt)) rfl (fun hb2305 => ?_) (fun hb2305 => ?_)
    · replace H := cond_t hb2305 H
      refine run_seq ?_
      refine run_region rfl ?_
      refine ops_ex rfl (guard_none rfl) rfl rfl (ex_assign rfl rfl) ?_
      refine ops_nil ?_
      refine at_then ?_
      refine run_ret ?_
      refine at_then_ret ?_
      replace HM := (HM.front 0 rfl rfl).drop
      replace HM := (HM.front 0 rfl rfl).drop
      have hR := Option.some.inj H
      subst hR
      exact at_ret1 rfl rfl ⟨_, rfl, rfl, HM⟩
    · replace H := cond_f hb2305 H
      refine run_skip ?_
      refine at_then ?_
      refine run_seq ?_
      refine run_region rfl ?_
      refine ops_ex rfl (guard_none rfl) rfl rfl (ex_assign rfl rfl) ?_
      refine ops_nil ?_
      refine at_then ?_
      refine run_ret ?_
      replace HM := (HM.front 0 rfl rfl).drop
      replace HM := (HM.front 0 rfl rfl).drop
      have hR := Option.some.inj H
      subst hR
      exact at_ret1 rfl rfl ⟨_, rfl, rfl, HM⟩
end Go.Proofs.Ytoiacoiccpiciaa.Zk
