/- What functions of the program compute, each as a plain function, and that they do. Conditions: as each theorem states them. -/
import Derived.Test.YtoiacoiccpiciaaClashTxZkF2
namespace Go.Proofs.Ytoiacoiccpiciaa.Zk
open Go Go.RowKit Go.IntWalk Go.Proofs
set_option linter.unusedVariables false
set_option linter.unusedSimpArgs false
set_option maxRecDepth 100000
set_option maxHeartbeats 4000000
def impl_outFault.f (k : Nat) (x0 : Out) : Option Int := ((impl_within.f k x0.fValue 1 1000000).bind fun t1857 => (bif !t1857 then some 3 else ((impl_RuleFault.f k x0.fRule).bind fun t1861 => some t1861)))
theorem impl_outFault.calls {k : Nat} {x0 : Out} {p0_0 : Value} {w : World} (hp0_0 : RdS kInt w p0_0 x0.fRule.fKeys) {r : Int} (H : impl_outFault.f k x0 = some r) :
    Calls Try.prog 88 ([.agg #[(.int .i64 x0.fValue), p0_0, (.int .i64 x0.fRule.fNeed), (.int .i64 x0.fRule.fAfter)]] : List Value).toArray w (fun e w_ => ∃ v, e = .returned v ∧ v = (.int .i64 r) ∧ Mem w [] w_ []) := by
  have HM := Mem.start w
  refine calls_run (N := 10) Try.func88 rfl rfl rfl rfl ?_
  unfold impl_outFault.f at H
  refine run_seq ?_
  refine run_region rfl ?_
  refine ops_does rfl (guard_none rfl) rfl rfl (does_box (cs := [.int .i64 x0.fValue, p0_0, .int .i64 x0.fRule.fNeed, .int .i64 x0.fRule.fAfter]) rfl rfl rfl HM) ?_
  rintro _ w1856 ⟨b1853, rfl, HM⟩
  refine ops_ex rfl (guard_none rfl) rfl rfl (ex_assign rfl rfl) ?_
  refine ops_nil ?_
  refine at_then ?_
  refine run_seq ?_
  refine run_seq ?_
  obtain ⟨t1857, h1858, H⟩ := bind_some H
  refine run_region rfl ?_
  refine ops_ex rfl (guard_none rfl) rfl rfl (ex_fieldAddr (off' := 0) rfl rfl Try.underlying102 rfl tsz2 rfl) ?_
  refine ops_ex rfl (guard_none rfl) rfl rfl (ex_load1 rfl rfl Try.underlying2 rfl ((HM.box_at 0 rfl) 0 _ rfl)) ?_
  refine ops_does rfl (guard_none rfl) rfl rfl (does_callk rfl callok81 rfl (impl_within.calls (x0 := x0.fValue) (x1 := 1) (x2 := 1000000) h1858)) ?_
  rintro _ w1859 ⟨rfl, hn⟩
  replace HM : Mem w [] w1859 [box b1853 102 [.int .i64 x0.fValue, p0_0, .int .i64 x0.fRule.fNeed, .int .i64 x0.fRule.fAfter]] := HM.call hn
  refine ops_ex rfl (guard_none rfl) rfl rfl (ex_not rfl rfl) ?_
  refine ops_nil ?_
  refine at_then ?_
  refine run_cond (b := !t1857) rfl (fun hb1860 => ?_) (fun hb1860 => ?_)
  · replace H := cond_t hb1860 H
    refine run_seq ?_
    refine run_region rfl ?_
    refine ops_ex rfl (guard_none rfl) rfl rfl (ex_assign rfl rfl) ?_
    refine ops_nil ?_
    refine at_then ?_
    refine run_ret ?_
    refine at_then_ret ?_
    replace HM := (HM.front 0 rfl rfl).drop
    have hR := Option.some.inj H
    subst hR
    exact at_ret1 rfl rfl ⟨_, rfl, rfl, HM⟩
  · replace H := cond_f hb1860 H
    refine run_skip ?_
    refine at_then ?_
    refine run_seq ?_
    obtain ⟨t1861, h1862, H⟩ := bind_some H
    refine run_region rfl ?_
    refine ops_ex rfl (guard_none rfl) rfl rfl (ex_fieldAddr (off' := 1) rfl rfl Try.underlying102 rfl tsz100 rfl) ?_
    refine ops_ex rfl (guard_none rfl) rfl rfl (ex_loadN (cs := [p0_0, (.int .i64 x0.fRule.fNeed), (.int .i64 x0.fRule.fAfter)]) rfl rfl Try.underlying100 rfl tsz100 rfl ((HM.box_at 0 rfl).sub 1 3 rfl)) ?_
    refine ops_does rfl (guard_none rfl) rfl rfl (does_callk rfl callok82 rfl (impl_RuleFault.calls (x0 := x0.fRule) (HM.rd hp0_0) h1862)) ?_
    rintro _ w1863 ⟨rfl, hn⟩
    replace HM : Mem w [] w1863 [box b1853 102 [.int .i64 x0.fValue, p0_0, .int .i64 x0.fRule.fNeed, .int .i64 x0.fRule.fAfter]] := HM.call hn
    refine ops_ex rfl (guard_none rfl) rfl rfl (ex_assign rfl rfl) ?_
    refine ops_nil ?_
    refine at_then ?_
    refine run_ret ?_
    replace HM := (HM.front 0 rfl rfl).drop
    have hR := Option.some.inj H
    subst hR
    exact at_ret1 rfl rfl ⟨_, rfl, rfl, HM⟩

def impl_TxFault.l0 (x0 : Tx) : Nat → Int → Option (Int ⊕ Unit)
  | 0, _ => none
  | k + 1, a2015 => (bif (decide (a2015 < (x0.fIns.length : Int))) then (chk (idxOk a2015 x0.fIns.length) ((impl_isRef.f k (gt x0.fIns a2015)).bind fun t2048 => (bif !t2048 then some (.inl 3) else (chk (cutOk a2015 x0.fIns.length) ((slices_Contains_impl_Ref.f k (x0.fIns.take (a2015).toNat) (gt x0.fIns a2015)).bind fun t2056 => (bif t2056 then some (.inl 7) else impl_TxFault.l0 x0 k (wrap64 (a2015 + 1)))))))) else some (.inr ()))
theorem impl_TxFault.l0_z (x0 : Tx) (a2015 : Int) : impl_TxFault.l0 x0 0 a2015 = none := rfl
theorem impl_TxFault.l0_s (x0 : Tx) (k : Nat) (a2015 : Int) : impl_TxFault.l0 x0 (k + 1) a2015 = (bif (decide (a2015 < (x0.fIns.length : Int))) then (chk (idxOk a2015 x0.fIns.length) ((impl_isRef.f k (gt x0.fIns a2015)).bind fun t2048 => (bif !t2048 then some (.inl 3) else (chk (cutOk a2015 x0.fIns.length) ((slices_Contains_impl_Ref.f k (x0.fIns.take (a2015).toNat) (gt x0.fIns a2015)).bind fun t2056 => (bif t2056 then some (.inl 7) else impl_TxFault.l0 x0 k (wrap64 (a2015 + 1)))))))) else some (.inr ())) := rfl
def impl_TxFault.l1 (x0 : Tx) : Nat → Int → Option (Int ⊕ Unit)
  | 0, _ => none
  | k + 1, a2108 => (bif (decide (a2108 < (x0.fOuts.length : Int))) then (chk (idxOk a2108 x0.fOuts.length) ((impl_outFault.f k (gt x0.fOuts a2108)).bind fun t2132 => (bif (t2132 != 0) then some (.inl t2132) else impl_TxFault.l1 x0 k (wrap64 (a2108 + 1))))) else some (.inr ()))
theorem impl_TxFault.l1_z (x0 : Tx) (a2108 : Int) : impl_TxFault.l1 x0 0 a2108 = none := rfl
theorem impl_TxFault.l1_s (x0 : Tx) (k : Nat) (a2108 : Int) : impl_TxFault.l1 x0 (k + 1) a2108 = (bif (decide (a2108 < (x0.fOuts.length : Int))) then (chk (idxOk a2108 x0.fOuts.length) ((impl_outFault.f k (gt x0.fOuts a2108)).bind fun t2132 => (bif (t2132 != 0) then some (.inl t2132) else impl_TxFault.l1 x0 k (wrap64 (a2108 + 1))))) else some (.inr ())) := rfl
def impl_TxFault.f (k : Nat) (x0 : Tx) : Option Int := ((impl_within.f k x0.fKind 0 2).bind fun t1912 => (bif ((!t1912) || ((x0.fKind == 0) != (x0.fMember == 0))) then some 1 else ((bif (x0.fMember != 0) then impl_isKey.f k x0.fMember else some default).bind fun t1919 => (bif ((x0.fMember != 0) && (!t1919)) then some 3 else ((impl_TxFault_1.f k (x0.fIns.length : Int)).bind fun t1926 => ((bif (!t1926) then impl_TxFault_1.f k (x0.fOuts.length : Int) else some default).bind fun t1928 => (bif (t1926 || t1928) then some 2 else ((impl_TxFault.l0 x0 k 0).bind fun o1994 => thn o1994 (fun r => some r) (fun _ => ((impl_TxFault.l1 x0 k 0).bind fun o2095 => thn o2095 (fun r => some r) (fun _ => (chk (!(x0.fKind == 1) || (idxOk (0 : Int) x0.fOuts.length)) (bif ((x0.fKind == 1) && (decide (((gt x0.fOuts (0 : Int)).fValue) < 100))) then some 8 else some 0)))))))))))))
theorem impl_TxFault.calls {k : Nat} {x0 : Tx} {p0_0 : Value} {p0_1 : Value} {w : World} (hp0_0 : RdS kRef w p0_0 x0.fIns) (hp0_1 : RdS kOut w p0_1 x0.fOuts) {r : Int} (H : impl_TxFault.f k x0 = some r) :
    Calls Try.prog 28 ([.agg #[(.int .i64 x0.fKind), (.int .i64 x0.fMember), p0_0, p0_1]] : List Value).toArray w (fun e w_ => ∃ v, e = .returned v ∧ v = (.int .i64 r) ∧ Mem w [] w_ []) := by
  have HM := Mem.start w
  refine calls_run (N := 88) Try.func28 rfl rfl rfl rfl ?_
  unfold impl_TxFault.f at H
  refine run_seq ?_
  refine run_region rfl ?_
  refine ops_does rfl (guard_none rfl) rfl rfl (does_box (cs := [.int .i64 x0.fKind, .int .i64 x0.fMember, p0_0, p0_1]) rfl rfl rfl HM) ?_
  rintro _ w1900 ⟨b1897, rfl, HM⟩
  refine ops_ex rfl (guard_none rfl) rfl rfl (ex_assign rfl rfl) ?_
  refine ops_nil ?_
  refine at_then ?_
  refine run_seq ?_
  refine run_region rfl ?_
  refine ops_ex rfl (guard_none rfl) rfl rfl (ex_assign rfl rfl) ?_
  refine ops_nil ?_
  refine at_then ?_
  refine run_seq ?_
  refine run_block ?_
  refine run_seq ?_
  obtain ⟨t1912, h1913, H⟩ := bind_some H
  refine run_meet (fun ρ_ w_ => ρ_ = [(1, .pointer (some ⟨b1897, 0, none⟩)), (3, .func (.func 85) #[] #[]), (9, .bool ((!t1912) || ((x0.fKind == 0) != (x0.fMember == 0))))] ∧ Mem w [] w_ [box b1897 37 [.int .i64 x0.fKind, .int .i64 x0.fMember, p0_0, p0_1]]) ?_ ?_
  · skip
    refine run_region rfl ?_
    refine ops_ex rfl (guard_none rfl) rfl rfl (ex_fieldAddr (off' := 0) rfl rfl Try.underlying37 rfl tsz2 rfl) ?_
    refine ops_ex rfl (guard_none rfl) rfl rfl (ex_load1 rfl rfl Try.underlying2 rfl ((HM.box_at 0 rfl) 0 _ rfl)) ?_
    refine ops_does rfl (guard_none rfl) rfl rfl (does_callk rfl callok81 rfl (impl_within.calls (x0 := x0.fKind) (x1 := 0) (x2 := 2) h1913)) ?_
    rintro _ w1914 ⟨rfl, hn⟩
    replace HM : Mem w [] w1914 [box b1897 37 [.int .i64 x0.fKind, .int .i64 x0.fMember, p0_0, p0_1]] := HM.call hn
    refine ops_ex rfl (guard_none rfl) rfl rfl (ex_not rfl rfl) ?_
    refine ops_ex rfl (guard_none rfl) rfl rfl (ex_move rfl rfl) ?_
    refine bool_cases (!t1912) (fun hg1915 => ?_) (fun hg1915 => ?_)
    · skip
      refine ops_off rfl (guard_off rfl rfl rfl hg1915) rfl rfl ?_
      refine ops_off rfl (guard_off rfl rfl rfl hg1915) rfl rfl ?_
      refine ops_off rfl (guard_off rfl rfl rfl hg1915) rfl rfl ?_
      refine ops_off rfl (guard_off rfl rfl rfl hg1915) rfl rfl ?_
      refine ops_off rfl (guard_off rfl rfl rfl hg1915) rfl rfl ?_
      refine ops_off rfl (guard_off rfl rfl rfl hg1915) rfl rfl ?_
      refine ops_off rfl (guard_off rfl rfl rfl hg1915) rfl rfl ?_
      have hg1916 : ((!t1912) || ((x0.fKind == 0) != (x0.fMember == 0))) = true := by simp only [hg1915, Bool.and_true, Bool.true_and, Bool.and_false, Bool.false_and, Bool.or_true, Bool.true_or, Bool.or_false, Bool.false_or, Bool.not_true, Bool.not_false, Bool.not_not]
      refine ops_ex (v := .bool ((!t1912) || ((x0.fKind == 0) != (x0.fMember == 0)))) rfl (guard_none rfl) rfl rfl (ex_por_t rfl rfl hg1915) ?_
      refine ops_ex rfl (guard_none rfl) rfl rfl (ex_assign rfl rfl) ?_
      refine ops_nil ?_
      exact at_meet [(1, .pointer (some ⟨b1897, 0, none⟩)), (3, .func (.func 85) #[] #[]), (9, .bool ((!t1912) || ((x0.fKind == 0) != (x0.fMember == 0))))] ⟨rfl, HM⟩ (Sub.cons rfl (Sub.cons rfl (Sub.cons rfl Sub.nil)))
    · skip
      refine ops_ex rfl (guard_on rfl rfl rfl hg1915) rfl rfl (ex_fieldAddr (off' := 0) rfl rfl Try.underlying37 rfl tsz2 rfl) ?_
      refine ops_ex rfl (guard_on rfl rfl rfl hg1915) rfl rfl (ex_load1 rfl rfl Try.underlying2 rfl ((HM.box_at 0 rfl) 0 _ rfl)) ?_
      refine ops_ex rfl (guard_on rfl rfl rfl hg1915) rfl rfl (ex_eql rfl rfl rfl) ?_
      refine ops_ex rfl (guard_on rfl rfl rfl hg1915) rfl rfl (ex_fieldAddr (off' := 1) rfl rfl Try.underlying37 rfl tsz2 rfl) ?_
      refine ops_ex rfl (guard_on rfl rfl rfl hg1915) rfl rfl (ex_load1 rfl rfl Try.underlying2 rfl ((HM.box_at 0 rfl) 1 _ rfl)) ?_
      refine ops_ex rfl (guard_on rfl rfl rfl hg1915) rfl rfl (ex_eql rfl rfl rfl) ?_
      refine ops_ex rfl (guard_on rfl rfl rfl hg1915) rfl rfl (ex_bneq rfl rfl rfl Try.underlying4) ?_
      refine ops_ex (v := .bool ((!t1912) || ((x0.fKind == 0) != (x0.fMember == 0)))) rfl (guard_none rfl) rfl rfl (ex_por_f rfl rfl hg1915 rfl) ?_
      refine ops_ex rfl (guard_none rfl) rfl rfl (ex_assign rfl rfl) ?_
      refine ops_nil ?_
      exact at_meet [(1, .pointer (some ⟨b1897, 0, none⟩)), (3, .func (.func 85) #[] #[]), (9, .bool ((!t1912) || ((x0.fKind == 0) != (x0.fMember == 0))))] ⟨rfl, HM⟩ (Sub.cons rfl (Sub.cons rfl (Sub.cons rfl Sub.nil)))
  · rintro _ w1917 ⟨rfl, HM⟩
    refine at_then ?_
    refine run_cond (b := ((!t1912) || ((x0.fKind == 0) != (x0.fMember == 0)))) rfl (fun hb1918 => ?_) (fun hb1918 => ?_)
    · replace H := cond_t hb1918 H
      refine run_seq ?_
      refine run_region rfl ?_
      refine ops_ex rfl (guard_none rfl) rfl rfl (ex_assign rfl rfl) ?_
      refine ops_nil ?_
      refine at_then ?_
      refine run_ret ?_
      refine at_block_ret ?_
      refine at_then_ret ?_
      replace HM := (HM.front 0 rfl rfl).drop
      have hR := Option.some.inj H
      subst hR
      exact at_ret1 rfl rfl ⟨_, rfl, rfl, HM⟩
    · replace H := cond_f hb1918 H
      refine run_seq ?_
      obtain ⟨t1919, h1920, H⟩ := bind_some H
      refine run_meet (fun ρ_ w_ => ρ_ = [(1, .pointer (some ⟨b1897, 0, none⟩)), (3, .func (.func 85) #[] #[]), (23, .bool ((x0.fMember != 0) && (!t1919)))] ∧ Mem w [] w_ [box b1897 37 [.int .i64 x0.fKind, .int .i64 x0.fMember, p0_0, p0_1]]) ?_ ?_
      · skip
        refine run_region rfl ?_
        refine ops_ex rfl (guard_none rfl) rfl rfl (ex_fieldAddr (off' := 1) rfl rfl Try.underlying37 rfl tsz2 rfl) ?_
        refine ops_ex rfl (guard_none rfl) rfl rfl (ex_load1 rfl rfl Try.underlying2 rfl ((HM.box_at 0 rfl) 1 _ rfl)) ?_
        refine ops_ex rfl (guard_none rfl) rfl rfl (ex_neq rfl rfl rfl) ?_
        refine ops_ex rfl (guard_none rfl) rfl rfl (ex_move rfl rfl) ?_
        refine bool_cases (x0.fMember != 0) (fun hg1921 => ?_) (fun hg1921 => ?_)
        · skip
          refine ops_ex rfl (guard_on rfl rfl rfl hg1921) rfl rfl (ex_fieldAddr (off' := 1) rfl rfl Try.underlying37 rfl tsz2 rfl) ?_
          refine ops_ex rfl (guard_on rfl rfl rfl hg1921) rfl rfl (ex_load1 rfl rfl Try.underlying2 rfl ((HM.box_at 0 rfl) 1 _ rfl)) ?_
          refine ops_does rfl (guard_on rfl rfl rfl hg1921) rfl rfl (does_callk rfl callok86 rfl (impl_isKey.calls (x0 := x0.fMember) (cond_t hg1921 h1920))) ?_
          rintro _ w1922 ⟨rfl, hn⟩
          replace HM : Mem w [] w1922 [box b1897 37 [.int .i64 x0.fKind, .int .i64 x0.fMember, p0_0, p0_1]] := HM.call hn
          refine ops_ex rfl (guard_on rfl rfl rfl hg1921) rfl rfl (ex_not rfl rfl) ?_
          refine ops_ex (v := .bool ((x0.fMember != 0) && (!t1919))) rfl (guard_none rfl) rfl rfl (ex_pand_t rfl rfl hg1921 rfl) ?_
          refine ops_ex rfl (guard_none rfl) rfl rfl (ex_assign rfl rfl) ?_
          refine ops_nil ?_
          exact at_meet [(1, .pointer (some ⟨b1897, 0, none⟩)), (3, .func (.func 85) #[] #[]), (23, .bool ((x0.fMember != 0) && (!t1919)))] ⟨rfl, HM⟩ (Sub.cons rfl (Sub.cons rfl (Sub.cons rfl Sub.nil)))
        · skip
          refine ops_off rfl (guard_off rfl rfl rfl hg1921) rfl rfl ?_
          refine ops_off rfl (guard_off rfl rfl rfl hg1921) rfl rfl ?_
          refine ops_off rfl (guard_off rfl rfl rfl hg1921) rfl rfl ?_
          refine ops_off rfl (guard_off rfl rfl rfl hg1921) rfl rfl ?_
          have hg1923 : ((x0.fMember != 0) && (!t1919)) = false := by simp only [hg1921, Bool.and_true, Bool.true_and, Bool.and_false, Bool.false_and, Bool.or_true, Bool.true_or, Bool.or_false, Bool.false_or, Bool.not_true, Bool.not_false, Bool.not_not]
          refine ops_ex (v := .bool ((x0.fMember != 0) && (!t1919))) rfl (guard_none rfl) rfl rfl (ex_pand_f rfl rfl hg1921) ?_
          refine ops_ex rfl (guard_none rfl) rfl rfl (ex_assign rfl rfl) ?_
          refine ops_nil ?_
          exact at_meet [(1, .pointer (some ⟨b1897, 0, none⟩)), (3, .func (.func 85) #[] #[]), (23, .bool ((x0.fMember != 0) && (!t1919)))] ⟨rfl, HM⟩ (Sub.cons rfl (Sub.cons rfl (Sub.cons rfl Sub.nil)))
      · rintro _ w1924 ⟨rfl, HM⟩
        refine at_then ?_
        refine run_cond (b := ((x0.fMember != 0) && (!t1919))) rfl (fun hb1925 => ?_) (fun hb1925 => ?_)
        · replace H := cond_t hb1925 H
          refine run_seq ?_
          refine run_region rfl ?_
          refine ops_ex rfl (guard_none rfl) rfl rfl (ex_assign rfl rfl) ?_
          refine ops_nil ?_
          refine at_then ?_
          refine run_ret ?_
          refine at_block_ret ?_
          refine at_then_ret ?_
          replace HM := (HM.front 0 rfl rfl).drop
          have hR := Option.some.inj H
          subst hR
          exact at_ret1 rfl rfl ⟨_, rfl, rfl, HM⟩
        · replace H := cond_f hb1925 H
          refine run_seq ?_
          obtain ⟨t1926, h1927, H⟩ := bind_some H
          obtain ⟨t1928, h1929, H⟩ := bind_some H
          refine run_meet (fun ρ_ w_ => ρ_ = [(1, .pointer (some ⟨b1897, 0, none⟩)), (33, .bool (t1926 || t1928))] ∧ Mem w [] w_ [box b1897 37 [.int .i64 x0.fKind, .int .i64 x0.fMember, p0_0, p0_1]]) ?_ ?_
          · skip
            refine run_region rfl ?_
            refine ops_ex rfl (guard_none rfl) rfl rfl (ex_move rfl rfl) ?_
            refine ops_ex rfl (guard_none rfl) rfl rfl (ex_fieldAddr (off' := 2) rfl rfl Try.underlying37 rfl tsz34 rfl) ?_
            refine ops_ex rfl (guard_none rfl) rfl rfl (ex_load1 rfl rfl Try.underlying34 rfl ((HM.box_at 0 rfl) 2 _ rfl)) ?_
            refine ops_ex rfl (guard_none rfl) rfl rfl (ex_len (d := kRef) (xs := x0.fIns) rfl rfl Try.underlying34 hp0_0) ?_
            refine ops_does rfl (guard_none rfl) rfl rfl (does_callvk rfl callok85 rfl rfl rfl (impl_TxFault_1.calls (x0 := (x0.fIns.length : Int)) h1927)) ?_
            rintro _ w1930 ⟨rfl, hn⟩
            replace HM : Mem w [] w1930 [box b1897 37 [.int .i64 x0.fKind, .int .i64 x0.fMember, p0_0, p0_1]] := HM.call hn
            refine ops_ex rfl (guard_none rfl) rfl rfl (ex_move rfl rfl) ?_
            refine bool_cases t1926 (fun hg1931 => ?_) (fun hg1931 => ?_)
            · skip
              refine ops_off rfl (guard_off rfl rfl rfl hg1931) rfl rfl ?_
              refine ops_off rfl (guard_off rfl rfl rfl hg1931) rfl rfl ?_
              refine ops_off rfl (guard_off rfl rfl rfl hg1931) rfl rfl ?_
              refine ops_off rfl (guard_off rfl rfl rfl hg1931) rfl rfl ?_
              refine ops_off rfl (guard_off rfl rfl rfl hg1931) rfl rfl ?_
              have hg1932 : (t1926 || t1928) = true := by simp only [hg1931, Bool.and_true, Bool.true_and, Bool.and_false, Bool.false_and, Bool.or_true, Bool.true_or, Bool.or_false, Bool.false_or, Bool.not_true, Bool.not_false, Bool.not_not]
              refine ops_ex (v := .bool (t1926 || t1928)) rfl (guard_none rfl) rfl rfl (ex_por_t rfl rfl hg1931) ?_
              refine ops_ex rfl (guard_none rfl) rfl rfl (ex_assign rfl rfl) ?_
              refine ops_nil ?_
              exact at_meet [(1, .pointer (some ⟨b1897, 0, none⟩)), (33, .bool (t1926 || t1928))] ⟨rfl, HM⟩ (Sub.cons rfl (Sub.cons rfl Sub.nil))
            · skip
              refine ops_ex rfl (guard_on rfl rfl rfl hg1931) rfl rfl (ex_move rfl rfl) ?_
              refine ops_ex rfl (guard_on rfl rfl rfl hg1931) rfl rfl (ex_fieldAddr (off' := 3) rfl rfl Try.underlying37 rfl tsz35 rfl) ?_
              refine ops_ex rfl (guard_on rfl rfl rfl hg1931) rfl rfl (ex_load1 rfl rfl Try.underlying35 rfl ((HM.box_at 0 rfl) 3 _ rfl)) ?_
              refine ops_ex rfl (guard_on rfl rfl rfl hg1931) rfl rfl (ex_len (d := kOut) (xs := x0.fOuts) rfl rfl Try.underlying35 hp0_1) ?_
              refine ops_does rfl (guard_on rfl rfl rfl hg1931) rfl rfl (does_callvk rfl callok85 rfl rfl rfl (impl_TxFault_1.calls (x0 := (x0.fOuts.length : Int)) (cond_t (not_mk hg1931) h1929))) ?_
              rintro _ w1933 ⟨rfl, hn⟩
              replace HM : Mem w [] w1933 [box b1897 37 [.int .i64 x0.fKind, .int .i64 x0.fMember, p0_0, p0_1]] := HM.call hn
              refine ops_ex (v := .bool (t1926 || t1928)) rfl (guard_none rfl) rfl rfl (ex_por_f rfl rfl hg1931 rfl) ?_
              refine ops_ex rfl (guard_none rfl) rfl rfl (ex_assign rfl rfl) ?_
              refine ops_nil ?_
              exact at_meet [(1, .pointer (some ⟨b1897, 0, none⟩)), (33, .bool (t1926 || t1928))] ⟨rfl, HM⟩ (Sub.cons rfl (Sub.cons rfl Sub.nil))
          · rintro _ w1934 ⟨rfl, HM⟩
            refine at_then ?_
            refine run_cond (b := (t1926 || t1928)) rfl (fun hb1935 => ?_) (fun hb1935 => ?_)
            · replace H := cond_t hb1935 H
              refine run_seq ?_
              refine run_region rfl ?_
              refine ops_ex rfl (guard_none rfl) rfl rfl (ex_assign rfl rfl) ?_
              refine ops_nil ?_
              refine at_then ?_
              refine run_ret ?_
              refine at_block_ret ?_
              refine at_then_ret ?_
              replace HM := (HM.front 0 rfl rfl).drop
              have hR := Option.some.inj H
              subst hR
              exact at_ret1 rfl rfl ⟨_, rfl, rfl, HM⟩
            · replace H := cond_f hb1935 H
              refine run_skip ?_
              refine at_block ?_
              refine at_then ?_
              obtain ⟨o1994, ho1995, H⟩ := bind_some H
              refine run_mid (fun ρ_ w_ => Sum.inr () = o1994 ∧ ρ_ = [(1, .pointer (some ⟨b1897, 0, none⟩))] ∧ Mem w [] w_ [box b1897 37 [.int .i64 x0.fKind, .int .i64 x0.fMember, p0_0, p0_1]]) ?_ ?_
              · skip
                refine run_seq ?_
                refine run_region rfl ?_
                refine ops_ex rfl (guard_none rfl) rfl rfl (ex_fieldAddr (off' := 2) rfl rfl Try.underlying37 rfl tsz34 rfl) ?_
                refine ops_ex rfl (guard_none rfl) rfl rfl (ex_load1 rfl rfl Try.underlying34 rfl ((HM.box_at 0 rfl) 2 _ rfl)) ?_
                refine ops_ex rfl (guard_none rfl) rfl rfl (ex_len (d := kRef) (xs := x0.fIns) rfl rfl Try.underlying34 hp0_0) ?_
                refine ops_ex rfl (guard_none rfl) rfl rfl (ex_move rfl rfl) ?_
                refine ops_nil ?_
                refine at_then ?_
                refine run_block ?_
                refine run_loop (fun k_ ρ_ w_ => ∃ a2015 : Int, impl_TxFault.l0 x0 k_ a2015 = some o1994 ∧ ρ_ = [(1, .pointer (some ⟨b1897, 0, none⟩)), (47, p0_0), (48, .int .i64 (x0.fIns.length : Int)), (49, .int .i64 a2015)] ∧ Mem w [] w_ [box b1897 37 [.int .i64 x0.fKind, .int .i64 x0.fMember, p0_0, p0_1]]) k (ρ1 := [(1, .pointer (some ⟨b1897, 0, none⟩)), (47, p0_0), (48, .int .i64 (x0.fIns.length : Int)), (49, .int .i64 0)]) ⟨_, ho1995, rfl, HM⟩ (Sub.cons rfl (Sub.cons rfl (Sub.cons rfl (Sub.cons rfl Sub.nil)))) ?_
                clear HM ho1995
                rintro k2035 _ w2036 ⟨a2015, ho1995, rfl, HM⟩
                obtain _ | k2035 := k2035
                · exact nomatch ((impl_TxFault.l0_z x0 a2015).symm.trans ho1995)
                replace ho1995 := (impl_TxFault.l0_s x0 k2035 a2015).symm.trans ho1995
                refine run_seq ?_
                refine run_region rfl ?_
                refine ops_ex rfl (guard_none rfl) rfl rfl (ex_lss rfl rfl rfl) ?_
                refine ops_nil ?_
                refine at_then ?_
                refine run_seq ?_
                refine run_cond (b := (decide (a2015 < (x0.fIns.length : Int)))) rfl (fun hb2037 => ?_) (fun hb2037 => ?_)
                · replace ho1995 := cond_t hb2037 ho1995
                  refine run_skip ?_
                  refine at_then ?_
                  refine run_seq ?_
                  refine run_block ?_
                  refine run_seq ?_
                  obtain ⟨e2038, ho1995⟩ := chk_some ho1995
                  refine run_region rfl ?_
                  refine ops_ex rfl (guard_none rfl) rfl rfl (ex_move rfl rfl) ?_
                  have hc2039 : CellsAt _ (sb p0_0) (so p0_0 + (a2015).toNat * 2) [(.int .i64 ((gt x0.fIns a2015).fTx)), (.int .i64 ((gt x0.fIns a2015).fAt))] := rd_plain hp0_0 e2038
                  refine ops_ex rfl (guard_none rfl) rfl rfl (ex_indexAddr (d := kRef) rfl rfl rfl Try.underlying34 tsz99 hp0_0 (idx_lo e2038) (idx_hi e2038)) ?_
                  refine ops_ex rfl (guard_none rfl) rfl rfl (ex_loadN (cs := [(.int .i64 ((gt x0.fIns a2015).fTx)), (.int .i64 ((gt x0.fIns a2015).fAt))]) rfl rfl Try.underlying99 rfl tsz99 rfl ((HM.at_ hc2039).sub 0 2 rfl)) ?_
                  refine ops_does rfl (guard_none rfl) rfl rfl (does_alloc (cs := [.int .i64 0, .int .i64 0]) rfl tz99 rfl HM) ?_
                  rintro _ w2043 ⟨b2040, rfl, HM⟩
                  refine ops_ex rfl (guard_none rfl) rfl rfl (ex_assign rfl rfl) ?_
                  refine ops_doesS rfl (guard_none rfl) rfl (does_store (vs := [.int .i64 ((gt x0.fIns a2015).fTx), .int .i64 ((gt x0.fIns a2015).fAt)]) (cs' := [.int .i64 ((gt x0.fIns a2015).fTx), .int .i64 ((gt x0.fIns a2015).fAt)]) rfl rfl rfl rfl tsz99 (Ones.int (Ones.int Ones.nil)) rfl rfl HM) ?_
                  rintro w2044 HM
                  refine ops_nil ?_
                  refine at_then ?_
                  refine run_seq ?_
                  refine run_seq ?_
                  obtain ⟨t2048, h2049, ho1995⟩ := bind_some ho1995
                  refine run_region rfl ?_
                  refine ops_ex rfl (guard_none rfl) rfl rfl (ex_loadN (cs := [(.int .i64 ((gt x0.fIns a2015).fTx)), (.int .i64 ((gt x0.fIns a2015).fAt))]) rfl rfl Try.underlying99 rfl tsz99 rfl ((HM.box_at 0 rfl).sub 0 2 rfl)) ?_
                  refine ops_does rfl (guard_none rfl) rfl rfl (does_callk rfl callok79 rfl (impl_isRef.calls (x0 := (gt x0.fIns a2015)) h2049)) ?_
                  rintro _ w2050 ⟨rfl, hn⟩
                  replace HM : Mem w [] w2050 [box b2040 99 [.int .i64 ((gt x0.fIns a2015).fTx), .int .i64 ((gt x0.fIns a2015).fAt)], box b1897 37 [.int .i64 x0.fKind, .int .i64 x0.fMember, p0_0, p0_1]] := HM.call hn
                  refine ops_ex rfl (guard_none rfl) rfl rfl (ex_not rfl rfl) ?_
                  refine ops_nil ?_
                  refine at_then ?_
                  refine run_cond (b := !t2048) rfl (fun hb2051 => ?_) (fun hb2051 => ?_)
                  · replace ho1995 := cond_t hb2051 ho1995
                    refine run_seq ?_
                    refine run_region rfl ?_
                    refine ops_ex rfl (guard_none rfl) rfl rfl (ex_assign rfl rfl) ?_
                    refine ops_nil ?_
                    refine at_then ?_
                    refine run_ret ?_
                    refine at_then_ret ?_
                    refine at_block_ret ?_
                    refine at_then_ret ?_
                    refine at_then_ret ?_
                    refine at_block_ret ?_
                    refine at_then_ret ?_
                    replace HM := (HM.front 0 rfl rfl).drop
                    replace HM := (HM.front 0 rfl rfl).drop
                    have hR := Option.some.inj ho1995
                    subst hR
                    have hT := thn_inl H
                    have hR := Option.some.inj hT
                    subst hR
                    exact at_ret1 rfl rfl ⟨_, rfl, rfl, HM⟩
                  · replace ho1995 := cond_f hb2051 ho1995
                    refine run_skip ?_
                    refine at_then ?_
                    refine run_seq ?_
                    obtain ⟨e2052, ho1995⟩ := chk_some ho1995
                    obtain ⟨t2056, h2057, ho1995⟩ := bind_some ho1995
                    refine run_drawf (fun w_ => Mem w [] w_ [box b2040 99 [.int .i64 ((gt x0.fIns a2015).fTx), .int .i64 ((gt x0.fIns a2015).fAt)], box b1897 37 [.int .i64 x0.fKind, .int .i64 x0.fMember, p0_0, p0_1]]) [(0, true), (1, true), (2, true), (3, true), (4, true), (5, false)] mixed rfl rfl (by kernel_rfl) ?_
                    replace HM := HM.grow (fr_drew _)
                    have hS := Mem.suf (M := []) HM
                    refine drwp_take rfl (guard_none rfl) rfl rfl (fun w_ hS_ => (ex_fieldAddr (off' := 2) rfl rfl Try.underlying37 rfl tsz34 rfl)) hS ?_
                    refine drwp_take rfl (guard_none rfl) rfl rfl (fun w_ hS_ => (ex_load1 rfl rfl Try.underlying34 rfl ((hS_.box_at 1 rfl) 2 _ rfl))) hS ?_
                    refine drwp_take rfl (guard_none rfl) rfl rfl (fun w_ hS_ => (ex_move rfl rfl)) hS ?_
                    refine drwp_takeE rfl (guard_none rfl) rfl rfl (ex_cutH kRef rfl rfl rfl Try.underlying34 tsz99 hp0_0 e2052) hS ?_
                    intro u2053 hr2055
                    refine drwp_take rfl (guard_none rfl) rfl rfl (fun w_ hS_ => (ex_loadN (cs := [(.int .i64 ((gt x0.fIns a2015).fTx)), (.int .i64 ((gt x0.fIns a2015).fAt))]) rfl rfl Try.underlying99 rfl tsz99 rfl ((hS_.box_at 0 rfl).sub 0 2 rfl))) hS ?_
                    refine drwp_one rfl (guard_none rfl) rfl rfl (does_callk rfl callok87 rfl (slices_Contains_impl_Ref.calls (x0 := x0.fIns.take (a2015).toNat) (x1 := (gt x0.fIns a2015)) (HM.rd hr2055) h2057)) ?_
                    rintro _ w2058 ⟨rfl, hn⟩
                    replace HM : Mem w [] w2058 [box b2040 99 [.int .i64 ((gt x0.fIns a2015).fTx), .int .i64 ((gt x0.fIns a2015).fAt)], box b1897 37 [.int .i64 x0.fKind, .int .i64 x0.fMember, p0_0, p0_1]] := HM.call hn
                    refine ⟨Mem.suf (M := []) HM, ?_⟩
                    have hS := Mem.suf (M := []) HM
                    refine drwp_done ?_
                    refine at_then ?_
                    refine run_cond (b := t2056) rfl (fun hb2059 => ?_) (fun hb2059 => ?_)
                    · replace ho1995 := cond_t hb2059 ho1995
                      refine run_seq ?_
                      refine run_region rfl ?_
                      refine ops_ex rfl (guard_none rfl) rfl rfl (ex_assign rfl rfl) ?_
                      refine ops_nil ?_
                      refine at_then ?_
                      refine run_ret ?_
                      refine at_block_ret ?_
                      refine at_then_ret ?_
                      refine at_then_ret ?_
                      refine at_block_ret ?_
                      refine at_then_ret ?_
                      replace HM := (HM.front 0 rfl rfl).drop
                      replace HM := (HM.front 0 rfl rfl).drop
                      have hR := Option.some.inj ho1995
                      subst hR
                      have hT := thn_inl H
                      have hR := Option.some.inj hT
                      subst hR
                      exact at_ret1 rfl rfl ⟨_, rfl, rfl, HM⟩
                    · replace ho1995 := cond_f hb2059 ho1995
                      refine run_skip ?_
                      refine at_block ?_
                      refine at_then ?_
                      refine run_region rfl ?_
                      refine ops_ex rfl (guard_none rfl) rfl rfl (ex_add rfl rfl rfl) ?_
                      refine ops_ex rfl (guard_none rfl) rfl rfl (ex_move rfl rfl) ?_
                      refine ops_nil ?_
                      replace HM := (HM.front 0 rfl rfl).drop
                      exact at_again k2035 (ρ1 := [(1, .pointer (some ⟨b1897, 0, none⟩)), (47, p0_0), (48, .int .i64 (x0.fIns.length : Int)), (49, .int .i64 (wrap64 (a2015 + 1)))]) (Nat.lt_succ_self _) ⟨_, ho1995, rfl, HM⟩ (Sub.cons rfl (Sub.cons rfl (Sub.cons rfl (Sub.cons rfl Sub.nil))))
                · replace ho1995 := cond_f hb2037 ho1995
                  refine run_exit ?_
                  refine at_then_exit ?_
                  refine at_then_exit ?_
                  refine at_block_exit ?_
                  exact at_mid (ρ' := [(1, .pointer (some ⟨b1897, 0, none⟩))]) ⟨(Option.some.inj ho1995), rfl, HM⟩ (Sub.cons rfl Sub.nil)
              · rintro _ w2060 ⟨rfl, rfl, HM⟩
                replace H := (thn_inr H)
                obtain ⟨o2095, ho2096, H⟩ := bind_some H
                refine run_mid (fun ρ_ w_ => Sum.inr () = o2095 ∧ ρ_ = [(1, .pointer (some ⟨b1897, 0, none⟩))] ∧ Mem w [] w_ [box b1897 37 [.int .i64 x0.fKind, .int .i64 x0.fMember, p0_0, p0_1]]) ?_ ?_
                · skip
                  refine run_seq ?_
                  refine run_region rfl ?_
                  refine ops_ex rfl (guard_none rfl) rfl rfl (ex_fieldAddr (off' := 3) rfl rfl Try.underlying37 rfl tsz35 rfl) ?_
                  refine ops_ex rfl (guard_none rfl) rfl rfl (ex_load1 rfl rfl Try.underlying35 rfl ((HM.box_at 0 rfl) 3 _ rfl)) ?_
                  refine ops_ex rfl (guard_none rfl) rfl rfl (ex_len (d := kOut) (xs := x0.fOuts) rfl rfl Try.underlying35 hp0_1) ?_
                  refine ops_ex rfl (guard_none rfl) rfl rfl (ex_move rfl rfl) ?_
                  refine ops_nil ?_
                  refine at_then ?_
                  refine run_block ?_
                  refine run_loop (fun k_ ρ_ w_ => ∃ a2108 : Int, impl_TxFault.l1 x0 k_ a2108 = some o2095 ∧ ρ_ = [(1, .pointer (some ⟨b1897, 0, none⟩)), (65, p0_1), (66, .int .i64 (x0.fOuts.length : Int)), (67, .int .i64 a2108)] ∧ Mem w [] w_ [box b1897 37 [.int .i64 x0.fKind, .int .i64 x0.fMember, p0_0, p0_1]]) k (ρ1 := [(1, .pointer (some ⟨b1897, 0, none⟩)), (65, p0_1), (66, .int .i64 (x0.fOuts.length : Int)), (67, .int .i64 0)]) ⟨_, ho2096, rfl, HM⟩ (Sub.cons rfl (Sub.cons rfl (Sub.cons rfl (Sub.cons rfl Sub.nil)))) ?_
                  clear HM ho2096
                  rintro k2120 _ w2121 ⟨a2108, ho2096, rfl, HM⟩
                  obtain _ | k2120 := k2120
                  · exact nomatch ((impl_TxFault.l1_z x0 a2108).symm.trans ho2096)
                  replace ho2096 := (impl_TxFault.l1_s x0 k2120 a2108).symm.trans ho2096
                  refine run_seq ?_
                  refine run_region rfl ?_
                  refine ops_ex rfl (guard_none rfl) rfl rfl (ex_lss rfl rfl rfl) ?_
                  refine ops_nil ?_
                  refine at_then ?_
                  refine run_seq ?_
                  refine run_cond (b := (decide (a2108 < (x0.fOuts.length : Int)))) rfl (fun hb2122 => ?_) (fun hb2122 => ?_)
                  · replace ho2096 := cond_t hb2122 ho2096
                    refine run_skip ?_
                    refine at_then ?_
                    refine run_seq ?_
                    refine run_block ?_
                    refine run_seq ?_
                    obtain ⟨e2123, ho2096⟩ := chk_some ho2096
                    refine run_region rfl ?_
                    obtain ⟨kv2125, hc2124, hk2126⟩ : ∃ u, CellsAt _ (sb p0_1) (so p0_1 + (a2108).toNat * 4) [(.int .i64 ((gt x0.fOuts a2108).fValue)), u, (.int .i64 ((gt x0.fOuts a2108).fRule.fNeed)), (.int .i64 ((gt x0.fOuts a2108).fRule.fAfter))] ∧ RdS kInt _ u ((gt x0.fOuts a2108).fRule.fKeys) := rd_with1 hp0_1 e2123
                    refine ops_ex rfl (guard_none rfl) rfl rfl (ex_indexAddr (d := kOut) rfl rfl rfl Try.underlying35 tsz102 hp0_1 (idx_lo e2123) (idx_hi e2123)) ?_
                    refine ops_ex rfl (guard_none rfl) rfl rfl (ex_loadN (cs := [(.int .i64 ((gt x0.fOuts a2108).fValue)), kv2125, (.int .i64 ((gt x0.fOuts a2108).fRule.fNeed)), (.int .i64 ((gt x0.fOuts a2108).fRule.fAfter))]) rfl rfl Try.underlying102 rfl tsz102 rfl ((HM.at_ hc2124).sub 0 4 rfl)) ?_
                    refine ops_does rfl (guard_none rfl) rfl rfl (does_alloc (cs := [.int .i64 0, .slice none 0 0, .int .i64 0, .int .i64 0]) rfl tz102 rfl HM) ?_
                    rintro _ w2130 ⟨b2127, rfl, HM⟩
                    refine ops_doesS rfl (guard_none rfl) rfl (does_store (vs := [.int .i64 ((gt x0.fOuts a2108).fValue), kv2125, .int .i64 ((gt x0.fOuts a2108).fRule.fNeed), .int .i64 ((gt x0.fOuts a2108).fRule.fAfter)]) (cs' := [.int .i64 ((gt x0.fOuts a2108).fValue), kv2125, .int .i64 ((gt x0.fOuts a2108).fRule.fNeed), .int .i64 ((gt x0.fOuts a2108).fRule.fAfter)]) rfl rfl rfl rfl tsz102 (Ones.int (Ones.rd hk2126 (Ones.int (Ones.int Ones.nil)))) rfl rfl HM) ?_
                    rintro w2131 HM
                    refine ops_nil ?_
                    refine at_then ?_
                    refine run_seq ?_
                    obtain ⟨t2132, h2133, ho2096⟩ := bind_some ho2096
                    refine run_region rfl ?_
                    refine ops_ex rfl (guard_none rfl) rfl rfl (ex_loadN (cs := [(.int .i64 ((gt x0.fOuts a2108).fValue)), kv2125, (.int .i64 ((gt x0.fOuts a2108).fRule.fNeed)), (.int .i64 ((gt x0.fOuts a2108).fRule.fAfter))]) rfl rfl Try.underlying102 rfl tsz102 rfl ((HM.box_at 0 rfl).sub 0 4 rfl)) ?_
                    refine ops_does rfl (guard_none rfl) rfl rfl (does_callk rfl callok88 rfl (impl_outFault.calls (x0 := (gt x0.fOuts a2108)) (HM.rd hk2126) h2133)) ?_
                    rintro _ w2134 ⟨rfl, hn⟩
                    replace HM : Mem w [] w2134 [box b2127 102 [.int .i64 ((gt x0.fOuts a2108).fValue), kv2125, .int .i64 ((gt x0.fOuts a2108).fRule.fNeed), .int .i64 ((gt x0.fOuts a2108).fRule.fAfter)], box b1897 37 [.int .i64 x0.fKind, .int .i64 x0.fMember, p0_0, p0_1]] := HM.call hn
                    refine ops_ex rfl (guard_none rfl) rfl rfl (ex_assign rfl rfl) ?_
                    refine ops_nil ?_
                    refine at_then ?_
                    refine run_seq ?_
                    refine run_region rfl ?_
                    refine ops_ex rfl (guard_none rfl) rfl rfl (ex_move rfl rfl) ?_
                    refine ops_ex rfl (guard_none rfl) rfl rfl (ex_neq rfl rfl rfl) ?_
                    refine ops_nil ?_
                    refine at_then ?_
                    refine run_cond (b := (t2132 != 0)) rfl (fun hb2135 => ?_) (fun hb2135 => ?_)
                    · replace ho2096 := cond_t hb2135 ho2096
                      refine run_seq ?_
                      refine run_region rfl ?_
                      refine ops_ex rfl (guard_none rfl) rfl rfl (ex_move rfl rfl) ?_
                      refine ops_ex rfl (guard_none rfl) rfl rfl (ex_assign rfl rfl) ?_
                      refine ops_nil ?_
                      refine at_then ?_
                      refine run_ret ?_
                      refine at_block_ret ?_
                      refine at_then_ret ?_
                      refine at_then_ret ?_
                      refine at_block_ret ?_
                      refine at_then_ret ?_
                      replace HM := (HM.front 0 rfl rfl).drop
                      replace HM := (HM.front 0 rfl rfl).drop
                      have hR := Option.some.inj ho2096
                      subst hR
                      have hT := thn_inl H
                      have hR := Option.some.inj hT
                      subst hR
                      exact at_ret1 rfl rfl ⟨_, rfl, rfl, HM⟩
                    · replace ho2096 := cond_f hb2135 ho2096
                      refine run_skip ?_
                      refine at_block ?_
                      refine at_then ?_
                      refine run_region rfl ?_
                      refine ops_ex rfl (guard_none rfl) rfl rfl (ex_add rfl rfl rfl) ?_
                      refine ops_ex rfl (guard_none rfl) rfl rfl (ex_move rfl rfl) ?_
                      refine ops_nil ?_
                      replace HM := (HM.front 0 rfl rfl).drop
                      exact at_again k2120 (ρ1 := [(1, .pointer (some ⟨b1897, 0, none⟩)), (65, p0_1), (66, .int .i64 (x0.fOuts.length : Int)), (67, .int .i64 (wrap64 (a2108 + 1)))]) (Nat.lt_succ_self _) ⟨_, ho2096, rfl, HM⟩ (Sub.cons rfl (Sub.cons rfl (Sub.cons rfl (Sub.cons rfl Sub.nil))))
                  · replace ho2096 := cond_f hb2122 ho2096
                    refine run_exit ?_
                    refine at_then_exit ?_
                    refine at_then_exit ?_
                    refine at_block_exit ?_
                    exact at_mid (ρ' := [(1, .pointer (some ⟨b1897, 0, none⟩))]) ⟨(Option.some.inj ho2096), rfl, HM⟩ (Sub.cons rfl Sub.nil)
                · rintro _ w2136 ⟨rfl, rfl, HM⟩
                  replace H := (thn_inr H)
                  refine run_seq ?_
                  refine run_seq ?_
                  obtain ⟨e2137, H⟩ := chk_some H
                  refine run_meet (fun ρ_ w_ => ρ_ = [(87, .bool ((x0.fKind == 1) && (decide (((gt x0.fOuts (0 : Int)).fValue) < 100))))] ∧ Mem w [] w_ []) ?_ ?_
                  · skip
                    refine run_region rfl ?_
                    refine ops_ex rfl (guard_none rfl) rfl rfl (ex_fieldAddr (off' := 0) rfl rfl Try.underlying37 rfl tsz2 rfl) ?_
                    refine ops_ex rfl (guard_none rfl) rfl rfl (ex_load1 rfl rfl Try.underlying2 rfl ((HM.box_at 0 rfl) 0 _ rfl)) ?_
                    refine ops_ex rfl (guard_none rfl) rfl rfl (ex_eql rfl rfl rfl) ?_
                    refine ops_ex rfl (guard_none rfl) rfl rfl (ex_move rfl rfl) ?_
                    refine bool_cases (x0.fKind == 1) (fun hg2141 => ?_) (fun hg2141 => ?_)
                    · skip
                      refine ops_ex rfl (guard_on rfl rfl rfl hg2141) rfl rfl (ex_fieldAddr (off' := 3) rfl rfl Try.underlying37 rfl tsz35 rfl) ?_
                      refine ops_ex rfl (guard_on rfl rfl rfl hg2141) rfl rfl (ex_load1 rfl rfl Try.underlying35 rfl ((HM.box_at 0 rfl) 3 _ rfl)) ?_
                      obtain ⟨kv2139, hc2138, hk2140⟩ : ∃ u, CellsAt _ (sb p0_1) (so p0_1 + ((0 : Int)).toNat * 4) [(.int .i64 ((gt x0.fOuts (0 : Int)).fValue)), u, (.int .i64 ((gt x0.fOuts (0 : Int)).fRule.fNeed)), (.int .i64 ((gt x0.fOuts (0 : Int)).fRule.fAfter))] ∧ RdS kInt _ u ((gt x0.fOuts (0 : Int)).fRule.fKeys) := rd_with1 hp0_1 (or_t e2137 hg2141)
                      refine ops_ex rfl (guard_on rfl rfl rfl hg2141) rfl rfl (ex_indexAddr (d := kOut) rfl rfl rfl Try.underlying35 tsz102 hp0_1 (idx_lo (or_t e2137 hg2141)) (idx_hi (or_t e2137 hg2141))) ?_
                      refine ops_ex rfl (guard_on rfl rfl rfl hg2141) rfl rfl (ex_fieldAddr (off' := so p0_1 + ((0 : Int)).toNat * 4) rfl rfl Try.underlying102 rfl tsz2 rfl) ?_
                      refine ops_ex rfl (guard_on rfl rfl rfl hg2141) rfl rfl (ex_load1 rfl rfl Try.underlying2 rfl ((HM.at_ hc2138) 0 _ rfl)) ?_
                      refine ops_ex rfl (guard_on rfl rfl rfl hg2141) rfl rfl (ex_lss rfl rfl rfl) ?_
                      refine ops_ex (v := .bool ((x0.fKind == 1) && (decide (((gt x0.fOuts (0 : Int)).fValue) < 100)))) rfl (guard_none rfl) rfl rfl (ex_pand_t rfl rfl hg2141 rfl) ?_
                      refine ops_nil ?_
                      replace HM := (HM.front 0 rfl rfl).drop
                      exact at_meet [(87, .bool ((x0.fKind == 1) && (decide (((gt x0.fOuts (0 : Int)).fValue) < 100))))] ⟨rfl, HM⟩ (Sub.cons rfl Sub.nil)
                    · skip
                      refine ops_off rfl (guard_off rfl rfl rfl hg2141) rfl rfl ?_
                      refine ops_off rfl (guard_off rfl rfl rfl hg2141) rfl rfl ?_
                      refine ops_off rfl (guard_off rfl rfl rfl hg2141) rfl rfl ?_
                      refine ops_off rfl (guard_off rfl rfl rfl hg2141) rfl rfl ?_
                      refine ops_off rfl (guard_off rfl rfl rfl hg2141) rfl rfl ?_
                      refine ops_off rfl (guard_off rfl rfl rfl hg2141) rfl rfl ?_
                      have hg2142 : ((x0.fKind == 1) && (decide (((gt x0.fOuts (0 : Int)).fValue) < 100))) = false := by simp only [hg2141, Bool.and_true, Bool.true_and, Bool.and_false, Bool.false_and, Bool.or_true, Bool.true_or, Bool.or_false, Bool.false_or, Bool.not_true, Bool.not_false, Bool.not_not]
                      refine ops_ex (v := .bool ((x0.fKind == 1) && (decide (((gt x0.fOuts (0 : Int)).fValue) < 100)))) rfl (guard_none rfl) rfl rfl (ex_pand_f rfl rfl hg2141) ?_
                      refine ops_nil ?_
                      replace HM := (HM.front 0 rfl rfl).drop
                      exact at_meet [(87, .bool ((x0.fKind == 1) && (decide (((gt x0.fOuts (0 : Int)).fValue) < 100))))] ⟨rfl, HM⟩ (Sub.cons rfl Sub.nil)
                  · rintro _ w2143 ⟨rfl, HM⟩
                    refine at_then ?_
                    refine run_cond (b := ((x0.fKind == 1) && (decide (((gt x0.fOuts (0 : Int)).fValue) < 100)))) rfl (fun hb2144 => ?_) (fun hb2144 => ?_)
                    · replace H := cond_t hb2144 H
                      refine run_seq ?_
                      refine run_region rfl ?_
                      refine ops_ex rfl (guard_none rfl) rfl rfl (ex_assign rfl rfl) ?_
                      refine ops_nil ?_
                      refine at_then ?_
                      refine run_ret ?_
                      refine at_then_ret ?_
                      have hR := Option.some.inj H
                      subst hR
                      exact at_ret1 rfl rfl ⟨_, rfl, rfl, HM⟩
                    · replace H := cond_f hb2144 H
                      refine run_skip ?_
                      refine at_then ?_
                      refine run_seq ?_
                      refine run_region rfl ?_
                      refine ops_ex rfl (guard_none rfl) rfl rfl (ex_assign rfl rfl) ?_
                      refine ops_nil ?_
                      refine at_then ?_
                      refine run_ret ?_
                      have hR := Option.some.inj H
                      subst hR
                      exact at_ret1 rfl rfl ⟨_, rfl, rfl, HM⟩

def impl_clash_1.f (k : Nat) (x0 : Ref) (x1 : Tx) : Option Bool := ((slices_Contains_impl_Ref.f k x1.fIns x0).bind fun t2167 => some t2167)
theorem impl_clash_1.calls {k : Nat} {x0 : Ref} {x1 : Tx} {b1 f1 : Nat} {p1_0 : Value} {p1_1 : Value} {w : World} (hc1 : CellsAt w b1 f1 [.int .i64 x1.fKind, .int .i64 x1.fMember, p1_0, p1_1]) (hp1_0 : RdS kRef w p1_0 x1.fIns) (hp1_1 : RdS kOut w p1_1 x1.fOuts) {r : Bool} (H : impl_clash_1.f k x0 x1 = some r) :
    Calls Try.prog 144 ([.agg #[(.int .i64 x0.fTx), (.int .i64 x0.fAt)], .pointer (some ⟨b1, f1, none⟩)] : List Value).toArray w (fun e w_ => ∃ v, e = .returned v ∧ v = (.bool r) ∧ Mem w [] w_ []) := by
  have HM := Mem.start w
  refine calls_run (N := 8) Try.func144 rfl rfl rfl rfl ?_
  unfold impl_clash_1.f at H
  refine run_seq ?_
  refine run_region rfl ?_
  refine ops_does rfl (guard_none rfl) rfl rfl (does_box (cs := [.int .i64 x0.fTx, .int .i64 x0.fAt]) rfl rfl rfl HM) ?_
  rintro _ w2166 ⟨b2163, rfl, HM⟩
  refine ops_ex rfl (guard_none rfl) rfl rfl (ex_assign rfl rfl) ?_
  refine ops_nil ?_
  refine at_then ?_
  refine run_seq ?_
  obtain ⟨t2167, h2168, H⟩ := bind_some H
  refine run_region rfl ?_
  refine ops_ex rfl (guard_none rfl) rfl rfl (ex_fieldAddr (off' := f1 + 2) rfl rfl Try.underlying37 rfl tsz34 rfl) ?_
  refine ops_ex rfl (guard_none rfl) rfl rfl (ex_load1 rfl rfl Try.underlying34 rfl ((HM.at_ hc1) 2 _ rfl)) ?_
  refine ops_ex rfl (guard_none rfl) rfl rfl (ex_loadN (cs := [(.int .i64 x0.fTx), (.int .i64 x0.fAt)]) rfl rfl Try.underlying99 rfl tsz99 rfl ((HM.box_at 0 rfl).sub 0 2 rfl)) ?_
  refine ops_does rfl (guard_none rfl) rfl rfl (does_callk rfl callok87 rfl (slices_Contains_impl_Ref.calls (x0 := x1.fIns) (x1 := x0) (HM.rd hp1_0) h2168)) ?_
  rintro _ w2169 ⟨rfl, hn⟩
  replace HM : Mem w [] w2169 [box b2163 99 [.int .i64 x0.fTx, .int .i64 x0.fAt]] := HM.call hn
  refine ops_ex rfl (guard_none rfl) rfl rfl (ex_assign rfl rfl) ?_
  refine ops_nil ?_
  refine at_then ?_
  refine run_ret ?_
  replace HM := (HM.front 0 rfl rfl).drop
  have hR := Option.some.inj H
  subst hR
  exact at_ret1 rfl rfl ⟨_, rfl, rfl, HM⟩

def slices_IndexFunc_impl_Ref.l0 (x0 : List Ref) (x1_0 : Tx) : Nat → Int → Option (Int ⊕ Unit)
  | 0, _ => none
  | k + 1, a2215 => (bif (decide (a2215 < (x0.length : Int))) then (chk (idxOk a2215 x0.length) ((impl_clash_1.f k (gt x0 a2215) x1_0).bind fun t2227 => (bif t2227 then some (.inl a2215) else slices_IndexFunc_impl_Ref.l0 x0 x1_0 k (wrap64 (a2215 + 1))))) else some (.inr ()))
theorem slices_IndexFunc_impl_Ref.l0_z (x0 : List Ref) (x1_0 : Tx) (a2215 : Int) : slices_IndexFunc_impl_Ref.l0 x0 x1_0 0 a2215 = none := rfl
theorem slices_IndexFunc_impl_Ref.l0_s (x0 : List Ref) (x1_0 : Tx) (k : Nat) (a2215 : Int) : slices_IndexFunc_impl_Ref.l0 x0 x1_0 (k + 1) a2215 = (bif (decide (a2215 < (x0.length : Int))) then (chk (idxOk a2215 x0.length) ((impl_clash_1.f k (gt x0 a2215) x1_0).bind fun t2227 => (bif t2227 then some (.inl a2215) else slices_IndexFunc_impl_Ref.l0 x0 x1_0 k (wrap64 (a2215 + 1))))) else some (.inr ())) := rfl
def slices_IndexFunc_impl_Ref.f (k : Nat) (x0 : List Ref) (x1_0 : Tx) : Option Int := ((slices_IndexFunc_impl_Ref.l0 x0 x1_0 k 0).bind fun o2207 => thn o2207 (fun r => some r) (fun _ => some (-1)))
theorem slices_IndexFunc_impl_Ref.calls {k : Nat} {x0 : List Ref} {x1_0 : Tx} {p0 : Value} {b1_0 f1_0 : Nat} {p1_0_0 : Value} {p1_0_1 : Value} {w : World} (hp0 : RdS kRef w p0 x0) (hc1_0 : CellsAt w b1_0 f1_0 [.int .i64 x1_0.fKind, .int .i64 x1_0.fMember, p1_0_0, p1_0_1]) (hp1_0_0 : RdS kRef w p1_0_0 x1_0.fIns) (hp1_0_1 : RdS kOut w p1_0_1 x1_0.fOuts) {r : Int} (H : slices_IndexFunc_impl_Ref.f k x0 x1_0 = some r) :
    Calls Try.prog 165 ([p0, .func (.func 144) #[] #[(.pointer (some ⟨b1_0, f1_0, none⟩))]] : List Value).toArray w (fun e w_ => ∃ v, e = .returned v ∧ v = (.int .i64 r) ∧ Mem w [] w_ []) := by
  have HM := Mem.start w
  refine calls_run (N := 19) Try.func165 rfl rfl rfl rfl ?_
  unfold slices_IndexFunc_impl_Ref.f at H
  refine run_seq ?_
  refine run_region rfl ?_
  refine ops_ex rfl (guard_none rfl) rfl rfl (ex_assign rfl rfl) ?_
  refine ops_nil ?_
  refine at_then ?_
  obtain ⟨o2207, ho2208, H⟩ := bind_some H
  refine run_mid (fun ρ_ w_ => Sum.inr () = o2207 ∧ ρ_ = [] ∧ Mem w [] w_ []) ?_ ?_
  · skip
    refine run_seq ?_
    refine run_region rfl ?_
    refine ops_ex rfl (guard_none rfl) rfl rfl (ex_move rfl rfl) ?_
    refine ops_ex rfl (guard_none rfl) rfl rfl (ex_len (d := kRef) (xs := x0) rfl rfl Try.underlying34 hp0) ?_
    refine ops_ex rfl (guard_none rfl) rfl rfl (ex_move rfl rfl) ?_
    refine ops_nil ?_
    refine at_then ?_
    refine run_block ?_
    refine run_loop (fun k_ ρ_ w_ => ∃ a2215 : Int, slices_IndexFunc_impl_Ref.l0 x0 x1_0 k_ a2215 = some o2207 ∧ ρ_ = [(0, p0), (1, .func (.func 144) #[] #[(.pointer (some ⟨b1_0, f1_0, none⟩))]), (7, .int .i64 (x0.length : Int)), (8, .int .i64 a2215)] ∧ Mem w [] w_ []) k (ρ1 := [(0, p0), (1, .func (.func 144) #[] #[(.pointer (some ⟨b1_0, f1_0, none⟩))]), (7, .int .i64 (x0.length : Int)), (8, .int .i64 0)]) ⟨_, ho2208, rfl, HM⟩ (Sub.cons rfl (Sub.cons rfl (Sub.cons rfl (Sub.cons rfl Sub.nil)))) ?_
    clear HM ho2208
    rintro k2222 _ w2223 ⟨a2215, ho2208, rfl, HM⟩
    obtain _ | k2222 := k2222
    · exact nomatch ((slices_IndexFunc_impl_Ref.l0_z x0 x1_0 a2215).symm.trans ho2208)
    replace ho2208 := (slices_IndexFunc_impl_Ref.l0_s x0 x1_0 k2222 a2215).symm.trans ho2208
    refine run_seq ?_
    refine run_region rfl ?_
    refine ops_ex rfl (guard_none rfl) rfl rfl (ex_lss rfl rfl rfl) ?_
    refine ops_nil ?_
    refine at_then ?_
    refine run_seq ?_
    refine run_cond (b := (decide (a2215 < (x0.length : Int)))) rfl (fun hb2224 => ?_) (fun hb2224 => ?_)
    · replace ho2208 := cond_t hb2224 ho2208
      refine run_skip ?_
      refine at_then ?_
      refine run_seq ?_
      refine run_block ?_
      refine run_seq ?_
      refine run_region rfl ?_
      refine ops_ex rfl (guard_none rfl) rfl rfl (ex_move rfl rfl) ?_
      refine ops_ex rfl (guard_none rfl) rfl rfl (ex_assign rfl rfl) ?_
      refine ops_nil ?_
      refine at_then ?_
      refine run_seq ?_
      obtain ⟨e2225, ho2208⟩ := chk_some ho2208
      obtain ⟨t2227, h2228, ho2208⟩ := bind_some ho2208
      refine run_region rfl ?_
      refine ops_ex rfl (guard_none rfl) rfl rfl (ex_move rfl rfl) ?_
      refine ops_ex rfl (guard_none rfl) rfl rfl (ex_move rfl rfl) ?_
      refine ops_ex rfl (guard_none rfl) rfl rfl (ex_move rfl rfl) ?_
      have hc2226 : CellsAt _ (sb p0) (so p0 + (a2215).toNat * 2) [(.int .i64 ((gt x0 a2215).fTx)), (.int .i64 ((gt x0 a2215).fAt))] := rd_plain hp0 e2225
      refine ops_ex rfl (guard_none rfl) rfl rfl (ex_indexAddr (d := kRef) rfl rfl rfl Try.underlying34 tsz99 hp0 (idx_lo e2225) (idx_hi e2225)) ?_
      refine ops_ex rfl (guard_none rfl) rfl rfl (ex_loadN (cs := [(.int .i64 ((gt x0 a2215).fTx)), (.int .i64 ((gt x0 a2215).fAt))]) rfl rfl Try.underlying99 rfl tsz99 rfl ((HM.at_ hc2226).sub 0 2 rfl)) ?_
      refine ops_does rfl (guard_none rfl) rfl rfl (does_callvk rfl callok144 rfl rfl rfl (impl_clash_1.calls (x0 := (gt x0 a2215)) (x1 := x1_0) (HM.at_ hc1_0) (HM.rd hp1_0_0) (HM.rd hp1_0_1) h2228)) ?_
      rintro _ w2229 ⟨rfl, hn⟩
      replace HM : Mem w [] w2229 [] := HM.call hn
      refine ops_nil ?_
      refine at_then ?_
      refine run_cond (b := t2227) rfl (fun hb2230 => ?_) (fun hb2230 => ?_)
      · replace ho2208 := cond_t hb2230 ho2208
        refine run_seq ?_
        refine run_region rfl ?_
        refine ops_ex rfl (guard_none rfl) rfl rfl (ex_move rfl rfl) ?_
        refine ops_ex rfl (guard_none rfl) rfl rfl (ex_assign rfl rfl) ?_
        refine ops_nil ?_
        refine at_then ?_
        refine run_ret ?_
        refine at_block_ret ?_
        refine at_then_ret ?_
        refine at_then_ret ?_
        refine at_block_ret ?_
        refine at_then_ret ?_
        have hR := Option.some.inj ho2208
        subst hR
        have hT := thn_inl H
        have hR := Option.some.inj hT
        subst hR
        exact at_ret1 rfl rfl ⟨_, rfl, rfl, HM⟩
      · replace ho2208 := cond_f hb2230 ho2208
        refine run_skip ?_
        refine at_block ?_
        refine at_then ?_
        refine run_region rfl ?_
        refine ops_ex rfl (guard_none rfl) rfl rfl (ex_add rfl rfl rfl) ?_
        refine ops_ex rfl (guard_none rfl) rfl rfl (ex_move rfl rfl) ?_
        refine ops_nil ?_
        exact at_again k2222 (ρ1 := [(0, p0), (1, .func (.func 144) #[] #[(.pointer (some ⟨b1_0, f1_0, none⟩))]), (7, .int .i64 (x0.length : Int)), (8, .int .i64 (wrap64 (a2215 + 1)))]) (Nat.lt_succ_self _) ⟨_, ho2208, rfl, HM⟩ (Sub.cons rfl (Sub.cons rfl (Sub.cons rfl (Sub.cons rfl Sub.nil))))
    · replace ho2208 := cond_f hb2224 ho2208
      refine run_exit ?_
      refine at_then_exit ?_
      refine at_then_exit ?_
      refine at_block_exit ?_
      exact at_mid (ρ' := []) ⟨(Option.some.inj ho2208), rfl, HM⟩ Sub.nil
  · rintro _ w2231 ⟨rfl, rfl, HM⟩
    replace H := (thn_inr H)
    refine run_seq ?_
    refine run_region rfl ?_
    refine ops_ex rfl (guard_none rfl) rfl rfl (ex_assign rfl rfl) ?_
    refine ops_nil ?_
    refine at_then ?_
    refine run_ret ?_
    have hR := Option.some.inj H
    subst hR
    exact at_ret1 rfl rfl ⟨_, rfl, rfl, HM⟩

def slices_ContainsFunc_impl_Ref.f (k : Nat) (x0 : List Ref) (x1_0 : Tx) : Option Bool := ((slices_IndexFunc_impl_Ref.f k x0 x1_0).bind fun t2234 => some (decide (0 ≤ t2234)))
theorem slices_ContainsFunc_impl_Ref.calls {k : Nat} {x0 : List Ref} {x1_0 : Tx} {p0 : Value} {b1_0 f1_0 : Nat} {p1_0_0 : Value} {p1_0_1 : Value} {w : World} (hp0 : RdS kRef w p0 x0) (hc1_0 : CellsAt w b1_0 f1_0 [.int .i64 x1_0.fKind, .int .i64 x1_0.fMember, p1_0_0, p1_0_1]) (hp1_0_0 : RdS kRef w p1_0_0 x1_0.fIns) (hp1_0_1 : RdS kOut w p1_0_1 x1_0.fOuts) {r : Bool} (H : slices_ContainsFunc_impl_Ref.f k x0 x1_0 = some r) :
    Calls Try.prog 143 ([p0, .func (.func 144) #[] #[(.pointer (some ⟨b1_0, f1_0, none⟩))]] : List Value).toArray w (fun e w_ => ∃ v, e = .returned v ∧ v = (.bool r) ∧ Mem w [] w_ []) := by
  have HM := Mem.start w
  refine calls_run (N := 9) Try.func143 rfl rfl rfl rfl ?_
  unfold slices_ContainsFunc_impl_Ref.f at H
  refine run_seq ?_
  refine run_region rfl ?_
  refine ops_ex rfl (guard_none rfl) rfl rfl (ex_assign rfl rfl) ?_
  refine ops_nil ?_
  refine at_then ?_
  refine run_seq ?_
  obtain ⟨t2234, h2235, H⟩ := bind_some H
  refine run_region rfl ?_
  refine ops_ex rfl (guard_none rfl) rfl rfl (ex_move rfl rfl) ?_
  refine ops_ex rfl (guard_none rfl) rfl rfl (ex_move rfl rfl) ?_
  refine ops_does rfl (guard_none rfl) rfl rfl (does_callk rfl callok165 rfl (slices_IndexFunc_impl_Ref.calls (x0 := x0) (x1_0 := x1_0) (HM.rd hp0) (HM.at_ hc1_0) (HM.rd hp1_0_0) (HM.rd hp1_0_1) h2235)) ?_
  rintro _ w2236 ⟨rfl, hn⟩
  replace HM : Mem w [] w2236 [] := HM.call hn
  refine ops_ex rfl (guard_none rfl) rfl rfl (ex_geq rfl rfl rfl) ?_
  refine ops_ex rfl (guard_none rfl) rfl rfl (ex_assign rfl rfl) ?_
  refine ops_nil ?_
  refine at_then ?_
  refine run_ret ?_
  have hR := Option.some.inj H
  subst hR
  exact at_ret1 rfl rfl ⟨_, rfl, rfl, HM⟩

def impl_clash.f (k : Nat) (x0 : Tx) (x1 : Tx) : Option Bool := ((slices_ContainsFunc_impl_Ref.f k x0.fIns x1).bind fun t2247 => some t2247)
theorem impl_clash.calls {k : Nat} {x0 : Tx} {x1 : Tx} {p0_0 : Value} {p0_1 : Value} {p1_0 : Value} {p1_1 : Value} {w : World} (hp0_0 : RdS kRef w p0_0 x0.fIns) (hp0_1 : RdS kOut w p0_1 x0.fOuts) (hp1_0 : RdS kRef w p1_0 x1.fIns) (hp1_1 : RdS kOut w p1_1 x1.fOuts) {r : Bool} (H : impl_clash.f k x0 x1 = some r) :
    Calls Try.prog 94 ([.agg #[(.int .i64 x0.fKind), (.int .i64 x0.fMember), p0_0, p0_1], .agg #[(.int .i64 x1.fKind), (.int .i64 x1.fMember), p1_0, p1_1]] : List Value).toArray w (fun e w_ => ∃ v, e = .returned v ∧ v = (.bool r) ∧ Mem w [] w_ []) := by
  have HM := Mem.start w
  refine calls_run (N := 9) Try.func94 rfl rfl rfl rfl ?_
  unfold impl_clash.f at H
  refine run_seq ?_
  refine run_region rfl ?_
  refine ops_does rfl (guard_none rfl) rfl rfl (does_box (cs := [.int .i64 x0.fKind, .int .i64 x0.fMember, p0_0, p0_1]) rfl rfl rfl HM) ?_
  rintro _ w2245 ⟨b2239, rfl, HM⟩
  refine ops_does rfl (guard_none rfl) rfl rfl (does_box (cs := [.int .i64 x1.fKind, .int .i64 x1.fMember, p1_0, p1_1]) rfl rfl rfl HM) ?_
  rintro _ w2246 ⟨b2242, rfl, HM⟩
  refine ops_ex rfl (guard_none rfl) rfl rfl (ex_assign rfl rfl) ?_
  refine ops_nil ?_
  refine at_then ?_
  refine run_seq ?_
  obtain ⟨t2247, h2248, H⟩ := bind_some H
  refine run_region rfl ?_
  refine ops_ex rfl (guard_none rfl) rfl rfl (ex_fieldAddr (off' := 2) rfl rfl Try.underlying37 rfl tsz34 rfl) ?_
  refine ops_ex rfl (guard_none rfl) rfl rfl (ex_load1 rfl rfl Try.underlying34 rfl ((HM.box_at 1 rfl) 2 _ rfl)) ?_
  refine ops_ex rfl (guard_none rfl) rfl rfl (ex_func rfl rfl) ?_
  refine ops_does rfl (guard_none rfl) rfl rfl (does_callk rfl callok143 rfl (slices_ContainsFunc_impl_Ref.calls (x0 := x0.fIns) (x1_0 := x1) (HM.rd hp0_0) (HM.box_at 0 rfl) (HM.rd hp1_0) (HM.rd hp1_1) h2248)) ?_
  rintro _ w2249 ⟨rfl, hn⟩
  replace HM : Mem w [] w2249 [box b2242 37 [.int .i64 x1.fKind, .int .i64 x1.fMember, p1_0, p1_1], box b2239 37 [.int .i64 x0.fKind, .int .i64 x0.fMember, p0_0, p0_1]] := HM.call hn
  refine ops_ex rfl (guard_none rfl) rfl rfl (ex_assign rfl rfl) ?_
  refine ops_nil ?_
  refine at_then ?_
  refine run_ret ?_
  replace HM := (HM.front 0 rfl rfl).drop
  replace HM := (HM.front 0 rfl rfl).drop
  have hR := Option.some.inj H
  subst hR
  exact at_ret1 rfl rfl ⟨_, rfl, rfl, HM⟩

def impl_ClashTx.f (k : Nat) (x0 : Tx) (x1 : Tx) : Option Bool := ((impl_TxFault.f k x0).bind fun t2260 => ((bif (t2260 == 0) then impl_TxFault.f k x1 else some default).bind fun t2262 => ((bif ((t2260 == 0) && (t2262 == 0)) then impl_clash.f k x0 x1 else some default).bind fun t2264 => some (((t2260 == 0) && (t2262 == 0)) && t2264))))
theorem impl_ClashTx.calls {k : Nat} {x0 : Tx} {x1 : Tx} {p0_0 : Value} {p0_1 : Value} {p1_0 : Value} {p1_1 : Value} {w : World} (hp0_0 : RdS kRef w p0_0 x0.fIns) (hp0_1 : RdS kOut w p0_1 x0.fOuts) (hp1_0 : RdS kRef w p1_0 x1.fIns) (hp1_1 : RdS kOut w p1_1 x1.fOuts) {r : Bool} (H : impl_ClashTx.f k x0 x1 = some r) :
    Calls Try.prog 38 ([.agg #[(.int .i64 x0.fKind), (.int .i64 x0.fMember), p0_0, p0_1], .agg #[(.int .i64 x1.fKind), (.int .i64 x1.fMember), p1_0, p1_1]] : List Value).toArray w (fun e w_ => ∃ v, e = .returned v ∧ v = (.bool r) ∧ Mem w [] w_ []) := by
  have HM := Mem.start w
  refine calls_run (N := 18) Try.func38 rfl rfl rfl rfl ?_
  unfold impl_ClashTx.f at H
  refine run_seq ?_
  refine run_region rfl ?_
  refine ops_does rfl (guard_none rfl) rfl rfl (does_box (cs := [.int .i64 x0.fKind, .int .i64 x0.fMember, p0_0, p0_1]) rfl rfl rfl HM) ?_
  rintro _ w2258 ⟨b2252, rfl, HM⟩
  refine ops_does rfl (guard_none rfl) rfl rfl (does_box (cs := [.int .i64 x1.fKind, .int .i64 x1.fMember, p1_0, p1_1]) rfl rfl rfl HM) ?_
  rintro _ w2259 ⟨b2255, rfl, HM⟩
  refine ops_ex rfl (guard_none rfl) rfl rfl (ex_assign rfl rfl) ?_
  refine ops_nil ?_
  refine at_then ?_
  refine run_seq ?_
  obtain ⟨t2260, h2261, H⟩ := bind_some H
  obtain ⟨t2262, h2263, H⟩ := bind_some H
  obtain ⟨t2264, h2265, H⟩ := bind_some H
  refine run_meet (fun ρ_ w_ => ρ_ = [(4, .bool (((t2260 == 0) && (t2262 == 0)) && t2264))] ∧ Mem w [] w_ []) ?_ ?_
  · skip
    refine run_region rfl ?_
    refine ops_ex rfl (guard_none rfl) rfl rfl (ex_loadN (cs := [(.int .i64 x0.fKind), (.int .i64 x0.fMember), p0_0, p0_1]) rfl rfl Try.underlying37 rfl tsz37 rfl ((HM.box_at 1 rfl).sub 0 4 rfl)) ?_
    refine ops_does rfl (guard_none rfl) rfl rfl (does_callk rfl callok28 rfl (impl_TxFault.calls (x0 := x0) (HM.rd hp0_0) (HM.rd hp0_1) h2261)) ?_
    rintro _ w2266 ⟨rfl, hn⟩
    replace HM : Mem w [] w2266 [box b2255 37 [.int .i64 x1.fKind, .int .i64 x1.fMember, p1_0, p1_1], box b2252 37 [.int .i64 x0.fKind, .int .i64 x0.fMember, p0_0, p0_1]] := HM.call hn
    refine ops_ex rfl (guard_none rfl) rfl rfl (ex_eql rfl rfl rfl) ?_
    refine ops_ex rfl (guard_none rfl) rfl rfl (ex_move rfl rfl) ?_
    refine bool_cases (t2260 == 0) (fun hg2267 => ?_) (fun hg2267 => ?_)
    · skip
      refine ops_ex rfl (guard_on rfl rfl rfl hg2267) rfl rfl (ex_loadN (cs := [(.int .i64 x1.fKind), (.int .i64 x1.fMember), p1_0, p1_1]) rfl rfl Try.underlying37 rfl tsz37 rfl ((HM.box_at 0 rfl).sub 0 4 rfl)) ?_
      refine ops_does rfl (guard_on rfl rfl rfl hg2267) rfl rfl (does_callk rfl callok28 rfl (impl_TxFault.calls (x0 := x1) (HM.rd hp1_0) (HM.rd hp1_1) (cond_t hg2267 h2263))) ?_
      rintro _ w2268 ⟨rfl, hn⟩
      replace HM : Mem w [] w2268 [box b2255 37 [.int .i64 x1.fKind, .int .i64 x1.fMember, p1_0, p1_1], box b2252 37 [.int .i64 x0.fKind, .int .i64 x0.fMember, p0_0, p0_1]] := HM.call hn
      refine ops_ex rfl (guard_on rfl rfl rfl hg2267) rfl rfl (ex_eql rfl rfl rfl) ?_
      refine ops_ex (v := .bool ((t2260 == 0) && (t2262 == 0))) rfl (guard_none rfl) rfl rfl (ex_pand_t rfl rfl hg2267 rfl) ?_
      refine ops_ex rfl (guard_none rfl) rfl rfl (ex_move rfl rfl) ?_
      refine bool_cases ((t2260 == 0) && (t2262 == 0)) (fun hg2269 => ?_) (fun hg2269 => ?_)
      · skip
        refine ops_ex rfl (guard_on rfl rfl rfl hg2269) rfl rfl (ex_loadN (cs := [(.int .i64 x0.fKind), (.int .i64 x0.fMember), p0_0, p0_1]) rfl rfl Try.underlying37 rfl tsz37 rfl ((HM.box_at 1 rfl).sub 0 4 rfl)) ?_
        refine ops_ex rfl (guard_on rfl rfl rfl hg2269) rfl rfl (ex_loadN (cs := [(.int .i64 x1.fKind), (.int .i64 x1.fMember), p1_0, p1_1]) rfl rfl Try.underlying37 rfl tsz37 rfl ((HM.box_at 0 rfl).sub 0 4 rfl)) ?_
        refine ops_does rfl (guard_on rfl rfl rfl hg2269) rfl rfl (does_callk rfl callok94 rfl (impl_clash.calls (x0 := x0) (x1 := x1) (HM.rd hp0_0) (HM.rd hp0_1) (HM.rd hp1_0) (HM.rd hp1_1) (cond_t hg2269 h2265))) ?_
        rintro _ w2270 ⟨rfl, hn⟩
        replace HM : Mem w [] w2270 [box b2255 37 [.int .i64 x1.fKind, .int .i64 x1.fMember, p1_0, p1_1], box b2252 37 [.int .i64 x0.fKind, .int .i64 x0.fMember, p0_0, p0_1]] := HM.call hn
        refine ops_ex (v := .bool (((t2260 == 0) && (t2262 == 0)) && t2264)) rfl (guard_none rfl) rfl rfl (ex_pand_t rfl rfl hg2269 rfl) ?_
        refine ops_ex rfl (guard_none rfl) rfl rfl (ex_assign rfl rfl) ?_
        refine ops_nil ?_
        replace HM := (HM.front 0 rfl rfl).drop
        replace HM := (HM.front 0 rfl rfl).drop
        exact at_meet [(4, .bool (((t2260 == 0) && (t2262 == 0)) && t2264))] ⟨rfl, HM⟩ (Sub.cons rfl Sub.nil)
      · skip
        refine ops_off rfl (guard_off rfl rfl rfl hg2269) rfl rfl ?_
        refine ops_off rfl (guard_off rfl rfl rfl hg2269) rfl rfl ?_
        refine ops_off rfl (guard_off rfl rfl rfl hg2269) rfl rfl ?_
        have hg2271 : (((t2260 == 0) && (t2262 == 0)) && t2264) = false := by simp only [hg2269, Bool.and_true, Bool.true_and, Bool.and_false, Bool.false_and, Bool.or_true, Bool.true_or, Bool.or_false, Bool.false_or, Bool.not_true, Bool.not_false, Bool.not_not]
        refine ops_ex (v := .bool (((t2260 == 0) && (t2262 == 0)) && t2264)) rfl (guard_none rfl) rfl rfl (ex_pand_f rfl rfl hg2269) ?_
        refine ops_ex rfl (guard_none rfl) rfl rfl (ex_assign rfl rfl) ?_
        refine ops_nil ?_
        replace HM := (HM.front 0 rfl rfl).drop
        replace HM := (HM.front 0 rfl rfl).drop
        exact at_meet [(4, .bool (((t2260 == 0) && (t2262 == 0)) && t2264))] ⟨rfl, HM⟩ (Sub.cons rfl Sub.nil)
    · skip
      refine ops_off rfl (guard_off rfl rfl rfl hg2267) rfl rfl ?_
      refine ops_off rfl (guard_off rfl rfl rfl hg2267) rfl rfl ?_
      refine ops_off rfl (guard_off rfl rfl rfl hg2267) rfl rfl ?_
      have hg2272 : ((t2260 == 0) && (t2262 == 0)) = false := by simp only [hg2267, Bool.and_true, Bool.true_and, Bool.and_false, Bool.false_and, Bool.or_true, Bool.true_or, Bool.or_false, Bool.false_or, Bool.not_true, Bool.not_false, Bool.not_not]
      refine ops_ex (v := .bool ((t2260 == 0) && (t2262 == 0))) rfl (guard_none rfl) rfl rfl (ex_pand_f rfl rfl hg2267) ?_
      refine ops_ex rfl (guard_none rfl) rfl rfl (ex_move rfl rfl) ?_
      refine ops_off rfl (guard_off rfl rfl rfl hg2272) rfl rfl ?_
      refine ops_off rfl (guard_off rfl rfl rfl hg2272) rfl rfl ?_
      refine ops_off rfl (guard_off rfl rfl rfl hg2272) rfl rfl ?_
      have hg2273 : (((t2260 == 0) && (t2262 == 0)) && t2264) = false := by simp only [hg2272, Bool.and_true, Bool.true_and, Bool.and_false, Bool.false_and, Bool.or_true, Bool.true_or, Bool.or_false, Bool.false_or, Bool.not_true, Bool.not_false, Bool.not_not]
      refine ops_ex (v := .bool (((t2260 == 0) && (t2262 == 0)) && t2264)) rfl (guard_none rfl) rfl rfl (ex_pand_f rfl rfl hg2272) ?_
      refine ops_ex rfl (guard_none rfl) rfl rfl (ex_assign rfl rfl) ?_
      refine ops_nil ?_
      replace HM := (HM.front 0 rfl rfl).drop
      replace HM := (HM.front 0 rfl rfl).drop
      exact at_meet [(4, .bool (((t2260 == 0) && (t2262 == 0)) && t2264))] ⟨rfl, HM⟩ (Sub.cons rfl Sub.nil)
  · rintro _ w2274 ⟨rfl, HM⟩
    refine at_then ?_
    refine run_ret ?_
    have hR := Option.some.inj H
    subst hR
    exact at_ret1 rfl rfl ⟨_, rfl, rfl, HM⟩
end Go.Proofs.Ytoiacoiccpiciaa.Zk
