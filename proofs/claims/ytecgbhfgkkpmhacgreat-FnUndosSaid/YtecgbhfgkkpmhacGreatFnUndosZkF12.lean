/- What functions of the program compute, each as a plain function, and that they do. Conditions: as each theorem states them. -/
import Derived.Test.YtecgbhfgkkpmhacGreatFnUndosZkF11
namespace Go.Proofs.YtecgbhfgkkpmhacGreat.Zk
open Go Go.RowKit Go.IntWalk Go.Proofs
set_option linter.unusedVariables false
set_option linter.unusedSimpArgs false
set_option maxRecDepth 100000
set_option maxHeartbeats 4000000
def slices_Contains_impl_Ref.f (k : Nat) (x0 : List Ref) (x1 : Ref) : Option Bool := ((slices_Index_impl_Ref.f k x0 x1).bind fun t10 => some (decide (0 ≤ t10)))
theorem slices_Contains_impl_Ref.calls {k : Nat} {x0 : List Ref} {x1 : Ref} {p0 : Value} {w : World} (hp0 : RdS kRef w p0 x0) {r : Bool} (H : slices_Contains_impl_Ref.f k x0 x1 = some r) :
  Calls Tryz.prog 40 ([p0, .agg #[(nI x1.fTx), (nI x1.fAt)]] : List Value).toArray w (fun e w_ => ∃ v, e = .returned v ∧ v = (.bool r) ∧ Mem w [] w_ []) := by
 have HM := Mem.start w
 refine calls_run (N := 9) Tryz.func40 rfl rfl rfl rfl ?_
 unfold slices_Contains_impl_Ref.f at H
 refine run_seq (run_region rfl (oz rfl (does_box (cs := [nI x1.fTx, nI x1.fAt]) rfl rfl rfl HM) ?_))
 rintro _ w11 ⟨b12, rfl, HM⟩
 refine oM rfl (ops_nil (at_then (run_seq ?_)))
 obtain ⟨t10, h13, H⟩ := bind_some H
 refine run_region rfl (oM rfl (oy rfl (ldN rfl rfl U38 rfl tsz38 ((HM.box_at 0 rfl).subL 0 2 rfl) rfl) (oz rfl (does_callk rfl callok80 rfl (slices_Index_impl_Ref.calls (x0 := x0) (x1 := x1) (HM.rd hp0) h13)) ?_)))
 rintro _ w14 ⟨rfl, hn⟩
 replace HM := HM.callN hn rfl
 refine oy rfl (ex_geq rfl rfl rfl) (oM rfl (ops_nil (at_then (run_ret ?_))))
 replace HM := HM.frd 0 rfl
 cases H
 exact at_ret1 rfl rfl ⟨_, rfl, rfl, HM⟩

def impl_outFault.f (k : Nat) (x0 : Out) : Option Int := ((impl_within.f k x0.fValue 1 1000000).bind fun t10 => (bif !t10 then some 3 else ((impl_RuleFault.f k x0.fRule).bind fun t11 => some t11)))
theorem impl_outFault.calls {k : Nat} {x0 : Out} {p0_0 : Value} {w : World} (hp0_0 : RdS kInt w p0_0 x0.fRule.fKeys) {r : Int} (H : impl_outFault.f k x0 = some r) :
  Calls Tryz.prog 41 ([.agg #[(nI x0.fValue), p0_0, (nI x0.fRule.fNeed), (nI x0.fRule.fAfter)]] : List Value).toArray w (fun e w_ => ∃ v, e = .returned v ∧ v = (nI r) ∧ Mem w [] w_ []) := by
 have HM := Mem.start w
 refine calls_run (N := 10) Tryz.func41 rfl rfl rfl rfl ?_
 unfold impl_outFault.f at H
 refine run_seq (run_region rfl (oz rfl (does_box (cs := [nI x0.fValue, p0_0, nI x0.fRule.fNeed, nI x0.fRule.fAfter]) rfl rfl rfl HM) ?_))
 rintro _ w12 ⟨b13, rfl, HM⟩
 refine oM rfl (ops_nil (at_then (run_seq (run_seq ?_))))
 obtain ⟨t10, h14, H⟩ := bind_some H
 refine run_region rfl (oy rfl (ex_fieldAddr (off' := 0) rfl rfl U68 rfl tsz2 rfl) (oy rfl (ex_load1 rfl rfl U2 rfl ((HM.box_at 0 rfl) 0 _ rfl)) (oz rfl (does_callk rfl callok31 rfl (impl_within.calls (x0 := x0.fValue) (x1 := 1) (x2 := 1000000) h14)) ?_)))
 rintro _ w15 ⟨rfl, hn⟩
 replace HM := HM.callN hn rfl
 refine oy rfl (ex_not rfl rfl) (ops_nil (at_then (run_cond (b := !t10) rfl (fun hb16 => ?_) (fun hb16 => ?_))))
 ·replace H := cond_t hb16 H
  refine run_seq (run_region rfl (oM rfl (ops_nil (at_then (run_ret (at_then_ret ?_))))))
  replace HM := HM.frd 0 rfl
  cases H
  exact at_ret1 rfl rfl ⟨_, rfl, rfl, HM⟩
 ·replace H := cond_f hb16 H
  refine run_skip (at_then (run_seq ?_))
  obtain ⟨t11, h17, H⟩ := bind_some H
  refine run_region rfl (oy rfl (ex_fieldAddr (off' := 1) rfl rfl U68 rfl tsz66 rfl) (oy rfl (ldN rfl rfl U66 rfl tsz66 ((HM.box_at 0 rfl).subL 1 3 rfl) rfl) (oz rfl (does_callk rfl callok32 rfl (impl_RuleFault.calls (x0 := x0.fRule) (HM.rd hp0_0) h17)) ?_)))
  rintro _ w18 ⟨rfl, hn⟩
  replace HM := HM.callN hn rfl
  refine oM rfl (ops_nil (at_then (run_ret ?_)))
  replace HM := HM.frd 0 rfl
  cases H
  exact at_ret1 rfl rfl ⟨_, rfl, rfl, HM⟩

def impl_TxFault.l0 (x0 : Tx) : Nat → Int → Option (Int ⊕ Unit)
 | 0, _ => none
 | k + 1, a10 => (bif (decide (a10 < (x0.fIns.length : Int))) then (chk (idxOk a10 x0.fIns.length) ((impl_isRef.f k (gt x0.fIns a10)).bind fun t11 => (bif !t11 then some (.inl 3) else (chk (cutOk a10 x0.fIns.length) ((slices_Contains_impl_Ref.f k (x0.fIns.take (a10).toNat) (gt x0.fIns a10)).bind fun t12 => (bif t12 then some (.inl 7) else impl_TxFault.l0 x0 k (wrap64 (a10 + 1)))))))) else some (.inr ()))
def impl_TxFault.l1 (x0 : Tx) : Nat → Int → Option (Int ⊕ Unit)
 | 0, _ => none
 | k + 1, a13 => (bif (decide (a13 < (x0.fOuts.length : Int))) then (chk (idxOk a13 x0.fOuts.length) ((impl_outFault.f k (gt x0.fOuts a13)).bind fun t14 => (bif (t14 != 0) then some (.inl t14) else impl_TxFault.l1 x0 k (wrap64 (a13 + 1))))) else some (.inr ()))
def impl_TxFault.f (k : Nat) (x0 : Tx) : Option Int := ((impl_within.f k x0.fKind 0 2).bind fun t15 => (bif ((!t15) || ((x0.fKind == 0) != (x0.fMember == 0))) then some 1 else ((bif (x0.fMember != 0) then impl_isKey.f k x0.fMember else some default).bind fun t16 => (bif ((x0.fMember != 0) && (!t16)) then some 3 else ((impl_TxFault_1.f k (x0.fIns.length : Int)).bind fun t17 => ((bif (!t17) then impl_TxFault_1.f k (x0.fOuts.length : Int) else some default).bind fun t18 => (bif (t17 || t18) then some 2 else ((impl_TxFault.l0 x0 k 0).bind fun o19 => thn o19 (fun r => some r) (fun _ => ((impl_TxFault.l1 x0 k 0).bind fun o20 => thn o20 (fun r => some r) (fun _ => (chk (!(x0.fKind == 1) || (idxOk (0 : Int) x0.fOuts.length)) (bif ((x0.fKind == 1) && (decide (((gt x0.fOuts (0 : Int)).fValue) < 100))) then some 8 else some 0)))))))))))))
theorem impl_TxFault.calls {k : Nat} {x0 : Tx} {p0_0 : Value} {p0_1 : Value} {w : World} (hp0_0 : RdS kRef w p0_0 x0.fIns) (hp0_1 : RdS kOut w p0_1 x0.fOuts) {r : Int} (H : impl_TxFault.f k x0 = some r) :
  Calls Tryz.prog 17 ([.agg #[(nI x0.fKind), (nI x0.fMember), p0_0, p0_1]] : List Value).toArray w (fun e w_ => ∃ v, e = .returned v ∧ v = (nI r) ∧ Mem w [] w_ []) := by
 have HM := Mem.start w
 refine calls_run (N := 88) Tryz.func17 rfl rfl rfl rfl ?_
 unfold impl_TxFault.f at H
 refine run_seq (run_region rfl (oz rfl (does_box (cs := [nI x0.fKind, nI x0.fMember, p0_0, p0_1]) rfl rfl rfl HM) ?_))
 rintro _ w21 ⟨b22, rfl, HM⟩
 refine oM rfl (ops_nil (at_then (run_seq (run_region rfl (oM rfl (ops_nil (at_then (run_seq (run_block (run_seq ?_))))))))))
 obtain ⟨t15, h23, H⟩ := bind_some H
 refine run_meet (fun ρ_ w_ => ρ_ = [(1, pA b22 0), (3, .func (.func 38) #[] #[]), (9, .bool ((!t15) || ((x0.fKind == 0) != (x0.fMember == 0))))] ∧ Mem w [] w_ [box b22 28 [nI x0.fKind, nI x0.fMember, p0_0, p0_1]]) ?_ ?_
 ·refine run_region rfl (oy rfl (ex_fieldAddr (off' := 0) rfl rfl U28 rfl tsz2 rfl) (oy rfl (ex_load1 rfl rfl U2 rfl ((HM.box_at 0 rfl) 0 _ rfl)) (oz rfl (does_callk rfl callok31 rfl (impl_within.calls (x0 := x0.fKind) (x1 := 0) (x2 := 2) h23)) ?_)))
  rintro _ w24 ⟨rfl, hn⟩
  replace HM := HM.callN hn rfl
  refine oy rfl (ex_not rfl rfl) (oM rfl ?_)
  refine bool_cases (!t15) (fun hg25 => ?_) (fun hg25 => ?_)
  ·refine gf rfl hg25 (gf rfl hg25 (gf rfl hg25 (gf rfl hg25 (gf rfl hg25 (gf rfl hg25 (gf rfl hg25 ?_))))))
   have hg26 : ((!t15) || ((x0.fKind == 0) != (x0.fMember == 0))) = true := by simp only [hg25, Bool.and_true, Bool.true_and, Bool.and_false, Bool.false_and, Bool.or_true, Bool.true_or, Bool.or_false, Bool.false_or, Bool.not_true, Bool.not_false, Bool.not_not]
   exact ops_ex (v := .bool ((!t15) || ((x0.fKind == 0) != (x0.fMember == 0)))) rfl (guard_none rfl) rfl rfl (ex_por_t rfl rfl hg25) (oM rfl (ops_nil (at_meet _ ⟨rfl, HM⟩ (Sub.of rfl))))
  ·refine gn rfl hg25 (ex_fieldAddr (off' := 0) rfl rfl U28 rfl tsz2 rfl) (gn rfl hg25 (ex_load1 rfl rfl U2 rfl ((HM.box_at 0 rfl) 0 _ rfl)) (gn rfl hg25 (ex_eql rfl rfl rfl) (gn rfl hg25 (ex_fieldAddr (off' := 1) rfl rfl U28 rfl tsz2 rfl) (gn rfl hg25 (ex_load1 rfl rfl U2 rfl ((HM.box_at 0 rfl) 1 _ rfl)) (gn rfl hg25 (ex_eql rfl rfl rfl) (gn rfl hg25 (ex_bneq rfl rfl rfl U4) (ops_ex (v := .bool ((!t15) || ((x0.fKind == 0) != (x0.fMember == 0)))) rfl (guard_none rfl) rfl rfl (ex_por_f rfl rfl hg25 rfl) (oM rfl (ops_nil ?_)))))))))
   exact at_meet _ ⟨rfl, HM⟩ (Sub.of rfl)
 ·rintro _ w27 ⟨rfl, HM⟩
  refine at_then (run_cond (b := ((!t15) || ((x0.fKind == 0) != (x0.fMember == 0)))) rfl (fun hb28 => ?_) (fun hb28 => ?_))
  ·replace H := cond_t hb28 H
   refine run_seq (run_region rfl (oM rfl (ops_nil (at_then (run_ret (at_block_ret (at_then_ret ?_)))))))
   replace HM := HM.frd 0 rfl
   cases H
   exact at_ret1 rfl rfl ⟨_, rfl, rfl, HM⟩
  ·replace H := cond_f hb28 H
   refine run_seq ?_
   obtain ⟨t16, h29, H⟩ := bind_some H
   refine run_meet (fun ρ_ w_ => ρ_ = [(1, pA b22 0), (3, .func (.func 38) #[] #[]), (23, .bool ((x0.fMember != 0) && (!t16)))] ∧ Mem w [] w_ [box b22 28 [nI x0.fKind, nI x0.fMember, p0_0, p0_1]]) ?_ ?_
   ·refine run_region rfl (oy rfl (ex_fieldAddr (off' := 1) rfl rfl U28 rfl tsz2 rfl) (oy rfl (ex_load1 rfl rfl U2 rfl ((HM.box_at 0 rfl) 1 _ rfl)) (oy rfl (ex_neq rfl rfl rfl) (oM rfl ?_))))
    refine bool_cases (x0.fMember != 0) (fun hg30 => ?_) (fun hg30 => ?_)
    ·refine gn rfl hg30 (ex_fieldAddr (off' := 1) rfl rfl U28 rfl tsz2 rfl) (gn rfl hg30 (ex_load1 rfl rfl U2 rfl ((HM.box_at 0 rfl) 1 _ rfl)) (ops_does rfl (guard_on rfl rfl rfl hg30) rfl rfl (does_callk rfl callok39 rfl (impl_isKey.calls (x0 := x0.fMember) (cond_t hg30 h29))) ?_))
     rintro _ w31 ⟨rfl, hn⟩
     replace HM := HM.callN hn rfl
     exact gn rfl hg30 (ex_not rfl rfl) (ops_ex (v := .bool ((x0.fMember != 0) && (!t16))) rfl (guard_none rfl) rfl rfl (ex_pand_t rfl rfl hg30 rfl) (oM rfl (ops_nil (at_meet _ ⟨rfl, HM⟩ (Sub.of rfl)))))
    ·refine gf rfl hg30 (gf rfl hg30 (gf rfl hg30 (gf rfl hg30 ?_)))
     have hg32 : ((x0.fMember != 0) && (!t16)) = false := by simp only [hg30, Bool.and_true, Bool.true_and, Bool.and_false, Bool.false_and, Bool.or_true, Bool.true_or, Bool.or_false, Bool.false_or, Bool.not_true, Bool.not_false, Bool.not_not]
     exact ops_ex (v := .bool ((x0.fMember != 0) && (!t16))) rfl (guard_none rfl) rfl rfl (ex_pand_f rfl rfl hg30) (oM rfl (ops_nil (at_meet _ ⟨rfl, HM⟩ (Sub.of rfl))))
   ·rintro _ w33 ⟨rfl, HM⟩
    refine at_then (run_cond (b := ((x0.fMember != 0) && (!t16))) rfl (fun hb34 => ?_) (fun hb34 => ?_))
    ·replace H := cond_t hb34 H
     refine run_seq (run_region rfl (oM rfl (ops_nil (at_then (run_ret (at_block_ret (at_then_ret ?_)))))))
     replace HM := HM.frd 0 rfl
     cases H
     exact at_ret1 rfl rfl ⟨_, rfl, rfl, HM⟩
    ·replace H := cond_f hb34 H
     refine run_seq ?_
     obtain ⟨t17, h35, H⟩ := bind_some H
     obtain ⟨t18, h36, H⟩ := bind_some H
     refine run_meet (fun ρ_ w_ => ρ_ = [(1, pA b22 0), (33, .bool (t17 || t18))] ∧ Mem w [] w_ [box b22 28 [nI x0.fKind, nI x0.fMember, p0_0, p0_1]]) ?_ ?_
     ·refine run_region rfl (oM rfl (oy rfl (ex_fieldAddr (off' := 2) rfl rfl U28 rfl tsz25 rfl) (oy rfl (ex_load1 rfl rfl U25 rfl ((HM.box_at 0 rfl) 2 _ rfl)) (oy rfl (ex_len (d := kRef) (xs := x0.fIns) rfl rfl U25 hp0_0) (oz rfl (does_callvk rfl callok38 rfl rfl rfl (impl_TxFault_1.calls (x0 := (x0.fIns.length : Int)) h35)) ?_)))))
      rintro _ w37 ⟨rfl, hn⟩
      replace HM := HM.callN hn rfl
      refine oM rfl ?_
      refine bool_cases t17 (fun hg38 => ?_) (fun hg38 => ?_)
      ·refine gf rfl hg38 (gf rfl hg38 (gf rfl hg38 (gf rfl hg38 (gf rfl hg38 ?_))))
       have hg39 : (t17 || t18) = true := by simp only [hg38, Bool.and_true, Bool.true_and, Bool.and_false, Bool.false_and, Bool.or_true, Bool.true_or, Bool.or_false, Bool.false_or, Bool.not_true, Bool.not_false, Bool.not_not]
       exact ops_ex (v := .bool (t17 || t18)) rfl (guard_none rfl) rfl rfl (ex_por_t rfl rfl hg38) (oM rfl (ops_nil (at_meet _ ⟨rfl, HM⟩ (Sub.of rfl))))
      ·refine gn rfl hg38 (ex_move rfl rfl) (gn rfl hg38 (ex_fieldAddr (off' := 3) rfl rfl U28 rfl tsz26 rfl) (gn rfl hg38 (ex_load1 rfl rfl U26 rfl ((HM.box_at 0 rfl) 3 _ rfl)) (gn rfl hg38 (ex_len (d := kOut) (xs := x0.fOuts) rfl rfl U26 hp0_1) (ops_does rfl (guard_on rfl rfl rfl hg38) rfl rfl (does_callvk rfl callok38 rfl rfl rfl (impl_TxFault_1.calls (x0 := (x0.fOuts.length : Int)) (cond_t (not_mk hg38) h36))) ?_))))
       rintro _ w40 ⟨rfl, hn⟩
       replace HM := HM.callN hn rfl
       exact ops_ex (v := .bool (t17 || t18)) rfl (guard_none rfl) rfl rfl (ex_por_f rfl rfl hg38 rfl) (oM rfl (ops_nil (at_meet _ ⟨rfl, HM⟩ (Sub.of rfl))))
     ·rintro _ w41 ⟨rfl, HM⟩
      refine at_then (run_cond (b := (t17 || t18)) rfl (fun hb42 => ?_) (fun hb42 => ?_))
      ·replace H := cond_t hb42 H
       refine run_seq (run_region rfl (oM rfl (ops_nil (at_then (run_ret (at_block_ret (at_then_ret ?_)))))))
       replace HM := HM.frd 0 rfl
       cases H
       exact at_ret1 rfl rfl ⟨_, rfl, rfl, HM⟩
      ·replace H := cond_f hb42 H
       refine run_skip (at_block (at_then ?_))
       obtain ⟨o19, ho43, H⟩ := bind_some H
       refine run_mid (fun ρ_ w_ => Sum.inr () = o19 ∧ ρ_ = [(1, pA b22 0)] ∧ Mem w [] w_ [box b22 28 [nI x0.fKind, nI x0.fMember, p0_0, p0_1]]) ?_ ?_
       ·refine run_seq (run_region rfl (oy rfl (ex_fieldAddr (off' := 2) rfl rfl U28 rfl tsz25 rfl) (oy rfl (ex_load1 rfl rfl U25 rfl ((HM.box_at 0 rfl) 2 _ rfl)) (oy rfl (ex_len (d := kRef) (xs := x0.fIns) rfl rfl U25 hp0_0) (oM rfl (ops_nil (at_then (run_block ?_))))))))
        refine run_loop (fun k_ ρ_ w_ => ∃ a10 : Int, impl_TxFault.l0 x0 k_ a10 = some o19 ∧ ρ_ = [(1, pA b22 0), (47, p0_0), (48, nI (x0.fIns.length : Int)), (49, nI a10)] ∧ Mem w [] w_ [box b22 28 [nI x0.fKind, nI x0.fMember, p0_0, p0_1]]) k ⟨_, ho43, rfl, HM⟩ (Sub.of rfl) ?_
        clear HM ho43
        rintro k44 _ w45 ⟨a10, ho43, rfl, HM⟩
        obtain _ | k44 := k44
        ·exact nomatch ((impl_TxFault.l0.eq_1 x0 a10).symm.trans ho43)
        replace ho43 := (impl_TxFault.l0.eq_2 ..).symm.trans ho43
        refine run_seq (run_region rfl (oy rfl (ex_lss rfl rfl rfl) (ops_nil (at_then (run_seq (run_cond (b := (decide (a10 < (x0.fIns.length : Int)))) rfl (fun hb46 => ?_) (fun hb46 => ?_)))))))
        ·replace ho43 := cond_t hb46 ho43
         refine run_skip (at_then (run_seq (run_block (run_seq ?_))))
         obtain ⟨e47, ho43⟩ := chk_some ho43
         refine run_region rfl (oM rfl ?_)
         have hc48 : CellsAt _ (sb p0_0) (so p0_0 + (a10).toNat * 2) [(nI ((gt x0.fIns a10).fTx)), (nI ((gt x0.fIns a10).fAt))] := rd_plain hp0_0 e47
         refine oy rfl (ex_indexAddr (d := kRef) rfl rfl rfl U25 tsz38 hp0_0 (idx_lo e47) (idx_hi e47)) (oy rfl (ldN rfl rfl U38 rfl tsz38 ((HM.at_ hc48).subL 0 2 rfl) rfl) (oz rfl (does_alloc (cs := [nI 0, nI 0]) rfl tz38 rfl HM) ?_))
         rintro _ w49 ⟨b50, rfl, HM⟩
         refine oM rfl (odS rfl rfl rfl (does_store (vs := [nI ((gt x0.fIns a10).fTx), nI ((gt x0.fIns a10).fAt)]) (cs' := [nI ((gt x0.fIns a10).fTx), nI ((gt x0.fIns a10).fAt)]) rfl rfl rfl rfl tsz38 (Ones.int (Ones.int Ones.nil)) rfl rfl HM) ?_)
         rintro w51 HM
         refine ops_nil (at_then (run_seq (run_seq ?_)))
         obtain ⟨t11, h52, ho43⟩ := bind_some ho43
         refine run_region rfl (oy rfl (ldN rfl rfl U38 rfl tsz38 ((HM.box_at 0 rfl).subL 0 2 rfl) rfl) (oz rfl (does_callk rfl callok29 rfl (impl_isRef.calls (x0 := (gt x0.fIns a10)) h52)) ?_))
         rintro _ w53 ⟨rfl, hn⟩
         replace HM := HM.callN hn rfl
         refine oy rfl (ex_not rfl rfl) (ops_nil (at_then (run_cond (b := !t11) rfl (fun hb54 => ?_) (fun hb54 => ?_))))
         ·replace ho43 := cond_t hb54 ho43
          refine run_seq (run_region rfl (oM rfl (ops_nil (at_then (run_ret (at_then_ret (at_block_ret (at_then_ret (at_then_ret (at_block_ret ?_))))))))))
          refine at_then_ret ?_
          replace HM := (HM.frd 0 rfl).frd 0 rfl
          cases ho43
          have hT := thn_inl H
          cases hT
          exact at_ret1 rfl rfl ⟨_, rfl, rfl, HM⟩
         ·replace ho43 := cond_f hb54 ho43
          refine run_skip (at_then (run_seq ?_))
          obtain ⟨e55, ho43⟩ := chk_some ho43
          obtain ⟨t12, h56, ho43⟩ := bind_some ho43
          refine run_drawf (fun w_ => Mem w [] w_ [box b50 38 [nI ((gt x0.fIns a10).fTx), nI ((gt x0.fIns a10).fAt)], box b22 28 [nI x0.fKind, nI x0.fMember, p0_0, p0_1]]) [(0, true), (1, true), (2, true), (3, true), (4, true), (5, false)] mixed rfl rfl (by kernel_rfl) ?_
          replace HM := HM.grow (fr_drew _)
          have hS := HM.sufN 0 rfl
          refine dp rfl rfl rfl rfl (ex_fieldAddr (off' := 2) rfl rfl U28 rfl tsz25 rfl) hS (drwp_take rfl (guard_none rfl) rfl rfl (fun w_ hS_ => (ex_load1 rfl rfl U25 rfl ((hS_.box_at 1 rfl) 2 _ rfl))) hS (dp rfl rfl rfl rfl (ex_move rfl rfl) hS (drwp_takeE rfl (guard_none rfl) rfl rfl (ex_cutH kRef rfl rfl rfl U25 tsz38 hp0_0 e55) hS ?_)))
          rintro u57 hr58
          refine drwp_take rfl (guard_none rfl) rfl rfl (fun w_ hS_ => (ldN rfl rfl U38 rfl tsz38 ((hS_.box_at 0 rfl).subL 0 2 rfl) rfl)) hS (drwp_one rfl (guard_none rfl) rfl rfl (does_callk rfl callok40 rfl (slices_Contains_impl_Ref.calls (x0 := x0.fIns.take (a10).toNat) (x1 := (gt x0.fIns a10)) (HM.rd hr58) h56)) ?_)
          rintro _ w59 ⟨rfl, hn⟩
          replace HM := HM.callN hn rfl
          have hS := HM.sufN 0 rfl
          refine ⟨hS, (drwp_done (at_then (run_cond (b := t12) rfl (fun hb60 => ?_) (fun hb60 => ?_))))⟩
          ·replace ho43 := cond_t hb60 ho43
           refine run_seq (run_region rfl (oM rfl (ops_nil (at_then (run_ret (at_block_ret (at_then_ret (at_then_ret (at_block_ret (at_then_ret ?_))))))))))
           replace HM := (HM.frd 0 rfl).frd 0 rfl
           cases ho43
           have hT := thn_inl H
           cases hT
           exact at_ret1 rfl rfl ⟨_, rfl, rfl, HM⟩
          ·replace ho43 := cond_f hb60 ho43
           refine run_skip (at_block (at_then (run_region rfl (oy rfl (ex_add rfl rfl rfl) (oM rfl (ops_nil ?_))))))
           replace HM := HM.frd 0 rfl
           exact at_again k44 (Nat.lt_succ_self _) ⟨_, ho43, rfl, HM⟩ (Sub.of rfl)
        ·replace ho43 := cond_f hb46 ho43
         exact run_exit (at_then_exit (at_then_exit (at_block_exit (at_mid ⟨(sj ho43), rfl, HM⟩ (Sub.of rfl)))))
       ·rintro _ w61 ⟨rfl, rfl, HM⟩
        replace H := (thn_inr H)
        obtain ⟨o20, ho62, H⟩ := bind_some H
        refine run_mid (fun ρ_ w_ => Sum.inr () = o20 ∧ ρ_ = [(1, pA b22 0)] ∧ Mem w [] w_ [box b22 28 [nI x0.fKind, nI x0.fMember, p0_0, p0_1]]) ?_ ?_
        ·refine run_seq (run_region rfl (oy rfl (ex_fieldAddr (off' := 3) rfl rfl U28 rfl tsz26 rfl) (oy rfl (ex_load1 rfl rfl U26 rfl ((HM.box_at 0 rfl) 3 _ rfl)) (oy rfl (ex_len (d := kOut) (xs := x0.fOuts) rfl rfl U26 hp0_1) (oM rfl (ops_nil (at_then (run_block ?_))))))))
         refine run_loop (fun k_ ρ_ w_ => ∃ a13 : Int, impl_TxFault.l1 x0 k_ a13 = some o20 ∧ ρ_ = [(1, pA b22 0), (65, p0_1), (66, nI (x0.fOuts.length : Int)), (67, nI a13)] ∧ Mem w [] w_ [box b22 28 [nI x0.fKind, nI x0.fMember, p0_0, p0_1]]) k ⟨_, ho62, rfl, HM⟩ (Sub.of rfl) ?_
         clear HM ho62
         rintro k63 _ w64 ⟨a13, ho62, rfl, HM⟩
         obtain _ | k63 := k63
         ·exact nomatch ((impl_TxFault.l1.eq_1 x0 a13).symm.trans ho62)
         replace ho62 := (impl_TxFault.l1.eq_2 ..).symm.trans ho62
         refine run_seq (run_region rfl (oy rfl (ex_lss rfl rfl rfl) (ops_nil (at_then (run_seq (run_cond (b := (decide (a13 < (x0.fOuts.length : Int)))) rfl (fun hb65 => ?_) (fun hb65 => ?_)))))))
         ·replace ho62 := cond_t hb65 ho62
          refine run_skip (at_then (run_seq (run_block (run_seq ?_))))
          obtain ⟨e66, ho62⟩ := chk_some ho62
          refine run_region rfl ?_
          obtain ⟨kv67, hc68, hk69⟩ := rd_with1 hp0_1 e66
          refine oy rfl (ex_indexAddr (d := kOut) rfl rfl rfl U26 tsz68 hp0_1 (idx_lo e66) (idx_hi e66)) (oy rfl (ldN rfl rfl U68 rfl tsz68 ((HM.at_ hc68).subL 0 4 rfl) rfl) (oz rfl (does_alloc (cs := [nI 0, .slice none 0 0, nI 0, nI 0]) rfl tz68 rfl HM) ?_))
          rintro _ w70 ⟨b71, rfl, HM⟩
          refine odS rfl rfl rfl (does_store (vs := [nI ((gt x0.fOuts a13).fValue), kv67, nI ((gt x0.fOuts a13).fRule.fNeed), nI ((gt x0.fOuts a13).fRule.fAfter)]) (cs' := [nI ((gt x0.fOuts a13).fValue), kv67, nI ((gt x0.fOuts a13).fRule.fNeed), nI ((gt x0.fOuts a13).fRule.fAfter)]) rfl rfl rfl rfl tsz68 (Ones.int (Ones.rd hk69 (Ones.int (Ones.int Ones.nil)))) rfl rfl HM) ?_
          rintro w72 HM
          refine ops_nil (at_then (run_seq ?_))
          obtain ⟨t14, h73, ho62⟩ := bind_some ho62
          refine run_region rfl (oy rfl (ldN rfl rfl U68 rfl tsz68 ((HM.box_at 0 rfl).subL 0 4 rfl) rfl) (oz rfl (does_callk rfl callok41 rfl (impl_outFault.calls (x0 := (gt x0.fOuts a13)) (HM.rd hk69) h73)) ?_))
          rintro _ w74 ⟨rfl, hn⟩
          replace HM := HM.callN hn rfl
          refine oM rfl (ops_nil (at_then (run_seq (run_region rfl (oM rfl (oy rfl (ex_neq rfl rfl rfl) (ops_nil (at_then (run_cond (b := (t14 != 0)) rfl (fun hb75 => ?_) (fun hb75 => ?_))))))))))
          ·replace ho62 := cond_t hb75 ho62
           refine run_seq (run_region rfl (oM rfl (oM rfl (ops_nil (at_then (run_ret (at_block_ret (at_then_ret (at_then_ret (at_block_ret ?_))))))))))
           refine at_then_ret ?_
           replace HM := (HM.frd 0 rfl).frd 0 rfl
           cases ho62
           have hT := thn_inl H
           cases hT
           exact at_ret1 rfl rfl ⟨_, rfl, rfl, HM⟩
          ·replace ho62 := cond_f hb75 ho62
           refine run_skip (at_block (at_then (run_region rfl (oy rfl (ex_add rfl rfl rfl) (oM rfl (ops_nil ?_))))))
           replace HM := HM.frd 0 rfl
           exact at_again k63 (Nat.lt_succ_self _) ⟨_, ho62, rfl, HM⟩ (Sub.of rfl)
         ·replace ho62 := cond_f hb65 ho62
          exact run_exit (at_then_exit (at_then_exit (at_block_exit (at_mid ⟨(sj ho62), rfl, HM⟩ (Sub.of rfl)))))
        ·rintro _ w76 ⟨rfl, rfl, HM⟩
         replace H := (thn_inr H)
         refine run_seq (run_seq ?_)
         obtain ⟨e77, H⟩ := chk_some H
         refine run_meet (fun ρ_ w_ => ρ_ = [(87, .bool ((x0.fKind == 1) && (decide (((gt x0.fOuts (0 : Int)).fValue) < 100))))] ∧ Mem w [] w_ []) ?_ ?_
         ·refine run_region rfl (oy rfl (ex_fieldAddr (off' := 0) rfl rfl U28 rfl tsz2 rfl) (oy rfl (ex_load1 rfl rfl U2 rfl ((HM.box_at 0 rfl) 0 _ rfl)) (oy rfl (ex_eql rfl rfl rfl) (oM rfl ?_))))
          refine bool_cases (x0.fKind == 1) (fun hg78 => ?_) (fun hg78 => ?_)
          ·refine gn rfl hg78 (ex_fieldAddr (off' := 3) rfl rfl U28 rfl tsz26 rfl) (gn rfl hg78 (ex_load1 rfl rfl U26 rfl ((HM.box_at 0 rfl) 3 _ rfl)) ?_)
           obtain ⟨kv79, hc80, hk81⟩ := rd_with1 hp0_1 (or_t e77 hg78)
           refine gn rfl hg78 (ex_indexAddr (d := kOut) rfl rfl rfl U26 tsz68 hp0_1 (idx_lo (or_t e77 hg78)) (idx_hi (or_t e77 hg78))) (gn rfl hg78 (ex_fieldAddr (off' := so p0_1 + ((0 : Int)).toNat * 4) rfl rfl U68 rfl tsz2 rfl) (gn rfl hg78 (ex_load1 rfl rfl U2 rfl ((HM.at_ hc80) 0 _ rfl)) (gn rfl hg78 (ex_lss rfl rfl rfl) (ops_ex (v := .bool ((x0.fKind == 1) && (decide (((gt x0.fOuts (0 : Int)).fValue) < 100)))) rfl (guard_none rfl) rfl rfl (ex_pand_t rfl rfl hg78 rfl) (ops_nil ?_)))))
           replace HM := HM.frd 0 rfl
           exact at_meet _ ⟨rfl, HM⟩ (Sub.of rfl)
          ·refine gf rfl hg78 (gf rfl hg78 (gf rfl hg78 (gf rfl hg78 (gf rfl hg78 (gf rfl hg78 ?_)))))
           have hg82 : ((x0.fKind == 1) && (decide (((gt x0.fOuts (0 : Int)).fValue) < 100))) = false := by simp only [hg78, Bool.and_true, Bool.true_and, Bool.and_false, Bool.false_and, Bool.or_true, Bool.true_or, Bool.or_false, Bool.false_or, Bool.not_true, Bool.not_false, Bool.not_not]
           refine ops_ex (v := .bool ((x0.fKind == 1) && (decide (((gt x0.fOuts (0 : Int)).fValue) < 100)))) rfl (guard_none rfl) rfl rfl (ex_pand_f rfl rfl hg78) (ops_nil ?_)
           replace HM := HM.frd 0 rfl
           exact at_meet _ ⟨rfl, HM⟩ (Sub.of rfl)
         ·rintro _ w83 ⟨rfl, HM⟩
          refine at_then (run_cond (b := ((x0.fKind == 1) && (decide (((gt x0.fOuts (0 : Int)).fValue) < 100)))) rfl (fun hb84 => ?_) (fun hb84 => ?_))
          ·replace H := cond_t hb84 H
           refine run_seq (run_region rfl (oM rfl (ops_nil (at_then (run_ret (at_then_ret ?_))))))
           cases H
           exact at_ret1 rfl rfl ⟨_, rfl, rfl, HM⟩
          ·replace H := cond_f hb84 H
           refine run_skip (at_then (run_seq (run_region rfl (oM rfl (ops_nil (at_then (run_ret ?_)))))))
           cases H
           exact at_ret1 rfl rfl ⟨_, rfl, rfl, HM⟩

def impl_findCoin_1.f (k : Nat) (x0 : Coin) (x1 : Ref) : Option Int := ((impl_compareRefs.f k x0.fRef x1).bind fun t10 => some t10)
theorem impl_findCoin_1.calls {k : Nat} {x0 : Coin} {x1 : Ref} {p0_0 : Value} {w : World} (hp0_0 : RdS kInt w p0_0 x0.fOut.fRule.fKeys) {r : Int} (H : impl_findCoin_1.f k x0 x1 = some r) :
  Calls Tryz.prog 63 ([.agg #[(nI x0.fRef.fTx), (nI x0.fRef.fAt), (nI x0.fOut.fValue), p0_0, (nI x0.fOut.fRule.fNeed), (nI x0.fOut.fRule.fAfter), (nI x0.fHeight), (.bool x0.fMined)], .agg #[(nI x1.fTx), (nI x1.fAt)]] : List Value).toArray w (fun e w_ => ∃ v, e = .returned v ∧ v = (nI r) ∧ Mem w [] w_ []) := by
 have HM := Mem.start w
 refine calls_run (N := 9) Tryz.func63 rfl rfl rfl rfl ?_
 unfold impl_findCoin_1.f at H
 refine run_seq (run_region rfl (oz rfl (does_box (cs := [nI x0.fRef.fTx, nI x0.fRef.fAt, nI x0.fOut.fValue, p0_0, nI x0.fOut.fRule.fNeed, nI x0.fOut.fRule.fAfter, nI x0.fHeight, .bool x0.fMined]) rfl rfl rfl HM) ?_))
 rintro _ w11 ⟨b12, rfl, HM⟩
 refine oz rfl (does_box (cs := [nI x1.fTx, nI x1.fAt]) rfl rfl rfl HM) ?_
 rintro _ w13 ⟨b14, rfl, HM⟩
 refine oM rfl (ops_nil (at_then (run_seq ?_)))
 obtain ⟨t10, h15, H⟩ := bind_some H
 refine run_region rfl (oy rfl (ex_fieldAddr (off' := 0) rfl rfl U70 rfl tsz38 rfl) (oy rfl (ldN rfl rfl U38 rfl tsz38 ((HM.box_at 1 rfl).subL 0 2 rfl) rfl) (oy rfl (ldN rfl rfl U38 rfl tsz38 ((HM.box_at 0 rfl).subL 0 2 rfl) rfl) (oz rfl (does_callk rfl callok33 rfl (impl_compareRefs.calls (x0 := x0.fRef) (x1 := x1) h15)) ?_))))
 rintro _ w16 ⟨rfl, hn⟩
 replace HM := HM.callN hn rfl
 refine oM rfl (ops_nil (at_then (run_ret ?_)))
 replace HM := (HM.frd 0 rfl).frd 0 rfl
 cases H
 exact at_ret1 rfl rfl ⟨_, rfl, rfl, HM⟩

def slices_BinarySearchFunc_impl_Coin.l0 (x0 : List Coin) (x1 : Ref) : Nat → Int → Int → Option Int
 | 0, _, _ => none
 | k + 1, a10, a11 => (bif (decide (a10 < a11)) then (chk (decide (0 ≤ (1 : Int)) && decide ((1 : Int) ≤ IntKind.u64.bits)) (chk (idxOk (wrap64 ((IntKind.u64.wrap (wrap64 (a10 + a11))) / 2 ^ ((1 : Int)).toNat)) x0.length) ((impl_findCoin_1.f k (gt x0 (wrap64 ((IntKind.u64.wrap (wrap64 (a10 + a11))) / 2 ^ ((1 : Int)).toNat))) x1).bind fun t12 => (bif (decide (t12 < 0)) then slices_BinarySearchFunc_impl_Coin.l0 x0 x1 k (wrap64 ((wrap64 ((IntKind.u64.wrap (wrap64 (a10 + a11))) / 2 ^ ((1 : Int)).toNat)) + 1)) a11 else slices_BinarySearchFunc_impl_Coin.l0 x0 x1 k a10 (wrap64 ((IntKind.u64.wrap (wrap64 (a10 + a11))) / 2 ^ ((1 : Int)).toNat)))))) else some a10)
def slices_BinarySearchFunc_impl_Coin.f (k : Nat) (x0 : List Coin) (x1 : Ref) : Option (Int × Bool) := ((slices_BinarySearchFunc_impl_Coin.l0 x0 x1 k 0 (x0.length : Int)).bind (fun a13 => (chk (!(decide (a13 < (x0.length : Int))) || (idxOk a13 x0.length)) ((bif (decide (a13 < (x0.length : Int))) then impl_findCoin_1.f k (gt x0 a13) x1 else some default).bind fun t14 => some (a13, ((decide (a13 < (x0.length : Int))) && (t14 == 0)))))))
theorem slices_BinarySearchFunc_impl_Coin.calls {k : Nat} {x0 : List Coin} {x1 : Ref} {p0 : Value} {w : World} (hp0 : RdS kCoin w p0 x0) {r : Int × Bool} (H : slices_BinarySearchFunc_impl_Coin.f k x0 x1 = some r) :
  Calls Tryz.prog 62 ([p0, .agg #[(nI x1.fTx), (nI x1.fAt)], .func (.func 63) #[] #[]] : List Value).toArray w (fun e w_ => ∃ v, e = .returned v ∧ v = (.tuple #[nI r.1, .bool r.2]) ∧ Mem w [] w_ []) := by
 have HM := Mem.start w
 refine calls_run (N := 49) Tryz.func62 rfl rfl rfl rfl ?_
 unfold slices_BinarySearchFunc_impl_Coin.f at H
 refine run_seq (run_region rfl (oz rfl (does_box (cs := [nI x1.fTx, nI x1.fAt]) rfl rfl rfl HM) ?_))
 rintro _ w15 ⟨b16, rfl, HM⟩
 refine oM rfl (oM rfl (ops_nil (at_then (run_seq (run_region rfl (oM rfl (oy rfl (ex_len (d := kCoin) (xs := x0) rfl rfl U24 hp0) (oM rfl (ops_nil (at_then (run_seq (run_region rfl (oM rfl ?_)))))))))))))
 refine oM rfl (oM rfl (ops_nil (at_then ?_)))
 obtain ⟨o17, ho18, H⟩ := bind_some H
 refine run_mid (fun ρ_ w_ => ∃ a13 : Int, a13 = o17 ∧ ρ_ = [(0, p0), (2, .func (.func 63) #[] #[]), (4, pA b16 0), (8, nI (x0.length : Int)), (9, nI a13)] ∧ Mem w [] w_ [box b16 38 [nI x1.fTx, nI x1.fAt]]) ?_ ?_
 ·clear H
  refine run_block ?_
  refine run_loop (fun k_ ρ_ w_ => ∃ a10 : Int, ∃ a11 : Int, slices_BinarySearchFunc_impl_Coin.l0 x0 x1 k_ a10 a11 = some o17 ∧ ρ_ = [(0, p0), (2, .func (.func 63) #[] #[]), (4, pA b16 0), (8, nI (x0.length : Int)), (9, nI a10), (10, nI a11)] ∧ Mem w [] w_ [box b16 38 [nI x1.fTx, nI x1.fAt]]) k ⟨_, _, ho18, rfl, HM⟩ (Sub.of rfl) ?_
  clear HM ho18
  rintro k19 _ w20 ⟨a10, a11, ho18, rfl, HM⟩
  obtain _ | k19 := k19
  ·exact nomatch ((slices_BinarySearchFunc_impl_Coin.l0.eq_1 x0 x1 a10 a11).symm.trans ho18)
  replace ho18 := (slices_BinarySearchFunc_impl_Coin.l0.eq_2 ..).symm.trans ho18
  refine run_seq (run_seq (run_region rfl (oM rfl (oM rfl (oy rfl (ex_lss rfl rfl rfl) (ops_nil (at_then (run_cond (b := (decide (a10 < a11))) rfl (fun hb21 => ?_) (fun hb21 => ?_)))))))))
  ·replace ho18 := cond_t hb21 ho18
   refine run_skip (at_then (run_block (run_seq ?_)))
   obtain ⟨e22, ho18⟩ := chk_some ho18
   refine run_region rfl (oM rfl (oM rfl (oy rfl (ex_add rfl rfl rfl) (oy rfl (ex_conv rfl rfl (by rw [U3]; rfl) U133) ?_))))
   refine oy rfl (ex_shr rfl rfl rfl e22) (oy rfl (ex_conv64 rfl rfl (by rw [U133]; rfl) U3) ?_)
   refine oM rfl (ops_nil (at_then (run_seq ?_)))
   obtain ⟨e23, ho18⟩ := chk_some ho18
   obtain ⟨t12, h24, ho18⟩ := bind_some ho18
   refine run_drawf (fun w_ => Mem w [] w_ [box b16 38 [nI x1.fTx, nI x1.fAt]]) [(0, true), (1, true), (2, true), (3, true), (4, true), (5, true), (6, false), (7, true)] mixed rfl rfl (by kernel_rfl) ?_
   replace HM := HM.grow (fr_drew _)
   have hS := HM.sufN 0 rfl
   refine dp rfl rfl rfl rfl (ex_move rfl rfl) hS (dp rfl rfl rfl rfl (ex_move rfl rfl) hS (dp rfl rfl rfl rfl (ex_move rfl rfl) hS ?_))
   obtain ⟨kv25, hc26, hk27⟩ := rd_with1 hp0 e23
   refine dp rfl rfl rfl rfl (ex_indexAddr (d := kCoin) rfl rfl rfl U24 tsz70 hp0 (idx_lo e23) (idx_hi e23)) hS (drwp_take rfl (guard_none rfl) rfl rfl (fun w_ hS_ => (ldN rfl rfl U70 rfl tsz70 ((hS_.at_ hc26).subL 0 8 rfl) rfl)) hS (drwp_take rfl (guard_none rfl) rfl rfl (fun w_ hS_ => (ldN rfl rfl U38 rfl tsz38 ((hS_.box_at 0 rfl).subL 0 2 rfl) rfl)) hS (drwp_one rfl (guard_none rfl) rfl rfl (does_callvk rfl callok63 rfl rfl rfl (impl_findCoin_1.calls (x0 := (gt x0 (wrap64 ((IntKind.u64.wrap (wrap64 (a10 + a11))) / 2 ^ ((1 : Int)).toNat)))) (x1 := x1) (HM.rd hk27) h24)) ?_)))
   rintro _ w28 ⟨rfl, hn⟩
   replace HM := HM.callN hn rfl
   have hS := HM.sufN 0 rfl
   refine ⟨hS, (dp rfl rfl rfl rfl (ex_lss rfl rfl rfl) hS (drwp_done (at_then (run_cond (b := (decide (t12 < 0))) rfl (fun hb29 => ?_) (fun hb29 => ?_)))))⟩
   ·replace ho18 := cond_t hb29 ho18
    exact run_region rfl (oM rfl (oy rfl (ex_add rfl rfl rfl) (oM rfl (ops_nil (at_block (at_again k19 (Nat.lt_succ_self _) ⟨_, _, ho18, rfl, HM⟩ (Sub.of rfl)))))))
   ·replace ho18 := cond_f hb29 ho18
    exact run_region rfl (oM rfl (oM rfl (ops_nil (at_block (at_again k19 (Nat.lt_succ_self _) ⟨_, _, ho18, rfl, HM⟩ (Sub.of rfl))))))
  ·replace ho18 := cond_f hb21 ho18
   exact run_exit (at_then_exit (at_then_exit (at_block_exit (at_mid ⟨_, (sj ho18), rfl, HM⟩ (Sub.of rfl)))))
 ·rintro _ w30 ⟨a13, rfl, rfl, HM⟩
  refine run_seq ?_
  obtain ⟨e31, H⟩ := chk_some H
  obtain ⟨t14, h32, H⟩ := bind_some H
  refine run_meet (fun ρ_ w_ => ρ_ = [(6, nI a13), (7, .bool ((decide (a13 < (x0.length : Int))) && (t14 == 0)))] ∧ Mem w [] w_ []) ?_ ?_
  ·refine run_drawf (fun w_ => Mem w [] w_ [box b16 38 [nI x1.fTx, nI x1.fAt]]) [(0, true), (1, true), (2, true), (3, true), (4, true), (5, true), (6, true), (7, true), (8, true), (9, true), (10, true), (11, false), (12, true), (13, true), (14, true), (15, true)] mixed rfl rfl (by kernel_rfl) ?_
   replace HM := HM.grow (fr_drew _)
   have hS := HM.sufN 0 rfl
   refine dp rfl rfl rfl rfl (ex_move rfl rfl) hS (dp rfl rfl rfl rfl (ex_move rfl rfl) hS (dp rfl rfl rfl rfl (ex_move rfl rfl) hS (dp rfl rfl rfl rfl (ex_lss rfl rfl rfl) hS (dp rfl rfl rfl rfl (ex_move rfl rfl) hS ?_))))
   refine bool_cases (decide (a13 < (x0.length : Int))) (fun hg33 => ?_) (fun hg33 => ?_)
   ·refine drwp_take rfl (guard_on rfl rfl rfl hg33) rfl rfl (fun w_ hS_ => (ex_move rfl rfl)) hS (drwp_take rfl (guard_on rfl rfl rfl hg33) rfl rfl (fun w_ hS_ => (ex_move rfl rfl)) hS (drwp_take rfl (guard_on rfl rfl rfl hg33) rfl rfl (fun w_ hS_ => (ex_move rfl rfl)) hS ?_))
    obtain ⟨kv34, hc35, hk36⟩ := rd_with1 hp0 (or_t e31 hg33)
    refine drwp_take rfl (guard_on rfl rfl rfl hg33) rfl rfl (fun w_ hS_ => (ex_indexAddr (d := kCoin) rfl rfl rfl U24 tsz70 hp0 (idx_lo (or_t e31 hg33)) (idx_hi (or_t e31 hg33)))) hS (drwp_take rfl (guard_on rfl rfl rfl hg33) rfl rfl (fun w_ hS_ => (ldN rfl rfl U70 rfl tsz70 ((hS_.at_ hc35).subL 0 8 rfl) rfl)) hS (drwp_take rfl (guard_on rfl rfl rfl hg33) rfl rfl (fun w_ hS_ => (ldN rfl rfl U38 rfl tsz38 ((hS_.box_at 0 rfl).subL 0 2 rfl) rfl)) hS (drwp_one rfl (guard_on rfl rfl rfl hg33) rfl rfl (does_callvk rfl callok63 rfl rfl rfl (impl_findCoin_1.calls (x0 := (gt x0 a13)) (x1 := x1) (HM.rd hk36) (cond_t hg33 h32))) ?_)))
    rintro _ w37 ⟨rfl, hn⟩
    replace HM := HM.callN hn rfl
    have hS := HM.sufN 0 rfl
    refine ⟨hS, (drwp_take rfl (guard_on rfl rfl rfl hg33) rfl rfl (fun w_ hS_ => (ex_eql rfl rfl rfl)) hS (drwp_take (v := .bool ((decide (a13 < (x0.length : Int))) && (t14 == 0))) rfl (guard_none rfl) rfl rfl (fun w_ hS_ => (ex_pand_t rfl rfl hg33 rfl)) hS (dp rfl rfl rfl rfl (ex_assign rfl rfl) hS (dp rfl rfl rfl rfl (ex_assign rfl rfl) hS (drwp_done ?_)))))⟩
    replace HM := HM.frd 0 rfl
    exact at_meet _ ⟨rfl, HM⟩ (Sub.of rfl)
   ·refine drwp_off rfl (guard_off rfl rfl rfl hg33) rfl rfl hS (drwp_off rfl (guard_off rfl rfl rfl hg33) rfl rfl hS (drwp_off rfl (guard_off rfl rfl rfl hg33) rfl rfl hS (drwp_off rfl (guard_off rfl rfl rfl hg33) rfl rfl hS (drwp_off rfl (guard_off rfl rfl rfl hg33) rfl rfl hS (drwp_off rfl (guard_off rfl rfl rfl hg33) rfl rfl hS (drwp_off1 rfl (guard_off rfl rfl rfl hg33) rfl rfl ⟨hS, (drwp_off rfl (guard_off rfl rfl rfl hg33) rfl rfl hS ?_)⟩))))))
    have hg38 : ((decide (a13 < (x0.length : Int))) && (t14 == 0)) = false := by simp only [hg33, Bool.and_true, Bool.true_and, Bool.and_false, Bool.false_and, Bool.or_true, Bool.true_or, Bool.or_false, Bool.false_or, Bool.not_true, Bool.not_false, Bool.not_not]
    refine drwp_take (v := .bool ((decide (a13 < (x0.length : Int))) && (t14 == 0))) rfl (guard_none rfl) rfl rfl (fun w_ hS_ => (ex_pand_f rfl rfl hg33)) hS (dp rfl rfl rfl rfl (ex_assign rfl rfl) hS (dp rfl rfl rfl rfl (ex_assign rfl rfl) hS (drwp_done ?_)))
    replace HM := HM.frd 0 rfl
    exact at_meet _ ⟨rfl, HM⟩ (Sub.of rfl)
  ·rintro _ w39 ⟨rfl, HM⟩
   refine at_then (run_ret ?_)
   cases H
   exact at_ret2 rfl rfl rfl ⟨_, rfl, rfl, HM⟩
end Go.Proofs.YtecgbhfgkkpmhacGreat.Zk
