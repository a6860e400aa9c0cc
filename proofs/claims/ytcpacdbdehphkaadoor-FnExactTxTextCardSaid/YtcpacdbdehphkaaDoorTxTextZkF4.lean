/- What functions of the program compute, each as a plain function, and that they do. Conditions: as each theorem states them. -/
import Derived.Test.YtcpacdbdehphkaaDoorTxTextZkF3
namespace Go.Proofs.YtcpacdbdehphkaaDoor.Zk
open Go Go.RowKit Go.IntWalk Go.Proofs
set_option linter.unusedVariables false
set_option linter.unusedSimpArgs false
set_option maxRecDepth 100000
set_option maxHeartbeats 4000000
def impl_TxFault.l0 (x0 : Tx) : Nat → Int → Option (Int ⊕ Unit)
  | 0, _ => none
  | k + 1, a2554 => (bif (decide (a2554 < (x0.fIns.length : Int))) then (chk (idxOk a2554 x0.fIns.length) ((impl_isRef.f k (gt x0.fIns a2554)).bind fun t2587 => (bif !t2587 then some (.inl 3) else (chk (cutOk a2554 x0.fIns.length) ((slices_Contains_impl_Ref.f k (x0.fIns.take (a2554).toNat) (gt x0.fIns a2554)).bind fun t2595 => (bif t2595 then some (.inl 7) else impl_TxFault.l0 x0 k (wrap64 (a2554 + 1)))))))) else some (.inr ()))
theorem impl_TxFault.l0_z (x0 : Tx) (a2554 : Int) : impl_TxFault.l0 x0 0 a2554 = none := rfl
theorem impl_TxFault.l0_s (x0 : Tx) (k : Nat) (a2554 : Int) : impl_TxFault.l0 x0 (k + 1) a2554 = (bif (decide (a2554 < (x0.fIns.length : Int))) then (chk (idxOk a2554 x0.fIns.length) ((impl_isRef.f k (gt x0.fIns a2554)).bind fun t2587 => (bif !t2587 then some (.inl 3) else (chk (cutOk a2554 x0.fIns.length) ((slices_Contains_impl_Ref.f k (x0.fIns.take (a2554).toNat) (gt x0.fIns a2554)).bind fun t2595 => (bif t2595 then some (.inl 7) else impl_TxFault.l0 x0 k (wrap64 (a2554 + 1)))))))) else some (.inr ())) := rfl
def impl_TxFault.l1 (x0 : Tx) : Nat → Int → Option (Int ⊕ Unit)
  | 0, _ => none
  | k + 1, a2647 => (bif (decide (a2647 < (x0.fOuts.length : Int))) then (chk (idxOk a2647 x0.fOuts.length) ((impl_outFault.f k (gt x0.fOuts a2647)).bind fun t2671 => (bif (t2671 != 0) then some (.inl t2671) else impl_TxFault.l1 x0 k (wrap64 (a2647 + 1))))) else some (.inr ()))
theorem impl_TxFault.l1_z (x0 : Tx) (a2647 : Int) : impl_TxFault.l1 x0 0 a2647 = none := rfl
theorem impl_TxFault.l1_s (x0 : Tx) (k : Nat) (a2647 : Int) : impl_TxFault.l1 x0 (k + 1) a2647 = (bif (decide (a2647 < (x0.fOuts.length : Int))) then (chk (idxOk a2647 x0.fOuts.length) ((impl_outFault.f k (gt x0.fOuts a2647)).bind fun t2671 => (bif (t2671 != 0) then some (.inl t2671) else impl_TxFault.l1 x0 k (wrap64 (a2647 + 1))))) else some (.inr ())) := rfl
def impl_TxFault.f (k : Nat) (x0 : Tx) : Option Int := ((impl_within.f k x0.fKind 0 2).bind fun t2451 => (bif ((!t2451) || ((x0.fKind == 0) != (x0.fMember == 0))) then some 1 else ((bif (x0.fMember != 0) then impl_isKey.f k x0.fMember else some default).bind fun t2458 => (bif ((x0.fMember != 0) && (!t2458)) then some 3 else ((impl_TxFault_1.f k (x0.fIns.length : Int)).bind fun t2465 => ((bif (!t2465) then impl_TxFault_1.f k (x0.fOuts.length : Int) else some default).bind fun t2467 => (bif (t2465 || t2467) then some 2 else ((impl_TxFault.l0 x0 k 0).bind fun o2533 => thn o2533 (fun r => some r) (fun _ => ((impl_TxFault.l1 x0 k 0).bind fun o2634 => thn o2634 (fun r => some r) (fun _ => (chk (!(x0.fKind == 1) || (idxOk (0 : Int) x0.fOuts.length)) (bif ((x0.fKind == 1) && (decide (((gt x0.fOuts (0 : Int)).fValue) < 100))) then some 8 else some 0)))))))))))))
theorem impl_TxFault.calls {k : Nat} {x0 : Tx} {p0_0 : Value} {p0_1 : Value} {w : World} (hp0_0 : RdS kRef w p0_0 x0.fIns) (hp0_1 : RdS kOut w p0_1 x0.fOuts) {r : Int} (H : impl_TxFault.f k x0 = some r) :
    Calls Tryd.prog 35 ([.agg #[(.int .i64 x0.fKind), (.int .i64 x0.fMember), p0_0, p0_1]] : List Value).toArray w (fun e w_ => ∃ v, e = .returned v ∧ v = (.int .i64 r) ∧ Mem w [] w_ []) := by
  have HM := Mem.start w
  refine calls_run (N := 88) Tryd.func35 rfl rfl rfl rfl ?_
  unfold impl_TxFault.f at H
  refine run_seq ?_
  refine run_region rfl ?_
  refine ops_does rfl (guard_none rfl) rfl rfl (does_box (cs := [.int .i64 x0.fKind, .int .i64 x0.fMember, p0_0, p0_1]) rfl rfl rfl HM) ?_
  rintro _ w2439 ⟨b2436, rfl, HM⟩
  refine ops_ex rfl (guard_none rfl) rfl rfl (ex_assign rfl rfl) ?_
  refine ops_nil ?_
  refine at_then ?_
  refine run_seq ?_
  refine run_region rfl ?_
  refine ops_ex rfl (guard_none rfl) rfl rfl (ex_assign rfl rfl) ?_
  refine ops_nil ?_
  refine at_then ?_
  refine run_seq ?_
  refine run_block ?_
  refine run_seq ?_
  obtain ⟨t2451, h2452, H⟩ := bind_some H
  refine run_meet (fun ρ_ w_ => ρ_ = [(1, .pointer (some ⟨b2436, 0, none⟩)), (3, .func (.func 71) #[] #[]), (9, .bool ((!t2451) || ((x0.fKind == 0) != (x0.fMember == 0))))] ∧ Mem w [] w_ [box b2436 33 [.int .i64 x0.fKind, .int .i64 x0.fMember, p0_0, p0_1]]) ?_ ?_
  · skip
    refine run_region rfl ?_
    refine ops_ex rfl (guard_none rfl) rfl rfl (ex_fieldAddr (off' := 0) rfl rfl Tryd.underlying33 rfl tsz2 rfl) ?_
    refine ops_ex rfl (guard_none rfl) rfl rfl (ex_load1 rfl rfl Tryd.underlying2 rfl ((HM.box_at 0 rfl) 0 _ rfl)) ?_
    refine ops_does rfl (guard_none rfl) rfl rfl (does_callk rfl callok54 rfl (impl_within.calls (x0 := x0.fKind) (x1 := 0) (x2 := 2) h2452)) ?_
    rintro _ w2453 ⟨rfl, hn⟩
    replace HM : Mem w [] w2453 [box b2436 33 [.int .i64 x0.fKind, .int .i64 x0.fMember, p0_0, p0_1]] := HM.call hn
    refine ops_ex rfl (guard_none rfl) rfl rfl (ex_not rfl rfl) ?_
    refine ops_ex rfl (guard_none rfl) rfl rfl (ex_move rfl rfl) ?_
    refine bool_cases (!t2451) (fun hg2454 => ?_) (fun hg2454 => ?_)
    · skip
      refine ops_off rfl (guard_off rfl rfl rfl hg2454) rfl rfl ?_
      refine ops_off rfl (guard_off rfl rfl rfl hg2454) rfl rfl ?_
      refine ops_off rfl (guard_off rfl rfl rfl hg2454) rfl rfl ?_
      refine ops_off rfl (guard_off rfl rfl rfl hg2454) rfl rfl ?_
      refine ops_off rfl (guard_off rfl rfl rfl hg2454) rfl rfl ?_
      refine ops_off rfl (guard_off rfl rfl rfl hg2454) rfl rfl ?_
      refine ops_off rfl (guard_off rfl rfl rfl hg2454) rfl rfl ?_
      have hg2455 : ((!t2451) || ((x0.fKind == 0) != (x0.fMember == 0))) = true := by simp only [hg2454, Bool.and_true, Bool.true_and, Bool.and_false, Bool.false_and, Bool.or_true, Bool.true_or, Bool.or_false, Bool.false_or, Bool.not_true, Bool.not_false, Bool.not_not]
      refine ops_ex (v := .bool ((!t2451) || ((x0.fKind == 0) != (x0.fMember == 0)))) rfl (guard_none rfl) rfl rfl (ex_por_t rfl rfl hg2454) ?_
      refine ops_ex rfl (guard_none rfl) rfl rfl (ex_assign rfl rfl) ?_
      refine ops_nil ?_
      exact at_meet [(1, .pointer (some ⟨b2436, 0, none⟩)), (3, .func (.func 71) #[] #[]), (9, .bool ((!t2451) || ((x0.fKind == 0) != (x0.fMember == 0))))] ⟨rfl, HM⟩ (Sub.cons rfl (Sub.cons rfl (Sub.cons rfl Sub.nil)))
    · skip
      refine ops_ex rfl (guard_on rfl rfl rfl hg2454) rfl rfl (ex_fieldAddr (off' := 0) rfl rfl Tryd.underlying33 rfl tsz2 rfl) ?_
      refine ops_ex rfl (guard_on rfl rfl rfl hg2454) rfl rfl (ex_load1 rfl rfl Tryd.underlying2 rfl ((HM.box_at 0 rfl) 0 _ rfl)) ?_
      refine ops_ex rfl (guard_on rfl rfl rfl hg2454) rfl rfl (ex_eql rfl rfl rfl) ?_
      refine ops_ex rfl (guard_on rfl rfl rfl hg2454) rfl rfl (ex_fieldAddr (off' := 1) rfl rfl Tryd.underlying33 rfl tsz2 rfl) ?_
      refine ops_ex rfl (guard_on rfl rfl rfl hg2454) rfl rfl (ex_load1 rfl rfl Tryd.underlying2 rfl ((HM.box_at 0 rfl) 1 _ rfl)) ?_
      refine ops_ex rfl (guard_on rfl rfl rfl hg2454) rfl rfl (ex_eql rfl rfl rfl) ?_
      refine ops_ex rfl (guard_on rfl rfl rfl hg2454) rfl rfl (ex_bneq rfl rfl rfl Tryd.underlying4) ?_
      refine ops_ex (v := .bool ((!t2451) || ((x0.fKind == 0) != (x0.fMember == 0)))) rfl (guard_none rfl) rfl rfl (ex_por_f rfl rfl hg2454 rfl) ?_
      refine ops_ex rfl (guard_none rfl) rfl rfl (ex_assign rfl rfl) ?_
      refine ops_nil ?_
      exact at_meet [(1, .pointer (some ⟨b2436, 0, none⟩)), (3, .func (.func 71) #[] #[]), (9, .bool ((!t2451) || ((x0.fKind == 0) != (x0.fMember == 0))))] ⟨rfl, HM⟩ (Sub.cons rfl (Sub.cons rfl (Sub.cons rfl Sub.nil)))
  · rintro _ w2456 ⟨rfl, HM⟩
    refine at_then ?_
    refine run_cond (b := ((!t2451) || ((x0.fKind == 0) != (x0.fMember == 0)))) rfl (fun hb2457 => ?_) (fun hb2457 => ?_)
    · replace H := cond_t hb2457 H
      refine run_seq ?_
      refine run_region rfl ?_
      refine ops_ex rfl (guard_none rfl) rfl rfl (ex_assign rfl rfl) ?_
      refine ops_nil ?_
      refine at_then ?_
      refine run_ret ?_
      refine at_block_ret ?_
      refine at_then_ret ?_
      replace HM := (HM.front 0 rfl rfl).drop
      have hR := Option.some.inj H
      subst hR
      exact at_ret1 rfl rfl ⟨_, rfl, rfl, HM⟩
    · replace H := cond_f hb2457 H
      refine run_seq ?_
      obtain ⟨t2458, h2459, H⟩ := bind_some H
      refine run_meet (fun ρ_ w_ => ρ_ = [(1, .pointer (some ⟨b2436, 0, none⟩)), (3, .func (.func 71) #[] #[]), (23, .bool ((x0.fMember != 0) && (!t2458)))] ∧ Mem w [] w_ [box b2436 33 [.int .i64 x0.fKind, .int .i64 x0.fMember, p0_0, p0_1]]) ?_ ?_
      · skip
        refine run_region rfl ?_
        refine ops_ex rfl (guard_none rfl) rfl rfl (ex_fieldAddr (off' := 1) rfl rfl Tryd.underlying33 rfl tsz2 rfl) ?_
        refine ops_ex rfl (guard_none rfl) rfl rfl (ex_load1 rfl rfl Tryd.underlying2 rfl ((HM.box_at 0 rfl) 1 _ rfl)) ?_
        refine ops_ex rfl (guard_none rfl) rfl rfl (ex_neq rfl rfl rfl) ?_
        refine ops_ex rfl (guard_none rfl) rfl rfl (ex_move rfl rfl) ?_
        refine bool_cases (x0.fMember != 0) (fun hg2460 => ?_) (fun hg2460 => ?_)
        · skip
          refine ops_ex rfl (guard_on rfl rfl rfl hg2460) rfl rfl (ex_fieldAddr (off' := 1) rfl rfl Tryd.underlying33 rfl tsz2 rfl) ?_
          refine ops_ex rfl (guard_on rfl rfl rfl hg2460) rfl rfl (ex_load1 rfl rfl Tryd.underlying2 rfl ((HM.box_at 0 rfl) 1 _ rfl)) ?_
          refine ops_does rfl (guard_on rfl rfl rfl hg2460) rfl rfl (does_callk rfl callok55 rfl (impl_isKey.calls (x0 := x0.fMember) (cond_t hg2460 h2459))) ?_
          rintro _ w2461 ⟨rfl, hn⟩
          replace HM : Mem w [] w2461 [box b2436 33 [.int .i64 x0.fKind, .int .i64 x0.fMember, p0_0, p0_1]] := HM.call hn
          refine ops_ex rfl (guard_on rfl rfl rfl hg2460) rfl rfl (ex_not rfl rfl) ?_
          refine ops_ex (v := .bool ((x0.fMember != 0) && (!t2458))) rfl (guard_none rfl) rfl rfl (ex_pand_t rfl rfl hg2460 rfl) ?_
          refine ops_ex rfl (guard_none rfl) rfl rfl (ex_assign rfl rfl) ?_
          refine ops_nil ?_
          exact at_meet [(1, .pointer (some ⟨b2436, 0, none⟩)), (3, .func (.func 71) #[] #[]), (23, .bool ((x0.fMember != 0) && (!t2458)))] ⟨rfl, HM⟩ (Sub.cons rfl (Sub.cons rfl (Sub.cons rfl Sub.nil)))
        · skip
          refine ops_off rfl (guard_off rfl rfl rfl hg2460) rfl rfl ?_
          refine ops_off rfl (guard_off rfl rfl rfl hg2460) rfl rfl ?_
          refine ops_off rfl (guard_off rfl rfl rfl hg2460) rfl rfl ?_
          refine ops_off rfl (guard_off rfl rfl rfl hg2460) rfl rfl ?_
          have hg2462 : ((x0.fMember != 0) && (!t2458)) = false := by simp only [hg2460, Bool.and_true, Bool.true_and, Bool.and_false, Bool.false_and, Bool.or_true, Bool.true_or, Bool.or_false, Bool.false_or, Bool.not_true, Bool.not_false, Bool.not_not]
          refine ops_ex (v := .bool ((x0.fMember != 0) && (!t2458))) rfl (guard_none rfl) rfl rfl (ex_pand_f rfl rfl hg2460) ?_
          refine ops_ex rfl (guard_none rfl) rfl rfl (ex_assign rfl rfl) ?_
          refine ops_nil ?_
          exact at_meet [(1, .pointer (some ⟨b2436, 0, none⟩)), (3, .func (.func 71) #[] #[]), (23, .bool ((x0.fMember != 0) && (!t2458)))] ⟨rfl, HM⟩ (Sub.cons rfl (Sub.cons rfl (Sub.cons rfl Sub.nil)))
      · rintro _ w2463 ⟨rfl, HM⟩
        refine at_then ?_
        refine run_cond (b := ((x0.fMember != 0) && (!t2458))) rfl (fun hb2464 => ?_) (fun hb2464 => ?_)
        · replace H := cond_t hb2464 H
          refine run_seq ?_
          refine run_region rfl ?_
          refine ops_ex rfl (guard_none rfl) rfl rfl (ex_assign rfl rfl) ?_
          refine ops_nil ?_
          refine at_then ?_
          refine run_ret ?_
          refine at_block_ret ?_
          refine at_then_ret ?_
          replace HM := (HM.front 0 rfl rfl).drop
          have hR := Option.some.inj H
          subst hR
          exact at_ret1 rfl rfl ⟨_, rfl, rfl, HM⟩
        · replace H := cond_f hb2464 H
          refine run_seq ?_
          obtain ⟨t2465, h2466, H⟩ := bind_some H
          obtain ⟨t2467, h2468, H⟩ := bind_some H
          refine run_meet (fun ρ_ w_ => ρ_ = [(1, .pointer (some ⟨b2436, 0, none⟩)), (33, .bool (t2465 || t2467))] ∧ Mem w [] w_ [box b2436 33 [.int .i64 x0.fKind, .int .i64 x0.fMember, p0_0, p0_1]]) ?_ ?_
          · skip
            refine run_region rfl ?_
            refine ops_ex rfl (guard_none rfl) rfl rfl (ex_move rfl rfl) ?_
            refine ops_ex rfl (guard_none rfl) rfl rfl (ex_fieldAddr (off' := 2) rfl rfl Tryd.underlying33 rfl tsz30 rfl) ?_
            refine ops_ex rfl (guard_none rfl) rfl rfl (ex_load1 rfl rfl Tryd.underlying30 rfl ((HM.box_at 0 rfl) 2 _ rfl)) ?_
            refine ops_ex rfl (guard_none rfl) rfl rfl (ex_len (d := kRef) (xs := x0.fIns) rfl rfl Tryd.underlying30 hp0_0) ?_
            refine ops_does rfl (guard_none rfl) rfl rfl (does_callvk rfl callok71 rfl rfl rfl (impl_TxFault_1.calls (x0 := (x0.fIns.length : Int)) h2466)) ?_
            rintro _ w2469 ⟨rfl, hn⟩
            replace HM : Mem w [] w2469 [box b2436 33 [.int .i64 x0.fKind, .int .i64 x0.fMember, p0_0, p0_1]] := HM.call hn
            refine ops_ex rfl (guard_none rfl) rfl rfl (ex_move rfl rfl) ?_
            refine bool_cases t2465 (fun hg2470 => ?_) (fun hg2470 => ?_)
            · skip
              refine ops_off rfl (guard_off rfl rfl rfl hg2470) rfl rfl ?_
              refine ops_off rfl (guard_off rfl rfl rfl hg2470) rfl rfl ?_
              refine ops_off rfl (guard_off rfl rfl rfl hg2470) rfl rfl ?_
              refine ops_off rfl (guard_off rfl rfl rfl hg2470) rfl rfl ?_
              refine ops_off rfl (guard_off rfl rfl rfl hg2470) rfl rfl ?_
              have hg2471 : (t2465 || t2467) = true := by simp only [hg2470, Bool.and_true, Bool.true_and, Bool.and_false, Bool.false_and, Bool.or_true, Bool.true_or, Bool.or_false, Bool.false_or, Bool.not_true, Bool.not_false, Bool.not_not]
              refine ops_ex (v := .bool (t2465 || t2467)) rfl (guard_none rfl) rfl rfl (ex_por_t rfl rfl hg2470) ?_
              refine ops_ex rfl (guard_none rfl) rfl rfl (ex_assign rfl rfl) ?_
              refine ops_nil ?_
              exact at_meet [(1, .pointer (some ⟨b2436, 0, none⟩)), (33, .bool (t2465 || t2467))] ⟨rfl, HM⟩ (Sub.cons rfl (Sub.cons rfl Sub.nil))
            · skip
              refine ops_ex rfl (guard_on rfl rfl rfl hg2470) rfl rfl (ex_move rfl rfl) ?_
              refine ops_ex rfl (guard_on rfl rfl rfl hg2470) rfl rfl (ex_fieldAddr (off' := 3) rfl rfl Tryd.underlying33 rfl tsz31 rfl) ?_
              refine ops_ex rfl (guard_on rfl rfl rfl hg2470) rfl rfl (ex_load1 rfl rfl Tryd.underlying31 rfl ((HM.box_at 0 rfl) 3 _ rfl)) ?_
              refine ops_ex rfl (guard_on rfl rfl rfl hg2470) rfl rfl (ex_len (d := kOut) (xs := x0.fOuts) rfl rfl Tryd.underlying31 hp0_1) ?_
              refine ops_does rfl (guard_on rfl rfl rfl hg2470) rfl rfl (does_callvk rfl callok71 rfl rfl rfl (impl_TxFault_1.calls (x0 := (x0.fOuts.length : Int)) (cond_t (not_mk hg2470) h2468))) ?_
              rintro _ w2472 ⟨rfl, hn⟩
              replace HM : Mem w [] w2472 [box b2436 33 [.int .i64 x0.fKind, .int .i64 x0.fMember, p0_0, p0_1]] := HM.call hn
              refine ops_ex (v := .bool (t2465 || t2467)) rfl (guard_none rfl) rfl rfl (ex_por_f rfl rfl hg2470 rfl) ?_
              refine ops_ex rfl (guard_none rfl) rfl rfl (ex_assign rfl rfl) ?_
              refine ops_nil ?_
              exact at_meet [(1, .pointer (some ⟨b2436, 0, none⟩)), (33, .bool (t2465 || t2467))] ⟨rfl, HM⟩ (Sub.cons rfl (Sub.cons rfl Sub.nil))
          · rintro _ w2473 ⟨rfl, HM⟩
            refine at_then ?_
            refine run_cond (b := (t2465 || t2467)) rfl (fun hb2474 => ?_) (fun hb2474 => ?_)
            · replace H := cond_t hb2474 H
              refine run_seq ?_
              refine run_region rfl ?_
              refine ops_ex rfl (guard_none rfl) rfl rfl (ex_assign rfl rfl) ?_
              refine ops_nil ?_
              refine at_then ?_
              refine run_ret ?_
              refine at_block_ret ?_
              refine at_then_ret ?_
              replace HM := (HM.front 0 rfl rfl).drop
              have hR := Option.some.inj H
              subst hR
              exact at_ret1 rfl rfl ⟨_, rfl, rfl, HM⟩
            · replace H := cond_f hb2474 H
              refine run_skip ?_
              refine at_block ?_
              refine at_then ?_
              obtain ⟨o2533, ho2534, H⟩ := bind_some H
              refine run_mid (fun ρ_ w_ => Sum.inr () = o2533 ∧ ρ_ = [(1, .pointer (some ⟨b2436, 0, none⟩))] ∧ Mem w [] w_ [box b2436 33 [.int .i64 x0.fKind, .int .i64 x0.fMember, p0_0, p0_1]]) ?_ ?_
              · skip
                refine run_seq ?_
                refine run_region rfl ?_
                refine ops_ex rfl (guard_none rfl) rfl rfl (ex_fieldAddr (off' := 2) rfl rfl Tryd.underlying33 rfl tsz30 rfl) ?_
                refine ops_ex rfl (guard_none rfl) rfl rfl (ex_load1 rfl rfl Tryd.underlying30 rfl ((HM.box_at 0 rfl) 2 _ rfl)) ?_
                refine ops_ex rfl (guard_none rfl) rfl rfl (ex_len (d := kRef) (xs := x0.fIns) rfl rfl Tryd.underlying30 hp0_0) ?_
                refine ops_ex rfl (guard_none rfl) rfl rfl (ex_move rfl rfl) ?_
                refine ops_nil ?_
                refine at_then ?_
                refine run_block ?_
                refine run_loop (fun k_ ρ_ w_ => ∃ a2554 : Int, impl_TxFault.l0 x0 k_ a2554 = some o2533 ∧ ρ_ = [(1, .pointer (some ⟨b2436, 0, none⟩)), (47, p0_0), (48, .int .i64 (x0.fIns.length : Int)), (49, .int .i64 a2554)] ∧ Mem w [] w_ [box b2436 33 [.int .i64 x0.fKind, .int .i64 x0.fMember, p0_0, p0_1]]) k (ρ1 := [(1, .pointer (some ⟨b2436, 0, none⟩)), (47, p0_0), (48, .int .i64 (x0.fIns.length : Int)), (49, .int .i64 0)]) ⟨_, ho2534, rfl, HM⟩ (Sub.cons rfl (Sub.cons rfl (Sub.cons rfl (Sub.cons rfl Sub.nil)))) ?_
                clear HM ho2534
                rintro k2574 _ w2575 ⟨a2554, ho2534, rfl, HM⟩
                obtain _ | k2574 := k2574
                · exact nomatch ((impl_TxFault.l0_z x0 a2554).symm.trans ho2534)
                replace ho2534 := (impl_TxFault.l0_s x0 k2574 a2554).symm.trans ho2534
                refine run_seq ?_
                refine run_region rfl ?_
                refine ops_ex rfl (guard_none rfl) rfl rfl (ex_lss rfl rfl rfl) ?_
                refine ops_nil ?_
                refine at_then ?_
                refine run_seq ?_
                refine run_cond (b := (decide (a2554 < (x0.fIns.length : Int)))) rfl (fun hb2576 => ?_) (fun hb2576 => ?_)
                · replace ho2534 := cond_t hb2576 ho2534
                  refine run_skip ?_
                  refine at_then ?_
                  refine run_seq ?_
                  refine run_block ?_
                  refine run_seq ?_
                  obtain ⟨e2577, ho2534⟩ := chk_some ho2534
                  refine run_region rfl ?_
                  refine ops_ex rfl (guard_none rfl) rfl rfl (ex_move rfl rfl) ?_
                  have hc2578 : CellsAt _ (sb p0_0) (so p0_0 + (a2554).toNat * 2) [(.int .i64 ((gt x0.fIns a2554).fTx)), (.int .i64 ((gt x0.fIns a2554).fAt))] := rd_plain hp0_0 e2577
                  refine ops_ex rfl (guard_none rfl) rfl rfl (ex_indexAddr (d := kRef) rfl rfl rfl Tryd.underlying30 tsz101 hp0_0 (idx_lo e2577) (idx_hi e2577)) ?_
                  refine ops_ex rfl (guard_none rfl) rfl rfl (ex_loadN (cs := [(.int .i64 ((gt x0.fIns a2554).fTx)), (.int .i64 ((gt x0.fIns a2554).fAt))]) rfl rfl Tryd.underlying101 rfl tsz101 rfl ((HM.at_ hc2578).sub 0 2 rfl)) ?_
                  refine ops_does rfl (guard_none rfl) rfl rfl (does_alloc (cs := [.int .i64 0, .int .i64 0]) rfl tz101 rfl HM) ?_
                  rintro _ w2582 ⟨b2579, rfl, HM⟩
                  refine ops_ex rfl (guard_none rfl) rfl rfl (ex_assign rfl rfl) ?_
                  refine ops_doesS rfl (guard_none rfl) rfl (does_store (vs := [.int .i64 ((gt x0.fIns a2554).fTx), .int .i64 ((gt x0.fIns a2554).fAt)]) (cs' := [.int .i64 ((gt x0.fIns a2554).fTx), .int .i64 ((gt x0.fIns a2554).fAt)]) rfl rfl rfl rfl tsz101 (Ones.int (Ones.int Ones.nil)) rfl rfl HM) ?_
                  rintro w2583 HM
                  refine ops_nil ?_
                  refine at_then ?_
                  refine run_seq ?_
                  refine run_seq ?_
                  obtain ⟨t2587, h2588, ho2534⟩ := bind_some ho2534
                  refine run_region rfl ?_
                  refine ops_ex rfl (guard_none rfl) rfl rfl (ex_loadN (cs := [(.int .i64 ((gt x0.fIns a2554).fTx)), (.int .i64 ((gt x0.fIns a2554).fAt))]) rfl rfl Tryd.underlying101 rfl tsz101 rfl ((HM.box_at 0 rfl).sub 0 2 rfl)) ?_
                  refine ops_does rfl (guard_none rfl) rfl rfl (does_callk rfl callok72 rfl (impl_isRef.calls (x0 := (gt x0.fIns a2554)) h2588)) ?_
                  rintro _ w2589 ⟨rfl, hn⟩
                  replace HM : Mem w [] w2589 [box b2579 101 [.int .i64 ((gt x0.fIns a2554).fTx), .int .i64 ((gt x0.fIns a2554).fAt)], box b2436 33 [.int .i64 x0.fKind, .int .i64 x0.fMember, p0_0, p0_1]] := HM.call hn
                  refine ops_ex rfl (guard_none rfl) rfl rfl (ex_not rfl rfl) ?_
                  refine ops_nil ?_
                  refine at_then ?_
                  refine run_cond (b := !t2587) rfl (fun hb2590 => ?_) (fun hb2590 => ?_)
                  · replace ho2534 := cond_t hb2590 ho2534
                    refine run_seq ?_
                    refine run_region rfl ?_
                    refine ops_ex rfl (guard_none rfl) rfl rfl (ex_assign rfl rfl) ?_
                    refine ops_nil ?_
                    refine at_then ?_
                    refine run_ret ?_
                    refine at_then_ret ?_
                    refine at_block_ret ?_
                    refine at_then_ret ?_
                    refine at_then_ret ?_
                    refine at_block_ret ?_
                    refine at_then_ret ?_
                    replace HM := (HM.front 0 rfl rfl).drop
                    replace HM := (HM.front 0 rfl rfl).drop
                    have hR := Option.some.inj ho2534
                    subst hR
                    have hT := thn_inl H
                    have hR := Option.some.inj hT
                    subst hR
                    exact at_ret1 rfl rfl ⟨_, rfl, rfl, HM⟩
                  · replace ho2534 := cond_f hb2590 ho2534
                    refine run_skip ?_
                    refine at_then ?_
                    refine run_seq ?_
                    obtain ⟨e2591, ho2534⟩ := chk_some ho2534
                    obtain ⟨t2595, h2596, ho2534⟩ := bind_some ho2534
                    refine run_drawf (fun w_ => Mem w [] w_ [box b2579 101 [.int .i64 ((gt x0.fIns a2554).fTx), .int .i64 ((gt x0.fIns a2554).fAt)], box b2436 33 [.int .i64 x0.fKind, .int .i64 x0.fMember, p0_0, p0_1]]) [(0, true), (1, true), (2, true), (3, true), (4, true), (5, false)] mixed rfl rfl (by kernel_rfl) ?_
                    replace HM := HM.grow (fr_drew _)
                    have hS := Mem.suf (M := []) HM
                    refine drwp_take rfl (guard_none rfl) rfl rfl (fun w_ hS_ => (ex_fieldAddr (off' := 2) rfl rfl Tryd.underlying33 rfl tsz30 rfl)) hS ?_
                    refine drwp_take rfl (guard_none rfl) rfl rfl (fun w_ hS_ => (ex_load1 rfl rfl Tryd.underlying30 rfl ((hS_.box_at 1 rfl) 2 _ rfl))) hS ?_
                    refine drwp_take rfl (guard_none rfl) rfl rfl (fun w_ hS_ => (ex_move rfl rfl)) hS ?_
                    refine drwp_takeE rfl (guard_none rfl) rfl rfl (ex_cutH kRef rfl rfl rfl Tryd.underlying30 tsz101 hp0_0 e2591) hS ?_
                    rintro u2592 hr2594
                    refine drwp_take rfl (guard_none rfl) rfl rfl (fun w_ hS_ => (ex_loadN (cs := [(.int .i64 ((gt x0.fIns a2554).fTx)), (.int .i64 ((gt x0.fIns a2554).fAt))]) rfl rfl Tryd.underlying101 rfl tsz101 rfl ((hS_.box_at 0 rfl).sub 0 2 rfl))) hS ?_
                    refine drwp_one rfl (guard_none rfl) rfl rfl (does_callk rfl callok73 rfl (slices_Contains_impl_Ref.calls (x0 := x0.fIns.take (a2554).toNat) (x1 := (gt x0.fIns a2554)) (HM.rd hr2594) h2596)) ?_
                    rintro _ w2597 ⟨rfl, hn⟩
                    replace HM : Mem w [] w2597 [box b2579 101 [.int .i64 ((gt x0.fIns a2554).fTx), .int .i64 ((gt x0.fIns a2554).fAt)], box b2436 33 [.int .i64 x0.fKind, .int .i64 x0.fMember, p0_0, p0_1]] := HM.call hn
                    refine ⟨Mem.suf (M := []) HM, ?_⟩
                    have hS := Mem.suf (M := []) HM
                    refine drwp_done ?_
                    refine at_then ?_
                    refine run_cond (b := t2595) rfl (fun hb2598 => ?_) (fun hb2598 => ?_)
                    · replace ho2534 := cond_t hb2598 ho2534
                      refine run_seq ?_
                      refine run_region rfl ?_
                      refine ops_ex rfl (guard_none rfl) rfl rfl (ex_assign rfl rfl) ?_
                      refine ops_nil ?_
                      refine at_then ?_
                      refine run_ret ?_
                      refine at_block_ret ?_
                      refine at_then_ret ?_
                      refine at_then_ret ?_
                      refine at_block_ret ?_
                      refine at_then_ret ?_
                      replace HM := (HM.front 0 rfl rfl).drop
                      replace HM := (HM.front 0 rfl rfl).drop
                      have hR := Option.some.inj ho2534
                      subst hR
                      have hT := thn_inl H
                      have hR := Option.some.inj hT
                      subst hR
                      exact at_ret1 rfl rfl ⟨_, rfl, rfl, HM⟩
                    · replace ho2534 := cond_f hb2598 ho2534
                      refine run_skip ?_
                      refine at_block ?_
                      refine at_then ?_
                      refine run_region rfl ?_
                      refine ops_ex rfl (guard_none rfl) rfl rfl (ex_add rfl rfl rfl) ?_
                      refine ops_ex rfl (guard_none rfl) rfl rfl (ex_move rfl rfl) ?_
                      refine ops_nil ?_
                      replace HM := (HM.front 0 rfl rfl).drop
                      exact at_again k2574 (ρ1 := [(1, .pointer (some ⟨b2436, 0, none⟩)), (47, p0_0), (48, .int .i64 (x0.fIns.length : Int)), (49, .int .i64 (wrap64 (a2554 + 1)))]) (Nat.lt_succ_self _) ⟨_, ho2534, rfl, HM⟩ (Sub.cons rfl (Sub.cons rfl (Sub.cons rfl (Sub.cons rfl Sub.nil))))
                · replace ho2534 := cond_f hb2576 ho2534
                  refine run_exit ?_
                  refine at_then_exit ?_
                  refine at_then_exit ?_
                  refine at_block_exit ?_
                  exact at_mid (ρ' := [(1, .pointer (some ⟨b2436, 0, none⟩))]) ⟨(Option.some.inj ho2534), rfl, HM⟩ (Sub.cons rfl Sub.nil)
              · rintro _ w2599 ⟨rfl, rfl, HM⟩
                replace H := (thn_inr H)
                obtain ⟨o2634, ho2635, H⟩ := bind_some H
                refine run_mid (fun ρ_ w_ => Sum.inr () = o2634 ∧ ρ_ = [(1, .pointer (some ⟨b2436, 0, none⟩))] ∧ Mem w [] w_ [box b2436 33 [.int .i64 x0.fKind, .int .i64 x0.fMember, p0_0, p0_1]]) ?_ ?_
                · skip
                  refine run_seq ?_
                  refine run_region rfl ?_
                  refine ops_ex rfl (guard_none rfl) rfl rfl (ex_fieldAddr (off' := 3) rfl rfl Tryd.underlying33 rfl tsz31 rfl) ?_
                  refine ops_ex rfl (guard_none rfl) rfl rfl (ex_load1 rfl rfl Tryd.underlying31 rfl ((HM.box_at 0 rfl) 3 _ rfl)) ?_
                  refine ops_ex rfl (guard_none rfl) rfl rfl (ex_len (d := kOut) (xs := x0.fOuts) rfl rfl Tryd.underlying31 hp0_1) ?_
                  refine ops_ex rfl (guard_none rfl) rfl rfl (ex_move rfl rfl) ?_
                  refine ops_nil ?_
                  refine at_then ?_
                  refine run_block ?_
                  refine run_loop (fun k_ ρ_ w_ => ∃ a2647 : Int, impl_TxFault.l1 x0 k_ a2647 = some o2634 ∧ ρ_ = [(1, .pointer (some ⟨b2436, 0, none⟩)), (65, p0_1), (66, .int .i64 (x0.fOuts.length : Int)), (67, .int .i64 a2647)] ∧ Mem w [] w_ [box b2436 33 [.int .i64 x0.fKind, .int .i64 x0.fMember, p0_0, p0_1]]) k (ρ1 := [(1, .pointer (some ⟨b2436, 0, none⟩)), (65, p0_1), (66, .int .i64 (x0.fOuts.length : Int)), (67, .int .i64 0)]) ⟨_, ho2635, rfl, HM⟩ (Sub.cons rfl (Sub.cons rfl (Sub.cons rfl (Sub.cons rfl Sub.nil)))) ?_
                  clear HM ho2635
                  rintro k2659 _ w2660 ⟨a2647, ho2635, rfl, HM⟩
                  obtain _ | k2659 := k2659
                  · exact nomatch ((impl_TxFault.l1_z x0 a2647).symm.trans ho2635)
                  replace ho2635 := (impl_TxFault.l1_s x0 k2659 a2647).symm.trans ho2635
                  refine run_seq ?_
                  refine run_region rfl ?_
                  refine ops_ex rfl (guard_none rfl) rfl rfl (ex_lss rfl rfl rfl) ?_
                  refine ops_nil ?_
                  refine at_then ?_
                  refine run_seq ?_
                  refine run_cond (b := (decide (a2647 < (x0.fOuts.length : Int)))) rfl (fun hb2661 => ?_) (fun hb2661 => ?_)
                  · replace ho2635 := cond_t hb2661 ho2635
                    refine run_skip ?_
                    refine at_then ?_
                    refine run_seq ?_
                    refine run_block ?_
                    refine run_seq ?_
                    obtain ⟨e2662, ho2635⟩ := chk_some ho2635
                    refine run_region rfl ?_
                    obtain ⟨kv2664, hc2663, hk2665⟩ : ∃ u, CellsAt _ (sb p0_1) (so p0_1 + (a2647).toNat * 4) [(.int .i64 ((gt x0.fOuts a2647).fValue)), u, (.int .i64 ((gt x0.fOuts a2647).fRule.fNeed)), (.int .i64 ((gt x0.fOuts a2647).fRule.fAfter))] ∧ RdS kInt _ u ((gt x0.fOuts a2647).fRule.fKeys) := rd_with1 hp0_1 e2662
                    refine ops_ex rfl (guard_none rfl) rfl rfl (ex_indexAddr (d := kOut) rfl rfl rfl Tryd.underlying31 tsz106 hp0_1 (idx_lo e2662) (idx_hi e2662)) ?_
                    refine ops_ex rfl (guard_none rfl) rfl rfl (ex_loadN (cs := [(.int .i64 ((gt x0.fOuts a2647).fValue)), kv2664, (.int .i64 ((gt x0.fOuts a2647).fRule.fNeed)), (.int .i64 ((gt x0.fOuts a2647).fRule.fAfter))]) rfl rfl Tryd.underlying106 rfl tsz106 rfl ((HM.at_ hc2663).sub 0 4 rfl)) ?_
                    refine ops_does rfl (guard_none rfl) rfl rfl (does_alloc (cs := [.int .i64 0, .slice none 0 0, .int .i64 0, .int .i64 0]) rfl tz106 rfl HM) ?_
                    rintro _ w2669 ⟨b2666, rfl, HM⟩
                    refine ops_doesS rfl (guard_none rfl) rfl (does_store (vs := [.int .i64 ((gt x0.fOuts a2647).fValue), kv2664, .int .i64 ((gt x0.fOuts a2647).fRule.fNeed), .int .i64 ((gt x0.fOuts a2647).fRule.fAfter)]) (cs' := [.int .i64 ((gt x0.fOuts a2647).fValue), kv2664, .int .i64 ((gt x0.fOuts a2647).fRule.fNeed), .int .i64 ((gt x0.fOuts a2647).fRule.fAfter)]) rfl rfl rfl rfl tsz106 (Ones.int (Ones.rd hk2665 (Ones.int (Ones.int Ones.nil)))) rfl rfl HM) ?_
                    rintro w2670 HM
                    refine ops_nil ?_
                    refine at_then ?_
                    refine run_seq ?_
                    obtain ⟨t2671, h2672, ho2635⟩ := bind_some ho2635
                    refine run_region rfl ?_
                    refine ops_ex rfl (guard_none rfl) rfl rfl (ex_loadN (cs := [(.int .i64 ((gt x0.fOuts a2647).fValue)), kv2664, (.int .i64 ((gt x0.fOuts a2647).fRule.fNeed)), (.int .i64 ((gt x0.fOuts a2647).fRule.fAfter))]) rfl rfl Tryd.underlying106 rfl tsz106 rfl ((HM.box_at 0 rfl).sub 0 4 rfl)) ?_
                    refine ops_does rfl (guard_none rfl) rfl rfl (does_callk rfl callok74 rfl (impl_outFault.calls (x0 := (gt x0.fOuts a2647)) (HM.rd hk2665) h2672)) ?_
                    rintro _ w2673 ⟨rfl, hn⟩
                    replace HM : Mem w [] w2673 [box b2666 106 [.int .i64 ((gt x0.fOuts a2647).fValue), kv2664, .int .i64 ((gt x0.fOuts a2647).fRule.fNeed), .int .i64 ((gt x0.fOuts a2647).fRule.fAfter)], box b2436 33 [.int .i64 x0.fKind, .int .i64 x0.fMember, p0_0, p0_1]] := HM.call hn
                    refine ops_ex rfl (guard_none rfl) rfl rfl (ex_assign rfl rfl) ?_
                    refine ops_nil ?_
                    refine at_then ?_
                    refine run_seq ?_
                    refine run_region rfl ?_
                    refine ops_ex rfl (guard_none rfl) rfl rfl (ex_move rfl rfl) ?_
                    refine ops_ex rfl (guard_none rfl) rfl rfl (ex_neq rfl rfl rfl) ?_
                    refine ops_nil ?_
                    refine at_then ?_
                    refine run_cond (b := (t2671 != 0)) rfl (fun hb2674 => ?_) (fun hb2674 => ?_)
                    · replace ho2635 := cond_t hb2674 ho2635
                      refine run_seq ?_
                      refine run_region rfl ?_
                      refine ops_ex rfl (guard_none rfl) rfl rfl (ex_move rfl rfl) ?_
                      refine ops_ex rfl (guard_none rfl) rfl rfl (ex_assign rfl rfl) ?_
                      refine ops_nil ?_
                      refine at_then ?_
                      refine run_ret ?_
                      refine at_block_ret ?_
                      refine at_then_ret ?_
                      refine at_then_ret ?_
                      refine at_block_ret ?_
                      refine at_then_ret ?_
                      replace HM := (HM.front 0 rfl rfl).drop
                      replace HM := (HM.front 0 rfl rfl).drop
                      have hR := Option.some.inj ho2635
                      subst hR
                      have hT := thn_inl H
                      have hR := Option.some.inj hT
                      subst hR
                      exact at_ret1 rfl rfl ⟨_, rfl, rfl, HM⟩
                    · replace ho2635 := cond_f hb2674 ho2635
                      refine run_skip ?_
                      refine at_block ?_
                      refine at_then ?_
                      refine run_region rfl ?_
                      refine ops_ex rfl (guard_none rfl) rfl rfl (ex_add rfl rfl rfl) ?_
                      refine ops_ex rfl (guard_none rfl) rfl rfl (ex_move rfl rfl) ?_
                      refine ops_nil ?_
                      replace HM := (HM.front 0 rfl rfl).drop
                      exact at_again k2659 (ρ1 := [(1, .pointer (some ⟨b2436, 0, none⟩)), (65, p0_1), (66, .int .i64 (x0.fOuts.length : Int)), (67, .int .i64 (wrap64 (a2647 + 1)))]) (Nat.lt_succ_self _) ⟨_, ho2635, rfl, HM⟩ (Sub.cons rfl (Sub.cons rfl (Sub.cons rfl (Sub.cons rfl Sub.nil))))
                  · replace ho2635 := cond_f hb2661 ho2635
                    refine run_exit ?_
                    refine at_then_exit ?_
                    refine at_then_exit ?_
                    refine at_block_exit ?_
                    exact at_mid (ρ' := [(1, .pointer (some ⟨b2436, 0, none⟩))]) ⟨(Option.some.inj ho2635), rfl, HM⟩ (Sub.cons rfl Sub.nil)
                · rintro _ w2675 ⟨rfl, rfl, HM⟩
                  replace H := (thn_inr H)
                  refine run_seq ?_
                  refine run_seq ?_
                  obtain ⟨e2676, H⟩ := chk_some H
                  refine run_meet (fun ρ_ w_ => ρ_ = [(87, .bool ((x0.fKind == 1) && (decide (((gt x0.fOuts (0 : Int)).fValue) < 100))))] ∧ Mem w [] w_ []) ?_ ?_
                  · skip
                    refine run_region rfl ?_
                    refine ops_ex rfl (guard_none rfl) rfl rfl (ex_fieldAddr (off' := 0) rfl rfl Tryd.underlying33 rfl tsz2 rfl) ?_
                    refine ops_ex rfl (guard_none rfl) rfl rfl (ex_load1 rfl rfl Tryd.underlying2 rfl ((HM.box_at 0 rfl) 0 _ rfl)) ?_
                    refine ops_ex rfl (guard_none rfl) rfl rfl (ex_eql rfl rfl rfl) ?_
                    refine ops_ex rfl (guard_none rfl) rfl rfl (ex_move rfl rfl) ?_
                    refine bool_cases (x0.fKind == 1) (fun hg2680 => ?_) (fun hg2680 => ?_)
                    · skip
                      refine ops_ex rfl (guard_on rfl rfl rfl hg2680) rfl rfl (ex_fieldAddr (off' := 3) rfl rfl Tryd.underlying33 rfl tsz31 rfl) ?_
                      refine ops_ex rfl (guard_on rfl rfl rfl hg2680) rfl rfl (ex_load1 rfl rfl Tryd.underlying31 rfl ((HM.box_at 0 rfl) 3 _ rfl)) ?_
                      obtain ⟨kv2678, hc2677, hk2679⟩ : ∃ u, CellsAt _ (sb p0_1) (so p0_1 + ((0 : Int)).toNat * 4) [(.int .i64 ((gt x0.fOuts (0 : Int)).fValue)), u, (.int .i64 ((gt x0.fOuts (0 : Int)).fRule.fNeed)), (.int .i64 ((gt x0.fOuts (0 : Int)).fRule.fAfter))] ∧ RdS kInt _ u ((gt x0.fOuts (0 : Int)).fRule.fKeys) := rd_with1 hp0_1 (or_t e2676 hg2680)
                      refine ops_ex rfl (guard_on rfl rfl rfl hg2680) rfl rfl (ex_indexAddr (d := kOut) rfl rfl rfl Tryd.underlying31 tsz106 hp0_1 (idx_lo (or_t e2676 hg2680)) (idx_hi (or_t e2676 hg2680))) ?_
                      refine ops_ex rfl (guard_on rfl rfl rfl hg2680) rfl rfl (ex_fieldAddr (off' := so p0_1 + ((0 : Int)).toNat * 4) rfl rfl Tryd.underlying106 rfl tsz2 rfl) ?_
                      refine ops_ex rfl (guard_on rfl rfl rfl hg2680) rfl rfl (ex_load1 rfl rfl Tryd.underlying2 rfl ((HM.at_ hc2677) 0 _ rfl)) ?_
                      refine ops_ex rfl (guard_on rfl rfl rfl hg2680) rfl rfl (ex_lss rfl rfl rfl) ?_
                      refine ops_ex (v := .bool ((x0.fKind == 1) && (decide (((gt x0.fOuts (0 : Int)).fValue) < 100)))) rfl (guard_none rfl) rfl rfl (ex_pand_t rfl rfl hg2680 rfl) ?_
                      refine ops_nil ?_
                      replace HM := (HM.front 0 rfl rfl).drop
                      exact at_meet [(87, .bool ((x0.fKind == 1) && (decide (((gt x0.fOuts (0 : Int)).fValue) < 100))))] ⟨rfl, HM⟩ (Sub.cons rfl Sub.nil)
                    · skip
                      refine ops_off rfl (guard_off rfl rfl rfl hg2680) rfl rfl ?_
                      refine ops_off rfl (guard_off rfl rfl rfl hg2680) rfl rfl ?_
                      refine ops_off rfl (guard_off rfl rfl rfl hg2680) rfl rfl ?_
                      refine ops_off rfl (guard_off rfl rfl rfl hg2680) rfl rfl ?_
                      refine ops_off rfl (guard_off rfl rfl rfl hg2680) rfl rfl ?_
                      refine ops_off rfl (guard_off rfl rfl rfl hg2680) rfl rfl ?_
                      have hg2681 : ((x0.fKind == 1) && (decide (((gt x0.fOuts (0 : Int)).fValue) < 100))) = false := by simp only [hg2680, Bool.and_true, Bool.true_and, Bool.and_false, Bool.false_and, Bool.or_true, Bool.true_or, Bool.or_false, Bool.false_or, Bool.not_true, Bool.not_false, Bool.not_not]
                      refine ops_ex (v := .bool ((x0.fKind == 1) && (decide (((gt x0.fOuts (0 : Int)).fValue) < 100)))) rfl (guard_none rfl) rfl rfl (ex_pand_f rfl rfl hg2680) ?_
                      refine ops_nil ?_
                      replace HM := (HM.front 0 rfl rfl).drop
                      exact at_meet [(87, .bool ((x0.fKind == 1) && (decide (((gt x0.fOuts (0 : Int)).fValue) < 100))))] ⟨rfl, HM⟩ (Sub.cons rfl Sub.nil)
                  · rintro _ w2682 ⟨rfl, HM⟩
                    refine at_then ?_
                    refine run_cond (b := ((x0.fKind == 1) && (decide (((gt x0.fOuts (0 : Int)).fValue) < 100)))) rfl (fun hb2683 => ?_) (fun hb2683 => ?_)
                    · replace H := cond_t hb2683 H
                      refine run_seq ?_
                      refine run_region rfl ?_
                      refine ops_ex rfl (guard_none rfl) rfl rfl (ex_assign rfl rfl) ?_
                      refine ops_nil ?_
                      refine at_then ?_
                      refine run_ret ?_
                      refine at_then_ret ?_
                      have hR := Option.some.inj H
                      subst hR
                      exact at_ret1 rfl rfl ⟨_, rfl, rfl, HM⟩
                    · replace H := cond_f hb2683 H
                      refine run_skip ?_
                      refine at_then ?_
                      refine run_seq ?_
                      refine run_region rfl ?_
                      refine ops_ex rfl (guard_none rfl) rfl rfl (ex_assign rfl rfl) ?_
                      refine ops_nil ?_
                      refine at_then ?_
                      refine run_ret ?_
                      have hR := Option.some.inj H
                      subst hR
                      exact at_ret1 rfl rfl ⟨_, rfl, rfl, HM⟩

def impl_kindWords.f (k : Nat)  : Option ((List ByteArray)) := some ([(⟨#[112, 97, 121]⟩ : ByteArray), (⟨#[106, 111, 105, 110]⟩ : ByteArray), (⟨#[108, 101, 97, 118, 101]⟩ : ByteArray)] : List ByteArray)
theorem impl_kindWords.calls {k : Nat}   {w : World}  {r : (List ByteArray)} (H : impl_kindWords.f k  = some r) :
    Calls Tryd.prog 75 ([] : List Value).toArray w (fun e w_ => ∃ v, e = .returned v ∧ ∃ u0 : Value, v = u0 ∧ Mem w [] w_ [own kStr 9 u0 r]) := by
  have HM := Mem.start w
  refine calls_run (N := 2) Tryd.func75 rfl rfl rfl rfl ?_
  unfold impl_kindWords.f at H
  refine run_seq ?_
  refine run_region rfl ?_
  refine ops_ex rfl (guard_none rfl) rfl rfl (ex_assign rfl rfl) ?_
  refine ops_nil ?_
  refine at_then ?_
  refine run_seq ?_
  refine run_region rfl ?_
  refine ops_does rfl (guard_none rfl) rfl rfl (does_lit (e := 9) (cs := [.string (⟨#[112, 97, 121]⟩ : ByteArray), .string (⟨#[106, 111, 105, 110]⟩ : ByteArray), .string (⟨#[108, 101, 97, 118, 101]⟩ : ByteArray)]) (xs := ([(⟨#[112, 97, 121]⟩ : ByteArray), (⟨#[106, 111, 105, 110]⟩ : ByteArray), (⟨#[108, 101, 97, 118, 101]⟩ : ByteArray)] : List ByteArray)) kStr rfl rfl (fun _ => by kernel_rfl) rfl rfl (fun _ _ h => by have h' : _ = [] := h; subst h'; exact (Elems.cons (d := kStr) (f := []) ⟨rfl, rfl⟩ (Elems.cons (d := kStr) (f := []) ⟨rfl, rfl⟩ (Elems.cons (d := kStr) (f := []) ⟨rfl, rfl⟩ .nil)))) HM.emp) ?_
  rintro v2696 w2699 HM
  refine ops_ex rfl (guard_none rfl) rfl rfl (ex_assign rfl rfl) ?_
  refine ops_nil ?_
  refine at_then ?_
  refine run_ret ?_
  have hR := Option.some.inj H
  subst hR
  exact at_ret1 rfl rfl ⟨_, rfl, _, rfl, HM⟩

def strconv_FormatInt.f (k : Nat) (x0 : Int) (x1 : Int) : Option ByteArray := (chk ((decide (-9223372036854775808 ≤ x0) && decide (x0 ≤ 9223372036854775807)) && (x1 == 10)) (some (⟨(Lib.itoa x0).toArray⟩ : ByteArray)))
theorem strconv_FormatInt.calls {k : Nat} {x0 x1 : Int} {w : World} (htab : Tab w) {r : ByteArray} (H : strconv_FormatInt.f k x0 x1 = some r) :
    Calls Tryd.prog 97 ([.int .i64 x0, .int .i64 x1] : List Value).toArray w (fun e w_ => ∃ v, e = .returned v ∧ v = (.string r) ∧ Mem w [] w_ []) := by
  obtain ⟨h, H⟩ := chk_some H
  have hR := Option.some.inj H
  subst hR
  simp only [Bool.and_eq_true, decide_eq_true_eq, beq_iff_eq] at h
  obtain ⟨⟨h0, h1⟩, rfl⟩ := h
  exact (Tryd.strconv_FormatInt_10 x0 h0 h1 w htab).mono fun e w_ ⟨he, k, os, hw⟩ => ⟨_, he, rfl, hw ▸ mem_grow w k os⟩

def impl_dec.f (k : Nat) (x0 : Int) : Option ByteArray := ((strconv_FormatInt.f k x0 10).bind fun t2711 => some t2711)
theorem impl_dec.calls {k : Nat} {x0 : Int}  {w : World} (htab : Tab w)  {r : ByteArray} (H : impl_dec.f k x0 = some r) :
    Calls Tryd.prog 76 ([.int .i64 x0] : List Value).toArray w (fun e w_ => ∃ v, e = .returned v ∧ v = (.string r) ∧ Mem w [] w_ []) := by
  have HM := Mem.start w
  refine calls_run (N := 5) Tryd.func76 rfl rfl rfl rfl ?_
  unfold impl_dec.f at H
  refine run_seq ?_
  refine run_region rfl ?_
  refine ops_ex rfl (guard_none rfl) rfl rfl (ex_assign rfl rfl) ?_
  refine ops_nil ?_
  refine at_then ?_
  refine run_seq ?_
  obtain ⟨t2711, h2712, H⟩ := bind_some H
  refine run_region rfl ?_
  refine ops_ex rfl (guard_none rfl) rfl rfl (ex_move rfl rfl) ?_
  refine ops_does rfl (guard_none rfl) rfl rfl (does_callk rfl callok97 rfl (strconv_FormatInt.calls (x0 := x0) (x1 := 10) (HM.tab htab) h2712)) ?_
  rintro _ w2713 ⟨rfl, hn⟩
  replace HM : Mem w [] w2713 [] := HM.call hn
  refine ops_ex rfl (guard_none rfl) rfl rfl (ex_assign rfl rfl) ?_
  refine ops_nil ?_
  refine at_then ?_
  refine run_ret ?_
  have hR := Option.some.inj H
  subst hR
  exact at_ret1 rfl rfl ⟨_, rfl, rfl, HM⟩

def strings_Join.f (k : Nat) (x0 : List ByteArray) (x1 : ByteArray) : Option ByteArray := (chk (leB x0.length 140737488355328 && leB (Lib.join (x0.map (·.data.toList)) x1.data.toList).length 140737488355328) (some (⟨(Lib.join (x0.map (·.data.toList)) x1.data.toList).toArray⟩ : ByteArray)))
theorem strings_Join.calls {k : Nat} {x0 : List ByteArray} {x1 : ByteArray} {p0 : Value} {w : World} (hp0 : RdS kStr w p0 x0) {r : ByteArray} (H : strings_Join.f k x0 x1 = some r) :
    Calls Tryd.prog 77 ([p0, .string x1] : List Value).toArray w (fun e w_ => ∃ v, e = .returned v ∧ v = (.string r) ∧ Mem w [] w_ []) := by
  obtain ⟨h, H⟩ := chk_some H
  have hR := Option.some.inj H
  subst hR
  rw [Bool.and_eq_true] at h
  have hm : ∀ w_, Below w.heap.size w w_ → Mem w [] w_ [] := fun w_ hb => ⟨Fr.of_below hb, [], .nil, List.nodup_nil, by simp⟩
  obtain ⟨A, c, rfl, hc, hA⟩ := hp0
  rcases hA with rfl | ⟨b, o, rfl, hA⟩
  · exact (Tryd.strings_Join_none A c x1 w).mono fun e w_ ⟨he, hw⟩ => ⟨_, he, rfl, hm _ (hw ▸ Below.refl _ _)⟩
  · cases hx : x0 with
    | nil => subst hx; exact (Tryd.strings_Join_none _ c x1 w).mono fun e w_ ⟨he, hw⟩ => ⟨_, he, rfl, hm _ (hw ▸ Below.refl _ _)⟩
    | cons a l =>
      rw [← hx]
      have hcell : ∀ (j : Nat) x, x0[j]? = some x → w.cell? ⟨b, o + j, none⟩ = some (.string x) := fun j x hj => by
        obtain ⟨hlt, e1⟩ := List.getElem?_eq_some_iff.1 hj
        obtain ⟨cs, h2, h3⟩ := hA j hlt
        have h2' : cs = [Value.string x0[j]] := h2
        subst h2'
        have h4 : w.cell? ⟨b, o + j * 1 + 0, none⟩ = some (.string x0[j]) := h3 0 _ rfl
        rw [e1] at h4
        simpa using h4
      exact (Tryd.strings_Join b o c x0 x1 w hcell (World.block_lt_of_cell? w _ (hcell 0 a (by rw [hx]; rfl))) (leB_le h.1) hc (leB_le h.2)).mono fun e w_ ⟨he, hw⟩ => ⟨_, he, rfl, hm _ hw⟩

def impl_joined.l0 (x0 : List Int) : Nat → (List ByteArray) → Int → Option ((List ByteArray))
  | 0, _, _ => none
  | k + 1, a2934, a2936 => (bif (decide (a2936 < (x0.length : Int))) then (chk (idxOk a2936 x0.length) ((impl_dec.f k (gt x0 a2936)).bind fun t2953 => (chk (leB ((a2934.length + ([t2953] : List ByteArray).length) * 16) 140737488355328) (impl_joined.l0 x0 k (a2934 ++ ([t2953] : List ByteArray)) (wrap64 (a2936 + 1)))))) else some a2934)
theorem impl_joined.l0_z (x0 : List Int) (a2934 : List ByteArray) (a2936 : Int) : impl_joined.l0 x0 0 a2934 a2936 = none := rfl
theorem impl_joined.l0_s (x0 : List Int) (k : Nat) (a2934 : List ByteArray) (a2936 : Int) : impl_joined.l0 x0 (k + 1) a2934 a2936 = (bif (decide (a2936 < (x0.length : Int))) then (chk (idxOk a2936 x0.length) ((impl_dec.f k (gt x0 a2936)).bind fun t2953 => (chk (leB ((a2934.length + ([t2953] : List ByteArray).length) * 16) 140737488355328) (impl_joined.l0 x0 k (a2934 ++ ([t2953] : List ByteArray)) (wrap64 (a2936 + 1)))))) else some a2934) := rfl
def impl_joined.f (k : Nat) (x0 : List Int) (x1 : ByteArray) : Option ByteArray := ((impl_joined.l0 x0 k ([] : List ByteArray) 0).bind (fun a2918 => ((strings_Join.f k a2918 x1).bind fun t2965 => some t2965)))
theorem impl_joined.calls {k : Nat} {x0 : List Int} {x1 : ByteArray} {p0 : Value} {w : World} (htab : Tab w) (hp0 : RdS kInt w p0 x0) {r : ByteArray} (H : impl_joined.f k x0 x1 = some r) :
    Calls Tryd.prog 92 ([p0, .string x1] : List Value).toArray w (fun e w_ => ∃ v, e = .returned v ∧ v = (.string r) ∧ Mem w [] w_ []) := by
  have HM := Mem.start w
  refine calls_run (N := 24) Tryd.func92 rfl rfl rfl rfl ?_
  unfold impl_joined.f at H
  refine run_seq ?_
  refine run_region rfl ?_
  refine ops_ex rfl (guard_none rfl) rfl rfl (ex_assign rfl rfl) ?_
  refine ops_nil ?_
  refine at_then ?_
  refine run_seq ?_
  refine run_region rfl ?_
  refine ops_does rfl (guard_none rfl) rfl rfl (does_lit (e := 9) (cs := []) (xs := ([] : List ByteArray)) kStr rfl rfl (fun _ => by kernel_rfl) rfl rfl (fun _ _ h => by have h' : _ = [] := h; subst h'; exact .nil) HM.emp) ?_
  rintro v2876 w2879 HM
  refine ops_ex rfl (guard_none rfl) rfl rfl (ex_assign rfl rfl) ?_
  refine ops_nil ?_
  refine at_then ?_
  obtain ⟨o2920, ho2921, H⟩ := bind_some H
  refine run_mid (fun ρ_ w_ => ∃ v2917 : Value, ∃ a2918 : List ByteArray, a2918 = o2920 ∧ ρ_ = [(1, .string x1), (5, v2917)] ∧ Mem w [] w_ [own kStr 9 v2917 a2918]) ?_ ?_
  · clear H
    refine run_seq ?_
    refine run_region rfl ?_
    refine ops_ex rfl (guard_none rfl) rfl rfl (ex_move rfl rfl) ?_
    refine ops_ex rfl (guard_none rfl) rfl rfl (ex_len (d := kInt) (xs := x0) rfl rfl Tryd.underlying38 hp0) ?_
    refine ops_ex rfl (guard_none rfl) rfl rfl (ex_move rfl rfl) ?_
    refine ops_nil ?_
    refine at_then ?_
    refine run_block ?_
    refine run_loop (fun k_ ρ_ w_ => ∃ v2933 : Value, ∃ a2934 : List ByteArray, ∃ a2936 : Int, impl_joined.l0 x0 k_ a2934 a2936 = some o2920 ∧ ρ_ = [(1, .string x1), (5, v2933), (9, p0), (10, .int .i64 (x0.length : Int)), (11, .int .i64 a2936)] ∧ Mem w [] w_ [own kStr 9 v2933 a2934]) k (ρ1 := [(1, .string x1), (5, v2876), (9, p0), (10, .int .i64 (x0.length : Int)), (11, .int .i64 0)]) ⟨_, _, _, ho2921, rfl, HM⟩ (Sub.cons rfl (Sub.cons rfl (Sub.cons rfl (Sub.cons rfl (Sub.cons rfl Sub.nil))))) ?_
    clear HM ho2921
    rintro k2948 _ w2949 ⟨v2933, a2934, a2936, ho2921, rfl, HM⟩
    obtain _ | k2948 := k2948
    · exact nomatch ((impl_joined.l0_z x0 a2934 a2936).symm.trans ho2921)
    replace ho2921 := (impl_joined.l0_s x0 k2948 a2934 a2936).symm.trans ho2921
    refine run_seq ?_
    refine run_region rfl ?_
    refine ops_ex rfl (guard_none rfl) rfl rfl (ex_lss rfl rfl rfl) ?_
    refine ops_nil ?_
    refine at_then ?_
    refine run_seq ?_
    refine run_cond (b := (decide (a2936 < (x0.length : Int)))) rfl (fun hb2950 => ?_) (fun hb2950 => ?_)
    · replace ho2921 := cond_t hb2950 ho2921
      refine run_skip ?_
      refine at_then ?_
      refine run_seq ?_
      refine run_block ?_
      refine run_seq ?_
      obtain ⟨e2951, ho2921⟩ := chk_some ho2921
      refine run_region rfl ?_
      have hc2952 : CellsAt _ (sb p0) (so p0 + (a2936).toNat * 1) [(.int .i64 (gt x0 a2936))] := rd_plain hp0 e2951
      refine ops_ex rfl (guard_none rfl) rfl rfl (ex_indexAddr (d := kInt) rfl rfl rfl Tryd.underlying38 tsz2 hp0 (idx_lo e2951) (idx_hi e2951)) ?_
      refine ops_ex rfl (guard_none rfl) rfl rfl (ex_load1 rfl rfl Tryd.underlying2 rfl ((HM.at_ hc2952) 0 _ rfl)) ?_
      refine ops_ex rfl (guard_none rfl) rfl rfl (ex_assign rfl rfl) ?_
      refine ops_nil ?_
      refine at_then ?_
      obtain ⟨t2953, h2954, ho2921⟩ := bind_some ho2921
      obtain ⟨e2958, ho2921⟩ := chk_some ho2921
      refine run_region rfl ?_
      refine ops_ex rfl (guard_none rfl) rfl rfl (ex_move rfl rfl) ?_
      refine ops_ex rfl (guard_none rfl) rfl rfl (ex_move rfl rfl) ?_
      refine ops_does rfl (guard_none rfl) rfl rfl (does_callk rfl callok76 rfl (impl_dec.calls (x0 := (gt x0 a2936)) (HM.tab htab) h2954)) ?_
      rintro _ w2961 ⟨rfl, hn⟩
      replace HM : Mem w [] w2961 [own kStr 9 v2933 a2934] := HM.call hn
      refine ops_does rfl (guard_none rfl) rfl rfl (does_lit (e := 9) (cs := [.string t2953]) (xs := ([t2953] : List ByteArray)) kStr rfl rfl (fun _ => by kernel_rfl) rfl rfl (fun _ _ h => by have h' : _ = [] := h; subst h'; exact (Elems.cons (d := kStr) (f := []) ⟨rfl, rfl⟩ .nil)) HM.emp) ?_
      rintro v2955 w2962 HM
      replace HM := HM.front 1 rfl rfl
      refine ops_does rfl (guard_none rfl) rfl rfl (does_appendR kStr flat_plain rfl rfl rfl Tryd.underlying103 tsz9 rfl tby9 tz9 rfl rfl (leB_le e2958) (HM.own_rd 1 rfl) HM) ?_
      rintro v2959 w2963 HM
      refine ops_ex rfl (guard_none rfl) rfl rfl (ex_assign rfl rfl) ?_
      refine ops_nil ?_
      refine at_block ?_
      refine at_then ?_
      refine run_region rfl ?_
      refine ops_ex rfl (guard_none rfl) rfl rfl (ex_add rfl rfl rfl) ?_
      refine ops_ex rfl (guard_none rfl) rfl rfl (ex_move rfl rfl) ?_
      refine ops_nil ?_
      replace HM := (HM.front 1 rfl rfl).drop
      exact at_again k2948 (ρ1 := [(1, .string x1), (5, v2959), (9, p0), (10, .int .i64 (x0.length : Int)), (11, .int .i64 (wrap64 (a2936 + 1)))]) (Nat.lt_succ_self _) ⟨_, _, _, ho2921, rfl, HM⟩ (Sub.cons rfl (Sub.cons rfl (Sub.cons rfl (Sub.cons rfl (Sub.cons rfl Sub.nil)))))
    · replace ho2921 := cond_f hb2950 ho2921
      refine run_exit ?_
      refine at_then_exit ?_
      refine at_then_exit ?_
      refine at_block_exit ?_
      exact at_mid (ρ' := [(1, .string x1), (5, v2933)]) ⟨_, _, (Option.some.inj ho2921), rfl, HM⟩ (Sub.cons rfl (Sub.cons rfl Sub.nil))
  · rintro _ w2964 ⟨v2917, a2918, rfl, rfl, HM⟩
    refine run_seq ?_
    obtain ⟨t2965, h2966, H⟩ := bind_some H
    refine run_region rfl ?_
    refine ops_ex rfl (guard_none rfl) rfl rfl (ex_move rfl rfl) ?_
    refine ops_ex rfl (guard_none rfl) rfl rfl (ex_move rfl rfl) ?_
    refine ops_does rfl (guard_none rfl) rfl rfl (does_callk rfl callok77 rfl (strings_Join.calls (x0 := a2918) (x1 := x1) (HM.own_rd 0 rfl) h2966)) ?_
    rintro _ w2967 ⟨rfl, hn⟩
    replace HM : Mem w [] w2967 [own kStr 9 v2917 a2918] := HM.call hn
    refine ops_ex rfl (guard_none rfl) rfl rfl (ex_assign rfl rfl) ?_
    refine ops_nil ?_
    refine at_then ?_
    refine run_ret ?_
    replace HM := (HM.front 0 rfl rfl).drop
    have hR := Option.some.inj H
    subst hR
    exact at_ret1 rfl rfl ⟨_, rfl, rfl, HM⟩

def impl_ruleText.f (k : Nat) (x0 : Rule) (x1 : ByteArray) : Option ByteArray := ((impl_dec.f k x0.fNeed).bind fun t2982 => (chk (leB (t2982.size + x1.size) 9223372036854775807) (chk (leB ((t2982 ++ x1).size + (⟨#[111, 102]⟩ : ByteArray).size) 9223372036854775807) (chk (leB (((t2982 ++ x1) ++ (⟨#[111, 102]⟩ : ByteArray)).size + x1.size) 9223372036854775807) ((impl_joined.f k x0.fKeys (⟨#[44]⟩ : ByteArray)).bind fun t2987 => (chk (leB ((((t2982 ++ x1) ++ (⟨#[111, 102]⟩ : ByteArray)) ++ x1).size + t2987.size) 9223372036854775807) (bif (x0.fAfter != 0) then (chk (leB (x1.size + (⟨#[97, 102, 116, 101, 114]⟩ : ByteArray).size) 9223372036854775807) (chk (leB ((x1 ++ (⟨#[97, 102, 116, 101, 114]⟩ : ByteArray)).size + x1.size) 9223372036854775807) ((impl_dec.f k x0.fAfter).bind fun t2995 => (chk (leB (((x1 ++ (⟨#[97, 102, 116, 101, 114]⟩ : ByteArray)) ++ x1).size + t2995.size) 9223372036854775807) (chk (leB (((((t2982 ++ x1) ++ (⟨#[111, 102]⟩ : ByteArray)) ++ x1) ++ t2987).size + (((x1 ++ (⟨#[97, 102, 116, 101, 114]⟩ : ByteArray)) ++ x1) ++ t2995).size) 9223372036854775807) (some (((((t2982 ++ x1) ++ (⟨#[111, 102]⟩ : ByteArray)) ++ x1) ++ t2987) ++ (((x1 ++ (⟨#[97, 102, 116, 101, 114]⟩ : ByteArray)) ++ x1) ++ t2995)))))))) else some ((((t2982 ++ x1) ++ (⟨#[111, 102]⟩ : ByteArray)) ++ x1) ++ t2987))))))))
theorem impl_ruleText.calls {k : Nat} {x0 : Rule} {x1 : ByteArray} {p0_0 : Value} {w : World} (htab : Tab w) (hp0_0 : RdS kInt w p0_0 x0.fKeys) {r : ByteArray} (H : impl_ruleText.f k x0 x1 = some r) :
    Calls Tryd.prog 78 ([.agg #[p0_0, (.int .i64 x0.fNeed), (.int .i64 x0.fAfter)], .string x1] : List Value).toArray w (fun e w_ => ∃ v, e = .returned v ∧ v = (.string r) ∧ Mem w [] w_ []) := by
  have HM := Mem.start w
  refine calls_run (N := 32) Tryd.func78 rfl rfl rfl rfl ?_
  unfold impl_ruleText.f at H
  refine run_seq ?_
  refine run_region rfl ?_
  refine ops_does rfl (guard_none rfl) rfl rfl (does_box (cs := [p0_0, .int .i64 x0.fNeed, .int .i64 x0.fAfter]) rfl rfl rfl HM) ?_
  rintro _ w2981 ⟨b2978, rfl, HM⟩
  refine ops_ex rfl (guard_none rfl) rfl rfl (ex_assign rfl rfl) ?_
  refine ops_nil ?_
  refine at_then ?_
  refine run_seq ?_
  obtain ⟨t2982, h2983, H⟩ := bind_some H
  obtain ⟨e2984, H⟩ := chk_some H
  obtain ⟨e2985, H⟩ := chk_some H
  obtain ⟨e2986, H⟩ := chk_some H
  obtain ⟨t2987, h2988, H⟩ := bind_some H
  obtain ⟨e2989, H⟩ := chk_some H
  refine run_drawf (fun w_ => Mem w [] w_ [box b2978 40 [p0_0, .int .i64 x0.fNeed, .int .i64 x0.fAfter]]) [(0, true), (1, true), (3, true), (6, true), (8, true), (9, true), (2, false), (4, true), (5, true), (7, true), (10, false), (11, true), (12, true)] mixed rfl rfl (by kernel_rfl) ?_
  replace HM := HM.grow (fr_drew _)
  have hS := Mem.suf (M := []) HM
  refine drwp_take rfl (guard_none rfl) rfl rfl (fun w_ hS_ => (ex_fieldAddr (off' := 1) rfl rfl Tryd.underlying40 rfl tsz2 rfl)) hS ?_
  refine drwp_take rfl (guard_none rfl) rfl rfl (fun w_ hS_ => (ex_load1 rfl rfl Tryd.underlying2 rfl ((hS_.box_at 0 rfl) 1 _ rfl))) hS ?_
  refine drwp_take rfl (guard_none rfl) rfl rfl (fun w_ hS_ => (ex_move rfl rfl)) hS ?_
  refine drwp_take rfl (guard_none rfl) rfl rfl (fun w_ hS_ => (ex_move rfl rfl)) hS ?_
  refine drwp_take rfl (guard_none rfl) rfl rfl (fun w_ hS_ => (ex_fieldAddr (off' := 0) rfl rfl Tryd.underlying40 rfl tsz38 rfl)) hS ?_
  refine drwp_take rfl (guard_none rfl) rfl rfl (fun w_ hS_ => (ex_load1 rfl rfl Tryd.underlying38 rfl ((hS_.box_at 0 rfl) 0 _ rfl))) hS ?_
  refine drwp_one rfl (guard_none rfl) rfl rfl (does_callk rfl callok76 rfl (impl_dec.calls (x0 := x0.fNeed) (HM.tab htab) h2983)) ?_
  rintro _ w2990 ⟨rfl, hn⟩
  replace HM : Mem w [] w2990 [box b2978 40 [p0_0, .int .i64 x0.fNeed, .int .i64 x0.fAfter]] := HM.call hn
  refine ⟨Mem.suf (M := []) HM, ?_⟩
  have hS := Mem.suf (M := []) HM
  refine drwp_take rfl (guard_none rfl) rfl rfl (fun w_ hS_ => (ex_sadd rfl rfl rfl (leB_le e2984))) hS ?_
  refine drwp_take rfl (guard_none rfl) rfl rfl (fun w_ hS_ => (ex_sadd rfl rfl rfl (leB_le e2985))) hS ?_
  refine drwp_take rfl (guard_none rfl) rfl rfl (fun w_ hS_ => (ex_sadd rfl rfl rfl (leB_le e2986))) hS ?_
  refine drwp_one rfl (guard_none rfl) rfl rfl (does_callk rfl callok92 rfl (impl_joined.calls (x0 := x0.fKeys) (x1 := (⟨#[44]⟩ : ByteArray)) (HM.tab htab) (HM.rd hp0_0) h2988)) ?_
  rintro _ w2991 ⟨rfl, hn⟩
  replace HM : Mem w [] w2991 [box b2978 40 [p0_0, .int .i64 x0.fNeed, .int .i64 x0.fAfter]] := HM.call hn
  refine ⟨Mem.suf (M := []) HM, ?_⟩
  have hS := Mem.suf (M := []) HM
  refine drwp_take rfl (guard_none rfl) rfl rfl (fun w_ hS_ => (ex_sadd rfl rfl rfl (leB_le e2989))) hS ?_
  refine drwp_take rfl (guard_none rfl) rfl rfl (fun w_ hS_ => (ex_assign rfl rfl)) hS ?_
  refine drwp_done ?_
  refine at_then ?_
  refine run_seq ?_
  refine run_seq ?_
  refine run_region rfl ?_
  refine ops_ex rfl (guard_none rfl) rfl rfl (ex_fieldAddr (off' := 2) rfl rfl Tryd.underlying40 rfl tsz2 rfl) ?_
  refine ops_ex rfl (guard_none rfl) rfl rfl (ex_load1 rfl rfl Tryd.underlying2 rfl ((HM.box_at 0 rfl) 2 _ rfl)) ?_
  refine ops_ex rfl (guard_none rfl) rfl rfl (ex_neq rfl rfl rfl) ?_
  refine ops_nil ?_
  refine at_then ?_
  refine run_cond (b := (x0.fAfter != 0)) rfl (fun hb2992 => ?_) (fun hb2992 => ?_)
  · replace H := cond_t hb2992 H
    obtain ⟨e2993, H⟩ := chk_some H
    obtain ⟨e2994, H⟩ := chk_some H
    obtain ⟨t2995, h2996, H⟩ := bind_some H
    obtain ⟨e2997, H⟩ := chk_some H
    obtain ⟨e2998, H⟩ := chk_some H
    refine run_region rfl ?_
    refine ops_ex rfl (guard_none rfl) rfl rfl (ex_move rfl rfl) ?_
    refine ops_ex rfl (guard_none rfl) rfl rfl (ex_move rfl rfl) ?_
    refine ops_ex rfl (guard_none rfl) rfl rfl (ex_sadd rfl rfl rfl (leB_le e2993)) ?_
    refine ops_ex rfl (guard_none rfl) rfl rfl (ex_move rfl rfl) ?_
    refine ops_ex rfl (guard_none rfl) rfl rfl (ex_sadd rfl rfl rfl (leB_le e2994)) ?_
    refine ops_ex rfl (guard_none rfl) rfl rfl (ex_fieldAddr (off' := 2) rfl rfl Tryd.underlying40 rfl tsz2 rfl) ?_
    refine ops_ex rfl (guard_none rfl) rfl rfl (ex_load1 rfl rfl Tryd.underlying2 rfl ((HM.box_at 0 rfl) 2 _ rfl)) ?_
    refine ops_does rfl (guard_none rfl) rfl rfl (does_callk rfl callok76 rfl (impl_dec.calls (x0 := x0.fAfter) (HM.tab htab) h2996)) ?_
    rintro _ w2999 ⟨rfl, hn⟩
    replace HM : Mem w [] w2999 [box b2978 40 [p0_0, .int .i64 x0.fNeed, .int .i64 x0.fAfter]] := HM.call hn
    refine ops_ex rfl (guard_none rfl) rfl rfl (ex_sadd rfl rfl rfl (leB_le e2997)) ?_
    refine ops_ex rfl (guard_none rfl) rfl rfl (ex_sadd rfl rfl rfl (leB_le e2998)) ?_
    refine ops_ex rfl (guard_none rfl) rfl rfl (ex_assign rfl rfl) ?_
    refine ops_nil ?_
    refine at_then ?_
    refine run_seq ?_
    refine run_region rfl ?_
    refine ops_ex rfl (guard_none rfl) rfl rfl (ex_move rfl rfl) ?_
    refine ops_ex rfl (guard_none rfl) rfl rfl (ex_assign rfl rfl) ?_
    refine ops_nil ?_
    refine at_then ?_
    refine run_ret ?_
    replace HM := (HM.front 0 rfl rfl).drop
    have hR := Option.some.inj H
    subst hR
    exact at_ret1 rfl rfl ⟨_, rfl, rfl, HM⟩
  · replace H := cond_f hb2992 H
    refine run_skip ?_
    refine at_then ?_
    refine run_seq ?_
    refine run_region rfl ?_
    refine ops_ex rfl (guard_none rfl) rfl rfl (ex_move rfl rfl) ?_
    refine ops_ex rfl (guard_none rfl) rfl rfl (ex_assign rfl rfl) ?_
    refine ops_nil ?_
    refine at_then ?_
    refine run_ret ?_
    replace HM := (HM.front 0 rfl rfl).drop
    have hR := Option.some.inj H
    subst hR
    exact at_ret1 rfl rfl ⟨_, rfl, rfl, HM⟩
end Go.Proofs.YtcpacdbdehphkaaDoor.Zk
